/- Functions of the program and of the specification as plain functions, and laws about them. No condition. -/
import Derived.Test.YtiehjicadcamiaaGreatPl1
import Derived.KernelRfl
set_option linter.all false
open List renaming Sublist->sk, append_assoc->bc, append_nil->co, drop_eq_getElem_cons->sr, drop_zero->s6, ext_getElem?->vt, filter_cons->wl, find?_append->vu, find?_cons->ee, find?_eq_none->tw, find?_some->xm, flatten_append->ll, flatten_cons->sp, flatten_eq_nil_iff->s7, foldl_cons->ed, getElem?_eq_getElem->ba, getElem?_eq_none->ac, getElem?_eq_some_iff->aa, getElem?_map->ns, getElem?_of_mem->ci, getElem?_take->hM, getElem_mem->lc, getLast?_eq_getElem?->nm, length->rz, length_append->hV, length_cons->ae, length_map->li, length_nil->a8, length_pos_iff->cP, length_set->xn, length_take->xa, map_append->pg, map_cons->oy, mem_append->gM, mem_append_right->s9, mem_cons->bl, mem_flatten->gl, mem_map->l5, mem_map_of_mem->hI, mem_of_find?_eq_some->sw, mem_of_getElem?->ad, mem_singleton->sa, nil_append->hU, nodup_append->nP, nodup_cons->l6, replicate->xo, take_add_one->kd, take_append_drop->ta, take_of_length_le->en
open Nat renaming le_refl->a9, lt_of_not_le->l4, min_eq_left->xr, sub_zero->iz, zero_add->dc, zero_le->eo
open Int renaming toNat_natCast->ab, zero_add->u3
open Option renaming filter->oj, getD_none->ul, getD_some->eb, map_some->vv, or_assoc->ey, toList_some->tg
open Bool renaming false_eq_true->fl
open UInt8 renaming lt_iff_toNat_lt->s8
open Option renaming some->zo, none->zn
open Bool renaming true->zt, false->zf
namespace Go.Proofs.YtiehjicadcamiaaGreat.Pl
section
open Go Sv
structure VR (most:Int) (r:Ua):Prop where
 id1:1<=r.1
 id2:r.1<=1000000
 vl:VL r.2
 ne:r.2≠[]
 le:(r.2.length:Int)<=most
theorem jQ{a:List Int}{most:Int}{r:Ua}:kR a most r=0<->VR most r/\r.1 ∉ a:=by
 unfold kR;constructor
 ·intro h;by_cases c:r.1<1\/r.1>1000000
  ·omega
  rw[zx c]at h;by_cases d:(Wo r.2).2≠0
  ·omega
  rw[zx d]at h;by_cases e:r.2.length=0
  ·omega
  rw[zx e]at h;by_cases f:(r.2.length:Int)>most
  ·omega
  rw[zx f]at h;by_cases b:r.1∈a
  ·simp_all
  exact⟨⟨by omega,by omega,Z9.1 (by omega),by simp_all,by omega⟩,b⟩
 ·rintro⟨h,b⟩;rw[zx (by have:=h.id1;have:=h.id2;omega),zx (by simp[Z9.2 h.vl]),zx (by have:=cP.2 h.ne;omega),zx (by have:=h.le;omega),zx b]
def pP(r:Ua):Int:=r.1
theorem aI{most:Int}:∀ {rs:List Ua} {k:Nat} {a:List Int},ZR most k a rs=zn<->(∀ r∈rs,VR most r/\r.1 ∉ a)/\(rs.map pP).Nodup
 |[],k,a=>by simp[ZR]
 |r::rs,k,a=>by
  unfold ZR;by_cases h:kR a most r=0
  ·rw[zx (by simp[h]),aI (rs:=rs)];have f:=jQ.1 h;simp only[bl,forall_eq_or_imp,oy,l6,gM,List.not_mem_nil,or_false,l5,not_exists,not_and,not_or];constructor
   ·rintro⟨b,d⟩;exact⟨⟨f,λx c=>⟨(b x c).1,(b x c).2.1⟩⟩,λx c e=>(b x c).2.2 e,d⟩
   ·rintro⟨⟨_,b⟩,d,g⟩;exact⟨λx c=>⟨(b x c).1,(b x c).2,d x c⟩,g⟩
  ·rw[zy h];simp only[reduceCtorEq,false_iff,not_and];intro b;exact absurd (jQ.2 (b r (by simp))) h
theorem ZM{B:Int}:∀ {ls:List (List Ua)} {i:Nat} {c:List Int},ZQ B i c ls=zn<->(∀ k rs,ls[k]?=zo rs->rs.length<=2 /\ ∀ r∈rs,VR (VC B (i+k)) r/\r.1 ∉ c)/\(ls.flatten.map pP).Nodup
 |[],i,c=>by simp[ZQ]
 |rs::ls,i,c=>by
  unfold ZQ;by_cases h:rs.length>2
  ·rw[zy h];simp only[reduceCtorEq,false_iff,not_and];intro g;have:=(g 0 rs rfl).1;omega
  ·rw[zx h];cases l:ZR (VC B i) 0 c rs with
   |some x=>
    simp only[reduceCtorEq,false_iff,not_and];intro g j
    have n:ZR (VC B i) 0 c rs=zn:=aI.2 ⟨(g 0 rs rfl).2,by
     grind⟩
    simp_all
   |none=>
    have q:=aI.1 l;simp only;rw[ZM (ls:=ls)];simp only[sp,pg,gM,not_or,l5];constructor
    ·rintro⟨g,j⟩;refine⟨λk f m=> ?_,?_⟩
     ·cases k with
      |zero=>grind
      |succ k=>
       grind
     ·rw[nP];refine⟨q.2,j,?_⟩;intro a s b t e;subst e;obtain⟨r,l,e1⟩:=l5.1 s;obtain⟨p,d,e2⟩:=l5.1 t;obtain⟨f,o,d⟩:=gl.1 d;obtain⟨k,m⟩:=ci o
      grind [pP]
    ·rintro⟨g,j⟩;rw[nP]at j;refine⟨λk f m=> ?_,j.2.1⟩;have n:=g (k+1) f m;refine⟨n.1,λr l=> ?_⟩;have:=n.2 r l;rw[show i+(k+1)=i+1+k by omega]at this;refine⟨this.1,this.2,?_⟩;rintro⟨p,d,e⟩;exact j.2.2 (pP p) (hI d) (pP r) (hI (gl.2 ⟨f,ad m,l⟩)) e
structure VLev (L:UF):Prop where
 B1:1<=L.1
 B2:L.1<=16
 len:L.2.length<=12
 lev:∀ i rs,L.2[i]?=zo rs->rs.length<=2 /\ ∀ r∈rs,VR (VC L.1 i) r
 ids:(L.2.flatten.map pP).Nodup
 last:L.2.getLast? ≠ zo []
theorem YR{L:UF}:(WB L).2.2=0<->VLev L:=by
 unfold WB;constructor
 ·intro h;by_cases b:L.1<1\/L.1>16
  ·simp_all
  rw[zx b]at h;by_cases c:L.2.length>12
  ·simp_all
  rw[zx c]at h;cases a:ZQ L.1 0 [] L.2 with
  |some x=>
   obtain⟨i,k,e⟩:=x;rw[a]at h;exact absurd h (cD a)
  |none=>
   rw[a]at h;simp only at h;by_cases d:L.2.getLast?=zo []
   ·simp_all
   ·have f:=ZM.1 a
    exact⟨by omega,by omega,by omega,λi rs hi=>by
     grind,f.2,d⟩
 ·intro h
  have a:ZQ L.1 0 [] L.2=zn:=ZM.2 ⟨λk rs g=>by
   have:=h.lev k rs g
   simp_all,h.ids⟩
  rw[zx (by have:=h.B1;have:=h.B2;omega),zx (by have:=h.len;omega),a];simp only;rw[zx h.last]
theorem XS{L:UF}(h:VLev L):WB L=(0,(0,0)):=by
 have a:ZQ L.1 0 [] L.2=zn:=ZM.2 ⟨λk rs b=>by
  have:=h.lev k rs b
  simp_all,h.ids⟩
 unfold WB;rw[zx (by have:=h.B1;have:=h.B2;omega),zx (by have:=h.len;omega),a];simp only;rw[zx h.last]
def Wk(l:List (List Ua)):Int:=l.foldl (λm rs=>rs.foldl (λm r=>Tq m r.1) m) 0
def UJ:Nat->List (List Ua)->List Int
 |_,[]=>[]
 |i,rs::ls=>(if rs.length=2 then[(i:Int)]else[])++UJ (i+1) ls
theorem cq(L:UF)(e:L.2.length<=1048576)(c:∀ rs∈L.2,rs.length<=1048576):Wv L=zo (Wk L.2):=by
 unfold Wv;simp only[UH,UG]
 rw[Vl (l:=L.2) (σ:=Int) (s:=((0:Int),(0:Int))) (λi m=>(m,(i:Int))) (λ_ _ _=>True) (λls _ m=>(0,((ls.foldl (λm rs=>rs.foldl (λm r=>Tq m r.1) m) m,(L.2.length:Int)),()))) 0 rfl (by omega) trivial (λm _=>by
  simp only;rw[re];rfl) (λi rs ls m b a hi _=>by
   refine⟨rs.foldl (λm r=>Tq m r.1) m,?_,trivial,rfl⟩;have d:=c rs (ad a);simp only
   rw[rl hi,Sp,UB,TS a,Vl (l:=rs) (σ:=Int) (s:=((0:Int),m)) (λi m=>((i:Int),m)) (λ_ _ _=>True) (λl _ m=>(0,(((rs.length:Int),l.foldl (λm r=>Tq m r.1) m),()))) m rfl (by omega) trivial (λm _=>by
    simp only;rw[re];rfl) (λk r l m b a f _=>by
     refine⟨Tq m r.1,?_,trivial,rfl⟩
     grind [rl,Sp,UB,TS,UN]),TA,UN a (by omega)]),TA]
 rfl
def ZP(L:UF)(a:List Int)(i:Nat)(j:Job):Bool:=match a[i]? with
 |none=>zt
 |some d=>if j.1≠d then zt else if j.2.2.1.2.2=zt/\j.1≠(L.2.length:Int)-1 then zt else match L.2[d.toNat]? with
  |some [r0,r1]=>if j.2.2.2.2<0\/j.2.2.2.2>((r1.2.length+r0.2.length:Nat):Int)then zt else decide (Vo r1.2 r0.2 j.2.2.1.2.2 j.2.2.2.2.toNat≠j.2)
  |_=>zt
def W0(L:UF)(a:List Int):Nat->List Job->Option Nat
 |_,[]=>zn
 |i,j::js=>if ZP L a i j=zt then zo i else W0 L a (i+1) js
def UE(s:UC):Int×Int:=
 if(WB s.1).2.2≠0 then(-1,(WB s.1).2.2)else if s.2.2<1\/s.2.2>1000001 then(-1,7)else if s.2.2<=Wk s.1.2 then(-1,6)else match W0 s.1 (UJ 0 s.1.2) 0 s.2.1 with
  |some i=>((i:Int),6)
  |none=>if s.2.1.length<(UJ 0 s.1.2).length then(-1,4)else(0,0)
theorem YD:∀ {ls:List (List Ua)} {i k:Nat} {d:Int},(UJ i ls)[k]?=zo d -> ∃ n:Nat,d=((i+n:Nat):Int) /\ ∃ c e,ls[n]?=zo [c,e]
 |[],i,k,d,h=>by cases h
 |rs::ls,i,k,d,h=>by
  unfold UJ at h;by_cases a:rs.length=2
  ·rw[zy a]at h;cases k with
   |zero=>
    simp at h;refine⟨0,by simp[<- h],?_⟩
    match rs,a with
    |[c,e],_=>simp_all
   |succ k=>
    simp at h;obtain⟨n,f,b⟩:=YD h;exact⟨n+1,by omega,b⟩
  ·rw[zx a]at h;simp at h;obtain⟨n,f,b⟩:=YD h;exact⟨n+1,by omega,b⟩
theorem Vz:∀ (ls:List (List Ua)) (i:Nat),(UJ i ls).length<=ls.length
 |[],i=>a9 _
 |rs::ls,i=>by
  have:=Vz ls (i+1)
  grind [UJ]
theorem cY{L:UF}{n:Nat}{a b:Ua}(c:Bool)(h:L.2[n]?=zo [a,b])(d:VL a.2)(e:VL b.2):VZ (L,((n:Int),c))=zo ((n:Int),Vo b.2 a.2 c 0):=by
 unfold VZ;simp only;rw[UB,TS h,TS (x:=b) rfl,TS (x:=a) rfl,gT e d];rfl
theorem Z5{a b:List UD}(va:VL a)(d:VL b)(c:Bool){n:Nat}(h:n<=a.length+b.length):(Vo a b c n).1.1.length<=1000/\(∀ l∈(Vo a b c n).1.1,l.length<=1000000)/\(Vo a b c n).1.2.1.length<=1000/\(Vo a b c n).1.2.2.1.length<=1000/\(Vo a b c n).1.2.2.2.1.length<=1000/\(Vo a b c n).2.2.1.length<=1000000:=by
 have i:=va.len;have j:=d.len;refine⟨show 2<=1000 by omega,λl g=> ?_,show 2<=1000 by omega,show 2<=1000 by omega,show 2<=1000 by omega,?_⟩
 ·grind [Vo,ZX,Zi]
 ·have e:=Ya (s0 c) (US a b n);have f:=VT va d h;show(WV (s0 c) (US a b n)).length<=_;omega
theorem rN{L:UF}{n:Nat}{a b:Ua}{j:Job}(h:L.2[n]?=zo [a,b])(d:VL a.2)(e:VL b.2){β:Type}(A B:Option β) :
  (bd (VZ (L,((n:Int),j.2.2.1.2.2))) λc=>bd (U1 c.2) λf=>br (TK j.2.2.2.2 0) (λ_=>A) λ_=>br (TI j.2.2.2.2 f.1) (λ_=>A) λ_=>bd (VA (c.2,j.2.2.2.2)) λg=>bd (V5 (g.1,j.2)) λi=>br (H2 i) (λ_=>A) λ_=>B)
  = if j.2.2.2.2<0\/j.2.2.2.2>((b.2.length+a.2.length:Nat):Int)then A else if Vo b.2 a.2 j.2.2.1.2.2 j.2.2.2.2.toNat=j.2 then B else A:=by
 rw[cY _ h d e,TA,aJ e d _ (eo _),TA,Th,Te,iz];by_cases l:j.2.2.2.2<0
 ·simp_all
 rw[zx l];by_cases m:j.2.2.2.2>((b.2.length+a.2.length:Nat):Int)
 ·simp_all
 rw[zx m,zx (show ¬ (j.2.2.2.2<0\/j.2.2.2.2>((b.2.length+a.2.length:Nat):Int)) by omega)];obtain⟨k,o⟩:∃ k:Nat,j.2.2.2.2=(k:Int):=⟨j.2.2.2.2.toNat,by omega⟩;rw[o,bg e d _ (eo _),TA,iz,dc,xr (by omega),ab];obtain⟨s1,s2,p,q,r,s⟩:=Z5 e d j.2.2.1.2.2 (n:=k) (by omega);rw[cr _ _ s1 s2 p q r s,TA,VP,VX]
 simp_all
theorem dm(s:UC)(J:s.1.2.length<=1048576)(hr:∀ rs∈s.1.2,rs.length<=1048576 /\ ∀ r∈rs,r.2.length<=9223372036854775807)(hj:s.2.1.length<=1048576):VG s=zo (UE s):=by
 unfold VG UE;simp only[UH,UG];rw[Zb _ J hr,TA,Ti];by_cases C:(WB s.1).2.2=0;rotate_left
 ·simp_all
 rw[zy C,zx (by simp[C]),Th,Te,cq _ J (λrs h=>(hr rs h).1),TA];have v:=YR.1 C;by_cases D:s.2.2<1
 ·simp_all
 rw[zx D];by_cases g:s.2.2>1000001
 ·simp_all
 rw[zx g,zx (show ¬ (s.2.2<1\/s.2.2>1000001) by omega),Tf];by_cases E:s.2.2<=Wk s.1.2
 ·simp_all
 rw[zx E,zx E]
 rw[Vl (l:=s.1.2) (σ:=List Int) (s:=((0:Int),([]:List Int))) (λi m=>((i:Int),m)) (λls i m=>m++UJ i ls=UJ 0 s.1.2) (λ_ _ _=>(0,(((s.1.2.length:Int),UJ 0 s.1.2),()))) [] rfl (by omega) rfl (λm h=>by
  simp_all[re,SM,UJ]) (λi rs ls m hd e hi h=>by
   refine⟨m++(if rs.length=2 then[(i:Int)]else[]),?_,?_,rfl⟩
   ·simp only;rw[rl hi,Sp,UB,TS e,Tc]
    have hm:m.length<=1048575:=by
     have o:=congrArg rz h;have I:=Vz s.1.2 0;have h6:=v.len
     grind
    by_cases o:rs.length=2
    ·rw[zy (by omega),zy o,Ur (by simp_all[BC,AQ,ae,a8]),UN e (by omega)];rfl
    ·rw[zx (by omega),zx o,co,UN e (by omega)]
   ·rw[bc];exact h),TA]
 simp only;obtain⟨a,p⟩:∃ a,a=UJ 0 s.1.2:=⟨_,rfl⟩;have hdl:a.length<=12:=by have:=Vz s.1.2 0;have:=v.len;grind
 rw[<- p];obtain⟨T,Y⟩:∃ T,T=W0 s.1 a 0 s.2.1:=⟨_,rfl⟩;rw[<- Y]
 obtain⟨r,q1,G⟩:=Wp (l:=s.2.1) (σ:=Unit) (λi _=>((0:Int),((0:Int),(i:Int)))) (λjs i _=>W0 s.1 a i js=T) (λ(r:Nat×((Int×(Int×Int))×Unit))=>(T=zn/\r.1=1)\/(∃ i:Nat,T=zo i/\r.1=0/\r.2.1.1=6/\r.2.1.2.1=(i:Int)))
  (f:=λb=>br (TK b.2.2 (s.2.1.length:Int)) (λ_=>SG b.2.2 λk7=>ix s.2.1 k7 λc=>br (SC b.2.2 (a.length:Int)) (λ_=>zo (.dn ((0,((6,(b.2.2,b.2.2)),()))))) λ_=>SG b.2.2 λk9=>gd (Iq k9 a.length) λ_=>ix a k9 λX=>br (SD c.1 X) (λ_=>zo (.dn ((0,((6,(b.2.2,b.2.2)),()))))) λ_=>br c.2.2.1.2.2 (λ_=>bd (Vs (s.1,c.1)) λM=>br (H2 M) (λ_=>zo (.dn ((0,((6,(b.2.2,b.2.2)),()))))) λ_=>bd (VZ ((s.1,(c.1,c.2.2.1.2.2)))) λy=>bd (U1 y.2) λN=>br (TK c.2.2.2.2 0) (λ_=>zo (.dn ((0,((6,(b.2.2,b.2.2)),()))))) λ_=>br (TI c.2.2.2.2 N.1) (λ_=>zo (.dn ((0,((6,(b.2.2,b.2.2)),()))))) λ_=>bd (VA (y.2,c.2.2.2.2)) λO=>bd (V5 (O.1,c.2)) λP=>br (H2 P) (λ_=>zo (.dn ((0,((6,(b.2.2,b.2.2)),()))))) λ_=>zo (.nx ((b.1,(b.2.1,SV .i64 b.2.2 1))))) λ_=>bd (VZ ((s.1,(c.1,c.2.2.1.2.2)))) λz=>bd (U1 z.2) λS=>br (TK c.2.2.2.2 0) (λ_=>zo (.dn ((0,((6,(b.2.2,b.2.2)),()))))) λ_=>br (TI c.2.2.2.2 S.1) (λ_=>zo (.dn ((0,((6,(b.2.2,b.2.2)),()))))) λ_=>bd (VA (z.2,c.2.2.2.2)) λU=>bd (V5 (U.1,c.2)) λW=>br (H2 W) (λ_=>zo (.dn ((0,((6,(b.2.2,b.2.2)),()))))) λ_=>zo (.nx ((b.1,(b.2.1,SV .i64 b.2.2 1))))) λ_=>zo (.dn ((1,(b,())))))
  (s:=(0,(0,0))) () rfl (by omega) Y.symm (λ_ h=>by
   refine⟨_,by simp only;rw[re];rfl,.inl ⟨by rw[<- h];rfl,rfl⟩⟩) (λi j js _ hd e hi h=>by
   simp only;rw[rl hi,Sp,UB,TS e,Td];unfold W0 at h
   have Z:ZP s.1 a i j=zt -> ∃ r:Nat×((Int×(Int×Int))×Unit),(zo (LR.dn ((0,((6,((i:Int),(i:Int))),()))):LR (Int×(Int×Int)) _))=zo (.dn r)/\((T=zn/\r.1=1)\/(∃ i:Nat,T=zo i/\r.1=0/\r.2.1.1=6/\r.2.1.2.1=(i:Int))):=λJ=>by
    grind
   have L:ZP s.1 a i j=zf -> ∃ st':Unit,(zo (LR.nx ((0:Int),((0:Int),SV .i64 (i:Int) 1))):Option (LR _ (Nat×((Int×(Int×Int))×Unit))))=zo (.nx ((0:Int),((0:Int),((i+1:Nat):Int))))/\W0 s.1 a (i+1) js=T:=λhg=>by
    rw[zx (by simp[hg])]at h;exact⟨(),by rw[UN e (by omega)],h⟩
   by_cases D:(i:Int)>=(a.length:Int)
   ·rw[zy D]
    grind [ZP,ac]
   rw[zx D,UB,TG,zy (by omega)];have K:a[i]?=zo (a[i]'(by omega)):=by simp
   rw[TS K,Ti];obtain⟨n,hn,w,x,u⟩:=YD (ls:=s.1.2) (i:=0) (k:=i) (d:=a[i]'(by omega)) (by simp_all);rw[dc]at hn
   have F:ZP s.1 a i j=(if j.1≠(a[i]'(by omega))then zt else if j.2.2.1.2.2=zt/\j.1≠(s.1.2.length:Int)-1 then zt else if j.2.2.2.2<0\/j.2.2.2.2>((x.2.length+w.2.length:Nat):Int)then zt else decide (Vo x.2 w.2 j.2.2.1.2.2 j.2.2.2.2.toNat≠j.2)):=by
    grind [ZP,ab]
   by_cases g:j.1=(a[i]'(by omega));rotate_left
   ·simp_all
   rw[zy g];rw[zx (by simp[g])]at F;have q:j.1=(n:Int):=by rw[g,hn]
   have hv:=(v.lev n _ u).2;have v0:=(hv w (by simp)).vl;have v1:=(hv x (by simp)).vl;have t:SY .i64 (s.1.2.length:Int) 1=(s.1.2.length:Int)-1:=Sx (by omega);unfold Vs;simp only[UH,UG];rw[TA,t,Vj,VP,VX,q,rN u v0 v1,Tn];rw[q]at F;by_cases E:j.2.2.1.2.2=zt/\(n:Int)≠(s.1.2.length:Int)-1
   ·simp_all
   rw[zx E]at F
   have o:∀ {γ:Type} (A B:γ),(if j.2.2.1.2.2=zt then if ¬(n:Int)=(s.1.2.length:Int)-1 then A else B else B)=B:=by
    simp_all
   rw[o];by_cases I:j.2.2.2.2<0\/j.2.2.2.2>((x.2.length+w.2.length:Nat):Int)
   ·simp_all
   rw[zx I];rw[zx I]at F;by_cases h6:Vo x.2 w.2 j.2.2.1.2.2 j.2.2.2.2.toNat=j.2
   all_goals simp_all)
 rw[C];refine UZ q1 ?_;rw[TB];rcases G with⟨G,q3⟩|⟨i,G,q3,q4,q5⟩
 ·rw[zx (show ¬ r.1=0 by omega),G,Th]
  grind
 grind
end
section
open Go Sv
theorem Zz(x:UD):WM x=zo (kE x):=by
 unfold WM kE;rw[Te,UH,Yv];by_cases c:x.1.length>32
 ·grind
 rw[zx (by omega),Te,UH,Yv];by_cases d:x.2.1.length>64
 ·grind
 rw[zx (by omega:¬ (x.2.1.length:Int)>64),zx (by omega),Tn];by_cases a:x.2.2.1=zt
 ·rw[zy a,Uv,WW];by_cases b:x.2.1=[]
  ·rw[zy b,zx (by simp[b]),Th,Te]
   grind
  simp_all
 ·rw[zx a,zx (by simp[a]),Th,Te]
  grind
def WU:List UInt8->List UInt8->Nat
 |x::a,y::b=>if x=y then WU a b+1 else 0
 |_,_=>0
theorem oG(x y:UInt8):Og (Tw x) (Tw y)=decide (x=y):=by
 rw[Vj];unfold Tw;by_cases h:x=y
 ·simp[h]
 ·have:¬ ((x.toNat:Int)=(y.toNat:Int)):=λe=>h (UInt8.toNat_inj.1 (by omega))
  grind
theorem gV(a b:List UInt8)(y:a.length<=9223372036854775806):XH (a,b)=zo (WU a b:Int):=by
 unfold XH;simp only[UH,Yv]
 have key:∀ (m:List UInt8) (k n:Nat),a.drop k=m->k<=a.length->k<=b.length->m.length<n->IQ n (λs0=>br (TK s0 (a.length:Int)) (λ_=>br (TK s0 (b.length:Int)) (λ_=>SG s0 λs=>ix a s λu=>SG s0 λt=>ix b t λw=>br (Og (Tw u) (Tw w)) (λ_=>zo (LR.nx (SV .i64 s0 1))) λ_=>zo (.dn ((0,(s0,()))))) λ_=>zo (.dn ((0,(s0,()))))) λ_=>zo (.dn ((0,(s0,()))))) (k:Int)=zo ((0:Nat),(((k+WU m (b.drop k):Nat):Int),())):=by
  intro m
  induction m with
  |nil=>
   intro k n p o g r;obtain⟨n,rfl⟩:∃ j,n=j+1:=⟨n-1,by omega⟩
   have h:k=a.length:=by
    grind
   subst h;refine Uk ?_;rw[re];rfl
  |cons x m z=>
   intro k n p o g r;obtain⟨n,rfl⟩:∃ j,n=j+1:=⟨n-1,by omega⟩
   have i:a[k]?=zo x:=by
    grind [List.head?_drop]
   have c:k<a.length:=(aa.1 i).1
   have q:a.drop (k+1)=m:=by
    grind [List.tail_drop]
   by_cases d:k<b.length
   ·have l:b[k]?=zo b[k]:=by simp[d]
    rw[sr d];unfold WU;by_cases e:x=b[k]
    ·rw[zy e];refine(Ue (s':=((k+1:Nat):Int)) ?_).trans ?_
     ·rw[rl c,Sp,rl d,Sp,UB,TS i,UB,TS l,oG,VX,zy e,UK (by omega)]
     grind
    ·rw[zx e];refine Uk ?_;rw[rl c,Sp,rl d,Sp,UB,TS i,UB,TS l,oG,VX,zx e];simp
   ·have f:k=b.length:=by omega
    refine Uk ?_;rw[rl c,Sp,f,re,SM,List.drop_length];simp[WU]
 refine UZ (VS (n:=a.length+1) (by omega) (key a 0 (a.length+1) (by simp) (by omega) (by omega) (by omega))) ?_;simp
def Zd(a b:XU):Int:=if Si a b=zt then -1 else if a=b then 0 else 1
theorem cb:∀ (a b:XU),(WU a b<=a.length/\WU a b<=b.length)/\(WU a b=a.length->WU a b=b.length->Zd a b=0)/\(WU a b=a.length->WU a b≠b.length->Zd a b = -1)/\(WU a b≠a.length->WU a b=b.length->Zd a b=1)/\(∀ x y,a[WU a b]?=zo x->b[WU a b]?=zo y->Zd a b=if x.toNat<y.toNat then -1 else 1)
 |[],[]=>by simp[WU,Zd,Z0]
 |[],y::b=>by simp[WU,Zd,cR]
 |x::a,[]=>by simp[WU,Zd,Z0]
 |x::a,y::b=>by
  obtain⟨⟨j,g⟩,k,l,m,n⟩:=cb a b;by_cases e:x=y
  ·subst e
   have o:Zd (x::a) (x::b)=Zd a b:=by
    simp_all[Zd,Yk]
   grind [WU]
  ·have hc:WU (x::a) (y::b)=0:=by simp[WU,e]
   rw[hc];refine⟨⟨by omega,by omega⟩,λu=>by simp at u,λu=>by simp at u,λ_ u=>by simp at u,λp q d f=> ?_⟩;simp at d f;subst d f;unfold Zd;rw[Yk];have i:¬ (x::a=y::b):=λh=>e (by injection h);by_cases c:x.toNat<y.toNat
   ·have:x<y:=s8.2 c
    simp_all
   ·have:¬ x<y:=λh=>c (s8.1 h)
    grind
theorem jF(a b:XU)(p:a.length<=1000000000)(q:b.length<=1000000000):Wr (a,b)=zo (Zd a b):=by
 obtain⟨⟨m,i⟩,n,j,o,k⟩:=cb a b;unfold Wr;simp only[UH,Yv];rw[gV a b (by omega),TA,Tc]
 have l:(if(WU a b:Int)<(b.length:Int)then(SG (WU a b:Int) λc=>ix a c λe=>SG (WU a b:Int) λd=>ix b d λf=>br (TK (Tw e) (Tw f)) (λ_=>zo (-1:Int)) λ_=>zo 1)else zo 1)=(if WU a b=a.length then(if(WU a b:Int)<(b.length:Int)then(SG (WU a b:Int) λc=>ix a c λe=>SG (WU a b:Int) λd=>ix b d λf=>br (TK (Tw e) (Tw f)) (λ_=>zo (-1:Int)) λ_=>zo 1)else zo 1)else zo (Zd a b)):=by
  by_cases u:WU a b=a.length
  ·grind
  ·rw[zx u];by_cases v:WU a b=b.length
   ·simp_all
   ·rw[zy (by omega),UB];have g:a[WU a b]?=zo (a[WU a b]'(by omega)):=by simp
    have h:b[WU a b]?=zo (b[WU a b]'(by omega)):=by simp
    rw[TS g,UB,TS h,Th,k _ _ g h];unfold Tw
    grind
 by_cases u:WU a b=a.length
 ·rw[zy (by omega),Tc];by_cases v:WU a b=b.length
  ·simp_all
  ·rw[zx (by omega),Tc,zy (by omega),j u v]
 ·rw[zx (by omega),Tc,zx (by omega),Th,l,zx u]
theorem gG(a b:XU):Zd a b>=0<->Si a b=zf:=by
 grind [Zd]
theorem XZ(l:List UD)(C:l.length<=9223372036854775807):Vr l=zo (Wo l):=by
 unfold Vr Wo;simp only[UH,UG];rw[Te];by_cases h:l.length>5000
 ·grind
 rw[zx (by omega),zx h];obtain⟨T,j⟩:∃ T,T=Yz zn 0 l:=⟨_,rfl⟩;rw[<- j]
 obtain⟨r,t,D⟩:=Wp (l:=l) (σ:=Unit) (s:=((0:Int),((0:Int),(0:Int)))) (λk _=>((0:Int),((0:Int),(k:Int)))) (λm k _=>Yz (if k=0 then zn else(l[k-1]?).map (·.1)) k m=T/\(∀ y,k≠0->l[k-1]?=zo y->kE y=0)) (λ(r:Nat×((Int×(Int×Int))×Unit))=>(r.1=1/\T=(0,0))\/(r.1=0/\T=(r.2.1.2.1,r.2.1.1)))
  (f:=λs0=>br (TK s0.2.2 (l.length:Int)) (λ_=>SG s0.2.2 λo=>ix l o λw=>bd (WM w) λd=>br (Og d 0) (λ_=>br (TI s0.2.2 0) (λ_=>SG (SY .i64 s0.2.2 1) λp=>ix l p λz=>SG s0.2.2 λq=>ix l q λA=>bd (Wr (z.1,A.1)) λu=>br (SC u 0) (λ_=>zo (.dn ((0,((6,(s0.2.2,s0.2.2)),()))))) λ_=>br (SD d 0) (λ_=>zo (.dn ((0,((d,(s0.2.2,s0.2.2)),()))))) λ_=>zo (.nx ((s0.1,(s0.2.1,SV .i64 s0.2.2 1))))) λ_=>br (SD d 0) (λ_=>zo (.dn ((0,((d,(s0.2.2,s0.2.2)),()))))) λ_=>zo (.nx ((s0.1,(s0.2.1,SV .i64 s0.2.2 1))))) λ_=>br (SD d 0) (λ_=>zo (.dn ((0,((d,(s0.2.2,s0.2.2)),()))))) λ_=>zo (.nx ((s0.1,(s0.2.1,SV .i64 s0.2.2 1))))) λ_=>zo (.dn ((1,(s0,())))))
  () rfl (by omega) ⟨j.symm,λ_ h=>absurd rfl h⟩ (λ_ h=>by
   refine⟨_,by simp only;rw[re];rfl,.inl ⟨rfl,?_⟩⟩;rw[<- h.1];simp[Yz]) (λk x m _ B g n h=>by
   simp only;obtain⟨h,c⟩:=h;rw[rl n,Sp,UB,TS g,Zz,TA,Tc];unfold Yz at h
   have next:kE x=0->(T=Yz (zo x.1) (k+1) m)->Yz (if k+1=0 then zn else(l[k+1-1]?).map (·.1)) (k+1) m=T/\(∀ y,k+1≠0->l[k+1-1]?=zo y->kE y=0):=λa e=>by
    simp_all
   by_cases a:kE x=0
   ·rw[zy a,Te];rw[zx (by simp[a])]at h;by_cases b:k=0
    ·rw[zx (by omega),Ti,zy a];rw[zy b]at h;exact .inl ⟨(),by rw[UN g (by omega)],next a h.symm⟩
    ·have i:l[k-1]?=zo (l[k-1]'(by omega)):=by simp_all
     rw[zy (by omega),show SY .i64 (k:Int) 1=((k-1:Nat):Int) by rw[Sx (by omega)];omega,UB,TS i,UB,TS g];rw[zx b,i]at h;simp only[vv]at h;rw[jF _ _ (by have:=ak (c _ b i);omega) (by have:=ak a;omega),TA,Td];by_cases hs:Si (l[k-1]'(by omega)).1 x.1=zt
     ·rw[zx (λe=>by rw[gG,hs]at e;cases e),Ti,zy a];rw[zy hs]at h;exact .inl ⟨(),by rw[UN g (by omega)],next a h.symm⟩
     simp_all[zy,gG,zx]
   ·rw[zx a,Ti,zx a]
    grind)
 refine UZ t ?_;rw[TB]
 grind
theorem oH(p q:UX)(d:WT p)(e:WT q):X4 ([p,q],(0,1))=zo (w0 p q):=by
 unfold X4 w0;refine(Wd 0 rfl (x:=p) rfl).trans ((Wd 1 rfl (x:=q) rfl).trans ?_);rw[beq_eq,VP,VX,Uv,Tn];by_cases b:p.2=q.2
 ·rw[zx (show ¬ ¬ p.2=q.2 by simp[b]),zx (show ¬ p.2≠q.2 by simp[b])];by_cases a:p.2=zt
  ·rw[zy a,d a,e (b ▸ a)];rfl
  ·rw[zx a,Uv,WW];by_cases c:p.1=q.1
   ·rw[zy c,zx (by simp[c])];rfl
   simp_all
 simp_all
theorem aN(p q:UX)(n:Nat)(k:Int)(h:2<=k)(a:k<=100):NG UT (n+1) ([p,q],k)=zo (k-2,0):=by
 show UT (NG UT n) ([p,q],k)=_;unfold UT;show br (SC k 2) (λ_=>zo (SY .i64 k 2,0)) _=_;rw[Td,zy h,Sx (by omega)]
theorem au(p q:UX)(a:WT p)(b:WT q):XJ ([p,q],1)=zo (if w0 p q=zt then(0,1)else(1,0)):=by
 show UT (NG UT 99) ([p,q],1)=_;unfold UT;show br (SC (1:Int) 2) (λ_=>zo (SY .i64 (1:Int) 2,0)) (λ_=>bd (NG UT (98+1) ([p,q],2)) λc=>bd (NG UT (98+1) ([p,q],3)) _)=_;rw[Td,zx (by omega),aN p q 98 2 (by omega) (by omega),TA,aN p q 98 3 (by omega) (by omega),TA]
 grind [oH,TA,Tn]
theorem oE(p q:UX)(a:WT p)(c:WT q):X3 [p,q]=zo (Tt p q):=by
 unfold X3;refine Eq.trans (b:=bd (loop _ (1,([p,q],([0,0],0)))) _) rfl ?_;refine UZ (x:=(0,((2,([p,q],([0,if w0 p q=zt then 1 else 0],0))),()))) (VS (n:=2) (by omega) ((Ue (s':=(2,([p,q],([0,if w0 p q=zt then 1 else 0],0)))) ?_).trans (Uk rfl))) ?_
 ·show bd (XJ ([p,q],1)) _=_;rw[au p q a c,TA];refine(ZC 1 rfl (x:=(0:Int)) rfl).trans ?_;cases h:w0 p q<;>rfl
 grind [Tt,au,TA]
theorem gr{l:List UX}(h:∀ k∈l,WT k)(e:l≠[])(f:l.length<=32):Xh l=zo 0:=by
 unfold Xh;simp only[UH,UG];rw[Tc,Te,zx (by simp_all),zx (by omega)]
 rw[Vl (l:=l) (σ:=Unit) (s:=((0:Int),(0:Int))) (λk _=>((k:Int),(0:Int))) (λ_ _ _=>True) (λ_ _ _=>(1,(((l.length:Int),0),()))) () rfl (by omega) trivial (λd _=>by
  simp only;rw[re];rfl) (λk x m d _ a c _=>⟨(),by
   simp only;rw[rl c,Sp,UB,TS a,Tn,UN a (by omega)];by_cases b:x.2=zt
   ·rw[zy b,UB,TS a,Uv,WW,zy (h x (ad a) b)]
   simp_all,trivial,rfl⟩),TA]
 rfl
theorem gU(p q:UX)(a:WT p)(b:WT q):Ws [p,q]=zo (Tt p q,0):=by
 unfold Ws;rw[gr (by grind) (by simp) (by simp),TA,Ti,zy rfl,oE p q a b,TA]
end
section
open Go Sv
theorem Xn:VD=Uz:=rfl
theorem aw:X2=UR:=rfl
theorem d7(l m:List UX)(d:l.length<=9223372036854775806)(h:l.length=m.length):∃ r,loop (λs1=>br (TK s1.1 (l.length:Int)) (λ_=>SG s1.1 λj=>ix l j λb=>SG s1.1 λn=>ix m n λc=>br (H2 (Nr (seq b.1 c.1) (Nr (Sv.beq b.2 c.2) zt))) (λ_=>zo (LR.dn ((0:Nat),((s1.1,zf),())))) λ_=>zo (.nx (SV .i64 s1.1 1,s1.2))) λ_=>zo (.dn ((1,(s1,()))))) ((0:Int),zf)=zo r/\((l=m/\r.1=1)\/(l≠m/\r.1=0/\r.2.1.2=zf)):=by
 refine Yg l m h d (λk x y a i=> ?_) (by simp only;rw[re];rfl);have g:=(aa.1 a).1
 have f:∀ {β:Type} (u v:Unit->Option β),br (H2 (Nr (seq x.1 y.1) (Nr (Sv.beq x.2 y.2) zt))) u v=if x=y then v ()else u ():=by
  intro β u v;rw[Zk,Zg,beq_eq,Ym,VP,VX]
  grind
 constructor
 ·intro e;simp only;rw[rl g,Sp,UB,TS a,UB,TS i,f,zy e,UK (by omega)]
 simp_all[rl,Sp,UB,TS,zx]
theorem ay(s t:V6)(g:s.1.length<=1000)(h:s.2.1.length<=1000):XI (s,t)=zo (decide (s=t)):=by
 obtain⟨b,d,j⟩:=s;obtain⟨c,f,k⟩:=t;simp only at g h;unfold XI;simp only[UH,UG];rw[Ti];by_cases e1:(b.length:Int)=(c.length:Int);rotate_left
 ·rw[zx e1];have:¬ b=c:=λe=>e1 (by rw[e]);simp[this]
 rw[zy e1,Ti];by_cases e2:j=k;rotate_left
 ·simp_all
 rw[zy e2,aw,ZJ _ _ (by omega),TA,VP,VX];by_cases e3:d=f;rotate_left
 ·simp_all
 rw[zx (show ¬ ¬ d=f by simp[e3])];obtain⟨r,i,a⟩:=d7 b c (by omega) (by omega);refine UZ i ?_;rw[TB];rcases a with⟨e,a⟩|⟨e,a,l⟩<;>simp_all
theorem dH(s t:Vn)(u:s.1.length<=1000)(g:∀ l∈s.1,l.length<=1000000)(w:s.2.1.length<=1000)(h:s.2.2.1.length<=1000)(i:s.2.2.2.1.length<=1000):X6 (s,t)=zo (decide (s=t)):=by
 obtain⟨a,n,o⟩:=s;obtain⟨c,p,q⟩:=t;simp only at u g w h i;unfold X6;simp only[UH,UG];rw[Ti];by_cases e1:(a.length:Int)=(c.length:Int);rotate_left
 ·rw[zx e1];have:¬ a=c:=λe=>e1 (by rw[e]);simp[this]
 rw[zy e1,aw,ZJ _ _ (by omega),TA,VP,VX];by_cases e2:n=p;rotate_left
 ·simp_all
 rw[zx (show ¬ ¬ n=p by simp[e2]),ay _ _ h i,TA,VP,VX];by_cases e3:o=q;rotate_left
 ·simp_all
 rw[zx (show ¬ ¬ o=q by simp[e3])]
 obtain⟨r,C,d⟩:=Yg a c (by omega) (by omega) (f:=λs2=>br (TK s2.1 (a.length:Int)) (λ_=>SG s2.1 λA=>ix a A λE=>SG s2.1 λB=>ix c B λF=>bd (VD (E,F)) λD=>br (H2 D) (λ_=>zo (.dn ((0,((s2.1,zf),()))))) λ_=>zo (.nx (SV .i64 s2.1 1,s2.2))) λ_=>zo (.dn ((1,(s2,()))))) (λk x y b m=>by
   have j:=(aa.1 b).1;have z:=g x (ad b);constructor
   ·intro e;simp only;rw[rl j,Sp,UB,TS b,UB,TS m,Xn,XB _ _ (by omega),TA,VP,VX,zx (by simp[e]),UK (by omega)]
   ·intro e;simp only
    rw[rl j,Sp,UB,TS b,UB,TS m,Xn,XB _ _ (by omega),TA,VP,VX,zy e]) (by simp only;rw[re];rfl)
 refine UZ C ?_;rw[TB];rcases d with⟨e,d⟩|⟨e,d,G⟩<;>simp_all
theorem ax(x y:Xv)(a:x.1.1.length<=1000)(b:∀ l∈x.1.1,l.length<=1000000)(c:x.1.2.1.length<=1000)(d:x.1.2.2.1.length<=1000)(e:x.1.2.2.2.1.length<=1000)(f:x.2.2.1.length<=1000000):Um (x,y)=zo (decide (x=y)):=by
 obtain⟨i,⟨xs,k,h⟩,g,j⟩:=x;obtain⟨n,⟨q,r,m⟩,p,o⟩:=y;simp only at a b c d e f;unfold Um;simp only[dH _ _ a b c d e,Xn,XB _ _ (show g.length<=9223372036854775806 by omega),TA,VX,Vj,Zg,beq_eq,Zk,Ym]
 repeat' split
 all_goals simp_all
section
variable{a b:List UD}(va:VL a)(vb:VL b)
include va vb
theorem Ze:WP [a,b]=zo (0,0):=by
 have c:=va.len;have d:=vb.len;unfold WP;refine Eq.trans (b:=bd (loop _ (0,(0,0))) _) rfl ?_;refine UZ (x:=(1,((0,(0,2)),()))) (VN (s1:=(0,(0,1))) (s2:=(0,(0,2))) ?_ ?_ rfl) rfl
 ·refine(aQ 0 rfl rfl (x:=a) rfl).trans ?_;rw[XZ _ (by omega),Y6 va,TA];rfl
 ·refine(aQ 1 rfl rfl (x:=b) rfl).trans ?_;rw[XZ _ (by omega),Y6 vb,TA];rfl
theorem Yr{i j:Nat}(hi:i<=a.length)(g:j<=b.length):WO ([a,b],[(i:Int),(j:Int)])=zo (if i=a.length/\j=b.length then -1 else if YF a b i j=zt then 0 else 1):=by
 have k:=va.len;have l:=vb.len;unfold WO;simp only[UH,UG];refine UZ (x:=(0,((if i=a.length/\j=b.length then -1 else if YF a b i j=zt then 0 else 1,2),()))) (VN (s1:=(if i=a.length then -1 else 0,1)) (s2:=(if i=a.length/\j=b.length then -1 else if YF a b i j=zt then 0 else 1,2)) ?_ ?_ rfl) rfl
 ·refine(aQ 0 rfl rfl (x:=(i:Int)) rfl).trans ((Wd 0 rfl (x:=a) rfl).trans ?_);rw[Th];by_cases h:i=a.length
  ·rw[zx (by omega),zy h];rfl
  ·rw[zy (by omega),zx h];rfl
 ·refine(aQ 1 rfl rfl (x:=(j:Int)) rfl).trans ((Wd 1 rfl (x:=b) rfl).trans ?_);rw[Th];by_cases h:j=b.length
  ·rw[zx (by omega)];by_cases c:i=a.length
   ·rw[zy c,zy ⟨c,h⟩];rfl
   ·rw[zx c,zx (λe=>c e.1)];have d:a[i]?=zo (a[i]'(by omega)):=by simp
    rw[f8 d (ac (by omega))];rfl
  ·have f:b[j]?=zo (b[j]'(by omega)):=by simp
   rw[zy (by omega),Th,zx (λe:i=a.length/\j=b.length=>h e.2)];by_cases c:i=a.length
   ·rw[zy c,zy (by omega),f9 (ac (by omega)) f];rfl
   ·rw[zx c,zx (by omega)];have d:a[i]?=zo (a[i]'(by omega)):=by simp
    refine(Wd 1 rfl (x:=b) rfl).trans ((Wd 1 rfl (x:=(j:Int)) rfl).trans ((Wd j rfl f).trans ((Wd 0 rfl (x:=a) rfl).trans ((Wd 0 rfl (x:=(i:Int)) rfl).trans ((Wd i rfl d).trans ?_)))));rw[YH,ai d f];cases hs:Si (b[j]'(by omega)).1 (a[i]'(by omega)).1<;>rfl
theorem Ys{i j:Nat}(hi:i<=a.length)(e:j<=b.length):Vu ([a,b],[(i:Int),(j:Int)])=zo (Zi a b i j):=by
 have f:=va.len;have g:=vb.len;unfold Vu;simp only[UH,UG];rw[Ur (show[a,b].length<=1048576 from(show 2<=1048576 by omega)),Ur (show[(i:Int),(j:Int)].length<=1048576 from(show 2<=1048576 by omega))];refine UZ (x:=(0,((2,[kx a i,kx b j]),()))) (VN (s1:=(1,[kx a i])) (s2:=(2,[kx a i,kx b j])) ?_ ?_ rfl) ?_
 ·refine(aQ 0 rfl rfl (x:=(i:Int)) rfl).trans ((Wd 0 rfl (x:=a) rfl).trans ?_);rw[Vj,VP,VX];by_cases h:i=a.length
  ·have c:((i:Int)=(a.length:Int)):=by omega
   rw[zx (show ¬ ¬ ((i:Int)=(a.length:Int)) by simp[c]),Zu (ac (by omega))];simp only[c,decide_true];rfl
  ·have d:a[i]?=zo (a[i]'(by omega)):=by simp
   have c:¬ ((i:Int)=(a.length:Int)):=by omega
   rw[zy c];refine(Wd 0 rfl (x:=a) rfl).trans ((Wd 0 rfl (x:=(i:Int)) rfl).trans ((Wd i rfl d).trans ?_));rw[XQ d];simp only[c,decide_false];rfl
 ·refine(aQ 1 rfl rfl (x:=(j:Int)) rfl).trans ((Wd 1 rfl (x:=b) rfl).trans ?_);rw[Vj,VP,VX];by_cases h:j=b.length
  ·have c:((j:Int)=(b.length:Int)):=by omega
   rw[zx (show ¬ ¬ ((j:Int)=(b.length:Int)) by simp[c]),Zu (l:=b) (i:=j) (ac (by omega))];simp only[c,decide_true];rfl
  ·have d:b[j]?=zo (b[j]'(by omega)):=by simp
   have c:¬ ((j:Int)=(b.length:Int)):=by omega
   rw[zy c];refine(Wd 1 rfl (x:=b) rfl).trans ((Wd 1 rfl (x:=(j:Int)) rfl).trans ((Wd j rfl d).trans ?_));rw[XQ (l:=b) (i:=j) d];simp only[c,decide_false];rfl
 ·show bd (Ws [kx a i,kx b j]) _=_;rw[gU _ _ (Us _ _) (Us _ _)];rfl
theorem gK{i:Nat}{l:List UD}(h:i≠0)(hi:i<=l.length):∃ x,l[i-1]?=zo x:=⟨l[i-1]'(by omega),by simp⟩
theorem aH{i j:Nat}(I:Inv a b i j):WN (Zi a b i j)=zo (0,0):=by
 have s:=va.len;have t:=vb.len;have hi:=I.ia;have k:=I.jb;unfold WN;rw[show(Zi a b i j).1=[a,b]from rfl,Ze va vb,TA,Ti,zy rfl];rw[show(Zi a b i j).2.1=[(i:Int),(j:Int)]from rfl,Ti,zy (show Ko (AQ [(i:Int),(j:Int)])=Ko (AQ [a,b])from rfl)];refine UZ (x:=(1,((0,(0,2)),()))) (VN (s1:=(0,(0,1))) (s2:=(0,(0,2))) ?_ ?_ rfl) ?_
 ·refine(aQ 0 rfl rfl (x:=(i:Int)) rfl).trans ?_;rw[Th,zx (by omega)];refine(Wd 0 rfl (x:=(i:Int)) rfl).trans ((Wd 0 rfl (x:=a) rfl).trans ?_);rw[Te,zx (by simp only[UH,UG];omega)];rfl
 ·refine(aQ 1 rfl rfl (x:=(j:Int)) rfl).trans ?_;rw[Th,zx (by omega)];refine(Wd 1 rfl (x:=(j:Int)) rfl).trans ((Wd 1 rfl (x:=b) rfl).trans ?_);rw[Te,zx (by simp only[UH,UG];omega)];rfl
 rw[show neq ((1:Nat),(((0:Int),((0:Int),(2:Int))),())).1 0=zf from rfl,SM,Ys va vb hi k,TA,ay (Zi a b i j).2.2 (Zi a b i j).2.2 (show 2<=1000 by omega) (show 2<=1000 by omega),TA,VP,VX,zx (show ¬ ¬ (Zi a b i j).2.2=(Zi a b i j).2.2 by simp),Yr va vb hi k,TA];by_cases n:i=a.length/\j=b.length
 ·rw[zy n];rfl
 rw[zx n];cases g:YF a b i j with
 |true=>
  rw[zy rfl]
  have m:i<a.length:=by
   refine l4 λh'=> ?_;have q:j<b.length:=by omega
   simp_all[f9,ac]
  have e:a[i]?=zo (a[i]'m):=by simp
  refine UZ (x:=(1,((0,(0,2)),()))) (VN (s1:=(0,(0,1))) (s2:=(0,(0,2))) ?_ ?_ rfl) rfl
  ·show br (TK (0:Int) 2) _ _=_;rw[Th,zy (by omega),Td,zy (by omega)];refine(Wd 0 rfl (x:=(i:Int)) rfl).trans ?_;rw[Tc];by_cases f:i=0
   ·rw[zy (by omega)];rfl
   ·rw[zx (by omega)];obtain⟨y,d⟩:=gK va vb (l:=a) f hi;refine(Wd 0 rfl (x:=a) rfl).trans ((Wd 0 rfl (x:=(i:Int)) rfl).trans ?_);rw[show SY .i64 (i:Int) 1=((i-1:Nat):Int) by rw[Sx (by omega)];omega,UB,TS d];refine(Wd 0 rfl (x:=a) rfl).trans ((Wd 0 rfl (x:=(i:Int)) rfl).trans ((Wd i rfl e).trans ?_));have c:=va.lt d (show a[i-1+1]?=zo _ by rw[show i-1+1=i by omega];exact e);rw[YH,zx (by rw[VU c];simp),WW,zx (ZF c)];rfl
  ·show br (TK (1:Int) 2) _ _=_;rw[Th,zy (by omega),Td,zy (by omega)];refine(Wd 1 rfl (x:=(j:Int)) rfl).trans ?_;rw[Tc];by_cases f:j=0
   ·rw[zy (by omega)];rfl
   ·rw[zx (by omega)];obtain⟨y,d⟩:=gK va vb (l:=b) f k;refine(Wd 1 rfl (x:=b) rfl).trans ((Wd 1 rfl (x:=(j:Int)) rfl).trans ?_);rw[show SY .i64 (j:Int) 1=((j-1:Nat):Int) by rw[Sx (by omega)];omega,UB,TS d];refine(Wd 0 rfl (x:=a) rfl).trans ((Wd 0 rfl (x:=(i:Int)) rfl).trans ((Wd i rfl e).trans ?_));have c:=I.pb (j-1) (by omega) y _ d e;rw[YH,zx (by rw[VU c];simp),WW,zx (ZF c)];rfl
 |false=>
  rw[zx (by simp)]
  have h:j<b.length:=by
   refine l4 λh'=> ?_;have p:i<a.length:=by omega
   simp_all[f8]
  have e:b[j]?=zo (b[j]'h):=by simp
  refine UZ (x:=(1,((0,(0,2)),()))) (VN (s1:=(0,(0,1))) (s2:=(0,(0,2))) ?_ ?_ rfl) rfl
  ·show br (TK (0:Int) 2) _ _=_;rw[Th,zy (by omega),Td,zy (by omega)];refine(Wd 0 rfl (x:=(i:Int)) rfl).trans ?_;rw[Tc];by_cases f:i=0
   ·rw[zy (by omega)];rfl
   ·rw[zx (by omega)];obtain⟨y,d⟩:=gK va vb (l:=a) f hi;refine(Wd 0 rfl (x:=a) rfl).trans ((Wd 0 rfl (x:=(i:Int)) rfl).trans ?_);rw[show SY .i64 (i:Int) 1=((i-1:Nat):Int) by rw[Sx (by omega)];omega,UB,TS d];refine(Wd 1 rfl (x:=b) rfl).trans ((Wd 1 rfl (x:=(j:Int)) rfl).trans ((Wd j rfl e).trans ?_));have r:=I.pa (i-1) (by omega) y _ d e;rw[YH,zx (by grind),WW];by_cases o:y.1=(b[j]'h).1
    ·rw[zy o];rfl
    ·rw[zx o];rfl
  ·show br (TK (1:Int) 2) _ _=_;rw[Th,zy (by omega),Td,zy (by omega)];refine(Wd 1 rfl (x:=(j:Int)) rfl).trans ?_;rw[Tc];by_cases f:j=0
   ·rw[zy (by omega)];rfl
   ·rw[zx (by omega)];obtain⟨y,d⟩:=gK va vb (l:=b) f k;refine(Wd 1 rfl (x:=b) rfl).trans ((Wd 1 rfl (x:=(j:Int)) rfl).trans ?_);rw[show SY .i64 (j:Int) 1=((j-1:Nat):Int) by rw[Sx (by omega)];omega,UB,TS d];refine(Wd 1 rfl (x:=b) rfl).trans ((Wd 1 rfl (x:=(j:Int)) rfl).trans ((Wd j rfl e).trans ?_));have c:=vb.lt d (show b[j-1+1]?=zo _ by rw[show j-1+1=j by omega];exact e);rw[YH,zx (by rw[VU c];simp),WW,zx (ZF c)];rfl
end
end
section
open Go Sv
section
variable{a b:List UD}(va:VL a)(vb:VL b)
include va vb
theorem je{n:Nat}{x:UD}(h:n<a.length+b.length)(d:aM a b n=zo x):Wf (ZX a b n)=zo (x,((bD a b n:Int),(ZX a b (n+1),0))):=by
 obtain⟨i,hs⟩:=We va vb (n:=n) (by omega);obtain⟨j,k⟩:=We va vb (n:=n+1) (by omega);have l:=va.len;have m:=vb.len;have e:=i.ia;have f:=i.jb;unfold Wf;rw[show ZX a b n=Zi a b (pos a b n).1 (pos a b n).2 from rfl,aH va vb i,TA,Ti,zy rfl,show(Zi a b (pos a b n).1 (pos a b n).2).1=[a,b]from rfl,show(Zi a b (pos a b n).1 (pos a b n).2).2.1=[((pos a b n).1:Int),((pos a b n).2:Int)]from rfl,Yr va vb e f,TA,zx (λhh:(pos a b n).1=a.length/\(pos a b n).2=b.length=>by omega)];unfold aM at d;have c:pos a b (n+1)=if YF a b (pos a b n).1 (pos a b n).2=zt then((pos a b n).1+1,(pos a b n).2)else((pos a b n).1,(pos a b n).2+1):=rfl
 unfold ZX bD;cases g:YF a b (pos a b n).1 (pos a b n).2 with
 |true=>
  rw[g,zy rfl]at c;rw[g,zy rfl]at d;have hi:=(aa.1 d).1;rw[zy rfl,Th,zx (by omega),Ur (show AQ [((pos a b n).1:Int),((pos a b n).2:Int)]<=1048576 from(show 2<=1048576 by omega))];refine(ZC 0 rfl (x:=((pos a b n).1:Int)) rfl).trans ((ZC 0 rfl (x:=((pos a b n).1:Int)) rfl).trans ((Wd 0 rfl (x:=a) rfl).trans ((Wd 0 rfl (x:=((pos a b n).1:Int)) rfl).trans ((Wd _ rfl d).trans ?_))));rw[UK (by omega),show lset [((pos a b n).1:Int),((pos a b n).2:Int)] 0 (((pos a b n).1+1:Nat):Int)=[(((pos a b n).1+1:Nat):Int),((pos a b n).2:Int)]from rfl,Ys va vb (by omega) f,TA,c];rfl
 |false=>
  rw[g,zx (by simp)]at c;rw[g,zx (by simp)]at d;have hi:=(aa.1 d).1;rw[zx (by simp),Th,zx (by omega),Ur (show AQ [((pos a b n).1:Int),((pos a b n).2:Int)]<=1048576 from(show 2<=1048576 by omega))];refine(ZC 1 rfl (x:=((pos a b n).2:Int)) rfl).trans ((ZC 1 rfl (x:=((pos a b n).2:Int)) rfl).trans ((Wd 1 rfl (x:=b) rfl).trans ((Wd 1 rfl (x:=((pos a b n).2:Int)) rfl).trans ((Wd _ rfl d).trans ?_))));rw[UK (by omega),show lset [((pos a b n).1:Int),((pos a b n).2:Int)] 1 (((pos a b n).2+1:Nat):Int)=[((pos a b n).1:Int),(((pos a b n).2+1:Nat):Int)]from rfl,Ys va vb e (by omega),TA,c];rfl
theorem jd{n:Nat}(h:n<=a.length+b.length):X5 (ZX a b n)=zo (((a.length+b.length-n:Nat):Int),0):=by
 obtain⟨c,hs⟩:=We va vb (n:=n) h;have f:=va.len;have g:=vb.len;have d:=c.ia;have e:=c.jb;unfold X5;rw[show ZX a b n=Zi a b (pos a b n).1 (pos a b n).2 from rfl,aH va vb c,TA,Ti,zy rfl];refine UZ (x:=(0,((2,((a.length+b.length-n:Nat):Int)),()))) (VN (s1:=(1,(a.length:Int)-((pos a b n).1:Int))) (s2:=(2,((a.length+b.length-n:Nat):Int))) ?_ ?_ rfl) rfl
 ·refine(aQ 0 rfl rfl (x:=a) rfl).trans ((Wd 0 rfl (x:=((pos a b n).1:Int)) rfl).trans ?_);simp only[UH,UG];rw[show SV .i64 (0:Int) (a.length:Int)=(a.length:Int) by rw[Su (by omega),u3],Sx (by omega)];rfl
 ·refine(aQ 1 rfl rfl (x:=b) rfl).trans ((Wd 1 rfl (x:=((pos a b n).2:Int)) rfl).trans ?_)
  grind [UH,UG,Su,Sx,pos]
theorem gH:W5 [a,b]=zo (US a b (a.length+b.length),(YI a b (a.length+b.length),0)):=by
 have l:=va.len;have m:=vb.len;unfold W5;rw[Ze va vb,TA,Ti,zy rfl];refine Eq.trans (b:=bd (loop _ ([],([],([],(0,([],[0,0])))))) _) rfl ?_
 refine UZ (x:=(0,((YI a b (a.length+b.length),(US a b (a.length+b.length),0)),())))
  (Yh (λk=>([],(US a b k,([],(0,(YI a b k,[((pos a b k).1:Int),((pos a b k).2:Int)])))))) 0 (a.length+b.length) rfl (by omega) (by omega) (λk _ h=> ?_) ?_) rfl
 ·obtain⟨x,c,_⟩:=V3 va vb (n:=k) h;obtain⟨d,hs⟩:=We va vb (n:=k) (by omega);have i:(US a b k).length=k:=VT va vb (by omega);have j:=aA a b k;simp only;rw[Yr va vb d.ia d.jb,TA,zx (λhh:(pos a b k).1=a.length/\(pos a b k).2=b.length=>by omega)];rw[W1 va vb c];unfold aM at c;rw[show YI a b (k+1)=YI a b k++[(bD a b k:Int)]from rfl];unfold bD;rw[show pos a b (k+1)=if YF a b (pos a b k).1 (pos a b k).2=zt then((pos a b k).1+1,(pos a b k).2)else((pos a b k).1,(pos a b k).2+1)from rfl]
  have e:∀ {β:Type} (y:UD) (q:Unit->Option β),gd (CF (BC (AQ (US a b k)) (AQ [y])) 1048576) q=q ():=λy q=>Ur (by grind [BC,AQ,ae,a8]) q;have f:∀ {β:Type} (y:Int) (q:Unit->Option β),gd (CF (BC (AQ (YI a b k)) (AQ [y])) 1048576) q=q ():=λy q=>Ur (by grind [BC,AQ,ae,a8]) q;cases g:YF a b (pos a b k).1 (pos a b k).2 with
  |true=>
   rw[g,zy rfl]at c;have hi:=(aa.1 c).1;simp only[if_true];rw[Th,zx (by omega)];refine(Wd 0 rfl (x:=a) rfl).trans ((ZC 0 rfl (x:=((pos a b k).1:Int)) rfl).trans ((Wd _ rfl c).trans ?_));rw[e,f];refine(ZC 0 rfl (x:=((pos a b k).1:Int)) rfl).trans ((ZC 0 rfl (x:=((pos a b k).1:Int)) rfl).trans ?_);rw[UK (by omega)];rfl
  |false=>
   rw[g,zx (by simp)]at c;have hi:=(aa.1 c).1;simp only[fl,if_false];rw[Th,zx (by omega)];refine(Wd 1 rfl (x:=b) rfl).trans ((ZC 1 rfl (x:=((pos a b k).2:Int)) rfl).trans ((Wd _ rfl c).trans ?_));rw[e,f];refine(ZC 1 rfl (x:=((pos a b k).2:Int)) rfl).trans ((ZC 1 rfl (x:=((pos a b k).2:Int)) rfl).trans ?_);rw[UK (by omega)];rfl
 ·obtain⟨d,hs⟩:=We va vb (n:=a.length+b.length) (a9 _);simp only;rw[Yr va vb d.ia d.jb,TA,zy (show(pos a b (a.length+b.length)).1=a.length/\(pos a b (a.length+b.length)).2=b.length by have:=d.ia;have:=d.jb;omega),Th,zy (by omega)]
end
theorem dM{s:U2}(a:s.2.1.length<=32)(b:s.1=zf->s.2.1=[]):Xi s=zo 0:=by
 unfold Xi;rw[Te,zx (by simp only[UH,Yv];omega),Uv,Tn]
 simp_all[zx,Uv,WW,zy]
theorem eA{s:U2}{x:UD}(e:s.2.1.length<=32)(f:s.1=zf->s.2.1=[])(g:kE x=0)(a:s.1=zt->Si x.1 s.2.1=zf):X7 (s,x)=zo (keep s x,((zt,(x.1,s.2.2)),0)):=by
 unfold X7 keep;rw[dM e f,TA,Tc,zy rfl,Zz,g,TA,Tc,zy rfl];obtain⟨s1,s2,c⟩:=s;obtain⟨h,i,d,j⟩:=x;simp only at a ⊢;cases s1 with
 |true=>
  have:=a rfl;simp only[Sp,YH,this,fl,if_false,Ti,if_true,Uv,WW];by_cases b:h=s2
  ·simp[b,SM]
  ·simp only[b,if_false,decide_false];cases c<;>cases d<;>rfl
 |false=>
  simp only[SM,Ti,if_true,Uv];cases c<;>cases d<;>rfl
theorem dy{l:List UD}{b:Bool}(r:l.length<=20000)(o:Z4 (zf,([],b)) l):XK (l,b)=zo (WV (zf,([],b)) l,(0,0)):=by
 unfold XK Vv;simp only[UH,UG];rw[Te,zx (by omega),TA]
 rw[Vl (l:=l) (σ:=U2×List UD) (s:=(0,(0,([],([],(0,(zf,([],b)))))))) (λk a=>((0:Int),((k:Int),(([]:List UD),(a.2,((0:Int),a.1))))))
  (λm k a=>Z4 a.1 m/\a.1.2.1.length<=32/\(a.1.1=zf->a.1.2.1=[])/\a.2.length<=k/\k+m.length=l.length)
  (λm k a=>(1,((0,((l.length:Int),([],(a.2++WV a.1 m,(0,VF a.1 m))))),()))) ((zf,([],b)),[]) rfl (by omega) ⟨o,by simp,λ_=>rfl,by simp,by simp⟩ ?_ ?_,TA]
 ·simp;rfl
 ·simp_all[re,SM,VF,WV]
 ·rintro k x m ⟨s,out⟩ t j n ⟨⟨c,d,e⟩,f,g,i,p⟩;simp only at c d e f g i ⊢;refine⟨((zt,(x.1,s.2.2)),out++if keep s x=zt then[x]else[]),?_,⟨e,ak c,(λh=>by cases h),?_,by grind⟩,?_⟩
  ·rw[rl n,Sp,UB,TS j,eA f g c d,TA,Ti,zy rfl,Tn,UB,TS j];have q:∀ {β:Type} (k:Unit->Option β),gd (CF (BC out.length [x].length) 1048576) k=k ():=λk=>f7 i (by omega) x k
   grind [UN,IN]
  ·grind
  grind [VF,WV,bc]
section
variable{a b:List UD}(va:VL a)(vb:VL b)
include va vb
theorem bL(c:Bool){n:Nat}(h:n<=a.length+b.length):V2 (US a b n,c)=zo (WV (s0 c) (US a b n),VF (s0 c) (US a b n)):=by
 have f:=va.len;have g:=vb.len;have d:(US a b n).length=n:=VT va vb h;unfold V2;simp only[UH,UG];rw[dy (by omega) (Xa va vb c h),TA];unfold Vv;rw[TA,Te,d];cases n with
 |zero=>rfl
 |succ m=>
  obtain⟨x,e,_⟩:=V3 va vb (n:=m) (by omega);rw[zy (by omega),show SY .i64 ((m+1:Nat):Int) 1=(m:Int) by rw[Sx (by omega)];omega,UB,TS (x:=x) (by grind [Yi]),ZB va vb c e]
theorem dL(c:Bool){n:Nat}(h:n<=a.length+b.length):Wg (Vo a b c n)=zo (n:Int):=by
 obtain⟨d,hs⟩:=We va vb (n:=n) h;have e:=va.len;have f:=vb.len;unfold Wg;refine UZ (x:=(0,(((n:Int),2),()))) (VN (s1:=(((pos a b n).1:Int),1)) (s2:=((n:Int),2)) ?_ ?_ rfl) rfl
 ·refine(aQ 0 rfl rfl (x:=((pos a b n).1:Int)) rfl).trans ?_;show zo (LR.nx (SV .i64 0 ((pos a b n).1:Int),(1:Int)))=_;rw[Su (by omega),u3]
 ·refine(aQ 1 rfl rfl (x:=((pos a b n).2:Int)) rfl).trans ?_
  grind [Su,pos]
theorem dO(c:Bool){n:Nat}(h:n<=a.length+b.length):Xk (Vo a b c n)=zo 0:=by
 obtain⟨d,hs⟩:=We va vb (n:=n) h;have g:=va.len;have i:=vb.len;have e:=Ya (s0 c) (US a b n);have f:(US a b n).length=n:=VT va vb h;unfold Xk;rw[show(Vo a b c n).1=Zi a b (pos a b n).1 (pos a b n).2 from rfl,aH va vb d,TA,Ti,zy rfl,dL va vb c h,TA];simp only[UH,UG];rw[show(Vo a b c n).2.2.1=WV (s0 c) (US a b n)from rfl,show(Vo a b c n).2.2.2=(n:Int)from rfl,show(Vo a b c n).2.1=VF (s0 c) (US a b n)from rfl,Te,zx (by omega),Te,zx (by omega),Ti,zy rfl];rw[show(Zi a b (pos a b n).1 (pos a b n).2).1=[a,b]from rfl,gH va vb,TA,UB];rw[Ur (by simp_all[VT,a9]),Ur (eo _)];rw[show Dy (US a b (a.length+b.length)) 0 n=US a b n from by simp_all[Dy,s6,iz,Xu],XR];rw[show(s0 c).2.2=c from rfl,bL va vb c h,TA,Xn,XB _ _ (by omega),TA,VP,VX,zx (by simp),XR,YN,YN,Yt];rfl
theorem Zf(c:Bool){n:Nat}(h:n<=a.length+b.length):Ug (Vo a b c n)=zo (((a.length+b.length-n:Nat):Int),0):=by
 unfold Ug;rw[dO va vb c h,TA,Ti,zy rfl,show(Vo a b c n).1=ZX a b n from rfl,jd va vb h];rfl
theorem bB(c:Bool){n:Nat}(h:n<=a.length+b.length){k:Nat}:Ub (Vo a b c n,(k:Int))=zo (Vo a b c (n+min k (a.length+b.length-n)),(((min k (a.length+b.length-n):Nat):Int),0)):=by
 have i:=va.len;have l:=vb.len;obtain⟨u,e⟩:∃ u,u=min k (a.length+b.length-n):=⟨_,rfl⟩
 have d:Tp (k:Int) ((a.length+b.length-n:Nat):Int)=(u:Int):=by
  unfold Tp;omega
 rw[<- e];unfold Ub;rw[Zf va vb c h,TA,Tc,zy rfl];simp only[d,UH,UG];rw[Th,zx (by omega),Ti,zy rfl,dL va vb c h,TA,Su (by omega),Te,zx (by omega)]
 refine UZ (x:=(0,(((u:Int),((ZX a b (n+u)).1,((ZX a b (n+u)).2.1,((ZX a b (n+u)).2.2.1,((ZX a b (n+u)).2.2.2.1,((ZX a b (n+u)).2.2.2.2,((Vo a b c n).2.1.1,((Vo a b c n).2.1.2.1,((Vo a b c n).2.1.2.2,(Vo a b c n).2.2))))))))),())))
  (Yh (λj=>((j:Int),((ZX a b (n+j)).1,((ZX a b (n+j)).2.1,((ZX a b (n+j)).2.2.1,((ZX a b (n+j)).2.2.2.1,((ZX a b (n+j)).2.2.2.2,((Vo a b c n).2.1.1,((Vo a b c n).2.1.2.1,((Vo a b c n).2.1.2.2,(Vo a b c n).2.2)))))))))) 0 u rfl (by omega) (by omega) (λj _ g=> ?_) ?_) ?_
 ·obtain⟨y,f,_⟩:=V3 va vb (n:=n+j) (by omega);show br (TK (j:Int) (u:Int)) _ _=_;rw[Th,zy (by omega)];show bd (Wf (ZX a b (n+j))) _=_;rw[je va vb (by omega) f,TA,UK (by omega)];rfl
 ·simp_all[Th,zx]
 ·rw[show(Vo a b c n).1.1=[a,b]from rfl,gH va vb,TA,show(Vo a b c n).2.2.2=(n:Int)from rfl,show SV .i64 (n:Int) (u:Int)=((n+u:Nat):Int) by rw[Su (by omega)];omega,UB];rw[Ur (by rw[VT va vb (a9 _)];omega),Ur (eo _)];rw[show Dy (US a b (a.length+b.length)) 0 (n+u)=US a b (n+u)from by unfold Dy;rw[s6,iz];exact Xu va vb (by omega),show(Vo a b c n).2.1.2.2=c from XR _ _,bL va vb c (by omega),TA];rfl
end
end
section
open Go Sv
theorem bf(B:Int)(i:Nat):VC B (i+1)=2*VC B i:=by
 grind [VC,Int.pow_succ,Int.mul_assoc,Int.mul_comm]
theorem dN{B:Int}{i:Nat}(a:1<=B)(b:B<=16)(hi:i<=12):V9 (B,(i:Int))=zo (VC B i):=by
 unfold V9;refine UZ (x:=(0,((VC B i,(i:Int)),()))) (Xr (λk=>(VC B k,(k:Int))) i (by simp[VC]) (by omega) (λk d=> ?_) ?_) rfl
 ·have c:=dW a b (show k<=12 by omega);simp only;rw[Th,zy (by omega),Sw (by omega),UK (by omega),bf]
 simp_all[Th,zx]
theorem o0(r:Ua)(a:r.2.length<=9223372036854775807):Xg r=zo (if r.1<1\/r.1>1000000 then(-1,7)else Wo r.2):=by
 grind [Xg,Th,Te,XZ,TA]
theorem ji(r:Ua)(most:Int)(a:List Int)(t:r.2.length<=9223372036854775807)(hi:a.length<=1048576):Wj (r,(most,a))=zo (kR a most r):=by
 unfold Wj kR;rw[o0 r (by omega),TA];simp only[UH,UG];by_cases h:r.1<1\/r.1>1000000
 ·rw[zy h,zy h];rfl
 rw[zx h,zx h,Ti];by_cases b:(Wo r.2).2=0;rotate_left
 ·simp_all
 rw[zy b,zx (show ¬ (Wo r.2).2≠0 by simp[b]),Tc,Te];by_cases g:r.2.length=0
 ·simp_all
 rw[zx (by omega),zx g];by_cases c:(r.2.length:Int)>most
 ·simp_all
 rw[zx c,zx c]
 obtain⟨q,n,u⟩:=Wp (l:=a) (σ:=Unit) (s:=((0:Int),(0:Int))) (λk _=>((k:Int),(0:Int))) (λm k _=>r.1∈a<->r.1∈m) (λ(q:Nat×((Int×Int)×Unit))=>(q.1=1/\r.1 ∉ a)\/(q.1=0/\r.1∈a/\q.2.1.2=8))
  (f:=λs1=>br (TK s1.1 (a.length:Int)) (λ_=>SG s1.1 λj=>ix a j λo=>br (Og o r.1) (λ_=>zo (.dn ((0,((s1.1,8),()))))) λ_=>zo (.nx (SV .i64 s1.1 1,s1.2))) λ_=>zo (.dn ((1,(s1,())))))
  () rfl (by omega) Iff.rfl (λ_ h=>⟨_,by simp only;rw[re];rfl,.inl ⟨rfl,by grind⟩⟩) (λk x m _ p d i h=>by
   simp only;rw[rl i,Sp,UB,TS d,Tc];by_cases e:x=r.1
   ·simp_all
   ·rw[zx e];exact .inl ⟨(),by rw[UN d (by omega)],by grind⟩)
 refine UZ n ?_;rw[TB]
 grind
theorem gL(L:UF)(hb:L.2.length<=9223372036854775807)(hr:∀ rs∈L.2,rs.length<=9223372036854775807 /\ ∀ r∈rs,r.2.length<=9223372036854775807):VH L=zo (WB L):=by
 unfold VH WB;simp only[UH,UG];rw[Th,Te,Te];by_cases w:L.1<1
 ·simp_all
 rw[zx w];by_cases x:L.1>16
 ·simp_all
 rw[zx x,zx (show ¬ (L.1<1\/L.1>16) by omega)];by_cases Z:(L.2.length:Int)>12
 ·grind
 rw[zx Z,zx (by omega)];have hl2:L.2.length<=12:=by omega
 obtain⟨T,M⟩:∃ T,T=ZQ L.1 0 [] L.2:=⟨_,rfl⟩;rw[<- M]
 have z:T=zn->(br (TI (L.2.length:Int) 0) (λ_=>SG (SY .i64 (L.2.length:Int) 1) λB=>ix L.2 B λG=>br (Og (G.length:Int) 0) (λ_=>zo ((SY .i64 (L.2.length:Int) 1,((0:Int),(6:Int))))) λ_=>zo ((0,(0,0)))) λ_=>zo ((0,(0,0))))=zo (if L.2.getLast?=zo []then(((L.2.length-1:Nat):Int),(0,6))else(0,(0,0))):=by
  intro _;rw[Te];by_cases S:L.2=[]
  ·rw[S];rfl
  ·have hp:=cP.2 S;rw[zy (by omega),show SY .i64 (L.2.length:Int) 1=((L.2.length-1:Nat):Int) by rw[Sx (by omega)];omega,UB,nm];have d:L.2[L.2.length-1]?=zo (L.2[L.2.length-1]'(by omega)):=by simp
   rw[TS d,d,Tc];by_cases he:L.2[L.2.length-1]'(by omega)=[]<;>simp_all
 obtain⟨r,E,g⟩:=Wp (l:=L.2) (σ:=List Int) (s:=((0:Int),(([]:List Int),((0:Int),((0:Int),(0:Int)))))) (λi a=>((0:Int),(a,((0:Int),((0:Int),(i:Int))))))
  (λm i a=>ZQ L.1 i a m=T/\a.length<=2*i) (λ(r:Nat×((Int×(List Int×(Int×(Int×Int))))×Unit))=>(r.1=1/\T=zn)\/(r.1=0/\Q1 T r.2.1.1 r.2.1.2.2.1 r.2.1.2.2.2.1/\T≠zn))
  (f:=λ(s0:(Int×((List Int)×(Int×(Int×Int)))))=>br (TK s0.2.2.2.2 (L.2.length:Int)) (λ_=>SG s0.2.2.2.2 λk1=>ix L.2 k1 λu=>br (TI (u.length:Int) 2) (λ_=>zo (.dn ((0,((0,(s0.2.1,(s0.2.2.2.2,(3,s0.2.2.2.2)))),()))))) λ_=>bd (loop (λ(b:(Int×((List Int)×(Int×(Int×Int)))))=>br (TK b.2.2.2.2 (u.length:Int)) (λ_=>SG b.2.2.2.2 λC=>ix u C λI=>bd (V9 (L.1,s0.2.2.2.2)) λF=>bd (Wj ((I,(F,b.2.1)))) λo=>br (SD o 0) (λ_=>zo (.dn ((0,((b.2.2.2.2,(b.2.1,(s0.2.2.2.2,(o,b.2.2.2.2)))),()))))) λ_=>SG b.2.2.2.2 λD=>ix u D λp=>gd (CF (BC b.2.1.length [p.1].length) 1048576) λ_=>zo (.nx ((b.1,(IN b.2.1 [p.1],(b.2.2.1,(b.2.2.2.1,SV .i64 b.2.2.2.2 1))))))) λ_=>zo (.dn ((1,(b,()))))) ((s0.1,(s0.2.1,(s0.2.2.1,(s0.2.2.2.1,0)))))) λc=>br (neq c.1 0) (λ_=>zo (.dn ((0,((c.2.1.1,(c.2.1.2.1,(c.2.1.2.2.1,(c.2.1.2.2.2.1,s0.2.2.2.2)))),()))))) λ_=>zo (.nx ((c.2.1.1,(c.2.1.2.1,(c.2.1.2.2.1,(c.2.1.2.2.2.1,SV .i64 s0.2.2.2.2 1))))))) λ_=>zo (.dn ((1,(s0,())))))
  [] rfl (by omega) ⟨M.symm,by simp⟩ (λa h=>by
   refine⟨_,by simp only;rw[re];rfl,.inl ⟨rfl,?_⟩⟩;rw[<- h.1];rfl) (λi rs m a X d hi h=>by
   obtain⟨h,O⟩:=h;simp only;obtain⟨W,n⟩:=hr rs (ad d);rw[rl hi,Sp,UB,TS d,Te];unfold ZQ at h;by_cases K:rs.length>2
   ·rw[zy (by omega)];rw[zy K]at h;refine .inr ⟨_,rfl,.inr ⟨rfl,?_,by grind⟩⟩;rw[<- h];exact⟨rfl,rfl,rfl⟩
   rw[zx (by omega)];rw[zx K]at h;obtain⟨U,N⟩:∃ U,U=ZR (VC L.1 i) 0 a rs:=⟨_,rfl⟩;rw[<- N]at h
   obtain⟨r,E,g⟩:=Wp (l:=rs) (σ:=Unit) (s:=((0:Int),(a,((0:Int),((0:Int),(0:Int)))))) (λk _=>((0:Int),(a++(rs.take k).map (·.1),((0:Int),((0:Int),(k:Int))))))
    (λm k _=>ZR (VC L.1 i) k (a++(rs.take k).map (·.1)) m=U) (λ(r:Nat×((Int×(List Int×(Int×(Int×Int))))×Unit))=>(r.1=1/\U=zn/\r.2.1=(0,(a++rs.map (·.1),(0,(0,(rs.length:Int))))))\/(r.1=0 /\ ∃ k e,U=zo (k,e)/\r.2.1.1=(k:Int)/\r.2.1.2.2.1=(i:Int)/\r.2.1.2.2.2.1=e))
    (f:=λ(b:(Int×((List Int)×(Int×(Int×Int)))))=>br (TK b.2.2.2.2 (rs.length:Int)) (λ_=>SG b.2.2.2.2 λC=>ix rs C λI=>bd (V9 (L.1,(i:Int))) λF=>bd (Wj ((I,(F,b.2.1)))) λo=>br (SD o 0) (λ_=>zo (.dn ((0,((b.2.2.2.2,(b.2.1,((i:Int),(o,b.2.2.2.2)))),()))))) λ_=>SG b.2.2.2.2 λD=>ix rs D λp=>gd (CF (BC b.2.1.length [p.1].length) 1048576) λ_=>zo (.nx ((b.1,(IN b.2.1 [p.1],(b.2.2.1,(b.2.2.2.1,SV .i64 b.2.2.2.2 1))))))) λ_=>zo (.dn ((1,(b,())))))
    () (by simp) (by omega) (by simp[N]) (λ_ h=>by
     refine⟨_,by simp only;rw[re];rfl,.inl ⟨rfl,by rw[<- h];rfl,by simp⟩⟩) (λk r m _ X d Y h=>by
     simp only;have hr2:=n r (ad d);have A:(rs.take (k+1)).map (·.1)=(rs.take k).map (·.1)++[r.1]:=by grind
     have P:(a++(rs.take k).map (·.1)).length<=100:=by simp;omega
     rw[rl Y,Sp,UB,TS d,dN (by omega) (by omega) (by omega),TA,ji _ _ _ (by omega) (by omega),TA,Ti];unfold ZR at h;by_cases J:kR (a++(rs.take k).map (·.1)) (VC L.1 i) r=0
     ·rw[zx (λhh:kR (a++(rs.take k).map (·.1)) (VC L.1 i) r≠0=>hh J)]at h;rw[zy J,UB,TS d,Ur (by grind [BC,ae,a8])];refine .inl ⟨(),?_,?_⟩
      ·rw[UN d (by omega),A,<- bc];rfl
      simp_all
     grind)
   rw[E,TA,TB];rcases g with⟨g,j,q⟩|⟨g,k,e,j,q,q5,q6⟩
   ·rw[zx (show ¬ r.1=0 by omega),q,UN d (by omega)]
    grind
   ·rw[zy g];rw[j]at h;refine .inr ⟨_,rfl,.inr ⟨rfl,?_,by grind⟩⟩;rw[<- h]
    exact⟨q,q5,q6⟩)
 refine UZ E ?_;rw[TB];rcases g with⟨g,j⟩|⟨g,j,q⟩
 ·grind
 ·rw[zy g];cases y:T with
  |none=>simp_all
  |some t=>
   obtain⟨i,k,e⟩:=t;rw[y]at j;rw[j.1,j.2.1,j.2.2]
theorem d8(L:UF)(b:L.2.length<=1048576)(a:∀ rs∈L.2,rs.length<=1048576 /\ ∀ r∈rs,r.2.length<=9223372036854775807):VH L=zo (WB L):=gL L (by omega) λrs h=>⟨by grind,(a rs h).2⟩
def VK(ls:List (List Ua)):List Ua:=ls.flatMap List.reverse
theorem VLev.small{L:UF}(v:VLev L):L.2.length<=1048576 /\ ∀ rs∈L.2,rs.length<=1048576 /\ ∀ r∈rs,r.2.length<=9223372036854775807:=by
 refine⟨by have:=v.len;omega,λrs a=> ?_⟩;obtain⟨i,hi⟩:=ci a;obtain⟨d,b⟩:=v.lev i rs hi;exact⟨by omega,λr c=>by have:=(b r c).vl.len;omega⟩
theorem aL:∀ (ls:List (List Ua)),(∀ rs∈ls,rs.length<=2)->(VK ls).length<=2*ls.length
 |[],_=>by simp[VK]
 |rs::ls,h=>by
  have b:=aL ls λr a=>h r (by simp[a])
  grind [VK,hV,List.length_reverse,ae]
theorem VLev.two{L:UF}(v:VLev L):∀ rs∈L.2,rs.length<=2:=λrs a=>by
 obtain⟨i,hi⟩:=ci a;exact(v.lev i rs hi).1
theorem d9{L:UF}(v:VLev L):XL L=zo (VK L.2,0):=by
 obtain⟨d,b⟩:=v.small;have f:=v.len;unfold XL;simp only[UH,UG];rw[d8 _ d b,XS v,TA,Ti,zy rfl]
 rw[Vl (l:=L.2) (σ:=List Ua) (s:=(([]:List Ua),(0:Int))) (λi m=>(m,(i:Int))) (λls i m=>(∀ rs∈ls,rs.length<=2)/\m.length<=2*i) (λls _ m=>(0,((m++VK ls,(L.2.length:Int)),()))) [] rfl (by omega) ⟨v.two,by simp⟩ (λm _=>by
  simp_all[re,SM,VK]) (λi rs ls m e a hi h=>by
   refine⟨m++rs.reverse,?_,⟨λr b=>h.1 r (by simp[b]),by grind⟩,by simp[VK]⟩;have c:=h.1 rs (by simp);have g:m.length<=24:=by omega
   simp only;rw[rl hi,Sp,UB,TS a];have gg:∀ {β:Type} (z:List Ua) (x:Ua) (k:Unit->Option β),z.length<=100->gd (CF (BC z.length [x].length) 1048576) k=k ():=λz x k j=>Ur (by grind [BC,ae,a8]) k
   match rs,c,a with
   |[],_,a=>
    refine UZ (x:=(0,((m,-1),()))) (VS (n:=1) (by omega) (Uk rfl)) ?_;rw[UN a (by omega)];simp
   |[r0],_,a=>
    refine UZ (x:=(0,((m++[r0],-1),()))) (VS (n:=2) (by omega) ((Ue (s':=(m++[r0],-1)) ?_).trans (Uk rfl))) ?_
    ·show br (SC (0:Int) 0) _ _=_;rw[Td,zy (by omega),UB,TS a];refine(Wd 0 rfl (x:=r0) rfl).trans ?_;rw[gg m _ _ (by omega)];rfl
    ·rw[UN a (by omega)];simp
   |[r0,r1],_,a=>
    refine UZ (x:=(0,((m++[r1]++[r0],-1),()))) (VS (n:=3) (by omega) ((Ue (s':=(m++[r1],0)) ?_).trans ((Ue (s':=(m++[r1]++[r0],-1)) ?_).trans (Uk rfl)))) ?_
    ·show br (SC (1:Int) 0) _ _=_;rw[Td,zy (by omega),UB,TS a];refine(Wd 1 rfl (x:=r1) rfl).trans ?_;rw[gg m _ _ (by omega)];rfl
    ·show br (SC (0:Int) 0) _ _=_;rw[Td,zy (by omega),UB,TS a];refine(Wd 0 rfl (x:=r0) rfl).trans ?_;rw[gg (m++[r1]) _ _ (by simp;omega)];rfl
    ·rw[UN a (by omega)];simp),TA]
 simp
theorem YC(a b:Int):Tq a b=max a b:=by unfold Tq;omega
theorem Xb:∀ (l:List Ua) (m:Int),0<=m->l.foldl (λm r=>Tq m r.1) m=max m (l.foldl (λm r=>Tq m r.1) 0)
 |[],m,h=>by simp;omega
 |r::l,m,h=>by
  have a:=Xb l (Tq m r.1) (by rw[YC];omega);have b:=Xb l (Tq 0 r.1) (by rw[YC];omega);simp only[ed];rw[a,b,YC,YC];omega
theorem bJ(l:List Ua)(m:Int)(h:0<=m):l.reverse.foldl (λm r=>Tq m r.1) m=l.foldl (λm r=>Tq m r.1) m:=by
 induction l generalizing m with
 |nil=>rfl
 |cons r l a=>
  rw[List.reverse_cons,List.foldl_append,a m h,ed];simp only[ed,List.foldl_nil]
  grind [Xb,Tq,YC]
theorem bx(l:List Ua)(m:Int)(h:0<=m):0<=l.foldl (λm r=>Tq m r.1) m:=by
 rw[Xb l m h];omega
theorem Yx:∀ (ls:List (List Ua)) (m:Int),0<=m->(VK ls).foldl (λm r=>Tq m r.1) m=ls.foldl (λm rs=>rs.foldl (λm r=>Tq m r.1) m) m
 |[],m,_=>rfl
 |rs::ls,m,h=>by
  have a:=Yx ls (rs.foldl (λm r=>Tq m r.1) m) (bx _ _ h)
  grind [VK,bJ]
theorem cK{L:UF}(v:VLev L):Vf L=zo (Wk L.2):=by
 have c:=v.len;have d:=aL L.2 v.two;unfold Vf;simp only[UH,UG];rw[d9 v,TA]
 rw[Vl (l:=VK L.2) (σ:=Int) (s:=((0:Int),(0:Int))) (λi m=>(m,(i:Int))) (λ_ _ _=>True) (λl _ m=>(0,((l.foldl (λm r=>Tq m r.1) m,((VK L.2).length:Int)),()))) 0 rfl (by omega) trivial (λm _=>by
  simp only;rw[re,SM];rfl) (λk r l m a e b _=>⟨Tq m r.1,by
   grind [rl,Sp,UB,TS,UN],trivial,rfl⟩),TA]
 rw[Yx _ _ (by omega)];rfl
theorem aS{L:UF}(e:L.2.length<=1000):Uy L=zo (UJ 0 L.2):=by
 unfold Uy;simp only[UH,UG]
 rw[Vl (l:=L.2) (σ:=List Int) (s:=(([]:List Int),(0:Int))) (λi m=>(m,(i:Int))) (λls i m=>m++UJ i ls=UJ 0 L.2) (λ_ _ _=>(0,((UJ 0 L.2,(L.2.length:Int)),()))) [] rfl (by omega) rfl (λm h=>by
  simp_all[re,SM,UJ]) (λi rs ls m d b hi h=>by
   refine⟨m++(if rs.length=2 then[(i:Int)]else[]),?_,?_,rfl⟩
   ·simp only;rw[rl hi,Sp,UB,TS b,Tc]
    have f:m.length<=1000:=by
     have a:=congrArg rz h;have c:=Vz L.2 0
     grind
    by_cases a:rs.length=2
    ·rw[zy (by omega),zy a,Ur (by grind [BC,ae,a8]),UN b (by omega)];rfl
    ·rw[zx (by omega),zx a,co,UN b (by omega)]
   ·rw[bc];exact h),TA]
theorem rV{L:UF}(v:VLev L)(k:Int):Yp (L,k)=zo (if k<0\/k>=12 then 7 else 0):=by
 obtain⟨a,b⟩:=v.small;unfold Yp;rw[d8 _ a b,XS v,TA,Tc,zy rfl,Th,Td]
 grind
theorem bA{L:UF}(v:VLev L){n:Nat}(b:n<L.2.length):Ui (L,(n:Int))=zo (decide ((n:Int)=(L.2.length:Int)-1)):=by
 have a:=v.len;unfold Ui YX;simp only[UH,UG];rw[rV v,TA,zx (by omega),Ti,zy rfl,TA,UK (by omega)];unfold TI
 grind [VP]
theorem d6{a b:List UD}(va:VL a)(d:VL b)(c:Bool):Xj ([a,b],c)=zo (Vo a b c 0,(0,0)):=by
 unfold Xj YW Vv;rw[Ze va d,TA,Ti,zy rfl];refine Eq.trans (b:=bd (bd (Vu ([a,b],[((0:Nat):Int),((0:Nat):Int)])) _) _) rfl ?_;rw[Ys va d (eo _) (eo _)];rfl
theorem bY{L:UF}{n:Nat}{a b:Ua}(c:Bool)(h:L.2[n]?=zo [a,b])(d:VL a.2)(e:VL b.2):UU (L,((n:Int),c))=zo ((n:Int),Vo b.2 a.2 c 0):=by
 have f:=(aa.1 h).1;unfold UU;simp only[UH,UG];rw[Td,zx (by omega),UB,TS h,TS (x:=b) rfl,TS (x:=a) rfl,d6 e d];rfl
theorem ov{L:UF}{n:Nat}{a b:Ua}{j:Job}(h:L.2[n]?=zo [a,b])(d:VL a.2)(e:VL b.2){β:Type}(A B:Option β) :
  (bd (UU (L,((n:Int),j.2.2.1.2.2))) λc=>bd (Ug c.2) λf=>br (TK j.2.2.2.2 0) (λ_=>A) λ_=>br (TI j.2.2.2.2 f.1) (λ_=>A) λ_=>bd (Ub (c.2,j.2.2.2.2)) λg=>bd (Um (g.1,j.2)) λi=>br (H2 i) (λ_=>A) λ_=>B)
  = if j.2.2.2.2<0\/j.2.2.2.2>((b.2.length+a.2.length:Nat):Int)then A else if Vo b.2 a.2 j.2.2.1.2.2 j.2.2.2.2.toNat=j.2 then B else A:=by
 rw[bY _ h d e,TA,Zf e d _ (eo _),TA,Th,Te,iz];by_cases l:j.2.2.2.2<0
 ·simp_all
 rw[zx l];by_cases m:j.2.2.2.2>((b.2.length+a.2.length:Nat):Int)
 ·simp_all
 rw[zx m,zx (show ¬ (j.2.2.2.2<0\/j.2.2.2.2>((b.2.length+a.2.length:Nat):Int)) by omega)];obtain⟨k,o⟩:∃ k:Nat,j.2.2.2.2=(k:Int):=⟨j.2.2.2.2.toNat,by omega⟩;rw[o,bB e d _ (eo _),TA,iz,dc,xr (by omega),ab];obtain⟨s1,s2,p,q,r,s⟩:=Z5 e d j.2.2.1.2.2 (n:=k) (by omega);rw[ax _ _ s1 s2 p q r s,TA,VP,VX]
 simp_all
end
section
open Go Sv
theorem cM(s:UC)(J:s.1.2.length<=9223372036854775807)(hr:∀ rs∈s.1.2,rs.length<=9223372036854775807 /\ ∀ r∈rs,r.2.length<=9223372036854775807)(hj:s.2.1.length<=9223372036854775807):Ve s=zo (UE s):=by
 unfold Ve UE;simp only[UH,UG];rw[gL _ J hr,TA,Tc];by_cases o:(WB s.1).2.2=0;rotate_left
 ·rw[zx o,zy o,Tc,zx o,Ti,zx o]
 rw[zy o,zx (show ¬ (WB s.1).2.2≠0 by simp[o]),Th,Te];have v:=YR.1 o;by_cases y:s.2.2<1
 ·rw[zy y,zy (.inl y)]
 rw[zx y];by_cases p:s.2.2>1000001
 ·rw[zy p,zy (.inr p)]
 rw[zx p,zx (show ¬ (s.2.2<1\/s.2.2>1000001) by omega),Tc,zy o,cK v,TA,Tf];by_cases m:s.2.2<=Wk s.1.2
 ·rw[zy m,zy m]
 rw[zx m,zx m,Ti,zy o,aS (by have:=v.len;omega),TA];obtain⟨a,g⟩:∃ a,a=UJ 0 s.1.2:=⟨_,rfl⟩;have hdl:a.length<=12:=by have:=Vz s.1.2 0;have:=v.len;rw[g];omega
 rw[<- g];obtain⟨T,Z⟩:∃ T,T=W0 s.1 a 0 s.2.1:=⟨_,rfl⟩;rw[<- Z]
 obtain⟨r,q1,D⟩:=Wp (l:=s.2.1) (σ:=Unit) (λi _=>((0:Int),((0:Int),(i:Int)))) (λjs i _=>W0 s.1 a i js=T) (λ(r:Nat×((Int×(Int×Int))×Unit))=>(T=zn/\r.1=1)\/(∃ i:Nat,T=zo i/\r.1=0/\r.2.1.1=6/\r.2.1.2.1=(i:Int)))
  (f:=λb=>br (TK b.2.2 (s.2.1.length:Int)) (λ_=>SG b.2.2 λk7=>ix s.2.1 k7 λe=>br (SC b.2.2 (a.length:Int)) (λ_=>zo (.dn ((0,((6,(b.2.2,b.2.2)),()))))) λ_=>SG b.2.2 λk9=>ix a k9 λX=>br (SD e.1 X) (λ_=>zo (.dn ((0,((6,(b.2.2,b.2.2)),()))))) λ_=>br e.2.2.1.2.2 (λ_=>bd (Ui (s.1,e.1)) λM=>br (H2 M) (λ_=>zo (.dn ((0,((6,(b.2.2,b.2.2)),()))))) λ_=>bd (UU ((s.1,(e.1,e.2.2.1.2.2)))) λG=>bd (Ug G.2) λN=>br (TK e.2.2.2.2 0) (λ_=>zo (.dn ((0,((6,(b.2.2,b.2.2)),()))))) λ_=>br (TI e.2.2.2.2 N.1) (λ_=>zo (.dn ((0,((6,(b.2.2,b.2.2)),()))))) λ_=>bd (Ub (G.2,e.2.2.2.2)) λO=>bd (Um (O.1,e.2)) λP=>br (H2 P) (λ_=>zo (.dn ((0,((6,(b.2.2,b.2.2)),()))))) λ_=>zo (.nx ((b.1,(b.2.1,SV .i64 b.2.2 1))))) λ_=>bd (UU ((s.1,(e.1,e.2.2.1.2.2)))) λI=>bd (Ug I.2) λS=>br (TK e.2.2.2.2 0) (λ_=>zo (.dn ((0,((6,(b.2.2,b.2.2)),()))))) λ_=>br (TI e.2.2.2.2 S.1) (λ_=>zo (.dn ((0,((6,(b.2.2,b.2.2)),()))))) λ_=>bd (Ub (I.2,e.2.2.2.2)) λU=>bd (Um (U.1,e.2)) λW=>br (H2 W) (λ_=>zo (.dn ((0,((6,(b.2.2,b.2.2)),()))))) λ_=>zo (.nx ((b.1,(b.2.1,SV .i64 b.2.2 1))))) λ_=>zo (.dn ((1,(b,())))))
  (s:=(0,(0,0))) () rfl (by omega) Z.symm (λ_ h=>by
   refine⟨_,by simp only;rw[re];rfl,.inl ⟨by rw[<- h];rfl,rfl⟩⟩) (λi j js _ hd hx hi h=>by
   simp only;rw[rl hi,Sp,UB,TS hx,Td];unfold W0 at h
   have c:ZP s.1 a i j=zt -> ∃ r:Nat×((Int×(Int×Int))×Unit),(zo (LR.dn ((0,((6,((i:Int),(i:Int))),()))):LR (Int×(Int×Int)) _))=zo (.dn r)/\((T=zn/\r.1=1)\/(∃ i:Nat,T=zo i/\r.1=0/\r.2.1.1=6/\r.2.1.2.1=(i:Int))):=λJ=>by
    rw[zy J]at h;exact⟨_,rfl,.inr ⟨i,h.symm,rfl,rfl,rfl⟩⟩
   have x:ZP s.1 a i j=zf -> ∃ st':Unit,(zo (LR.nx ((0:Int),((0:Int),SV .i64 (i:Int) 1))):Option (LR _ (Nat×((Int×(Int×Int))×Unit))))=zo (.nx ((0:Int),((0:Int),((i+1:Nat):Int))))/\W0 s.1 a (i+1) js=T:=λhg=>by
    rw[zx (by simp[hg])]at h;exact⟨(),by rw[UN hx (by omega)],h⟩
   by_cases y:(i:Int)>=(a.length:Int)
   ·rw[zy y];exact .inr (c (by unfold ZP;rw[ac (by omega)]))
   rw[zx y,UB];have w:a[i]?=zo (a[i]'(by omega)):=by simp
   rw[TS w,Ti];obtain⟨n,K,E,F,t⟩:=YD (ls:=s.1.2) (i:=0) (k:=i) (d:=a[i]'(by omega)) (by rw[<- g];exact w);rw[dc]at K
   have q:ZP s.1 a i j=(if j.1≠(a[i]'(by omega))then zt else if j.2.2.1.2.2=zt/\j.1≠(s.1.2.length:Int)-1 then zt else if j.2.2.2.2<0\/j.2.2.2.2>((F.2.length+E.2.length:Nat):Int)then zt else decide (Vo F.2 E.2 j.2.2.1.2.2 j.2.2.2.2.toNat≠j.2)):=by
    unfold ZP;rw[w];simp only;rw[K,ab,t]
   by_cases p:j.1=(a[i]'(by omega));rotate_left
   ·rw[zx p];exact .inr (c (by rw[q,zy p]))
   rw[zy p];rw[zx (by simp[p])]at q;have C:j.1=(n:Int):=by rw[p,K]
   have hv:=(v.lev n _ t).2;have v0:=(hv E (by simp)).vl;have v1:=(hv F (by simp)).vl;have L:=(aa.1 t).1;rw[C,bA v L,TA,VP,VX,ov t v0 v1,Tn];rw[C]at q;by_cases m:j.2.2.1.2.2=zt/\(n:Int)≠(s.1.2.length:Int)-1
   ·rw[zy m.1,zy m.2];exact .inr (c (by rw[q,zy m]))
   rw[zx m]at q
   have h4:∀ {γ:Type} (A B:γ),(if j.2.2.1.2.2=zt then if ¬(n:Int)=(s.1.2.length:Int)-1 then A else B else B)=B:=by
    intro γ A B;by_cases u:j.2.2.1.2.2=zt
    ·rw[zy u,zx (λz=>m ⟨u,z⟩)]
    ·rw[zx u]
   rw[h4];by_cases u:j.2.2.2.2<0\/j.2.2.2.2>((F.2.length+E.2.length:Nat):Int)
   ·rw[zy u];exact .inr (c (by rw[q,zy u]))
   rw[zx u];rw[zx u]at q;by_cases z:Vo F.2 E.2 j.2.2.1.2.2 j.2.2.2.2.toNat=j.2
   ·rw[zy z];exact .inl (x (by rw[q];simp[z]))
   ·rw[zx z]
    exact .inr (c (by rw[q];simp[z])))
 refine UZ q1 ?_;rw[TB];rcases D with⟨D,q3⟩|⟨i,D,q3,q4,q5⟩
 ·rw[zx (show ¬ r.1=0 by omega),D,Th];simp only;by_cases Y:s.2.1.length<a.length
  ·rw[zy (by omega),zy Y]
  ·rw[zx (by omega),zx Y]
 ·rw[zy q3,D,q4,q5]
theorem dJ(s:UC)(b:s.1.2.length<=1048576)(a:∀ rs∈s.1.2,rs.length<=1048576 /\ ∀ r∈rs,r.2.length<=9223372036854775807)(c:s.2.1.length<=1048576):Ve s=zo (UE s):=cM s (by omega) (λrs h=>⟨by have:=(a rs h).1;omega,(a rs h).2⟩) (by omega)
end
section
open Go Sv
def JobAt(L:UF)(n:Nat)(j:Job):Prop:=∃ a b c k,L.2[n]?=zo [a,b]/\j=((n:Int),Vo b.2 a.2 c k)/\k<=b.2.length+a.2.length/\(c=zt->n+1=L.2.length)/\VL a.2/\VL b.2
structure VSt (s:UC):Prop where
 lev:VLev s.1
 n1:1<=s.2.2
 n2:s.2.2<=1000001
 n3:Wk s.1.2<s.2.2
 due:s.2.1.map (·.1)=UJ 0 s.1.2
 job:∀ j∈s.2.1,∃ n,JobAt s.1 n j
theorem aV(a b:List UD)(c:Bool)(k:Nat):(Vo a b c k).2.1.2.2=c:=by
 show(VF (s0 c) (US a b k)).2.2=c;rw[XR]
theorem aj{L:UF}(v:VLev L){i:Nat}{j:Job}:ZP L (UJ 0 L.2) i j=zf <-> ∃ n,(UJ 0 L.2)[i]?=zo j.1/\JobAt L n j:=by
 constructor
 ·intro h;unfold ZP at h;cases c:(UJ 0 L.2)[i]? with
  |none=>rw[c]at h;cases h
  |some d=>
   rw[c]at h;simp only at h;by_cases f:j.1=d;rotate_left
   ·rw[zy f]at h;cases h
   rw[zx (by simp[f])]at h;by_cases g:j.2.2.1.2.2=zt/\j.1≠(L.2.length:Int)-1
   ·rw[zy g]at h;cases h
   rw[zx g]at h;obtain⟨n,m,a,b,e⟩:=YD c;rw[dc]at m;rw[m,ab,e]at h;simp only at h;by_cases p:j.2.2.2.2<0\/j.2.2.2.2>((b.2.length+a.2.length:Nat):Int)
   ·rw[zy p]at h;cases h
   rw[zx p]at h;have s:Vo b.2 a.2 j.2.2.1.2.2 j.2.2.2.2.toNat=j.2:=by simpa using h
   have r:=(v.lev n _ e).2;refine⟨n,by rw[f],a,b,j.2.2.1.2.2,j.2.2.2.2.toNat,e,Prod.ext (by rw[f,m]) s.symm,by omega,λl=> ?_,(r a (by simp)).vl,(r b (by simp)).vl⟩
   have t:j.1=(L.2.length:Int)-1:=by
    by_cases q:j.1=(L.2.length:Int)-1
    ·exact q
    ·exact absurd ⟨l,q⟩ g
   omega
 ·rintro⟨n,c,a,b,o,k,e,rfl,u,l,w,x⟩;unfold ZP;rw[c];simp only;rw[zx (by simp),aV,zx (λh:o=zt/\(n:Int)≠(L.2.length:Int)-1=>h.2 (by have:=l h.1;omega)),ab,e];simp only;rw[show(Vo b.2 a.2 o k).2.2.2=(k:Int)from rfl,zx (by omega),ab];simp
theorem ZA{L:UF}{a:List Int}:∀ {js:List Job} {i:Nat},W0 L a i js=zn <-> ∀ k j,js[k]?=zo j->ZP L a (i+k) j=zf
 |[],i=>by simp[W0]
 |j::js,i=>by
  unfold W0;by_cases h:ZP L a i j=zt
  ·rw[zy h];simp only[reduceCtorEq,false_iff];intro b;have:=b 0 j rfl;rw[Nat.add_zero,h]at this;cases this
  ·rw[zx h,ZA (js:=js)];constructor
   ·intro b k j' c;cases k with
    |zero=>cases c;simpa using h
    |succ k=>rw[show i+(k+1)=i+1+k by omega];exact b k j' c
   ·intro b k j' c;rw[show i+1+k=i+(k+1) by omega];exact b (k+1) j' c
theorem UO{s:UC}:(UE s).2=0<->VSt s:=by
 unfold UE;constructor
 ·intro h;by_cases d:(WB s.1).2.2≠0
  ·rw[zy d]at h;exact absurd h d
  rw[zx d]at h;have v:=YR.1 (Decidable.not_not.1 d);by_cases f:s.2.2<1\/s.2.2>1000001
  ·rw[zy f]at h;cases h
  rw[zx f]at h;by_cases g:s.2.2<=Wk s.1.2
  ·rw[zy g]at h;cases h
  rw[zx g]at h;cases b:W0 s.1 (UJ 0 s.1.2) 0 s.2.1 with
  |some i=>rw[b]at h;cases h
  |none=>
   rw[b]at h;simp only at h;by_cases l:s.2.1.length<(UJ 0 s.1.2).length
   ·rw[zy l]at h;cases h
   have m:=ZA.1 b
   have c:∀ k j,s.2.1[k]?=zo j -> ∃ n,(UJ 0 s.1.2)[k]?=zo j.1/\JobAt s.1 n j:=λk j a=>by
    have:=m k j a;rw[dc]at this;exact(aj v).1 this
   refine⟨v,by omega,by omega,by omega,?_,λj o=> ?_⟩
   ·apply vt;intro k;rw[ns];cases a:s.2.1[k]? with
    |some j=>obtain⟨n,e,_⟩:=c k j a;rw[e];rfl
    |none=>
     have:=List.getElem?_eq_none_iff.1 a;rw[ac (by omega)];rfl
   ·obtain⟨k,a⟩:=ci o;obtain⟨n,_,h⟩:=c k j a;exact⟨n,h⟩
 ·intro v;rw[zx (by simp[YR.2 v.lev]),zx (by have:=v.n1;have:=v.n2;omega),zx (by have:=v.n3;omega)]
  have b:W0 s.1 (UJ 0 s.1.2) 0 s.2.1=zn:=ZA.2 λk j a=>by
   rw[dc];obtain⟨n,p⟩:=v.job j (ad a);exact(aj v.lev).2 ⟨n,by rw[<- v.due,ns,a];rfl,p⟩
  rw[b];simp only;rw[zx (by rw[<- v.due];simp)]
structure Sm (s:UC):Prop where
 lv:s.1.2.length<=1048576
 rs:∀ rs∈s.1.2,rs.length<=1048576 /\ ∀ r∈rs,r.2.length<=9223372036854775807
 js:s.2.1.length<=1048576
theorem u9{s:UC}(m:Sm s):VG s=zo (UE s):=dm s m.lv m.rs m.js
theorem rU{s:UC}(m:Sm s):Ve s=zo (UE s):=dJ s m.lv m.rs m.js
theorem VSt.jlen{s:UC}(v:VSt s):s.2.1.length=(UJ 0 s.1.2).length:=by rw[<- v.due];simp
theorem VSt.jsmall{s:UC}(v:VSt s):s.2.1.length<=12:=by
 have:=v.jlen;have:=Vz s.1.2 0;have:=v.lev.len;omega
theorem VSt.sm{s:UC}(v:VSt s):Sm s:=⟨v.lev.small.1,v.lev.small.2,by have:=v.jsmall;omega⟩
def Zq(x:Int):Nat->List Int->Option Nat
 |_,[]=>zn
 |k,y::l=>if y=x then zo k else Zq x (k+1) l
theorem dk{x:Int}:∀ {l:List Int} {k i:Nat},Zq x k l=zo i->k<=i/\l[i-k]?=zo x
 |[],_,_,h=>by cases h
 |y::l,k,i,h=>by
  unfold Zq at h;by_cases e:y=x
  ·rw[zy e]at h;cases h;simp[e]
  ·rw[zx e]at h;obtain⟨b,a⟩:=dk h;exact⟨by omega,by rw[show i-k=(i-(k+1))+1 by omega];simpa using a⟩
theorem bw{x:Int}:∀ {l:List Int} {k:Nat},x∈l -> ∃ i,Zq x k l=zo i
 |[],_,h=>by cases h
 |y::l,k,h=>by
  unfold Zq;by_cases e:y=x
  ·rw[zy e];exact⟨k,rfl⟩
  ·rw[zx e];exact bw (by rcases bl.1 h with h|h;exact absurd h.symm e;exact h)
def Yb(s:UC)(a:Int):Int×Int:=if(UE s).2≠0 then(0,(UE s).2)else match Zq a 0 (UJ 0 s.1.2)with
 |some i=>((i:Int),0)
 |none=>(0,4)
theorem fy{s:UC}(m:Sm s)(a:Int):WZ (s,a)=zo (Yb s a):=by
 unfold WZ Yb;simp only[UH,UG];rw[u9 m,TA,Ti];by_cases b:(UE s).2=0;rotate_left
 ·rw[zx b,zy b]
 rw[zy b,zx (show ¬ (UE s).2≠0 by simp[b])];have v:=UO.1 b;have x:=v.jsmall;rw[<- v.due];obtain⟨T,g⟩:∃ T,T=Zq a 0 (s.2.1.map (·.1)):=⟨_,rfl⟩;rw[<- g]
 obtain⟨r,q,c⟩:=Wp (l:=s.2.1) (σ:=Unit) (s:=((0:Int),(0:Int))) (λk _=>((0:Int),(k:Int))) (λjs k _=>Zq a k (js.map (·.1))=T) (λ(r:Nat×((Int×Int)×Unit))=>(r.1=1/\T=zn)\/(r.1=0 /\ ∃ i:Nat,T=zo i/\r.2.1.1=(i:Int)))
  (f:=λs1=>br (TK s1.2 (s.2.1.length:Int)) (λ_=>SG s1.2 λp=>ix s.2.1 p λu=>br (Og u.1 a) (λ_=>zo (.dn ((0,((s1.2,s1.2),()))))) λ_=>zo (.nx (s1.1,SV .i64 s1.2 1))) λ_=>zo (.dn ((1,(s1,())))))
  () rfl (by omega) g.symm (λ_ h=>⟨_,by simp only;rw[re];rfl,.inl ⟨rfl,by rw[<- h];rfl⟩⟩) (λk j js _ w n o h=>by
   simp only;rw[rl o,Sp,UB,TS n,Tc];unfold Zq at h;simp only[oy]at h;by_cases e:j.1=a
   ·rw[zy e];rw[zy e]at h;exact .inr ⟨_,rfl,.inr ⟨rfl,k,h.symm,rfl⟩⟩
   ·rw[zx e];rw[zx e]at h
    exact .inl ⟨(),by rw[UN n (by omega)],h⟩)
 refine UZ q ?_;rw[TB];rcases c with⟨c,d⟩|⟨c,i,d,t⟩
 ·rw[zx (show ¬ r.1=0 by omega),d];rfl
 ·rw[zy c,d,t,Th,zx (by omega)]
theorem dK{s:UC}(m:Sm s):WE s=zo (if(UE s).2≠0 then([],(UE s).2)else(UJ 0 s.1.2,0)):=by
 unfold WE;rw[rU m,TA,Ti];by_cases a:(UE s).2=0
 ·rw[zy a,zx (show ¬ (UE s).2≠0 by simp[a]),aS (by have:=(UO.1 a).lev.len;omega),TA]
 ·rw[zx a,zy a]
theorem ZE{s:UC}(m:Sm s)(a:Int):U6 (s,a)=zo (Yb s a):=by
 unfold U6 Yb;simp only[UH,UG];rw[dK m,TA,Ti];by_cases c:(UE s).2=0;rotate_left
 ·rw[zy c,zx c,zy c]
 rw[zx (show ¬ (UE s).2≠0 by simp[c]),zy rfl,zx (show ¬ (UE s).2≠0 by simp[c])];have v:=UO.1 c;have A:=v.jsmall;have p:=v.jlen;obtain⟨b,d⟩:∃ b,b=UJ 0 s.1.2:=⟨_,rfl⟩;rw[<- d]at p ⊢;obtain⟨T,o⟩:∃ T,T=Zq a 0 b:=⟨_,rfl⟩;rw[<- o];simp only
 obtain⟨r,w,g⟩:=Wp (l:=b) (σ:=Unit) (s:=((0:Int),((0:Int),(0:Int)))) (λk _=>((0:Int),((0:Int),(k:Int)))) (λjs k _=>Zq a k js=T) (λ(r:Nat×((Int×(Int×Int))×Unit))=>(r.1=1/\T=zn)\/(r.1=0 /\ ∃ i:Nat,T=zo i/\r.2.1.2.1=(i:Int)/\r.2.1.1=0))
  (f:=λs1=>br (TK s1.2.2 (b.length:Int)) (λ_=>SG s1.2.2 λu=>ix b u λz=>br (Og z a) (λ_=>zo (.dn ((0,((0,(s1.2.2,s1.2.2)),()))))) λ_=>zo (.nx ((s1.1,(s1.2.1,SV .i64 s1.2.2 1))))) λ_=>zo (.dn ((1,(s1,())))))
  () rfl (by omega) o.symm (λ_ h=>⟨_,by simp only;rw[re];rfl,.inl ⟨rfl,by rw[<- h];rfl⟩⟩) (λk j js _ p q t h=>by
   simp only;rw[rl t,Sp,UB,TS q,Tc];unfold Zq at h;by_cases e:j=a
   ·rw[zy e];rw[zy e]at h;exact .inr ⟨_,rfl,.inr ⟨rfl,k,h.symm,rfl,rfl⟩⟩
   ·rw[zx e];rw[zx e]at h
    exact .inl ⟨(),by rw[UN q (by omega)],h⟩)
 refine UZ w ?_;rw[TB];rcases g with⟨g,n⟩|⟨g,i,n,x,y⟩
 ·rw[zx (show ¬ r.1=0 by omega),n]
 ·rw[zy g,n,x,y]
end
section
open Go Sv
def UY(L:UF)(j:Job):Nat:=match L.2[j.1.toNat]? with
 |some [r0,r1]=>r1.2.length+r0.2.length-j.2.2.2.2.toNat
 |_=>0
def WC(L:UF)(j:Job):Bool:=decide ((j.2.2.2.1.length:Int)<=VC L.1 j.1.toNat)
def ZV(L:UF)(n:Nat):Bool:=decide (n<12/\((L.2[n]?).getD []).length<2)
def WR(L:UF)(j:Job):Bool:=decide (0<UY L j)||(WC L j||ZV L (j.1.toNat+1))
def bI(s:UC)(a:Int):Option Job:=match Zq a 0 (UJ 0 s.1.2)with
 |some i=>s.2.1[i]?
 |none=>zn
theorem VSt.at{s:UC}(v:VSt s){a:Int}{i:Nat}(h:Zq a 0 (UJ 0 s.1.2)=zo i):∃ (j:Job) (n:Nat),s.2.1[i]?=zo j/\a=(n:Int)/\j.1=(n:Int)/\JobAt s.1 n j/\n<s.1.2.length:=by
 obtain⟨_,b⟩:=dk h;rw[iz]at b;rw[<- v.due,ns]at b;cases c:s.2.1[i]? with
 |none=>rw[c]at b;cases b
 |some j=>
  rw[c]at b;simp only[vv,Option.some.injEq]at b;obtain⟨n,g⟩:=v.job j (ad c);have d:=g;obtain⟨o,p,m,k,l,e,_⟩:=g;have f:j.1=(n:Int):=by rw[e]
  exact⟨j,n,rfl,by rw[<- b,f],f,d,(aa.1 l).1⟩
theorem JobAt.left{L:UF}{n:Nat}{j:Job}(h:JobAt L n j):U1 j.2=zo ((UY L j:Int),0)/\Ug j.2=zo ((UY L j:Int),0)/\UY L j<=10000:=by
 obtain⟨b,c,a,k,i,rfl,g,_,d,f⟩:=h;have l:=d.len;have m:=f.len
 have e:UY L ((n:Int),Vo c.2 b.2 a k)=c.2.length+b.2.length-k:=by
  unfold UY;simp only[ab,i];show c.2.length+b.2.length-((k:Int)).toNat=_;rw[ab]
 rw[e];exact⟨aJ f d a g,Zf f d a g,by omega⟩
theorem gj{L:UF}(v:VLev L){n:Nat}(c:n<12):Xe (L.1,(n:Int))=zo (VC L.1 n,0):=by
 have a:=v.B1;have b:=v.B2;unfold Xe;rw[Th,zx (by omega),Te,zx (by omega),Th,zx (by omega),Td,zx (by omega),aC a b (by omega)];have:SC (n:Int) 0=zt:=by unfold SC;simp
 rw[this];rfl
theorem jf{L:UF}(v:VLev L){n:Nat}(c:n<12):X9 (L.1,(n:Int))=zo (VC L.1 n,0):=by
 have a:=v.B1;have b:=v.B2;unfold X9;rw[Th,zx (by omega),Te,zx (by omega),Th,zx (by omega),Td,zx (by omega),dN a b (by omega),TA]
theorem cE{L:UF}(v:VLev L)(k:Int):W4 (L,k)=zo (if k<0\/k>=12 then 7 else 0):=by
 obtain⟨c,d⟩:=v.small;unfold W4;rw[Zb _ c d,XS v,TA,Ti,zy rfl,Th,Td];by_cases a:k<0
 ·rw[zy a,zy (.inl a)]
 ·rw[zx a];by_cases b:k>=12
  ·rw[zy b,zy (.inr b)]
  ·rw[zx b,zx (by omega)]
theorem jU(l:List Ua):TK (l.length:Int) 2=decide (l.length<2):=by
 unfold TK;rw[decide_eq_decide];omega
theorem gi{L:UF}(v:VLev L){n:Nat}(d:n<=12):Xd (L,(n:Int))=zo (ZV L n,if n>=12 then 7 else 0):=by
 unfold Xd ZV;simp only[UH,UG];rw[cE v,TA,Ti];by_cases h:n>=12
 ·rw[zy (show(n:Int)<0\/(n:Int)>=12 by omega),zx (by decide),zy h];simp;omega
 ·rw[zx (show ¬ ((n:Int)<0\/(n:Int)>=12) by omega),zy rfl,zx h,Th];have a:n<12:=by omega
  by_cases c:n<L.2.length
  ·have b:L.2[n]?=zo (L.2[n]'c):=by simp
   rw[zy (by omega),UB,TS b,b,jU,eb];simp[a]
  ·rw[zx (by omega),ac (by omega)];simp[a]
theorem jm{s:UC}(v:VLev s.1){n:Nat}(c:n<12):YA (s,(n:Int))=zo (ZV s.1 (n+1)):=by
 unfold YA ZV;simp only[UH,UG];rw[UK (by omega),Th];by_cases h:n+1<12
 ·rw[zy (by omega),Td];by_cases b:n+1<s.1.2.length
  ·have a:s.1.2[n+1]?=zo (s.1.2[n+1]'b):=by simp
   rw[zx (by omega),UB,TS a,a,jU,eb];simp[h]
  ·rw[zy (by omega),ac (by omega)];simp[h]
 ·rw[zx (by omega)];simp;omega
abbrev vC:=UC×(Job×Int)
theorem bG{s:UC}(v:VLev s.1){n:Nat}{j:Job}(a:j.1=(n:Int))(b:n<12)(l:Int):Ul (s,(j,l))=zo (WC s.1 j):=by
 unfold Ul WC;simp only[UH,UG];rw[a,gj v b,TA,Tc,zy rfl,ab];rfl
theorem bZ{s:UC}(v:VLev s.1){n:Nat}{j:Job}(a:j.1=(n:Int))(b:n<12):WQ (s,j)=zo (WC s.1 j):=by
 unfold WQ WC;simp only[UH,UG];rw[a,jf v b,TA,ab];rfl
theorem jj{s:UC}(v:VLev s.1){n:Nat}{j:Job}(a:j.1=(n:Int))(b:n<12)(l:Int):Vq (s,(j,l))=zo (ZV s.1 (n+1)):=by
 unfold Vq;simp only;rw[a,UK (by omega),gi v (by omega),TA,Tc];by_cases h:n+1>=12
 ·rw[zy h,zx (show ¬ (7:Int)=0 by decide)];unfold ZV;simp;omega
 ·rw[zx h,zy rfl]
theorem bo{s:UC}(v:VLev s.1){n:Nat}{j:Job}(a:j.1=(n:Int))(b:n<12)(l:Nat)(d:l=UY s.1 j):Ux (s,(j,(l:Int)))=zo (WR s.1 j):=by
 have c:Uc (s,(j,(l:Int)))=zo (decide (0<UY s.1 j)):=by
  unfold Uc TI;rw[d];simp
 have e1:=bG v a b (l:Int);have e2:=jj v a b (l:Int);unfold Ux WR;rw[c,e1,e2,a,ab];simp only[TA];cases e:decide (0<UY s.1 j)with
 |true=>exact UZ (x:=(0,((0,zt),()))) (VS (n:=1) (by omega) (Uk rfl)) rfl
 |false=>
  cases f:WC s.1 j with
  |true=>exact UZ (x:=(0,((1,zt),()))) (VS (n:=2) (by omega) ((Ue (s':=(1,zf)) rfl).trans (Uk rfl))) rfl
  |false=>
   cases g:ZV s.1 (n+1)with
   |true=>exact UZ (x:=(0,((2,zt),()))) (VS (n:=3) (by omega) ((Ue (s':=(1,zf)) rfl).trans ((Ue (s':=(2,zf)) rfl).trans (Uk rfl)))) rfl
   |false=>exact UZ (x:=(1,((3,zf),()))) (VS (n:=4) (by omega) ((Ue (s':=(1,zf)) rfl).trans ((Ue (s':=(2,zf)) rfl).trans ((Ue (s':=(3,zf)) rfl).trans (Uk rfl))))) rfl
end
section
open Go Sv
def W9{α:Type}(z:α)(f:UC->Job->α×Int)(s:UC)(a:Int):α×Int:=if(UE s).2≠0 then(z,(UE s).2)else match bI s a with
 |some j=>f s j
 |none=>(z,4)
def z0:vC:=(((0,[]),([],0)),((0,(([],([],([],([],0)))),((zf,([],zf)),([],0)))),0))
theorem cX{s:UC}(m:Sm s)(a:Int):VY (s,a)=zo (W9 z0 (λs j=>((s,(j,(UY s.1 j:Int))),0)) s a):=by
 unfold VY;rw[fy m,TA];unfold W9 bI Yb;by_cases b:(UE s).2=0;rotate_left
 ·rw[zy b,Ti,zx b,zy b];rfl
 rw[zx (show ¬ (UE s).2≠0 by simp[b]),zx (show ¬ (UE s).2≠0 by simp[b])];have v:=UO.1 b;cases e:Zq a 0 (UJ 0 s.1.2)with
 |none=>rfl
 |some i=>
  obtain⟨j,n,c,g,f,d,h⟩:=v.at e;simp only;rw[Ti,zy rfl,UB,TS c,c,(JobAt.left d).1,TA]
theorem rH{s:UC}(m:Sm s)(a:Int):Xc (s,a)=zo (W9 zf (λs j=>(WR s.1 j,0)) s a):=by
 unfold Xc;rw[cX m,TA];unfold W9;by_cases b:(UE s).2=0;rotate_left
 ·rw[zy b,Ti,zx b,zy b]
 rw[zx (show ¬ (UE s).2≠0 by simp[b]),zx (show ¬ (UE s).2≠0 by simp[b])];have v:=UO.1 b;unfold bI;cases d:Zq a 0 (UJ 0 s.1.2)with
 |none=>rfl
 |some i=>
  obtain⟨j,n,e,g,c,f,h⟩:=v.at d;have:=v.lev.len;simp only[e];rw[Ti,zy rfl,bo v.lev c (by omega) _ rfl,TA]
theorem ZO{s:UC}(m:Sm s)(a:Int):Vb (s,a)=zo (W9 0 (λs j=>((UY s.1 j:Int),0)) s a):=by
 unfold Vb;rw[ZE m,TA];unfold W9 bI Yb;by_cases b:(UE s).2=0;rotate_left
 ·rw[zy b,Ti,zx b,zy b]
 rw[zx (show ¬ (UE s).2≠0 by simp[b]),zx (show ¬ (UE s).2≠0 by simp[b])];have v:=UO.1 b;cases e:Zq a 0 (UJ 0 s.1.2)with
 |none=>rfl
 |some i=>
  obtain⟨j,n,c,g,f,d,h⟩:=v.at e;simp only[c];rw[Ti,zy rfl,UB,TS c,(JobAt.left d).2.1,TA]
theorem cJ{s:UC}(m:Sm s)(a:Int):Wa (s,a)=zo (W9 zf (λs j=>(WR s.1 j,0)) s a):=by
 unfold Wa;rw[ZO m,TA,ZE m,TA];unfold W9;by_cases b:(UE s).2=0;rotate_left
 ·rw[zy b,Ti,zx b,zy b]
 rw[zx (show ¬ (UE s).2≠0 by simp[b]),zx (show ¬ (UE s).2≠0 by simp[b])];have v:=UO.1 b;unfold bI Yb;cases f:Zq a 0 (UJ 0 s.1.2)with
 |none=>rfl
 |some i=>
  obtain⟨j,n,e,g,c,h,k⟩:=v.at f;have:=v.lev.len;rw[zx (show ¬ (UE s).2≠0 by simp[b])];simp only[e];rw[Ti,zy rfl,Te,UB,TS e,bZ v.lev c (by omega),TA,g,jm v.lev (by omega),TA];unfold WR;rw[c,ab];by_cases d:0<UY s.1 j
  ·rw[zy (by omega)];simp[d]
  ·rw[zx (by omega)];cases WC s.1 j<;>simp[d,Sp,SM]
def Z3(s:UC)(j:Job):Int×Int:=if 0<UY s.1 j then(0,9)else if WC s.1 j=zt then(j.1,0)else(j.1+1,0)
theorem sF{s:UC}(m:Sm s)(a:Int):Yc (s,a)=zo (W9 0 Z3 s a):=by
 unfold Yc;rw[cX m,TA];unfold W9;by_cases b:(UE s).2=0;rotate_left
 ·rw[zy b,Ti,zx b,zy b]
 rw[zx (show ¬ (UE s).2≠0 by simp[b]),zx (show ¬ (UE s).2≠0 by simp[b])];have v:=UO.1 b;unfold bI;cases f:Zq a 0 (UJ 0 s.1.2)with
 |none=>rfl
 |some i=>
  obtain⟨j,n,g,h,c,k,l⟩:=v.at f;have:=v.lev.len;simp only[g];unfold Uc Z3;rw[Ti,zy rfl,TA,Te,bG v.lev c (by omega),TA,h,UK (by omega),c];by_cases e:0<UY s.1 j
  ·rw[zy (show((UY s.1 j:Int))>0 by omega),zy e]
  ·rw[zx (show ¬ ((UY s.1 j:Int))>0 by omega),zx e,Tn];by_cases d:WC s.1 j=zt
   ·rw[zy d,zy d]
   ·rw[zx d,zx d];rfl
theorem dz{s:UC}(m:Sm s)(a:Int):XN (s,a)=zo (W9 0 Z3 s a):=by
 unfold XN;rw[ZO m,TA,ZE m];unfold W9;by_cases b:(UE s).2=0;rotate_left
 ·rw[zy b,Tc,zx b,Ti,zx b,zy b]
 rw[zx (show ¬ (UE s).2≠0 by simp[b]),zx (show ¬ (UE s).2≠0 by simp[b])];have v:=UO.1 b;unfold bI Yb;cases g:Zq a 0 (UJ 0 s.1.2)with
 |none=>rfl
 |some i=>
  obtain⟨j,n,f,h,c,k,l⟩:=v.at g;have:=v.lev.len;rw[zx (show ¬ (UE s).2≠0 by simp[b])];simp only[f];unfold Z3;rw[Tc,zy rfl,Te];by_cases e:0<UY s.1 j
  ·rw[zy (show((UY s.1 j:Int))>0 by omega),zy e]
  ·rw[zx (show ¬ ((UY s.1 j:Int))>0 by omega),zx e,Ti,zy rfl,TA,UB,TS f,bZ v.lev c (by omega),TA,Tn,h,UK (by omega),c];by_cases d:WC s.1 j=zt
   ·rw[zy d,zy d]
   ·rw[zx d,zx d];rfl
theorem ot{s:UC}(m:Sm s):XC s=zo (if(UE s).2≠0 then([],(UE s).2)else(UJ 0 s.1.2,0)):=by
 unfold XC;simp only[UH,UG];rw[u9 m,TA,Ti];by_cases a:(UE s).2=0;rotate_left
 ·rw[zx a,zy a]
 rw[zy a,zx (show ¬ (UE s).2≠0 by simp[a])];have f:=(UO.1 a).lev.len
 rw[Vl (l:=s.1.2) (σ:=List Int) (s:=((0:Int),([]:List Int))) (λi m=>((i:Int),m)) (λls i m=>m++UJ i ls=UJ 0 s.1.2) (λ_ _ _=>(0,(((s.1.2.length:Int),UJ 0 s.1.2),()))) [] rfl (by omega) rfl (λm h=>by
  simp only;rw[re,SM,<- h];simp[UJ]) (λi rs ls m e c hi h=>by
   refine⟨m++(if rs.length=2 then[(i:Int)]else[]),?_,?_,rfl⟩
   ·simp only;rw[rl hi,Sp,UB,TS c,Tc]
    have g:m.length<=1000:=by
     have b:=congrArg rz h;have d:=Vz s.1.2 0;rw[hV]at b;omega
    by_cases b:rs.length=2
    ·rw[zy (by omega),zy b,Ur (by simp only[BC,ae,a8];omega),UN c (by omega)];rfl
    ·rw[zx (by omega),zx b,co,UN c (by omega)]
   ·rw[bc];exact h),TA]
def WX(s:UC):List Int->Option Int
 |[]=>zn
 |d::l=>if(W9 zf (λs j=>(WR s.1 j,0)) s d).1=zt then zo d else WX s l
def U0(s:UC):Int×Int:=if(UE s).2≠0 then(0,(UE s).2)else if UJ 0 s.1.2=[]then(0,4)else match WX s (UJ 0 s.1.2)with
 |some d=>(d,0)
 |none=>(0,9)
theorem VSt.atDue{s:UC}(v:VSt s){d:Int}(h:d∈UJ 0 s.1.2):∃ (j:Job) (n:Nat),bI s d=zo j/\d=(n:Int)/\j.1=(n:Int)/\JobAt s.1 n j/\n<s.1.2.length:=by
 obtain⟨i,b⟩:=bw (k:=0) h;obtain⟨j,n,e,f,a,c,g⟩:=v.at b;exact⟨j,n,by unfold bI;rw[b];exact e,f,a,c,g⟩
theorem oN{s:UC}(m:Sm s):Uw s=zo (U0 s):=by
 unfold Uw U0;rw[ot m,TA];by_cases a:(UE s).2=0;rotate_left
 ·rw[zy a,Ti,zx a,zy a]
 rw[zx (show ¬ (UE s).2≠0 by simp[a]),zx (show ¬ (UE s).2≠0 by simp[a]),Ti,zy rfl];have v:=UO.1 a;have z:(UJ 0 s.1.2).length<=12:=by have:=Vz s.1.2 0;have:=v.lev.len;omega
 simp only[UH,UG];rw[Tc];by_cases b:UJ 0 s.1.2=[]
 ·rw[zy (by rw[b];rfl),zy b]
 rw[zx (by have:=cP.2 b;omega),zx b];obtain⟨T,q⟩:∃ T,T=WX s (UJ 0 s.1.2):=⟨_,rfl⟩;rw[<- q]
 obtain⟨r,C,u⟩:=Wp (l:=UJ 0 s.1.2) (σ:=Unit) (s:=((0:Int),(zf,((0:Int),(0:Int))))) (λk _=>((0:Int),(zf,((k:Int),(0:Int))))) (λl k _=>WX s l=T) (λ(r:Nat×((Int×(Bool×(Int×Int)))×Unit))=>r.1=1/\((T=zn/\r.2.1.2.1=zf)\/(∃ d,T=zo d/\r.2.1.2.1=zt/\r.2.1.2.2.2=d)))
  (f:=λs1=>br (TK s1.2.2.1 ((UJ 0 s.1.2).length:Int)) (λ_=>SG s1.2.2.1 λB=>ix (UJ 0 s.1.2) B λw=>bd (VY (s,w)) λp=>br (SD p.2 0) (λ_=>zo (.dn ((0,((p.2,(s1.2.1,(s1.2.2.1,0))),()))))) λ_=>bd (Ux p.1) λE=>br E (λ_=>zo (.dn ((1,((s1.1,(zt,(s1.2.2.1,w))),()))))) λ_=>zo (.nx ((s1.1,(s1.2.1,(SV .i64 s1.2.2.1 1,s1.2.2.2)))))) λ_=>zo (.dn ((1,(s1,())))))
  () rfl (by omega) q.symm (λ_ h=>⟨_,by simp only;rw[re];rfl,rfl,.inl ⟨by rw[<- h];rfl,rfl⟩⟩) (λk d l _ G i A h=>by
   simp only;obtain⟨j,n,t,I,g,F,b⟩:=v.atDue (ad i);have:=v.lev.len;unfold WX at h;have x:W9 zf (λs j=>(WR s.1 j,0)) s d=(WR s.1 j,0):=by unfold W9;rw[zx (show ¬ (UE s).2≠0 by simp[a]),t]
   have y:W9 z0 (λs j=>((s,(j,(UY s.1 j:Int))),0)) s d=((s,(j,(UY s.1 j:Int))),0):=by unfold W9;rw[zx (show ¬ (UE s).2≠0 by simp[a]),t]
   rw[x]at h;rw[rl A,Sp,UB,TS i,cX m,y,TA,Ti,zy rfl,bo v.lev g (by omega) _ rfl,TA,Tn];by_cases e:WR s.1 j=zt
   ·rw[zy e];rw[zy e]at h;exact .inr ⟨_,rfl,rfl,.inr ⟨d,h.symm,rfl,rfl⟩⟩
   ·rw[zx e];rw[zx e]at h
    exact .inl ⟨(),by rw[UN i (by omega)],h⟩)
 refine UZ C ?_;obtain⟨u,c⟩:=u;rw[TB,zx (show ¬ r.1=0 by omega),Uv,Tn];rcases c with⟨c,o⟩|⟨d,c,o,D⟩
 ·rw[zx (by simp[o]),c]
 ·rw[zy o,c,D]
theorem gn{s:UC}(m:Sm s):VI s=zo (U0 s):=by
 unfold VI U0;rw[dK m,TA];by_cases a:(UE s).2=0;rotate_left
 ·rw[zy a,Ti,zx a,zy a]
 rw[zx (show ¬ (UE s).2≠0 by simp[a]),zx (show ¬ (UE s).2≠0 by simp[a]),Ti,zy rfl];have v:=UO.1 a;have o:(UJ 0 s.1.2).length<=12:=by have:=Vz s.1.2 0;have:=v.lev.len;omega
 simp only[UH,UG];rw[Tc];by_cases b:UJ 0 s.1.2=[]
 ·rw[zy (by rw[b];rfl),zy b]
 rw[zx (by have:=cP.2 b;omega),zx b];obtain⟨T,n⟩:∃ T,T=WX s (UJ 0 s.1.2):=⟨_,rfl⟩;rw[<- n]
 obtain⟨r,u,c⟩:=Wp (l:=UJ 0 s.1.2) (σ:=Unit) (s:=((0:Int),((0:Int),(0:Int)))) (λk _=>((0:Int),((0:Int),(k:Int)))) (λl k _=>WX s l=T) (λ(r:Nat×((Int×(Int×Int))×Unit))=>(r.1=1/\T=zn)\/(r.1=0 /\ ∃ d,T=zo d/\r.2.1.2.1=d/\r.2.1.1=0))
  (f:=λs1=>br (TK s1.2.2 ((UJ 0 s.1.2).length:Int)) (λ_=>SG s1.2.2 λq=>ix (UJ 0 s.1.2) q λz=>bd (Wa (s,z)) λy=>br y.1 (λ_=>SG s1.2.2 λt=>ix (UJ 0 s.1.2) t λA=>zo (.dn ((0,((0,(A,s1.2.2)),()))))) λ_=>zo (.nx ((s1.1,(s1.2.1,SV .i64 s1.2.2 1))))) λ_=>zo (.dn ((1,(s1,())))))
  () rfl (by omega) n.symm (λ_ h=>⟨_,by simp only;rw[re];rfl,.inl ⟨rfl,by rw[<- h];rfl⟩⟩) (λk d l _ B g p h=>by
   simp only;unfold WX at h;rw[rl p,Sp,UB,TS g,cJ m,TA,Tn,UB,TS g];by_cases e:(W9 zf (λs j=>(WR s.1 j,0)) s d).1=zt
   ·rw[zy e];rw[zy e]at h;exact .inr ⟨_,rfl,.inr ⟨rfl,d,h.symm,rfl,rfl⟩⟩
   ·rw[zx e];rw[zx e]at h
    exact .inl ⟨(),by rw[UN g (by omega)],h⟩)
 refine UZ u ?_;rw[TB];rcases c with⟨c,i⟩|⟨c,d,i,w,x⟩
 ·rw[zx (show ¬ r.1=0 by omega),i]
 ·rw[zy c,i,w,x]
end
section
open Go Sv
theorem oY{β:Type}(k:Unit->Option β):gd zt k=k ():=rfl
def UI(l:List (List Ua))(i:Nat):List Ua:=(l[i]?).getD []
def Yn(l:List (List Ua)):Nat->Nat
 |0=>0
 |k+1=>if UI l k=[]then Yn l k else k+1
def Yj(l:List (List Ua))(n:Nat):List (List Ua):=l++xo (n+1-l.length) []
def W2(l:List (List Ua))(n:Nat)(r:List Ua):List (List Ua):=(Yj l n).set n r
def YK(l:List (List Ua)):List (List Ua):=l.take (Yn l l.length)
def U9(L:UF)(n:Nat)(r:List Ua):UF:=(L.1,YK (W2 L.2 n r))
theorem bq(l:List (List Ua)):∀ k,Yn l k<=k
 |0=>a9 _
 |k+1=>by
  unfold Yn;split
  ·exact Nat.le_succ_of_le (bq l k)
  ·exact a9 _
theorem af(l:List (List Ua)):∀ {k i:Nat},Yn l k<=i->i<k->UI l i=[]
 |0,_,_,h=>by omega
 |k+1,i,h1,h2=>by
  unfold Yn at h1;split at h1
  ·rename_i a;by_cases hi:i=k
   ·rw[hi];exact a
   ·exact af l h1 (by omega)
  ·omega
theorem bM(l:List (List Ua)):∀ {k m:Nat},Yn l k=m+1->UI l m≠[]
 |0,m,h=>by cases h
 |k+1,m,h=>by
  unfold Yn at h;split at h
  ·exact bM l h
  ·rename_i a;have:m=k:=by omega
   rw[this];exact a
theorem bX(l:List (List Ua))(i:Nat):UI (YK l) i=UI l i:=by
 unfold YK;by_cases h:i<Yn l l.length
 ·unfold UI;rw[hM,zy h]
 ·have a:UI (l.take (Yn l l.length)) i=[]:=by
   unfold UI;rw[hM,zx h];rfl
  rw[a];by_cases b:i<l.length
  ·exact(af l (by omega) b).symm
  ·unfold UI;rw[ac (by omega)];rfl
theorem fe(l:List (List Ua)):(YK l).getLast? ≠ zo []:=by
 have c:(YK l).length=Yn l l.length:=by
  have:=bq l l.length;unfold YK;rw[xa];omega
 cases a:Yn l l.length with
 |zero=>
  have:YK l=[]:=List.length_eq_zero_iff.1 (by rw[c,a]);rw[this];simp
 |succ m=>
  have d:=bM l a;rw[nm,c,a];intro e;have b:UI (YK l) m=[]:=by unfold UI;rw[show m=m+1-1 by omega,e];rfl
  rw[bX]at b;exact d b
theorem ZD(l:List (List Ua))(n:Nat):(Yj l n).length=max l.length (n+1):=by
 unfold Yj;simp;omega
theorem dC(l:List (List Ua))(n i:Nat):UI (Yj l n) i=UI l i:=by
 unfold UI Yj;by_cases h:i<l.length
 ·rw[List.getElem?_append_left h]
 ·rw[List.getElem?_append_right (by omega),List.getElem?_replicate,ac (l:=l) (by omega)];split<;>rfl
theorem dG(l:List (List Ua))(n i:Nat)(r:List Ua):UI (W2 l n r) i=if i=n then r else UI l i:=by
 unfold W2;by_cases h:i=n
 ·rw[zy h,h];have:=ZD l n;unfold UI;rw[List.getElem?_set_self (by omega)];rfl
 ·rw[zx h];unfold UI;rw[List.getElem?_set_ne (λe=>h e.symm)];exact dC l n i
theorem W7(L:UF)(n i:Nat)(r:List Ua):UI (U9 L n r).2 i=if i=n then r else UI L.2 i:=by
 show UI (YK _) i=_;rw[bX,dG]
theorem ff(L:UF)(n:Nat)(r:List Ua):(U9 L n r).2.getLast? ≠ zo []:=fe _
theorem i8(L:UF)(n:Nat)(r:List Ua):(U9 L n r).2.length<=max L.2.length (n+1):=by
 show(YK _).length<=_;unfold YK;rw[xa];have:(W2 L.2 n r).length=max L.2.length (n+1):=by unfold W2;rw[xn,ZD]
 omega
theorem gX(l:List (List Ua)):(YK l).flatten=l.flatten:=by
 have h:l=YK l++l.drop (Yn l l.length):=(ta _ _).symm
 have a:(l.drop (Yn l l.length)).flatten=[]:=by
  rw[s7];intro x c;obtain⟨i,hi⟩:=ci c;rw[List.getElem?_drop]at hi;have b:=(aa.1 hi).1;have:=af l (k:=l.length) (i:=Yn l l.length+i) (by omega) b;unfold UI at this;rw[hi]at this;exact this
 conv=>rhs;rw[h,ll,a,co]
theorem jL(l:List (List Ua))(n:Nat):(Yj l n).flatten=l.flatten:=by
 unfold Yj;rw[ll]
 have:(xo (n+1-l.length) ([]:List Ua)).flatten=[]:=by
  rw[s7];intro x a;exact(List.mem_replicate.1 a).2
 rw[this,co]
theorem YE(L:UF)(n:Nat)(r:List Ua):∃ p q,L.2.flatten=p++(UI L.2 n++q)/\(U9 L n r).2.flatten=p++(r++q):=by
 have a:n<(Yj L.2 n).length:=by rw[ZD];omega
 refine⟨((Yj L.2 n).take n).flatten,((Yj L.2 n).drop (n+1)).flatten,?_,?_⟩
 ·rw[<- dC L.2 n n,<- jL L.2 n]
  have:Yj L.2 n=(Yj L.2 n).take n++((Yj L.2 n)[n]::(Yj L.2 n).drop (n+1)):=by
   rw[<- sr a,ta]
  have b:UI (Yj L.2 n) n=(Yj L.2 n)[n]:=by unfold UI;rw[ba a];rfl
  rw[b]
  conv=>lhs;rw[this]
  rw[ll,sp]
 ·show(YK (W2 L.2 n r)).flatten=_;rw[gX];unfold W2;rw[List.set_eq_take_append_cons_drop,zy a,ll,sp]
theorem VLev.own{L:UF}(v:VLev L)(i:Nat):(UI L.2 i).length<=2 /\ ∀ r∈UI L.2 i,VR (VC L.1 i) r:=by
 unfold UI;cases h:L.2[i]? with
 |none=>exact⟨by simp,λr a=>by cases a⟩
 |some rs=>exact v.lev i rs h
theorem VLev.with'{L:UF}(v:VLev L){n:Nat}(f:n<12){r:List Ua}(d:r.length<=2)(e:∀ x∈r,VR (VC L.1 n) x)(b:((U9 L n r).2.flatten.map pP).Nodup):VLev (U9 L n r):=by
 refine⟨v.B1,v.B2,?_,λi rs hi=> ?_,b,ff L n r⟩
 ·have:=i8 L n r;have:=v.len;omega
 ·have a:=W7 L n i r;unfold UI at a;rw[hi]at a;simp only[eb]at a;rw[a];split
  ·rename_i c;rw[c];exact⟨d,e⟩
  ·exact v.own i
theorem VLev.leave{L:UF}(v:VLev L){n:Nat}(c:n<12):VLev (U9 L n []):=by
 refine v.with' c (by simp) (λ_ h=>by cases h) ?_
 obtain⟨p,q,a,b⟩:=YE L n [];have:=v.ids;rw[a]at this;rw[b,hU];refine sk.nodup (sk.map _ ?_) this;exact sk.append (sk.refl _) (List.sublist_append_right _ _)
theorem VLev.arrive{L:UF}(v:VLev L){n:Nat}(g:n<12){x:Ua}(j:(UI L.2 n).length<2)(i:VR (VC L.1 n) x)(b:∀ y∈L.2.flatten,y.1≠x.1):VLev (U9 L n (UI L.2 n++[x])):=by
 refine v.with' g (by simp;omega) (λy hy=> ?_) ?_
 ·rcases gM.1 hy with hy|hy
  ·exact(v.own n).2 y hy
  ·rw[sa.1 hy];exact i
 ·obtain⟨p,q,c,d⟩:=YE L n (UI L.2 n++[x])
  have h:(U9 L n (UI L.2 n++[x])).2.flatten.Perm (x::L.2.flatten):=by
   rw[c,d,bc];refine List.Perm.trans ?_ (List.perm_middle (l₁:=p++UI L.2 n) (l₂:=q) (a:=x) |>.trans (by rw[bc]));rw[bc];exact List.Perm.refl _
  refine(h.map pP).nodup_iff.2 (l6.2 ⟨λf=> ?_,v.ids⟩);obtain⟨y,hy,e⟩:=l5.1 f;exact b y hy e
theorem ao{l:List (List Ua)}{x:Ua}:x∈l.flatten <-> ∃ i,x∈UI l i:=by
 rw[gl];constructor
 ·rintro⟨rs,a,b⟩;obtain⟨i,hi⟩:=ci a;exact⟨i,by unfold UI;rw[hi];exact b⟩
 ·rintro⟨i,h⟩;unfold UI at h;cases hi:l[i]? with
  |none=>rw[hi]at h;cases h
  |some rs=>rw[hi]at h;exact⟨rs,ad hi,h⟩
theorem Zs{l:List (List Ua)}{x:Ua}(h:x∈l.flatten):x.1<=Wk l:=by
 have d:∀ (rs:List Ua) (m:Int),m<=rs.foldl (λm r=>Tq m r.1) m /\ ∀ x∈rs,x.1<=rs.foldl (λm r=>Tq m r.1) m:=by
  intro rs
  induction rs with
  |nil=>intro m;exact⟨by simp,λx hx=>by cases hx⟩
  |cons r rs c=>
   intro m;obtain⟨b,a⟩:=c (Tq m r.1);rw[YC]at b a;simp only[ed,YC]at b a ⊢;refine⟨by omega,λx hx=> ?_⟩;rcases bl.1 hx with e|hx
   ·rw[e];omega
   ·exact a x hx
 have two:∀ (ls:List (List Ua)) (m:Int),m<=ls.foldl (λm rs=>rs.foldl (λm r=>Tq m r.1) m) m /\ ∀ rs∈ls,∀ x∈rs,x.1<=ls.foldl (λm rs=>rs.foldl (λm r=>Tq m r.1) m) m:=by
  intro ls
  induction ls with
  |nil=>intro m;exact⟨by simp,λx hx=>by cases hx⟩
  |cons rs ls c=>
   intro m;obtain⟨b,a⟩:=c (rs.foldl (λm r=>Tq m r.1) m);obtain⟨i,g⟩:=d rs m;simp only[ed];refine⟨by omega,λf hrs x hx=> ?_⟩;rcases bl.1 hrs with e|hrs
   ·subst e;have:=g x hx;omega
   ·exact a f hrs x hx
 obtain⟨rs,b,a⟩:=gl.1 h;exact(two l 0).2 rs b x a
end
section
open Go Sv
theorem bN{M:List (List Ua)}{f:Int->Option (LR Int (Nat×(Int×Unit)))}(a:f 0=zo (.dn (0,(0,()))))(hs:∀ k,k<M.length->f ((k+1:Nat):Int)=if UI M k=[]then zo (.nx (k:Int))else zo (.dn (0,(((k+1:Nat):Int),())))):∀ k,k<=M.length->IQ (k+1) f (k:Int)=zo (0,((Yn M k:Nat):Int),())
 |0,_=>Uk a
 |k+1,hk=>by
  have h:=hs k (by omega);unfold Yn;by_cases b:UI M k=[]
  ·rw[zy b]at h ⊢;rw[Ue h];exact bN a hs k (by omega)
  ·rw[zx b]at h ⊢;exact Uk h
theorem rS(L:List (List Ua))(n:Nat):LI (Rn (max L.length (n+1)) ([]:List Ua)) 0 L (AQ (Rn (max L.length (n+1)) ([]:List Ua)))=Yj L n:=by
 have a:AQ (Rn (max L.length (n+1)) ([]:List Ua))=max L.length (n+1):=by unfold AQ Rn;simp
 rw[a];unfold LI Yj Rn;rw[en (by omega:L.length<=max L.length (n+1))]
 grind
theorem jT(l:List (List Ua))(n:Nat)(r:List Ua):lset (Yj l n) n r=W2 l n r:=rfl
theorem Wl{l:List (List Ua)}{i:Nat}(h:i<l.length):l[i]?=zo (UI l i):=by
 unfold UI;simp_all
theorem cB{β:Type}(l:List Ua)(x y:Unit->Option β):br (Og (l.length:Int) 0) x y=if l=[]then x ()else y ():=by
 simp_all[Tc,zy,zx]
theorem aF{L:UF}(i:L.2.length<=1000){n:Nat}(j:n<1000)(r:List Ua):WI (L,((n:Int),r))=zo (U9 L n r):=by
 have b:Tq (Ko (AQ L.2)) (SV .i64 (n:Int) 1)=((max L.2.length (n+1):Nat):Int):=by
  grind [UK,YC,UH,UG]
 unfold WI;simp only[b,UB,rS,jT];have g:(Yj L.2 n).length=max L.2.length (n+1):=ZD _ _;have l:(W2 L.2 n r).length=max L.2.length (n+1):=by unfold W2;simp_all
 rw[Ur (by omega),TG,zy (by rw[UG,g];omega),TS (Wl (by omega))]
 have c:=bN (M:=W2 L.2 n r) (f:=λa=>br (TI a 0) (λ_=>SG (SY .i64 a 1) λd=>gd (Iq d (AQ (W2 L.2 n r))) λ_=>ix (W2 L.2 n r) d λh=>br (Og (Ko (AQ h)) 0) (λ_=>zo (.nx (SY .i64 a 1))) λ_=>zo (.dn ((0,(a,()))))) λ_=>zo (.dn ((0,(a,()))))) rfl (λk b=>by
  have hi:SY .i64 ((k+1:Nat):Int) 1=(k:Int):=by rw[Sx (by omega)];omega
  simp only[hi,UB];rw[Te,zy (by omega),TG,zy (by rw[UG];omega),TS (Wl b)]
  exact cB _ _ _) _ (a9 _)
 rw[UH,show AQ (W2 L.2 n r)=(W2 L.2 n r).length from rfl];refine UZ (VS (by omega) c) ?_;have e:=bq (W2 L.2 n r) (W2 L.2 n r).length;simp only[UB];rw[Ur e,TF,zy (by omega),TC,zy (by omega),TF,zy (by unfold BC Pg;omega)];unfold U9 YK Dy BC Pg;simp
end
section
open Go Sv
def cA(d:Int)(j:Job):Bool:=Og d j.1
def U4(js:List Job)(d:Int):Option Job:=js.find? (cA d)
def Zt(js:List Job):List (Int×Job):=js.map λj=>(j.1,j)
def zJ:Job:=(0,(([],([],([],([],0)))),((zf,([],zf)),([],0))))
def Wn(L:UF)(d:Int):Job:=match UI L.2 d.toNat with
 |[r0,r1]=>(d,Vo r1.2 r0.2 (decide (d=(L.2.length:Int)-1)) 0)
 |_=>zJ
def Wt(s:UC)(L:UF)(a d:Int):Job:=(if d=a then zn else U4 s.2.1 d).getD (Wn L d)
def ZH(s:UC)(L:UF)(next a:Int):UC:=(L,((UJ 0 L.2).map (Wt s L a),next))
theorem bV(d:Int):∀ js:List Job,MY (λa b=>Og a b) (Zt js) d=U4 js d
 |[]=>rfl
 |j::js=>by
  show(bif Og d j.1 then zo j else MY (λa b=>Og a b) (Zt js) d)=(j::js).find? (cA d)
  rw[ee,bV d js];show _=match Og d j.1 with|true=>zo j|false=>U4 js d
  cases Og d j.1<;>rfl
theorem bW{j:Job}:∀ {js:List Job},j.1 ∉ js.map (·.1)->IX (λa b=>Og a b) (Zt js) j.1 j=Zt (js++[j])
 |[],_=>rfl
 |i::js,h=>by
  show(bif Og j.1 i.1 then(j.1,j)::Zt js else(i.1,i)::IX (λa b=>Og a b) (Zt js) j.1 j)=(i.1,i)::Zt (js++[j])
  have d:Og j.1 i.1=zf:=by rw[Vj];simp;intro e;exact h (by simp[e])
  rw[d,zj,bW (λc=>h (by simp at c ⊢;exact .inr c))]
theorem Yq{js:List Job}{d:Int}(h:d ∉ js.map (·.1)):U4 js d=zn:=by
 unfold U4;rw[tw];intro j a;unfold cA;rw[Vj];simp only[decide_eq_true_eq];intro e;exact h (by rw[e];exact hI a)
theorem bU{x d:Int}:∀ {js:List Job},(js.map (·.1)).Nodup->MY (λa b=>Og a b) (IW (λa b=>Og a b) (Zt js) x) d=if d=x then zn else U4 js d
 |[],_=>by split<;>rfl
 |j::js,h=>by
  rw[oy,l6]at h;show MY (λa b=>Og a b) (bif Og x j.1 then Zt js else(j.1,j)::IW (λa b=>Og a b) (Zt js) x) d=_
  have g:U4 (j::js) d=if d=j.1 then zo j else U4 js d:=by
   unfold U4;rw[ee];unfold cA;rw[Vj];by_cases e:d=j.1<;>simp[e]
  rw[Vj,g];by_cases f:x=j.1
  ·rw[show decide (x=j.1)=zt by simp[f],zb,bV];by_cases c:d=x
   ·rw[zy c];exact Yq (by rw[c,f];exact h.1)
   ·rw[zx c,zx (by rw[<- f];exact c)]
  ·rw[show decide (x=j.1)=zf by simp[f],zj];show(bif Og d j.1 then zo j else MY (λa b=>Og a b) (IW (λa b=>Og a b) (Zt js) x) d)=_
   rw[bU h.2,Vj];by_cases c:d=j.1
   ·rw[show decide (d=j.1)=zt by simp[c],zb,zy c,zx (by rw[c];exact λe=>f e.symm)]
   ·rw[show decide (d=j.1)=zf by simp[c],zj,zx c]
theorem VR.vl'{L:UF}(v:VLev L){n:Nat}{r:Ua}(h:r∈UI L.2 n):VL r.2:=((v.own n).2 r h).vl
theorem gh(L:UF)(a:L.2.length<=1000)(n:Nat):Vs (L,(n:Int))=zo (decide ((n:Int)=(L.2.length:Int)-1)):=by
 unfold Vs;simp only[UH,UG];rw[Sx (by omega),Vj]
theorem jH{L:UF}(v:VLev L){n:Nat}(h:(UI L.2 n).length=2):Xy (L,(n:Int))=zo (Wn L n,0):=by
 have d:n<L.2.length:=by
  by_cases e:n<L.2.length
  ·exact e
  ·unfold UI at h;rw[ac (by omega)]at h;cases h
 have i:=v.len;obtain⟨f,g⟩:=v.small;unfold Xy;simp only[UH,UG];rw[Zb _ f g,XS v,TA,Ti,zy rfl,Th,zx (by omega),Td,zx (by omega),Td,zx (by omega),UB,TS (Wl d),Th,zx (by omega),gh L (by omega) n,TA]
 obtain⟨b,c,a⟩:∃ b c,UI L.2 n=[b,c]:=by
  match hq:UI L.2 n with
  |[b,c]=>exact⟨b,c,rfl⟩
  |[]=>rw[hq]at h;cases h
  |[_]=>rw[hq]at h;cases h
  |_::_::_::_=>rw[hq]at h;simp at h
 rw[cY _ (by rw[Wl d,a]) (VR.vl' v (n:=n) (by rw[a];simp)) (VR.vl' v (n:=n) (by rw[a];simp)),TA];unfold Wn;rw[ab,a]
theorem Yo(i:Nat)(rs:List Ua)(ls:List (List Ua)):UJ i (rs::ls)=(if rs.length=2 then[(i:Int)]else[])++UJ (i+1) ls:=rfl
theorem aK{s:UC}(f:(s.2.1.map (·.1)).Nodup)(t:s.2.1.length<=1000){L:UF}(v:VLev L)(next a:Int):Ud (s,(L,(next,a)))=zo (ZH s L next a,0):=by
 have u:=v.len;unfold Ud;simp only[UH,UG]
 rw[Vl (l:=s.2.1) (σ:=List (Int×Job)) (s:=((0:Int),([]:List (Int×Job)))) (λi m=>((i:Int),m)) (λls i m=>∃ p,s.2.1=p++ls/\m=Zt p) (λ_ _ _=>(0,(((s.2.1.length:Int),Zt s.2.1),()))) [] rfl (by omega) ⟨[],rfl,rfl⟩ (λm h=>by
  obtain⟨p,d,rfl⟩:=h
  simp only;rw[re,SM,d,co]) (λi x ls m q b hi h=>by
   obtain⟨p,d,rfl⟩:=h;refine⟨Zt (p++[x]),?_,⟨p++[x],by rw[d];simp,rfl⟩,rfl⟩;simp only;rw[rl hi,Sp,UB,TS b,UN b (by omega),bW];intro g;rw[d,pg,nP]at f
   exact f.2.2 _ g x.1 (by simp) rfl),TA]
 simp only
 rw[Vl (l:=L.2) (σ:=List Job) (s:=((0:Int),((0:Int),(((0:Int),(([]:List (List Ua)),(([]:List Job),(0:Int)))),(L.1,(L.2,(([]:List Job),next))))))) (λi js=>((0:Int),((i:Int),(((0:Int),(([]:List (List Ua)),(([]:List Job),(0:Int)))),(L.1,(L.2,(js,next))))))) (λls i js=>js++(UJ i ls).map (Wt s L a)=(UJ 0 L.2).map (Wt s L a)) (λ_ _ _=>(0,(((0:Int),((L.2.length:Int),(((0:Int),(([]:List (List Ua)),(([]:List Job),(0:Int)))),(L.1,(L.2,((UJ 0 L.2).map (Wt s L a),next)))))),()))) [] rfl (by omega) rfl (λm h=>by
  simp only;rw[re,SM,<- h];simp[UJ]) (λi rs ls m q b hi h=>by
   have k:UI L.2 i=rs:=by unfold UI;rw[b];rfl
   have o:=(v.own i).1;rw[k]at o;refine⟨m++(if rs.length=2 then[Wt s L a i]else[]),?_,?_,rfl⟩
   ·simp only;rw[rl hi,Sp,UB,TS b,Th]
    have g:m.length<=1000:=by
     have c:=congrArg rz h;have r:=Vz L.2 0;rw[hV,li,li]at c;omega
    by_cases c:rs.length=2;rotate_left
    ·rw[zy (by omega),zx c,co,UN b (by omega)]
    rw[zx (by omega),zy c,bU f];have e:Wt s L a i=(if(i:Int)=a then zn else U4 s.2.1 i).getD (Wn L i):=rfl
    cases n:(if(i:Int)=a then zn else U4 s.2.1 (i:Int))with
    |none=>
     rw[n,ul]at e;rw[e,jH v (by rw[k];exact c),Uv,Tn,zx (show ¬ Tv (zn:Option Job)=zt by simp[Tv]),TA];simp only;rw[Ti,zy rfl,Ur (by simp only[BC,ae,a8];omega),UN b (by omega)];rfl
    |some j=>
     rw[n,eb]at e;rw[e,Uv,Tn,zy (show Tv (zo j)=zt from rfl),Ur (by simp only[BC,ae,a8];omega),UN b (by omega)];rfl
   ·rw[bc,<- h,Yo,pg]
    congr 2
    split<;>rfl),TA]
 rfl
end
section
open Go Sv
def pS(s:U2):Option XU:=if s.1=zt then zo s.2.1 else zn
theorem Asc.weak:∀ {l:List UD} {p c:Option XU},(∀ a,c=zo a -> ∃ q,p=zo q/\Si q a=zf)->Asc p l->Asc c l
 |[],_,_,_,_=>trivial
 |x::l,p,c,h,⟨g,i⟩=>⟨λa b=>by
  obtain⟨q,e,j⟩:=h a b;have d:=g q e;by_cases f:a=q
  ·rw[f];exact d
  ·exact Wm (Zh j (λe=>f e.symm)) d,i⟩
theorem cd:∀ (l:List UD) (s:U2),Z4 s l->Asc (pS s) (WV s l)
 |[],_,_=>trivial
 |x::l,s,⟨_,g,h⟩=>by
  have i:=cd l _ h;have f:Asc (zo x.1) (WV (zt,(x.1,s.2.2)) l):=i;unfold WV;by_cases c:keep s x=zt
  ·rw[zy c];refine⟨λq d=> ?_,f⟩;unfold pS at d;by_cases b:s.1=zt
   ·rw[zy b]at d;cases d;refine Zh (g b) λe=> ?_;unfold keep at c;rw[b,e]at c;simp at c
   ·rw[zx b]at d;cases d
  ·rw[zx c,hU];refine f.weak λj a=>⟨x.1,rfl,?_⟩;unfold pS at a;by_cases b:s.1=zt
   ·rw[zy b]at a;cases a;exact g b
   ·rw[zx b]at a;cases a
theorem cg:∀ {l:List UD} {s:U2} {x:UD},x∈WV s l->x∈l
 |y::l,s,x,h=>by
  unfold WV at h;rcases gM.1 h with h|h
  ·split at h
   ·rw[sa.1 h];simp
   ·cases h
  ·exact List.mem_cons_of_mem _ (cg h)
theorem gI:∀ {l:List UD} {s:U2},Z4 s l -> ∀ x∈l,kE x=0
 |y::l,s,⟨a,_,b⟩,x,h=>by
  rcases bl.1 h with e|h
  ·rw[e];exact a
  ·exact gI b x h
theorem ja{a b:List UD}(va:VL a)(f:VL b)(c:Bool){k:Nat}(d:k<=a.length+b.length)(j:a.length+b.length<=5000):VL (Vo a b c k).2.2.1/\(Vo a b c k).2.2.1.length<=a.length+b.length:=by
 have e:=Xa va f c d
 have i:(WV (s0 c) (US a b k)).length<=k:=by
  have:=Ya (s0 c) (US a b k);rw[VT va f d]at this;exact this
 have g:(Vo a b c k).2.2.1=WV (s0 c) (US a b k):=rfl;rw[g];exact⟨⟨by omega,λx h=>gI e x (cg h),cd _ _ e⟩,by omega⟩
theorem dw{L:UF}(v:VLev L){n:Nat}(h:UI L.2 n≠[]):V1 (L,(n:Int))=zo (U9 L n [],(UI L.2 n,0)):=by
 have b:n<L.2.length:=by
  by_cases a:n<L.2.length
  ·exact a
  ·unfold UI at h;rw[ac (by omega)]at h;exact absurd rfl h
 have d:=v.len;have c:=(v.own n).1;unfold V1;simp only[UH,UG];rw[cE v,TA,zx (by omega),Ti,zy rfl,Th,zy (by omega),UB,TS (Wl b),cB,zx h,aF (by omega) (by omega),TA,Ur (by omega)]
theorem gb{S β:Type}{f:S->Option (LR S β)}{r:β}(mk:Int->S)(n:Nat){s:S}(b:s=mk ((n:Int)-1))(g:n<1000000)(hs:∀ k,k<n->f (mk (k:Int))=zo (.nx (mk ((k:Int)-1))))(c:f (mk (-1))=zo (.dn r)):loop f s=zo r:=by
 subst b
 have a:∀ k,k<=n->IQ (k+1) f (mk ((k:Int)-1))=zo r:=by
  intro k
  induction k with
  |zero=>intro _;exact Uk c
  |succ k d=>
   intro e;have:=hs k (by omega);rw[show((k+1:Nat):Int)-1=(k:Int) by omega,Ue this];exact d (by omega)
 exact VS (by omega) (a n (a9 _))
theorem cx{L:UF}(v:VLev L){n:Nat}(o:n<12){x:Ua}(q:x.2.length<=1048576)(b:∀ y∈L.2.flatten,y.1≠x.1)(m:(UI L.2 n).length<2) :
  Uo (L,((n:Int),x))=zo (if kR [] (VC L.1 n) x≠0 then((0,[]),kR [] (VC L.1 n) x)else(U9 L n (UI L.2 n++[x]),0)):=by
 have p:=v.len;unfold Uo;simp only[UH,UG];rw[cE v,TA,zx (by omega),Ti,zy rfl,aC v.B1 v.B2 (by omega),bT x _ (by omega),show SC (n:Int) 0=zt by unfold SC;simp];rw[oY,TA,Ti];by_cases a:kR [] (VC L.1 n) x=0;rotate_left
 ·rw[zx a,zy a]
 rw[zy a,zx (by simp[a])]
 rw[Vl (l:=L.2) (σ:=Unit) (s:=((0:Int),(((0:Int),([]:List (List Ua))),(0:Int)))) (λi _=>((i:Int),(((0:Int),([]:List (List Ua))),(0:Int)))) (λ_ _ _=>True) (λ_ _ _=>(0,(((L.2.length:Int),(((0:Int),([]:List (List Ua))),(0:Int))),()))) () rfl (by omega) trivial (λ_ _=>by
  simp only;rw[re];rfl) (λi rs ls _ j hi c _=>by
   refine⟨(),?_,trivial,rfl⟩;have e:UI L.2 i=rs:=by unfold UI;rw[hi];rfl
   have f:=(v.own i).1;rw[e]at f;simp only;rw[rl c,Sp,UB,TS hi,Sx (by omega)]
   rw[gb (λk=>(k,(((0:Int),([]:List (List Ua))),(0:Int)))) rs.length rfl (by omega) (λk a=>by
    have h:rs[k]?=zo rs[k]:=ba a;have d:rs[k].1≠x.1:=b _ (gl.2 ⟨rs,ad hi,lc a⟩);simp only
    rw[Td,zy (by omega),UB,TS h,Tc,zx d,Sx (by omega)]) (r:=(0,(((-1:Int),(((0:Int),([]:List (List Ua))),(0:Int))),()))) rfl,TA]
   rw[UN hi (by omega)]
   rfl),TA]
 rw[TB,zy rfl,Th];by_cases g:n<L.2.length
 ·rw[zy (by omega),UB,TS (Wl g),Tc,zx (by omega),UB,UB,Ur (a9 _),TE,zy rfl,Ur (eo _)];have hs:Dy (UI L.2 n) 0 (UI L.2 n).length=UI L.2 n:=by unfold Dy;simp
  rw[hs,Ur (by simp only[BC,ae,a8];omega),aF (by omega) (by omega),TA];rfl
 ·rw[zx (by omega)];have e:UI L.2 n=[]:=by unfold UI;rw[ac (by omega)];rfl
  rw[Ur (by simp),aF (by omega) (by omega),TA,e];rfl
end
section
open Go Sv
def zS:UC:=((0,[]),([],0))
def U8(j:Job):List UD:=j.2.2.2.1
def Yl(s:UC)(j:Job):Nat:=if WC s.1 j=zt then j.1.toNat else j.1.toNat+1
def Vw(s:UC)(j:Job):UF:=if U8 j=[]then U9 s.1 j.1.toNat []else U9 (U9 s.1 j.1.toNat []) (Yl s j) (UI (U9 s.1 j.1.toNat []).2 (Yl s j)++[(s.2.2,U8 j)])
def YY(s:UC)(j:Job):Int:=if U8 j=[]then s.2.2 else s.2.2+1
def ZT(s:UC)(j:Job):UC×Int:=
 if 0<UY s.1 j\/WR s.1 j=zf then(zS,9)else if s.2.2>1000000/\U8 j≠[]then(zS,5)else(ZH s (Vw s j) (YY s j) j.1,0)
theorem bO:∀ (ls:List (List Ua)) (i:Nat),(UJ i ls).Nodup /\ ∀ d∈UJ i ls,(i:Int)<=d
 |[],_=>⟨.nil,λ_ h=>by cases h⟩
 |rs::ls,i=>by
  obtain⟨b,a⟩:=bO ls (i+1);rw[Yo];by_cases h:rs.length=2
  ·rw[zy h];refine⟨l6.2 ⟨λc=> ?_,b⟩,λd hd=> ?_⟩
   ·have:=a _ c;omega
   ·rcases bl.1 hd with e|hd
    ·omega
    ·have:=a d hd;omega
  ·rw[zx h];exact⟨b,λd hd=>by have:=a d hd;omega⟩
theorem VSt.nodup{s:UC}(v:VSt s):(s.2.1.map (·.1)).Nodup:=by rw[v.due];exact(bO _ _).1
theorem JobAt.out{L:UF}{n:Nat}{j:Job}(h:JobAt L n j)(v:VLev L)(hs:(∀ r∈UI L.2 n,r.2.length<=2000)):VL (U8 j)/\((U8 j).length:Int)<=2*VC L.1 n/\j.1=(n:Int)/\n<12/\UI L.2 n≠[]:=by
 obtain⟨a,b,d,k,e,rfl,i,_,l,m⟩:=h;have c:UI L.2 n=[a,b]:=by unfold UI;rw[e];rfl
 have s:=hs a (by rw[c];simp);have t:=hs b (by rw[c];simp);have u:=((v.own n).2 a (by rw[c];simp)).le;have w:=((v.own n).2 b (by rw[c];simp)).le;obtain⟨f,g⟩:=ja m l d i (by omega);have p:=(aa.1 e).1;have q:=v.len;refine⟨f,?_,rfl,by omega,by rw[c];simp⟩
 have o:((U8 ((n:Int),Vo b.2 a.2 d k)).length:Int)<=(b.2.length:Int)+(a.2.length:Int):=by
  have:(U8 ((n:Int),Vo b.2 a.2 d k)).length<=b.2.length+a.2.length:=g;omega
 omega
def jC(L:UF):Prop:=∀ i,∀ r∈UI L.2 i,r.2.length<=2000
structure InstF (s:UC) (n:Nat) (j:Job):Prop where
 l1:VLev (U9 s.1 n [])
 to12:U8 j≠[]->Yl s j<12
 vr:U8 j≠[]->VR (VC s.1.1 (Yl s j)) (s.2.2,U8 j)
 id:∀ y∈(U9 s.1 n []).2.flatten,y.1≠s.2.2
 room:U8 j≠[]->(UI (U9 s.1 n []).2 (Yl s j)).length<2
 lev:VLev (Vw s j)
theorem gB{s:UC}(v:VSt s)(A:jC s.1){n:Nat}{j:Job}(z:JobAt s.1 n j)(G:¬ 0<UY s.1 j)(hc:WR s.1 j=zt)(x:U8 j≠[]->s.2.2<=1000000):InstF s n j:=by
 obtain⟨C,D,E,t,I⟩:=z.out v.lev (A n);have a:=v.lev.leave (n:=n) t;have e:j.1.toNat=n:=by rw[E];simp
 have b:WC s.1 j≠zt->n+1<12/\(UI s.1.2 (n+1)).length<2:=λhs=>by
  unfold WR at hc;rw[show decide (0<UY s.1 j)=zf by simp;omega,e]at hc;cases o:WC s.1 j with
  |true=>exact absurd o hs
  |false=>
   rw[o]at hc;simpa[ZV,UI]using hc
 have d:∀ y∈(U9 s.1 n []).2.flatten,y.1≠s.2.2:=λy r=>by
  obtain⟨p,q,i,k⟩:=YE s.1 n [];rw[k,hU]at r
  have B:y∈s.1.2.flatten:=by
   rw[i];rcases gM.1 r with h|h
   ·exact List.mem_append_left _ h
   ·exact s9 _ (s9 _ h)
  have:=Zs B;have:=v.n3;omega
 have m:Yl s j<12/\(UI (U9 s.1 n []).2 (Yl s j)).length<2/\((U8 j).length:Int)<=VC s.1.1 (Yl s j):=by
  unfold Yl;by_cases hs:WC s.1 j=zt
  ·rw[zy hs,e];refine⟨t,by rw[W7,zy rfl];simp,?_⟩;have c:=hs;unfold WC at c;rw[e]at c;exact of_decide_eq_true c
  ·rw[zx hs,e];obtain⟨i,k⟩:=b hs;refine⟨i,by rw[W7,zx (by omega)];exact k,?_⟩;rw[bf];exact D
 obtain⟨u,w,F⟩:=m;have g:U8 j≠[]->VR (VC s.1.1 (Yl s j)) (s.2.2,U8 j):=λf=>⟨v.n1,x f,C,f,F⟩;refine⟨a,λ_=>u,g,d,λ_=>w,?_⟩;unfold Vw;rw[e];by_cases l:U8 j=[]
 ·rw[zy l];exact a
 ·rw[zx l];exact a.arrive u w (g l) d
theorem bQ{s:UC}(v:VSt s)(u:jC s.1){n:Nat}{j:Job}(t:JobAt s.1 n j)(w:¬ 0<UY s.1 j)(hc:WR s.1 j=zt)(y:U8 j≠[]->s.2.2<=1000000)(l:Int) :
  (bd (V1 (s.1,(n:Int))) λd=>br (Og d.2.2 0) (λ_=>br (TI (Ko (AQ j.2.2.2.1)) 0) (λ_=>bd (Ul (s,(j,l))) λK=>br (H2 K) (λ_=>bd (Uo ((d.1,(SV .i64 (n:Int) 1,(s.2.2,j.2.2.2.1))))) λm=>br (SD m.2 0) (λ_=>zo ((((0,[]),([],0)),m.2))) λ_=>bd (Ud ((s,(m.1,(SV .i64 s.2.2 1,(n:Int)))))) λL=>zo L) λ_=>bd (Uo ((d.1,((n:Int),(s.2.2,j.2.2.2.1))))) λo=>br (SD o.2 0) (λ_=>zo ((((0,[]),([],0)),o.2))) λ_=>bd (Ud ((s,(o.1,(SV .i64 s.2.2 1,(n:Int)))))) λM=>zo M) λ_=>br (SD d.2.2 0) (λ_=>zo ((((0,[]),([],0)),d.2.2))) λ_=>bd (Ud ((s,(d.1,(s.2.2,(n:Int)))))) λN=>zo N) λ_=>br (SD d.2.2 0) (λ_=>zo ((((0,[]),([],0)),d.2.2))) λ_=>bd (Ud ((s,(d.1,(s.2.2,(n:Int)))))) λk=>zo k)
  = zo (ZH s (Vw s j) (YY s j) j.1,0):=by
 have F:=gB v u t w hc y;obtain⟨G,O,g,I,J⟩:=t.out v.lev (u n);have i:j.1.toNat=n:=by rw[g];simp
 have D:=v.n2;have C:=v.n1;have A:=v.jsmall;have a:=F.lev;rw[dw v.lev J,TA];show(br (Og 0 0) _ _)=_;rw[Tc,zy rfl,UH,UG,Te];by_cases b:U8 j=[]
 ·rw[zx (show ¬ ((j.2.2.2.1.length:Int)>0) by rw[show j.2.2.2.1=[]from b];simp),Ti,zy rfl];unfold Vw at a ⊢;rw[zy b,i]at a;rw[zy b,i,aK v.nodup (by omega) a,TA];unfold YY;rw[zy b,g]
 ·rw[zy (show((j.2.2.2.1.length:Int)>0) by have:=cP.2 b;have h:(U8 j).length=j.2.2.2.1.length:=rfl;omega),bG v.lev g I,TA,Uv];have E:(U8 j).length<=1048576:=by have:=G.len;omega
  have B:kR [] (VC (U9 s.1 n []).1 (Yl s j)) (s.2.2,U8 j)=0:=jQ.2 ⟨F.vr b,by simp⟩;have f:=cx F.l1 (F.to12 b) (x:=(s.2.2,U8 j)) E F.id (F.room b);rw[zx (by simp[B])]at f
  have z:Vw s j=U9 (U9 s.1 n []) (Yl s j) (UI (U9 s.1 n []).2 (Yl s j)++[(s.2.2,U8 j)]):=by
   unfold Vw;rw[zx b,i]
  have q:YY s j=s.2.2+1:=by unfold YY;rw[zx b]
  rw[<- z]at f;have p:SV .i64 s.2.2 1=s.2.2+1:=Su (by omega);have r:=aK v.nodup (by omega) a (s.2.2+1) (n:Int);rw[Tn];have c:Yl s j=if WC s.1 j=zt then n else n+1:=by unfold Yl;rw[i]
  by_cases hs:WC s.1 j=zt
  ·rw[zy hs]at c ⊢;rw[c]at f;have e:Uo (U9 s.1 n [],((n:Int),(s.2.2,j.2.2.2.1)))=zo (Vw s j,0):=f;rw[e,TA,Ti,zy rfl,p,r,TA,q,g]
  ·rw[zx hs]at c ⊢;rw[c]at f;rw[UK (by omega)];have e:Uo (U9 s.1 n [],(((n+1:Nat):Int),(s.2.2,j.2.2.2.1)))=zo (Vw s j,0):=f;rw[e,TA,Ti,zy rfl,p,r,TA,q,g]
theorem de{s:UC}(m:Sm s)(k:jC s.1)(a:Int):WS (s,a)=zo (W9 zS ZT s a):=by
 unfold WS;rw[cX m,TA];unfold W9;by_cases b:(UE s).2=0;rotate_left
 ·rw[zy b,Ti,zx b,zy b];rfl
 rw[zx (show ¬ (UE s).2≠0 by simp[b]),zx (show ¬ (UE s).2≠0 by simp[b])];have v:=UO.1 b;unfold bI;cases p:Zq a 0 (UJ 0 s.1.2)with
 |none=>rfl
 |some i=>
  obtain⟨j,n,l,o,f,g,q⟩:=v.at p;have:=v.lev.len;subst o;simp only[l];unfold Uc ZT;rw[Ti,zy rfl,TA,Te];by_cases e:0<UY s.1 j
  ·rw[zy (show((UY s.1 j:Int))>0 by omega),zy (.inl e)];rfl
  rw[zx (show ¬ ((UY s.1 j:Int))>0 by omega),bo v.lev f (by omega) _ rfl,TA,Uv,Tn];by_cases hc:WR s.1 j=zt;rotate_left
  ·rw[zx hc,zy (.inr (by simpa using hc))];rfl
  rw[zy hc,zx (show ¬ (0<UY s.1 j\/WR s.1 j=zf) by rw[hc];simp;omega),Te];by_cases d:s.2.2>1000000
  ·rw[zy d,UH,UG,Te];by_cases c:U8 j=[]
   ·rw[zx (show ¬ ((j.2.2.2.1.length:Int)>0) by rw[show j.2.2.2.1=[]from c];simp),zx (by simp[c])];exact bQ v k g e hc (λh=>absurd c h) _
   ·rw[zy (show((j.2.2.2.1.length:Int)>0) by have:=cP.2 c;have h:(U8 j).length=j.2.2.2.1.length:=rfl;omega),zy ⟨d,c⟩];rfl
  ·rw[zx d,zx (by simp[d])];exact bQ v k g e hc (λh=>by omega) _
end
section
open Go Sv
def Yy(L:UF)(j:Job):Xv:=match UI L.2 j.1.toNat with
 |[r0,r1]=>Vo r1.2 r0.2 j.2.2.1.2.2 (j.2.2.2.2.toNat+1)
 |_=>j.2
def Zy(s:UC)(j:Job):UC:=(s.1,(lset s.2.1 ((Zq j.1 0 (UJ 0 s.1.2)).getD 0) (j.1,Yy s.1 j),s.2.2))
theorem jg{s:UC}(m:Sm s)(v:VSt s){a:Int}{i:Nat}(q:Zq a 0 (UJ 0 s.1.2)=zo i){j:Job}(e:s.2.1[i]?=zo j)(r:0<UY s.1 j):YO (s,(a,1))=zo (Zy s j,(1,0)):=by
 obtain⟨j',n,f,x,t,p,D⟩:=v.at q;rw[e]at f;cases f;subst x;have z:(UE s).2=0:=UO.2 v
 have h:Yb s (n:Int)=((i:Int),0):=by
  simp_all[Yb,zx,UE]
 have u:=v.jsmall;have hi:=(aa.1 e).1;unfold YO;rw[u9 m,TA,Ti,zy z,Th,zx (show ¬ ((1:Int)<0) by omega),fy m,TA,h,Ti,zy rfl,UB,TS e,(JobAt.left p).1,TA,Tc,zx (show ¬ ((UY s.1 j:Int)=0) by omega),UB,TS e];obtain⟨b,c,d,k,o,rfl,w,C,A,B⟩:=p;have y:UI s.1.2 n=[b,c]:=by unfold UI;rw[o];rfl
 have l:UY s.1 ((n:Int),Vo c.2 b.2 d k)=c.2.length+b.2.length-k:=by
  unfold UY;simp only[ab,o];rfl
 rw[l]at r;have g:=bg B A d w (k:=1);rw[show min 1 (c.2.length+b.2.length-k)=1 by omega]at g;show(bd (VA (Vo c.2 b.2 d k,((1:Nat):Int))) λE=>_)=_;rw[g,TA];simp only;rw[Ti,zy rfl];unfold Uj;rw[Ur (by simp only[AQ];omega),TA,UB,TG,zy (by simp only[AQ];exact hi),TS e];unfold Zy Yy;simp only[ab,y,q,eb];have e1:(Vo c.2 b.2 d k).2.1.2.2=d:=aV _ _ _ _;have e2:(Vo c.2 b.2 d k).2.2.2.toNat=k:=by rfl
 simp_all
def YU(s:UC)(j:Job):UC×(Bool×Int):=if WR s.1 j=zf then(zS,(zf,9))else if 0<UY s.1 j then(Zy s j,(zf,0))else((ZT s j).1,(Og (ZT s j).2 0,(ZT s j).2))
def Vm(s:UC)(a:Int):UC×(Bool×Int):=if(UE s).2≠0 then(zS,(zf,(UE s).2))else match bI s a with
 |some j=>YU s j
 |none=>(zS,(zf,4))
theorem bj{s:UC}(m:Sm s)(g:jC s.1)(a:Int):Un (s,a)=zo (Vm s a):=by
 unfold Un;rw[cX m,TA,de m g];unfold W9 Vm;by_cases b:(UE s).2=0;rotate_left
 ·rw[zy b,Ti,zx b,zy b];rfl
 rw[zx (show ¬ (UE s).2≠0 by simp[b]),zx (show ¬ (UE s).2≠0 by simp[b]),zx (show ¬ (UE s).2≠0 by simp[b])];have v:=UO.1 b;unfold bI;cases f:Zq a 0 (UJ 0 s.1.2)with
 |none=>rfl
 |some i=>
  obtain⟨j,n,e,k,d,h,l⟩:=v.at f;have:=v.lev.len;simp only[e];unfold YU Uc;rw[Ti,zy rfl,bo v.lev d (by omega) _ rfl,TA,Uv,Tn];cases hc:WR s.1 j with
  |false=>rfl
  |true=>
   rw[zy rfl,zx (by simp),TA,Te];by_cases c:0<UY s.1 j
   ·rw[zy (show((UY s.1 j:Int))>0 by omega),zy c,jg m v f e c];rfl
   ·rw[zx (show ¬ ((UY s.1 j:Int))>0 by omega),zx c];rfl
end
section
open Go Sv
theorem cF{ls:List (List Ua)}{d:Int}(h:d∈UJ 0 ls):∃ (n:Nat) (a b:Ua),d=(n:Int)/\ls[n]?=zo [a,b]:=by
 obtain⟨k,f⟩:=ci h;obtain⟨n,c,a,b,e⟩:=YD f;exact⟨n,a,b,by rw[c,dc],e⟩
theorem cp{l:List (List Ua)}{n:Int}(i:0<n)(h:∀ x∈l.flatten,x.1<n):Wk l<n:=by
 have f:∀ (rs:List Ua) (m:Int),m<n->(∀ x∈rs,x.1<n)->rs.foldl (λm r=>Tq m r.1) m<n:=by
  intro rs
  induction rs with
  |nil=>intro m b _;exact b
  |cons r rs e=>
   intro m b c;rw[ed];refine e _ ?_ λx d=>c x (by simp[d]);rw[YC];have:=c r (by simp);omega
 have two:∀ (ls:List (List Ua)) (m:Int),m<n->(∀ rs∈ls,∀ x∈rs,x.1<n)->ls.foldl (λm rs=>rs.foldl (λm r=>Tq m r.1) m) m<n:=by
  intro ls
  induction ls with
  |nil=>intro m b _;exact b
  |cons rs ls e=>
   intro m b c;rw[ed];exact e _ (f rs m b (c rs (by simp))) λg a=>c g (by simp[a])
 exact two l 0 i λrs a x d=>h x (gl.2 ⟨rs,a,d⟩)
theorem oa{l:List (List Ua)}(e:l.getLast? ≠ zo []){n:Nat}(a:UI l n≠[])(b:∀ i,n<i->UI l i=[]):l.length=n+1:=by
 have f:n<l.length:=by
  by_cases h:n<l.length
  ·exact h
  ·unfold UI at a;rw[ac (by omega)]at a;exact absurd rfl a
 by_cases c:l.length=n+1
 ·exact c
 ·exfalso;have d:=b (l.length-1) (by omega);refine e ?_;rw[nm,Wl (by omega),d]
theorem dq{js:List Job}{d:Int}{j:Job}(h:U4 js d=zo j):j∈js/\j.1=d:=by
 unfold U4 at h;have a:=xm h;unfold cA at a;rw[Vj]at a;exact⟨sw h,(of_decide_eq_true a).symm⟩
theorem jG{L:UF}(v:VLev L){n:Nat}{b c:Ua}(h:L.2[n]?=zo [b,c]):JobAt L n (Wn L (n:Int)):=by
 have a:UI L.2 n=[b,c]:=by unfold UI;rw[h];rfl
 refine⟨b,c,decide ((n:Int)=(L.2.length:Int)-1),0,h,?_,eo _,λd=> ?_,VR.vl' v (n:=n) (by rw[a];simp),VR.vl' v (n:=n) (by rw[a];simp)⟩
 ·unfold Wn;rw[ab,a]
 ·have:=of_decide_eq_true d;have:=(aa.1 h).1;omega
theorem oI{s:UC}(v:VSt s){L:UF}(u:VLev L){next a:Int}(F:1<=next)(G:next<=1000001)(I:∀ x∈L.2.flatten,x.1<next)
  (J:∀ (n:Nat) (g h:Ua),s.1.2[n]?=zo [g,h]->(n:Int)≠a->(∃ q r,L.2[n]?=zo [q,r])->L.2[n]?=zo [g,h]/\(n+1=s.1.2.length->n+1=L.2.length)):VSt (ZH s L next a):=by
 have b:∀ d∈UJ 0 L.2,(Wt s L a d).1=d /\ ∃ n,JobAt L n (Wt s L a d):=λd c=>by
  obtain⟨n,q,r,rfl,t⟩:=cF c;unfold Wt;cases l:(if(n:Int)=a then zn else U4 s.2.1 (n:Int))with
  |none=>
   rw[ul];have i:=jG u t;refine⟨?_,n,i⟩;obtain⟨_,_,_,_,_,e,_⟩:=i;rw[e]
  |some j=>
   rw[eb];by_cases o:(n:Int)=a
   ·rw[zy o]at l;cases l
   rw[zx o]at l;obtain⟨p,f⟩:=dq l;refine⟨f,n,?_⟩;obtain⟨m,g,h,E,k,w,rfl,y,z,A,B⟩:=v.job j p;have K:m=n:=by have:(m:Int)=(n:Int):=f;omega
   subst K;obtain⟨C,D⟩:=J m g h w o ⟨q,r,t⟩;exact⟨g,h,E,k,C,rfl,y,λi=>D (z i),A,B⟩
 refine⟨u,F,G,cp (by show 0<next;omega) I,?_,λj p=> ?_⟩
 ·show((UJ 0 L.2).map (Wt s L a)).map (·.1)=UJ 0 L.2;rw[List.map_map]
  conv=>rhs;rw[<- List.map_id (UJ 0 L.2)]
  exact List.map_congr_left λd c=>(b d c).1
 ·obtain⟨d,c,rfl⟩:=l5.1 p;exact(b d c).2
theorem YS{l:List (List Ua)}{n:Nat}{b c:Ua}:l[n]?=zo [b,c]<->UI l n=[b,c]:=by
 unfold UI;constructor
 ·intro h;rw[h];rfl
 ·intro h;cases a:l[n]? with
  |none=>rw[a]at h;cases h
  |some rs=>rw[a]at h;exact congrArg zo h
theorem WG{s:UC}{j:Job}{n:Nat}(b:j.1.toNat=n)(i:Nat):UI (Vw s j).2 i=if U8 j≠[]/\i=Yl s j then(if i=n then[]else UI s.1.2 i)++[(s.2.2,U8 j)]else if i=n then[]else UI s.1.2 i:=by
 unfold Vw;rw[b];by_cases a:U8 j=[]
 ·rw[zy a,zx (by simp[a]),W7]
 ·rw[zx a,W7];by_cases hi:i=Yl s j
  ·rw[zy hi,zy ⟨a,hi⟩,W7,<- hi]
  ·rw[zx hi,zx (by simp[hi]),W7]
theorem jN{s:UC}(v:VSt s)(u:jC s.1){n:Nat}{j:Job}(t:JobAt s.1 n j)(B:¬ 0<UY s.1 j)(hc:WR s.1 j=zt)(r:U8 j≠[]->s.2.2<=1000000):VSt (ZH s (Vw s j) (YY s j) j.1):=by
 have F:=gB v u t B hc r;obtain⟨O,P,w,S,q⟩:=t.out v.lev (u n);have l:j.1.toNat=n:=by rw[w];simp
 have E:=v.n1;have G:=v.n2
 have k:s.2.2<=YY s j/\YY s j<=1000001/\(U8 j≠[]->s.2.2<YY s j):=by
  unfold YY;by_cases d:U8 j=[]
  ·rw[zy d];exact⟨by omega,by omega,λh=>absurd d h⟩
  ·rw[zx d];have:=r d;exact⟨by omega,by omega,λ_=>by omega⟩
 refine oI v F.lev (by omega) k.2.1 (λx L=> ?_) (λm z A D C N=> ?_)
 ·obtain⟨i,hi⟩:=ao.1 L;rw[WG l]at hi
  have b:∀ {y:Ua},y∈(if i=n then[]else UI s.1.2 i)->y.1<YY s j:=fun {y} o=>by
   by_cases a:i=n
   ·rw[zy a]at o;cases o
   ·rw[zx a]at o;have:=Zs (ao.2 ⟨i,o⟩);have:=v.n3;omega
  split at hi
  ·rename_i hh;rcases gM.1 hi with hi|hi
   ·exact b hi
   ·rw[sa.1 hi];exact k.2.2 hh.1
  ·exact b hi
 ·have f:m≠n:=λe=>C (by rw[w,e]);have g:UI s.1.2 m=[z,A]:=YS.1 D
  have p:¬ (U8 j≠[]/\m=Yl s j):=λ⟨d,J⟩=>by
   have:=F.room d;rw[W7,<- J,zx f,g]at this;simp at this
  have c:UI (Vw s j).2 m=[z,A]:=by rw[WG l,zx p,zx f,g]
  refine⟨YS.2 c,λM=>(oa F.lev.last (by rw[c];simp) λi hi=> ?_).symm⟩;have a:UI s.1.2 i=[]:=by unfold UI;rw[ac (by omega)];rfl
  have I:n<s.1.2.length:=by
   by_cases h:n<s.1.2.length
   ·exact h
   ·unfold UI at q;rw[ac (by omega)]at q;exact absurd rfl q
  have K:Yl s j<=n+1:=by unfold Yl;rw[l];split<;>omega
  rw[WG l,zx (by rintro⟨_,h⟩;omega),a];split<;>rfl
theorem Job.steps{L:UF}{n:Nat}{j:Job}(f:JobAt L n j)(h:0<UY L j):JobAt L n (j.1,Yy L j):=by
 obtain⟨a,b,c,k,d,rfl,o,g,l,m⟩:=f;have i:=YS.1 d
 have e:UY L ((n:Int),Vo b.2 a.2 c k)=b.2.length+a.2.length-k:=by
  unfold UY;simp only[ab,d];show b.2.length+a.2.length-((k:Int)).toNat=_;rw[ab]
 rw[e]at h;refine⟨a,b,c,k+1,d,?_,by omega,g,l,m⟩;unfold Yy;simp only[ab,i];have e1:(Vo b.2 a.2 c k).2.1.2.2=c:=aV _ _ _ _;have e2:(Vo b.2 a.2 c k).2.2.2.toNat=k:=by show((k:Int)).toNat=k;rw[ab]
 rw[e1,e2]
theorem jh{s:UC}(v:VSt s){j:Job}{i n:Nat}(e:Zq j.1 0 (UJ 0 s.1.2)=zo i)(a:s.2.1[i]?=zo j)(d:JobAt s.1 n j)(c:0<UY s.1 j):VSt (Zy s j):=by
 unfold Zy;rw[e,eb];refine⟨v.lev,v.n1,v.n2,v.n3,?_,λx hx=> ?_⟩
 ·show(s.2.1.set i (j.1,Yy s.1 j)).map (·.1)=_;rw[<- v.due,List.map_set];refine vt λk=> ?_;rw[List.getElem?_set];by_cases b:i=k
  ·subst b;have hi:=(aa.1 a).1;rw[zy rfl,li,zy hi,ns,a];rfl
  ·rw[zx b]
 ·rcases List.mem_or_eq_of_mem_set hx with hx|hx
  ·exact v.job x hx
  ·rw[hx];exact⟨n,Job.steps d c⟩
end
section
open Go Sv
theorem pL{B:Int}{M:List (List Ua)}{f:(Int×List (List Ua))->Option (LR (Int×List (List Ua)) (Nat×((Int×List (List Ua))×Unit)))}(a:f (B,[])=zo (.dn (0,((B,[]),()))))(hs:∀ k,k<M.length->f (B,M.take (k+1))=if UI M k=[]then zo (.nx (B,M.take k))else zo (.dn (0,((B,M.take (k+1)),())))):∀ k,k<=M.length->IQ (k+1) f (B,M.take k)=zo (0,((B,M.take (Yn M k)),()))
 |0,_=>by rw[List.take_zero];exact Uk a
 |k+1,hk=>by
  have h:=hs k (by omega);unfold Yn;by_cases b:UI M k=[]
  ·rw[zy b]at h ⊢;rw[Ue h];exact pL a hs k (by omega)
  ·rw[zx b]at h ⊢;exact Uk h
theorem oD{M:List (List Ua)}{k:Nat}(h:k<M.length):M.take (k+1)=M.take k++[UI M k]:=by
 rw[kd,Wl h];rfl
theorem dF{L:UF}(s:L.2.length<=1000){n:Nat}(u:n<1000){r:List Ua}(l:r.length<=1048576)(o:∀ i,(UI L.2 i).length<=1048576):Va (L,((n:Int),r))=zo (U9 L n r):=by
 have t:(W2 L.2 n r).length=max L.2.length (n+1):=by unfold W2;rw[xn,ZD]
 unfold Va;simp only[UH,UG];refine UZ (Xr (r:=(0,((((max L.2.length (n+1):Nat):Int),(L.1,W2 L.2 n r)),()))) (λk=>((k:Int),(L.1,(W2 L.2 n r).take k))) (max L.2.length (n+1)) (by simp) (by omega) (λk j=> ?_) ?_) ?_
 ·have c:((W2 L.2 n r).take k).length=k:=by grind
  simp only[c];rw[oD (by omega),dG,UK (by omega),Th];by_cases e:k<L.2.length
  ·rw[zy (by omega),Td,zx (by omega),UB,TS (Wl e),Tc];by_cases a:k=n
   ·rw[zy (by omega),zy a,Ur l,Ur (by grind [BC,ae,a8])];rfl
   ·rw[zx (by omega),zx a,Ur (o k),Ur (by grind [BC,ae,a8])];rfl
  ·rw[zx (by omega),Tf,zy (by omega),Td,zy (by omega),Tc];by_cases a:k=n
   ·rw[zy (by omega),zy a,Ur l,Ur (by grind [BC,ae,a8])];rfl
   ·rw[zx (by omega),zx a,Ur (by grind [BC,ae,a8])];have:UI L.2 k=[]:=by unfold UI;rw[ac (by omega)];rfl
    rw[this];rfl
 ·have c:(W2 L.2 n r).take (max L.2.length (n+1))=W2 L.2 n r:=en (by omega);simp only;rw[Th,zx (by omega),Tf,zx (by omega),c]
 ·have d:=pL (B:=L.1) (M:=W2 L.2 n r) (f:=λb=>br (TI (b.2.length:Int) 0) (λ_=>SG (SY .i64 (b.2.length:Int) 1) λp=>ix b.2 p λq=>br (Og (q.length:Int) 0) (λ_=>SG (SY .i64 (b.2.length:Int) 1) λg=>gd (CF g b.2.length) λ_=>gd (CF 0 g) λ_=>zo (.nx (b.1,Dy b.2 0 g))) λ_=>zo (.dn ((0,(b,()))))) λ_=>zo (.dn ((0,(b,()))))) rfl (λk j=>by
   have c:((W2 L.2 n r).take (k+1)).length=k+1:=by grind
   have hi:SY .i64 ((k+1:Nat):Int) 1=(k:Int):=by rw[Sx (by omega)];omega
   have m:((W2 L.2 n r).take (k+1))[k]?=zo (UI (W2 L.2 n r) k):=by rw[hM,zy (by omega),Wl j]
   simp only[c,hi];rw[Te,zy (by omega),UB,TS m,cB];by_cases h:UI (W2 L.2 n r) k=[]
   ·rw[zy h,zy h,UB,Ur (by omega),Ur (by omega)]
    have:Dy ((W2 L.2 n r).take (k+1)) 0 k=(W2 L.2 n r).take k:=by
     unfold Dy;grind
    rw[this]
   simp_all) _ (a9 _)
  rw[en (a9 _)]at d;exact UZ (VS (by omega) d) rfl
end
section
open Go Sv
theorem gu{s:UC}(m:Sm s)(v:VSt s){a:Int}{i:Nat}(h:Zq a 0 (UJ 0 s.1.2)=zo i){j:Job}(e:s.2.1[i]?=zo j)(t:0<UY s.1 j):XM (s,(a,1))=zo (Zy s j,(1,0)):=by
 obtain⟨j',n,f,z,w,u,E⟩:=v.at h;rw[e]at f;cases f;subst z;have l:(UE s).2=0:=UO.2 v
 have o:Yb s (n:Int)=((i:Int),0):=by
  unfold Yb;rw[zx (show ¬ (UE s).2≠0 by simp[l]),h]
 have q:W9 (0:Int) (λs j=>((UY s.1 j:Int),0)) s (n:Int)=((UY s.1 j:Int),0):=by
  unfold W9 bI;rw[zx (show ¬ (UE s).2≠0 by simp[l]),h];simp only[e]
 have x:=v.jsmall;have hi:=(aa.1 e).1;unfold XM;rw[rU m,TA,Tc,zy l,Th,zx (show ¬ ((1:Int)<0) by omega),Ti,zy l,ZO m,q,TA,Tc,zy rfl,Tc,zx (show ¬ ((UY s.1 j:Int)=0) by omega),Ti,zy rfl,ZE m,o,TA,UB,TS e];obtain⟨b,c,d,k,r,rfl,y,D,B,C⟩:=u;have A:UI s.1.2 n=[b,c]:=by unfold UI;rw[r];rfl
 have p:UY s.1 ((n:Int),Vo c.2 b.2 d k)=c.2.length+b.2.length-k:=by
  unfold UY;simp only[ab,r];show c.2.length+b.2.length-((k:Int)).toNat=_;rw[ab]
 rw[p]at t;have g:=bB C B d y (k:=1);rw[show min 1 (c.2.length+b.2.length-k)=1 by omega]at g;show(bd (Ub (Vo c.2 b.2 d k,((1:Nat):Int))) λF=>_)=_;rw[g,TA];simp only;rw[Ur (by simp only[AQ];omega),UB,TG,zy (by simp only[AQ];exact hi),TS e];unfold Zy Yy;simp only[ab,A,h,eb];have e1:(Vo c.2 b.2 d k).2.1.2.2=d:=aV _ _ _ _;have e2:(Vo c.2 b.2 d k).2.2.2.toNat=k:=by show((k:Int)).toNat=k;rw[ab]
 rw[e1,e2];rfl
theorem gq{L:UF}(v:VLev L){n:Nat}(h:(UI L.2 n).length=2):U5 (L,(n:Int))=zo (Wn L n,0):=by
 have d:n<L.2.length:=by
  by_cases e:n<L.2.length
  ·exact e
  ·unfold UI at h;rw[ac (by omega)]at h;cases h
 have i:=v.len;obtain⟨f,g⟩:=v.small;unfold U5;simp only[UH,UG];rw[d8 _ f g,XS v,TA,Tc,zy rfl,Th,zx (by omega),Td,zx (by omega),Tc,zy rfl,Td,zx (by omega),UB,TS (Wl d),Th,zx (by omega),Ti,zy rfl,bA v d,TA]
 obtain⟨b,c,a⟩:∃ b c,UI L.2 n=[b,c]:=by
  match hq:UI L.2 n with
  |[b,c]=>exact⟨b,c,rfl⟩
  |[]=>rw[hq]at h;cases h
  |[_]=>rw[hq]at h;cases h
  |_::_::_::_=>rw[hq]at h;simp at h
 rw[bY _ (by rw[Wl d,a]) (VR.vl' v (n:=n) (by rw[a];simp)) (VR.vl' v (n:=n) (by rw[a];simp)),TA];unfold Wn;rw[ab,a]
theorem cO(l:List UD)(c:l.length<=9223372036854775807):Wh (l,l)=zo zt:=by
 unfold Wh;simp only[UH,UG];refine UZ (Xr (r:=(1,(((l.length:Int),zf),()))) (λk=>((k:Int),zf)) l.length rfl (by omega) (λk a=> ?_) (by simp only;rw[re];rfl)) ?_
 ·have b:l[k]?=zo l[k]:=ba a;simp only;rw[rl a,Sp,Sp,UB,TS b,UB,TS b,aZ,zy rfl,UK (by omega)]
 ·rw[TB,zx (show ¬ (1=0) by omega)];unfold Og;simp
theorem dU(r:Ua)(a:r.2.length<=9223372036854775807):Wx (r,r)=zo zt:=by
 unfold Wx;rw[Tc,zy rfl,cO _ a];rfl
theorem cQ(l:List Ua)(c:l.length<=1048576)(h:∀ r∈l,r.2.length<=9223372036854775807):Wi (l,l)=zo zt:=by
 unfold Wi;simp only[UH,UG];rw[Ti,zy rfl];refine UZ (Xr (r:=(1,(((l.length:Int),zf),()))) (λk=>((k:Int),zf)) l.length rfl (by omega) (λk a=> ?_) (by simp only;rw[re];rfl)) rfl;have b:l[k]?=zo l[k]:=ba a;simp only;rw[rl a,Sp,UB,TS b,UB,TS b,dU _ (h _ (lc a)),TA,Za,SM,UK (by omega)]
theorem dT(L:UF)(e:L.2.length<=1048576)(d:∀ rs∈L.2,rs.length<=1048576 /\ ∀ r∈rs,r.2.length<=9223372036854775807):X8 (L,L)=zo zt:=by
 unfold X8;simp only[UH,UG];rw[Ti,zy rfl,Ti,zy rfl];refine UZ (Xr (r:=(1,(((L.2.length:Int),zf),()))) (λk=>((k:Int),zf)) L.2.length rfl (by omega) (λk b=> ?_) (by simp only;rw[re];rfl)) rfl;have c:L.2[k]?=zo L.2[k]:=ba b;have a:=d _ (lc b);simp only;rw[rl b,Sp,UB,TS c,UB,TS c,cQ _ a.1 a.2,TA,Za,SM,UK (by omega)]
theorem dS{L:UF}{n:Nat}{j:Job}(h:JobAt L n j):Wy (j,j)=zo zt:=by
 obtain⟨l,m,a,k,_,rfl,b,_,g,i⟩:=h;obtain⟨s1,s2,c,d,e,f⟩:=Z5 i g a b;unfold Wy;rw[Tc,zy rfl,ax _ _ s1 s2 c d e f];simp[TA]
theorem eC{t:UC}(v:VSt t):WA (t,t)=zo zt:=by
 have m:=v.sm;have d:=v.jsmall;unfold WA;simp only[UH,UG];rw[dT _ m.lv m.rs,TA,Za,SM,Ti,zy rfl,Ti,zy rfl];refine UZ (Xr (r:=(1,(((t.2.1.length:Int),zf),()))) (λk=>((k:Int),zf)) t.2.1.length rfl (by omega) (λk a=> ?_) (by simp only;rw[re];rfl)) rfl;have b:t.2.1[k]?=zo t.2.1[k]:=ba a;obtain⟨n,c⟩:=v.job _ (lc a);simp only;rw[rl a,Sp,UB,TS b,UB,TS b,dS c,TA,Za,SM,UK (by omega)]
theorem tZ:WA (zS,zS)=zo zt:=by decide +kernel
end
section
open Go Sv
abbrev jD:=(Int×qM)
def cj(j:Job):jD:=(j.1,(j.2.1.1,(j.2.1.2.1,(j.2.1.2.2.1,(j.2.1.2.2.2.1,(j.2.1.2.2.2.2,(j.2.2.1.1,(j.2.2.1.2.1,(j.2.2.1.2.2,(j.2.2.2.1,j.2.2.2.2))))))))))
theorem gZ(p:List Job)(x:Job)(d:Int):U4 (p++[x]) d=(U4 p d).or (if x.1=d then zo x else zn):=by
 unfold U4;rw[vu]
 congr 1
 rw[ee];unfold cA;rw[Vj];by_cases h:x.1=d
 ·rw[zy h,show decide (d=x.1)=zt by simp[h]]
 ·rw[zx h,show decide (d=x.1)=zf by simp;exact λe=>h e.symm];rfl
theorem jI{s:UC}(w:(s.2.1.map (·.1)).Nodup)(E:s.2.1.length<=1000)(L:UF)(a:Int){D:List Int}{i:Nat}{d:Int}(hi:D[i]?=zo d):(loop (λ(c:Int×jD)=>br (TK c.1 (s.2.1.length:Int)) (λ_=>SG c.1 λm=>ix s.2.1 m λr=>SG (i:Int) λn=>ix D n λt=>br (Og r.1 t) (λ_=>SG (i:Int) λo=>ix D o λu=>br (SD u a) (λ_=>SG c.1 λq=>ix s.2.1 q λb=>zo (.nx ((SV .i64 c.1 1,(b.1,(b.2.1.1,(b.2.1.2.1,(b.2.1.2.2.1,(b.2.1.2.2.2.1,(b.2.1.2.2.2.2,(b.2.2.1.1,(b.2.2.1.2.1,(b.2.2.1.2.2,b.2.2.2))))))))))))) λ_=>zo (.nx (SV .i64 c.1 1,c.2))) λ_=>zo (.nx (SV .i64 c.1 1,c.2))) λ_=>zo (.dn (((0:Nat),(c,()))))) ((0:Int),cj (Wn L d)))=zo (0,(((s.2.1.length:Int),cj (Wt s L a d)),())):=by
 refine Vl (l:=s.2.1) (σ:=Job) (s:=((0:Int),cj (Wn L d))) (λk j=>((k:Int),cj j)) (λls k j=>∃ p,s.2.1=p++ls/\j=(if d=a then zn else U4 p d).getD (Wn L d)) (λ_ _ _=>(0,(((s.2.1.length:Int),cj (Wt s L a d)),()))) (Wn L d) rfl (by omega) ⟨[],rfl,by split<;>rfl⟩ (λj h=> ?_) (λk x ls j C y z h=> ?_)
 ·obtain⟨p,e,rfl⟩:=h;rw[co]at e;simp only;rw[re,SM,<- e];rfl
 ·obtain⟨p,e,rfl⟩:=h
  have B:x.1 ∉ p.map (·.1):=λA=>by
   rw[e,pg,nP]at w;exact w.2.2 _ A x.1 (by simp) rfl
  refine⟨(if d=a then zn else U4 (p++[x]) d).getD (Wn L d),?_,⟨p++[x],by rw[e];simp,rfl⟩,rfl⟩
  simp only;rw[rl z,Sp,UB,TS y,UB,TS hi,Tc,UK (by omega),gZ];by_cases f:x.1=d
  ·rw[zy f,UB,TS hi,Ti,UB,TS y,zy f];by_cases g:d=a
   ·rw[zy g,zy g,zy g]
   ·rw[zx g,zx g,Yq (by rw[<- f];exact B)];rfl
  ·rw[zx f,zx f];have:(U4 p d).or zn=U4 p d:=by cases U4 p d<;>rfl
   rw[this]
theorem aY{s:UC}(B:(s.2.1.map (·.1)).Nodup)(D:s.2.1.length<=1000){L:UF}(v:VLev L)(next b:Int):loop (λ(g:(Int×(Int×((List (List Ua))×((List Job)×Int)))))=>br (TK g.1 ((UJ 0 L.2).length:Int)) (λ_=>SG g.1 λm=>ix (UJ 0 L.2) m λt=>bd (U5 (((g.2.1,g.2.2.1),t))) λc=>bd (loop (λ(f:Int×jD)=>br (TK f.1 (s.2.1.length:Int)) (λ_=>SG f.1 λo=>ix s.2.1 o λu=>SG g.1 λp=>ix (UJ 0 L.2) p λw=>br (Og u.1 w) (λ_=>SG g.1 λq=>ix (UJ 0 L.2) q λx=>br (SD x b) (λ_=>SG f.1 λr=>ix s.2.1 r λe=>zo (.nx ((SV .i64 f.1 1,(e.1,(e.2.1.1,(e.2.1.2.1,(e.2.1.2.2.1,(e.2.1.2.2.2.1,(e.2.1.2.2.2.2,(e.2.2.1.1,(e.2.2.1.2.1,(e.2.2.1.2.2,e.2.2.2))))))))))))) λ_=>zo (.nx (SV .i64 f.1 1,f.2))) λ_=>zo (.nx (SV .i64 f.1 1,f.2))) λ_=>zo (.dn (((0:Nat),(f,()))))) (((0:Int),(c.1.1,(c.1.2.1.1,(c.1.2.1.2.1,(c.1.2.1.2.2.1,(c.1.2.1.2.2.2.1,(c.1.2.1.2.2.2.2,(c.1.2.2.1.1,(c.1.2.2.1.2.1,(c.1.2.2.1.2.2,c.1.2.2.2)))))))))))) λa=>gd (CF (BC g.2.2.2.1.length [((a.2.1.2.1,((a.2.1.2.2.1,(a.2.1.2.2.2.1,(a.2.1.2.2.2.2.1,(a.2.1.2.2.2.2.2.1,a.2.1.2.2.2.2.2.2.1)))),((a.2.1.2.2.2.2.2.2.2.1,(a.2.1.2.2.2.2.2.2.2.2.1,a.2.1.2.2.2.2.2.2.2.2.2.1)),a.2.1.2.2.2.2.2.2.2.2.2.2))):Job)].length) 1048576) λ_=>zo (.nx ((SV .i64 g.1 1,(g.2.1,(g.2.2.1,(IN g.2.2.2.1 ([(a.2.1.2.1,((a.2.1.2.2.1,(a.2.1.2.2.2.1,(a.2.1.2.2.2.2.1,(a.2.1.2.2.2.2.2.1,a.2.1.2.2.2.2.2.2.1)))),((a.2.1.2.2.2.2.2.2.2.1,(a.2.1.2.2.2.2.2.2.2.2.1,a.2.1.2.2.2.2.2.2.2.2.2.1)),a.2.1.2.2.2.2.2.2.2.2.2.2)))]),g.2.2.2.2))))))) λ_=>zo (.dn (((0:Nat),(g,()))))) (((0:Int),(L.1,(L.2,(([]:List Job),next)))))=zo (0,((((UJ 0 L.2).length:Int),(L.1,(L.2,((UJ 0 L.2).map (Wt s L b),next)))),())):=by
 have I:=v.len;have F:=Vz L.2 0;refine Vl (l:=UJ 0 L.2) (σ:=List Job) (λi js=>((i:Int),(L.1,(L.2,(js,next))))) (λls i js=>js++ls.map (Wt s L b)=(UJ 0 L.2).map (Wt s L b)) (λ_ _ _=>(0,((((UJ 0 L.2).length:Int),(L.1,(L.2,((UJ 0 L.2).map (Wt s L b),next)))),()))) [] rfl (by omega) rfl (λjs h=> ?_) (λi d ls js A hi C h=> ?_)
 ·simp only;rw[re,SM,<- h];simp
 ·refine⟨js++[Wt s L b d],?_,by rw[<- h];simp,rfl⟩;obtain⟨n,J,K,k,E⟩:=cF (ad hi);have y:=gq v (n:=n) (by rw[YS.1 E];rfl);rw[<- k]at y
  have G:js.length<=1000:=by
   have z:=congrArg rz h;rw[hV,li,li]at z;omega
  simp only;rw[rl C,Sp,UB,TS hi];have j:U5 ((L.1,L.2),d)=zo (Wn L d,0):=y;rw[j,TA];refine UZ (jI B D L b hi) ?_;rw[Ur (by simp only[BC,ae,a8];omega),UK (by omega)];rfl
end
section
open Go Sv
theorem Zw{α β σ S:Type}{l:List α}(c:Nat)(n:c<=1000)(mk:Nat->σ->S)(I:Nat->σ->Prop)(Q:β->Prop){f:S->Option (LR S β)}{s:S}(a:σ)(i:s=mk 0 a)(hi:I 0 a)
  (p:∀ k a,(k=l.length\/k=c)->k<=l.length->I k a -> ∃ r,f (mk k a)=zo (.dn r)/\Q r)
  (hc:∀ k x a,l[k]?=zo x->k<c->I k a->(∃ b,f (mk k a)=zo (.nx (mk (k+1) b))/\I (k+1) b) \/ ∃ r,f (mk k a)=zo (.dn r)/\Q r):∃ r,loop f s=zo r/\Q r:=by
 refine Wp (l:=l.take c) mk (λ_ k a=>I k a/\k<=(l.take c).length) Q a i (by simp;omega) ⟨hi,by omega⟩ (λa h=>p _ a (by simp;omega) (by simp;omega) h.1) (λk x m a q e o h=> ?_);have d:k<c:=by simp at o;omega
 have g:l[k]?=zo x:=by rw[hM]at e;rw[zy d]at e;exact e
 rcases hc k x a g d h.1 with⟨b,h1,j⟩|h1
 ·exact .inl ⟨b,h1,j,by omega⟩
 ·exact .inr h1
theorem gA{k c:Nat}(h:k<c):TK (k:Int) (c:Int)=zt:=by unfold TK;simp;omega
theorem oT{α β:Type}{l:List α}{k c:Nat}(h:k=l.length\/k=c)(b:k<=l.length)(A B C:Option β)(e:B=C):br (TK (k:Int) (l.length:Int)) (λ_=>br (TK (k:Int) (c:Int)) (λ_=>A) λ_=>B) (λ_=>C)=C:=by
 rw[Th];by_cases a:(k:Int)<(l.length:Int)
 ·rw[zy a,Th,zx (by omega),e]
 ·rw[zx a]
end
section
open Go Sv
end
section
open Go Sv
theorem jo(L:UF)(n:Nat):V8 (L,(n:Int))=zo (UI L.2 n):=by
 unfold V8;simp only[UH,UG];rw[Td];by_cases h:n<L.2.length
 ·rw[zx (by omega),UB,TS (Wl h)]
 ·rw[zy (by omega)];unfold UI;rw[ac (by omega)];rfl
theorem az{s:UC}(v:VSt s)(hf:jC s.1){n:Nat}{j:Job}(ha:JobAt s.1 n j)(h0:¬ 0<UY s.1 j)(hc:WR s.1 j=zt)(h5:U8 j≠[]->s.2.2<=1000000){X:Int}(D:X=(Yl s j:Int)) :
  (bd (Va ((s.1,((n:Int),[])))) λp=>br (TI (Ko (AQ j.2.2.2.1)) 0) (λ_=>bd (V8 (p,X)) λw=>gd (CF (AQ w) 1048576) λ_=>gd (CF (BC (AQ w) (AQ ([(s.2.2,j.2.2.2.1)]))) 1048576) λ_=>bd (Va ((p,(X,IN w ([(s.2.2,j.2.2.2.1)]))))) λy=>bd (Uy y) λq=>bd (loop (λ(c:(Int×qL))=>br (TK c.1 (Ko (AQ q))) (λ_=>SG c.1 λE=>ix q E λY=>bd (U5 (((c.2.1,c.2.2.1),Y))) λe=>bd (loop (λ(l:(Int×(Int×qM)))=>br (TK l.1 (Ko (AQ s.2.1))) (λ_=>SG l.1 λG=>ix s.2.1 G λZ=>SG c.1 λI=>ix q I λx52=>br (Og Z.1 x52) (λ_=>SG c.1 λJ=>ix q J λx54=>br (SD x54 (n:Int)) (λ_=>SG l.1 λK=>ix s.2.1 K λg=>zo (.nx ((SV .i64 l.1 1,(g.1,(g.2.1.1,(g.2.1.2.1,(g.2.1.2.2.1,(g.2.1.2.2.2.1,(g.2.1.2.2.2.2,(g.2.2.1.1,(g.2.2.1.2.1,(g.2.2.1.2.2,g.2.2.2))))))))))))) λ_=>zo (.nx (SV .i64 l.1 1,l.2))) λ_=>zo (.nx (SV .i64 l.1 1,l.2))) λ_=>zo (.dn ((0,(l,()))))) ((0,(e.1.1,(e.1.2.1.1,(e.1.2.1.2.1,(e.1.2.1.2.2.1,(e.1.2.1.2.2.2.1,(e.1.2.1.2.2.2.2,(e.1.2.2.1.1,(e.1.2.2.1.2.1,(e.1.2.2.1.2.2,e.1.2.2.2)))))))))))) λa=>gd (CF (BC (AQ c.2.2.2.1) (AQ ([(a.2.1.2.1,((a.2.1.2.2.1,(a.2.1.2.2.2.1,(a.2.1.2.2.2.2.1,(a.2.1.2.2.2.2.2.1,a.2.1.2.2.2.2.2.2.1)))),((a.2.1.2.2.2.2.2.2.2.1,(a.2.1.2.2.2.2.2.2.2.2.1,a.2.1.2.2.2.2.2.2.2.2.2.1)),a.2.1.2.2.2.2.2.2.2.2.2.2)))]))) 1048576) λ_=>zo (.nx ((SV .i64 c.1 1,(c.2.1,(c.2.2.1,(IN c.2.2.2.1 ([(a.2.1.2.1,((a.2.1.2.2.1,(a.2.1.2.2.2.1,(a.2.1.2.2.2.2.1,(a.2.1.2.2.2.2.2.1,a.2.1.2.2.2.2.2.2.1)))),((a.2.1.2.2.2.2.2.2.2.1,(a.2.1.2.2.2.2.2.2.2.2.1,a.2.1.2.2.2.2.2.2.2.2.2.1)),a.2.1.2.2.2.2.2.2.2.2.2.2)))]),c.2.2.2.2))))))) λ_=>zo (.dn ((0,(c,()))))) ((0,(y.1,(y.2,([],SV .i64 s.2.2 1)))))) λz=>zo ((((z.2.1.2.1,z.2.1.2.2.1),z.2.1.2.2.2),0))) λ_=>bd (Uy p) λt=>bd (loop (λ(d:(Int×qL))=>br (TK d.1 (Ko (AQ t))) (λ_=>SG d.1 λN=>ix t N λx62=>bd (U5 (((d.2.1,d.2.2.1),x62))) λf=>bd (loop (λ(m:(Int×(Int×qM)))=>br (TK m.1 (Ko (AQ s.2.1))) (λ_=>SG m.1 λO=>ix s.2.1 O λx66=>SG d.1 λP=>ix t P λx68=>br (Og x66.1 x68) (λ_=>SG d.1 λS=>ix t S λx70=>br (SD x70 (n:Int)) (λ_=>SG m.1 λU=>ix s.2.1 U λk=>zo (.nx ((SV .i64 m.1 1,(k.1,(k.2.1.1,(k.2.1.2.1,(k.2.1.2.2.1,(k.2.1.2.2.2.1,(k.2.1.2.2.2.2,(k.2.2.1.1,(k.2.2.1.2.1,(k.2.2.1.2.2,k.2.2.2))))))))))))) λ_=>zo (.nx (SV .i64 m.1 1,m.2))) λ_=>zo (.nx (SV .i64 m.1 1,m.2))) λ_=>zo (.dn ((0,(m,()))))) ((0,(f.1.1,(f.1.2.1.1,(f.1.2.1.2.1,(f.1.2.1.2.2.1,(f.1.2.1.2.2.2.1,(f.1.2.1.2.2.2.2,(f.1.2.2.1.1,(f.1.2.2.1.2.1,(f.1.2.2.1.2.2,f.1.2.2.2)))))))))))) λb=>gd (CF (BC (AQ d.2.2.2.1) (AQ ([(b.2.1.2.1,((b.2.1.2.2.1,(b.2.1.2.2.2.1,(b.2.1.2.2.2.2.1,(b.2.1.2.2.2.2.2.1,b.2.1.2.2.2.2.2.2.1)))),((b.2.1.2.2.2.2.2.2.2.1,(b.2.1.2.2.2.2.2.2.2.2.1,b.2.1.2.2.2.2.2.2.2.2.2.1)),b.2.1.2.2.2.2.2.2.2.2.2.2)))]))) 1048576) λ_=>zo (.nx ((SV .i64 d.1 1,(d.2.1,(d.2.2.1,(IN d.2.2.2.1 ([(b.2.1.2.1,((b.2.1.2.2.1,(b.2.1.2.2.2.1,(b.2.1.2.2.2.2.1,(b.2.1.2.2.2.2.2.1,b.2.1.2.2.2.2.2.2.1)))),((b.2.1.2.2.2.2.2.2.2.1,(b.2.1.2.2.2.2.2.2.2.2.1,b.2.1.2.2.2.2.2.2.2.2.2.1)),b.2.1.2.2.2.2.2.2.2.2.2.2)))]),d.2.2.2.2))))))) λ_=>zo (.dn ((0,(d,()))))) ((0,(p.1,(p.2,([],s.2.2)))))) λA=>zo ((((A.2.1.2.1,A.2.1.2.2.1),A.2.1.2.2.2),0)):Option (UC×Int))=zo (ZH s (Vw s j) (YY s j) j.1,0):=by
 have F:=gB v hf ha h0 hc h5;obtain⟨o1,o2,W,o4,o5⟩:=ha.out v.lev (hf n);have hj:j.1.toNat=n:=by rw[W];simp
 have hn2:=v.n2;have hn1:=v.n1;have hjs:=v.jsmall;have o:=F.lev;have hl:=v.lev.len;have hl1:=F.l1.len;have small:∀ {M:UF},VLev M -> ∀ i,(UI M.2 i).length<=1048576:=λvM i=>by have:=(vM.own i).1;omega
 rw[dF (by omega) (by omega) (by simp) (small v.lev),TA];simp only[UH,UG];rw[Te];by_cases u:U8 j=[]
 ·rw[zx (show ¬ ((j.2.2.2.1.length:Int)>0) by rw[show j.2.2.2.1=[]from u];simp)];have B:Vw s j=U9 s.1 n []:=by unfold Vw;rw[zy u,hj]
  have C:YY s j=s.2.2:=by unfold YY;rw[zy u]
  rw[<- B,aS (by have:=o.len;omega),TA];refine UZ (aY v.nodup (by omega) o s.2.2 (n:Int)) ?_;rw[C,W];rfl
 ·rw[zy (show((j.2.2.2.1.length:Int)>0) by have:=cP.2 u;have h:(U8 j).length=j.2.2.2.1.length:=rfl;omega),D,jo,TA];have hro:=F.room u;have ht:=F.to12 u
  have B:Vw s j=U9 (U9 s.1 n []) (Yl s j) (UI (U9 s.1 n []).2 (Yl s j)++[(s.2.2,U8 j)]):=by
   unfold Vw;rw[zx u,hj]
  have C:YY s j=s.2.2+1:=by unfold YY;rw[zx u]
  rw[Ur (by omega),Ur (by simp only[BC,ae,a8];omega)];have hW:=dF (L:=U9 s.1 n []) (n:=Yl s j) (r:=UI (U9 s.1 n []).2 (Yl s j)++[(s.2.2,U8 j)]) (by omega) (by omega) (by simp;omega) (small F.l1);rw[<- B]at hW;refine UZ (x:=Vw s j) hW ?_;rw[aS (by have:=o.len;omega),TA,Su (by omega)];refine UZ (aY v.nodup (by omega) o (s.2.2+1) (n:Int)) ?_;rw[C,W];rfl
theorem dE{s:UC}(m:Sm s)(l:jC s.1)(a:Int):WF (s,a)=zo (W9 zS ZT s a):=by
 unfold WF;rw[dz m,TA,ZE m,cJ m];unfold W9;by_cases b:(UE s).2=0;rotate_left
 ·rw[zy b,Ti,zx b,zy b];rfl
 rw[zx (show ¬ (UE s).2≠0 by simp[b]),zx (show ¬ (UE s).2≠0 by simp[b]),zx (show ¬ (UE s).2≠0 by simp[b])];have v:=UO.1 b;unfold bI Yb;rw[zx (show ¬ (UE s).2≠0 by simp[b])];cases q:Zq a 0 (UJ 0 s.1.2)with
 |none=>rfl
 |some i=>
  obtain⟨j,n,o,p,f,k,r⟩:=v.at q;have:=v.lev.len;subst p;simp only[o];unfold ZT Z3;by_cases c:0<UY s.1 j
  ·rw[zy c,zy (.inl c)];rfl
  rw[zx c]
  have g:(if WC s.1 j=zt then(j.1,(0:Int))else(j.1+1,0))=((Yl s j:Int),0):=by
   unfold Yl;split<;>rw[f]<;>simp
  rw[g,Ti,zy rfl,TA,UB,TS o,TA,Uv,Tn];by_cases hc:WR s.1 j=zt;rotate_left
  ·rw[zx hc,zy (.inr (by simpa using hc))];rfl
  rw[zy hc,zx (show ¬ (0<UY s.1 j\/WR s.1 j=zf) by rw[hc];simp;omega),Te];by_cases e:s.2.2>1000000
  ·rw[zy e,Te];by_cases d:U8 j=[]
   ·rw[zx (show ¬ (Ko (AQ j.2.2.2.1)>0) by rw[show j.2.2.2.1=[]from d];simp[UH,UG]),zx (by simp[d])];dsimp only;exact az v l k c hc (λh=>absurd d h) rfl
   ·rw[zy (show Ko (AQ j.2.2.2.1)>0 by have:=cP.2 d;have h:(U8 j).length=j.2.2.2.1.length:=rfl;rw[UH,UG];omega),zy ⟨e,d⟩];rfl
  ·rw[zx e,zx (by simp[e])];dsimp only;exact az v l k c hc (λh=>by omega) rfl
theorem gp{s:UC}(m:Sm s)(f:jC s.1)(a:Int):Vc (s,a)=zo (Vm s a):=by
 unfold Vc;rw[cJ m,TA,ZO m,dE m f];unfold W9 Vm;by_cases b:(UE s).2=0;rotate_left
 ·rw[zy b,zy b,Tc,zx b];rw[Ti,zx b,zy b];rfl
 rw[zx (show ¬ (UE s).2≠0 by simp[b]),zx (show ¬ (UE s).2≠0 by simp[b]),zx (show ¬ (UE s).2≠0 by simp[b]),zx (show ¬ (UE s).2≠0 by simp[b])];have v:=UO.1 b;unfold bI;cases e:Zq a 0 (UJ 0 s.1.2)with
 |none=>
  simp only;rw[Tc,zx (by omega),Ti,zx (by omega)];rfl
 |some i=>
  obtain⟨j,n,d,k,g,h,l⟩:=v.at e;simp only[d];unfold YU;rw[Tc,zy rfl,Uv,Tn];by_cases hc:WR s.1 j=zt;rotate_left
  ·rw[zx hc,zy (by simpa using hc)];rfl
  rw[zy hc,zx (by simp[hc]),Ti,zy rfl,TA,Te];by_cases c:0<UY s.1 j
  ·rw[zy (show((UY s.1 j:Int))>0 by omega),zy c,gu m v e d c];rfl
  ·rw[zx (show ¬ ((UY s.1 j:Int))>0 by omega),zx c];rfl
end
section
open Go Sv
def Uu(l:List UD)(k:XU):Option UD:=l.find? λx=>decide (x.1=k)
theorem U3(x:UD)(l:List UD)(k:XU):Uu (x::l) k=if x.1=k then zo x else Uu l k:=by
 unfold Uu;rw[ee];by_cases h:x.1=k<;>simp[h]
theorem Zr(l m:List UD)(k:XU):Uu (l++m) k=(Uu l k).or (Uu m k):=by
 unfold Uu;rw[vu]
theorem Ye(x:UD)(k:XU):Uu [x] k=if x.1=k then zo x else zn:=by rw[U3];rfl
theorem ck{l:List UD}{k:XU}{x:UD}(h:Uu l k=zo x):x.1=k/\x∈l:=by
 unfold Uu at h;exact⟨by simpa using xm h,sw h⟩
theorem Yd{l:List UD}{k:XU}(h:∀ x∈l,x.1≠k):Uu l k=zn:=by
 unfold Uu;rw[tw];intro x a;simpa using h x a
theorem ZZ:∀ {l:List UD} {q:XU},Asc (zo q) l -> ∀ x∈l,Si q x.1=zt
 |x::l,q,⟨a,b⟩,y,hy=>by
  rcases bl.1 hy with e|hy
  ·rw[e];exact a q rfl
  ·exact Wm (a q rfl) (ZZ b y hy)
theorem fm:∀ {l m:List UD} {p q:Option XU},Asc p l->Asc q m->(∀ k,Uu l k=Uu m k)->l=m
 |[],[],_,_,_,_,_=>rfl
 |[],y::m,_,_,_,_,h=>by
  have:=h y.1;rw[U3,zy rfl]at this;cases this
 |x::l,[],_,_,_,_,h=>by
  have:=h x.1;rw[U3,zy rfl]at this;cases this
 |x::l,y::m,p,q,⟨t,f⟩,⟨s,d⟩,h=>by
  have e1:=h x.1;have e2:=h y.1;rw[U3,zy rfl,U3]at e1;rw[U3,U3,zy rfl]at e2
  have g:x.1=y.1:=by
   by_cases b:y.1=x.1
   ·exact b.symm
   ·rw[zx b]at e1;rw[zx (λe=>b e.symm)]at e2;have n:=ZZ d x (ck e1.symm).2;have j:=ZZ f y (ck e2).2;rw[VU n]at j;cases j
  rw[zy g.symm]at e1;have c:x=y:=Option.some.inj e1;subst c;refine congrArg (x::·) (fm f d λk=> ?_);have b:=h k;rw[U3,U3]at b;by_cases a:x.1=k
  ·have o:Uu l k=zn:=Yd λz i=>by
    have:=ZZ f z i;rw[a]at this;exact λe=>ZF this e.symm
   have r:Uu m k=zn:=Yd λz i=>by
    have:=ZZ d z i;rw[a]at this;exact λe=>ZF this e.symm
   rw[o,r]
  ·rw[zx a,zx a]at b;exact b
theorem ZY(P:UD->Bool):∀ {l:List UD} {p:Option XU},Asc p l->Asc p (l.filter P)
 |[],_,_=>trivial
 |x::l,p,⟨b,d⟩=>by
  have c:=ZY P d;rw[wl];cases P x with
  |true=>exact⟨b,c⟩
  |false=>
   refine c.weak λe a=>⟨x.1,rfl,?_⟩;exact VU (b e a)
theorem Y9(P:UD->Bool)(k:XU):∀ {l:List UD} {p:Option XU},Asc p l->Uu (l.filter P) k=(Uu l k).filter P
 |[],_,_=>rfl
 |x::l,p,⟨h,c⟩=>by
  have d:=Y9 P k c;rw[wl,U3];by_cases a:x.1=k
  ·rw[zy a]
   have f:Uu (l.filter P) k=zn:=Yd λz g=>by
    have:=ZZ c z (List.mem_filter.1 g).1;rw[a]at this;exact λe=>ZF this e.symm
   cases b:P x with
   |true=>rw[zy rfl,U3,zy a];simp[oj,b]
   |false=>rw[zx (by simp),f];simp[oj,b]
  ·rw[zx a];cases b:P x with
   |true=>rw[zy rfl,U3,zx a];exact d
   |false=>simpa using d
def aO:List UD->UD->List UD
 |[],x=>[x]
 |y::l,x=>if Si y.1 x.1=zt then y::aO l x else if y.1=x.1 then y::l else x::y::l
theorem cU(x:UD):∀ {l:List UD} {p:Option XU},Asc p l->(∀ q,p=zo q->Si q x.1=zt)->Asc p (aO l x)
 |[],p,_,hp=>⟨hp,trivial⟩
 |y::l,p,⟨d,a⟩,hp=>by
  unfold aO;by_cases h:Si y.1 x.1=zt
  ·rw[zy h];exact⟨d,cU x a λq c=>by cases c;exact h⟩
  ·rw[zx h];by_cases b:y.1=x.1
   ·rw[zy b];exact⟨d,a⟩
   ·rw[zx b];exact⟨hp,λq c=>by cases c;exact Zh (by simpa using h) b,a⟩
theorem cV(x:UD)(k:XU):∀ {l:List UD} {p:Option XU},Asc p l->Uu (aO l x) k=(Uu l k).or (if x.1=k then zo x else zn)
 |[],_,_=>by unfold aO;rw[Ye];rfl
 |y::l,p,⟨f,d⟩=>by
  unfold aO;by_cases h:Si y.1 x.1=zt
  ·rw[zy h,U3,U3,cV x k d];split<;>rfl
  ·rw[zx h];by_cases b:y.1=x.1
   ·rw[zy b,U3,<- b];by_cases a:y.1=k
    ·rw[zy a];rfl
    ·rw[zx a,zx a];cases Uu l k<;>rfl
   ·rw[zx b,U3];have c:Si x.1 y.1=zt:=Zh (by simpa using h) b;by_cases a:x.1=k
    ·rw[zy a]
     have:Uu (y::l) k=zn:=Yd λz hz=>by
      rw[<- a];rcases bl.1 hz with e|hz
      ·rw[e];exact b
      ·exact λe=>ZF (Wm c (ZZ d z hz)) e.symm
     rw[this,zy a];rfl
    ·rw[zx a,zx a];cases Uu (y::l) k<;>rfl
theorem fi(k:XU):∀ (r l:List UD),Asc zn l->Asc zn (r.foldl aO l)/\Uu (r.foldl aO l) k=(Uu l k).or (Uu r k)
 |[],l,h=>⟨h,by show Uu l k=_;cases Uu l k<;>rfl⟩
 |x::r,l,h=>by
  obtain⟨a,b⟩:=fi k r (aO l x) (cU x h λ_ h=>by cases h);refine⟨a,?_⟩;rw[ed,b,cV x k h,U3,ey]
  congr 1
  split<;>rfl
def gS(rs:List Ua)(l:List UD):List UD:=rs.foldl (λout r=>r.2.foldl aO out) l
def Vk:List Ua->XU->Option UD
 |[],_=>zn
 |r::rs,k=>(Uu r.2 k).or (Vk rs k)
theorem bn(k:XU):∀ (rs:List Ua) (l:List UD),Asc zn l->Asc zn (gS rs l)/\Uu (gS rs l) k=(Uu l k).or (Vk rs k)
 |[],l,h=>⟨h,by show Uu l k=_;cases Uu l k<;>rfl⟩
 |r::rs,l,h=>by
  obtain⟨a,b⟩:=fi k r.2 l h;obtain⟨c,d⟩:=bn k rs (r.2.foldl aO l) a;refine⟨c,?_⟩;show Uu (gS rs (r.2.foldl aO l)) k=_;rw[d,b,ey];rfl
def Xm(x:UD):Bool:=!x.2.2.1
def LK(L:UF):List UD:=(gS (VK L.2) []).filter Xm
theorem jR{L M:UF}(h:∀ k,(Vk (VK L.2) k).filter Xm=(Vk (VK M.2) k).filter Xm):LK L=LK M:=by
 have a:=λk=>bn k (VK L.2) [] trivial;have b:=λk=>bn k (VK M.2) [] trivial;refine fm (ZY Xm (a []).1) (ZY Xm (b []).1) λk=> ?_;show Uu ((gS (VK L.2) []).filter Xm) k=Uu ((gS (VK M.2) []).filter Xm) k;rw[Y9 Xm k (a []).1,Y9 Xm k (b []).1,(a k).2,(b k).2];exact h k
theorem cv:∀ (a b:List Ua) (k:XU),Vk (a++b) k=(Vk a k).or (Vk b k)
 |[],b,k=>rfl
 |r::a,b,k=>by
  show(Uu r.2 k).or (Vk (a++b) k)=((Uu r.2 k).or (Vk a k)).or (Vk b k);rw[cv a b k,ey]
theorem gJ:∀ {l:List UD} {s:U2} {k:XU},Z4 s l->s.1=zt->Si k s.2.1=zt->Uu l k=zn
 |[],_,_,_,_,_=>rfl
 |x::l,s,k,⟨_,c,d⟩,b,hk=>by
  have a:Si k x.1=zt:=dX hk (c b);rw[U3,zx (λe=>ZF a e.symm)];exact gJ d rfl a
theorem cf(k:XU):∀ {l:List UD} {s:U2},Z4 s l->Uu (WV s l) k=if s.1=zt/\s.2.1=k then zn else(Uu l k).filter λx=> !(s.2.2&&x.2.2.1)
 |[],s,_=>by unfold WV;split<;>rfl
 |x::l,s,⟨_,g,c⟩=>by
  have f:=cf k c;simp only[true_and]at f;unfold WV;rw[Zr,f,U3];by_cases a:x.1=k
  ·rw[zy a,zy a];by_cases hs:s.1=zt/\s.2.1=k
   ·rw[zy hs];have:keep s x=zf:=by unfold keep;rw[hs.1,hs.2,a];simp
    rw[this];rfl
   ·rw[zx hs]
    have:keep s x = !(s.2.2&&x.2.2.1):=by
     unfold keep
     have:(s.1&&decide (x.1=s.2.1))=zf:=by
      cases b:s.1 with
      |false=>rfl
      |true=>
       simp only[Bool.true_and,decide_eq_false_iff_not];intro e;exact hs ⟨b,by rw[<- e];exact a⟩
     rw[this];rfl
    rw[this];cases d:(!(s.2.2&&x.2.2.1))with
    |true=>rw[zy rfl,Ye,zy a];simp[oj,d]
    |false=>rw[zx (by simp)];simp[oj,d,Uu]
  ·rw[zx a,zx a]
   have b:Uu (if keep s x=zt then[x]else[]) k=zn:=by
    split
    ·rw[Ye,zx a]
    ·rfl
   rw[b,Option.none_or];by_cases hs:s.1=zt/\s.2.1=k
   ·rw[zy hs]
    have h:Si k x.1=zt:=by
     rw[<- hs.2];refine Zh (g hs.1) λe=>a ?_;rw[e];exact hs.2
    rw[gJ c rfl h];rfl
   ·rw[zx hs]
theorem ap{a b:List UD}(va:VL a)(l:VL b)(k:XU):∀ {n:Nat},n<=a.length+b.length->Uu (US a b n) k=(Uu (a.take (pos a b n).1) k).or (Uu (b.take (pos a b n).2) k)
 |0,_=>rfl
 |n+1,h=>by
  have G:=ap va l k (n:=n) (by omega);obtain⟨q,hs⟩:=We va l (n:=n) (by omega);obtain⟨x,c,_⟩:=V3 va l (n:=n) (by omega);rw[W1 va l c,Zr,G,Ye];unfold aM at c;rw[show pos a b (n+1)=if YF a b (pos a b n).1 (pos a b n).2=zt then((pos a b n).1+1,(pos a b n).2)else((pos a b n).1,(pos a b n).2+1)from rfl]
  revert c q;generalize (pos a b n).1=i;generalize (pos a b n).2=j;intro q c;cases g:YF a b i j with
  |true=>
   rw[zy g]at c;rw[zy rfl];simp only;rw[kd,c,tg,Zr,Ye,ey,ey]
   congr 1
   by_cases r:x.1=k
   ·rw[zy r]
    have:Uu (b.take j) k=zn:=Yd λy F=>by
     obtain⟨m,o⟩:=ci F;rw[hM]at o;split at o
     ·rename_i E;have D:=q.jb;have f:b[j-1]?=zo b[j-1]:=ba (by omega);have B:=q.pb (j-1) (by omega) _ x f c
      have C:Si b[j-1].1 y.1=zf:=by
       by_cases s:m=j-1
       ·subst s;rw[f]at o;cases o;exact W3 _
       ·have A:=l.asc
        have:∀ d,m+d+1<=j-1 -> ∀ z,b[m+d+1]?=zo z->Si y.1 z.1=zt:=by
         intro d
         induction d with
         |zero=>intro _ z t;exact l.lt o t
         |succ d u=>
          intro I z t;have p:b[m+d+1]?=zo b[m+d+1]:=ba (by omega);exact Wm (u (by omega) _ p) (l.lt p t)
        exact VU (this (j-1-m-1) (by omega) _ (by rw[show m+(j-1-m-1)+1=j-1 by omega];exact f))
      intro e;have w:Si y.1 x.1=zt:=bF C B;rw[e,r,W3]at w;cases w
     ·cases o
    rw[this];rfl
   ·rw[zx r];cases Uu (b.take j) k<;>rfl
  |false=>
   rw[zx (show ¬ YF a b i j=zt by rw[g];decide)]at c;rw[zx (show ¬ (zf=zt) by decide)];simp only;rw[kd,c,tg,Zr,Ye,ey]
theorem oq{a b:List UD}(va:VL a)(e:VL b)(c:Bool)(k:XU):Uu (Vo a b c (a.length+b.length)).2.2.1 k=((Uu a k).or (Uu b k)).filter λx=> !(c&&x.2.2.1):=by
 have f:=Xa va e c (a9 (a.length+b.length));obtain⟨d,hs⟩:=We va e (a9 (a.length+b.length));show Uu (WV (s0 c) (US a b (a.length+b.length))) k=_;rw[cf k f,zx (by simp),ap va e k (a9 _)];rw[en (by have:=d.ia;have:=d.jb;omega),en (by have:=d.ia;have:=d.jb;omega)]
end
end Go.Proofs.YtiehjicadcamiaaGreat.Pl
