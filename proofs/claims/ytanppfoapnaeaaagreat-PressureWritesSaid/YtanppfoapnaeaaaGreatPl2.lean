/- Functions of the program and of the specification as plain functions, and laws about them. No condition. -/
import Derived.Test.YtanppfoapnaeaaaGreatPl1
import Derived.KernelRfl
set_option linter.all false
open List renaming append_assoc->dc, append_nil->en, find?_cons->sp, flatten_append->nb, flatten_cons->sk, flatten_eq_nil_iff->s5, foldl_cons->hI, getElem?_eq_getElem->bl, getElem?_eq_none->a9, getElem?_eq_some_iff->a8, getElem?_of_mem->ee, getElem?_take->nm, getElem_mem->l4, getLast?_eq_getElem?->oj, length->gs, length_append->fl, length_cons->ci, length_drop->xb, length_eq_zero_iff->s6, length_map->iP, length_nil->cP, length_pos_iff->eg, length_set->l6, length_take->ll, map_append->oy, mem_append->o3, mem_cons->gl, mem_flatten->hV, mem_map->nn, mem_of_getElem?->co, mem_singleton->rY, nil_append->xg, nodup_append->ol, nodup_cons->sr, replicate->xi, set_eq_take_append_cons_drop->r6, take_append->xc, take_append_drop->li, take_left->xj, take_left'->xh, take_of_length_le->gq, take_zero->xk
open Nat renaming add_sub_cancel_left->s8, beq->xm, blt->xe, le_refl->eb, sub_zero->kd, zero_add->eo, zero_le->gM
open Int renaming toNat_natCast->ed
open Option renaming getD_none->tg, getD_some->nP
namespace Go.Proofs.YtanppfoapnaeaaaGreat.Pl
section
open Go Sv
def pB(L:Td)(j:XY):Bool:=decide ((j.2.2.2.1.length:Int)<=UV L.1 j.1.toNat)
def bJ(L:Td)(n:Nat):Bool:=decide (n<12/\((L.2[n]?).getD []).length<2)
theorem VSt.at{s:UB}(v:VSt s){a:Int}{i:Nat}(h:sY a 0 (UO 0 s.1.2)=some i):∃ (j:XY) (n:Nat),s.2.1[i]?=some j/\a=(n:Int)/\j.1=(n:Int)/\JobAt s.1 n j/\n<s.1.2.length:=by
 obtain⟨_,b⟩:=gi h;rw[kd]at b;rw[<- v.due,List.getElem?_map]at b;cases c:s.2.1[i]? with
 |none=>rw[c]at b;cases b
 |some j=>
  rw[c]at b;simp only[Option.map_some,Option.some.injEq]at b;obtain⟨n,g⟩:=v.job j (co c);have d:=g;obtain⟨o,p,m,k,l,e,_⟩:=g;have f:j.1=(n:Int):=by rw[e]
  exact⟨j,n,rfl,by rw[<- b,f],f,d,(a8.1 l).1⟩
theorem dj{L:Td}(v:VLev L)(k:Int):XE (L,k)=some (if k<0\/k>=12 then 7 else 0):=by
 obtain⟨c,d⟩:=v.small;unfold XE;rw[Yg _ c d,Wx v,Sp,TJ,if_pos rfl,TI,TF];by_cases a:k<0
 ·rw[if_pos a,if_pos (.inl a)]
 ·rw[if_neg a];by_cases b:k>=12
  ·rw[if_pos b,if_pos (.inr b)]
  ·rw[if_neg b,if_neg (by omega)]
theorem o6(l:List Tw):S1 (l.length:Int) 2=decide (l.length<2):=by
 unfold S1;rw[decide_eq_decide];omega
theorem aA{L:Td}(v:VLev L){n:Nat}(d:n<=12):Uh (L,(n:Int))=some (bJ L n,if n>=12 then 7 else 0):=by
 unfold Uh bJ;simp only[Te,Tc];rw[dj v,Sp,TJ];by_cases h:n>=12
 ·rw[if_pos (show(n:Int)<0\/(n:Int)>=12 by omega),if_neg (by decide),if_pos h];simp;omega
 ·rw[if_neg (show ¬ ((n:Int)<0\/(n:Int)>=12) by omega),if_pos rfl,if_neg h,TI];have a:n<12:=by omega
  by_cases c:n<L.2.length
  ·have b:L.2[n]?=some (L.2[n]'c):=by simp
   rw[if_pos (by omega),Tb,S6 b,b,o6,nP];simp[a]
  ·rw[if_neg (by omega),a9 (by omega)];simp[a]
end
section
open Go Sv
end
section
open Go Sv
theorem ma{β:Type}(k:Unit->Option β):gd true k=k ():=rfl
def Tl(l:List (List Tw))(i:Nat):List Tw:=(l[i]?).getD []
def X6(l:List (List Tw)):Nat->Nat
 |0=>0
 |k+1=>if Tl l k=[]then X6 l k else k+1
def Xx(l:List (List Tw))(n:Nat):List (List Tw):=l++xi (n+1-l.length) []
def WT(l:List (List Tw))(n:Nat)(r:List Tw):List (List Tw):=(Xx l n).set n r
def Xg(l:List (List Tw)):List (List Tw):=l.take (X6 l l.length)
def V9(L:Td)(n:Nat)(r:List Tw):Td:=(L.1,Xg (WT L.2 n r))
theorem aM(l:List (List Tw)):∀ k,X6 l k<=k
 |0=>eb _
 |k+1=>by
  unfold X6;split
  ·exact Nat.le_succ_of_le (aM l k)
  ·exact eb _
theorem Zb(l:List (List Tw)):∀ {k i:Nat},X6 l k<=i->i<k->Tl l i=[]
 |0,_,_,h=>by omega
 |k+1,i,h1,h2=>by
  unfold X6 at h1;split at h1
  ·rename_i a;by_cases hi:i=k
   ·rw[hi];exact a
   ·exact Zb l h1 (by omega)
  ·omega
theorem Z1(l:List (List Tw)):∀ {k m:Nat},X6 l k=m+1->Tl l m≠[]
 |0,m,h=>by cases h
 |k+1,m,h=>by
  unfold X6 at h;split at h
  ·exact Z1 l h
  ·rename_i a;have:m=k:=by omega
   rw[this];exact a
theorem aG(l:List (List Tw))(i:Nat):Tl (Xg l) i=Tl l i:=by
 unfold Xg;by_cases h:i<X6 l l.length
 ·unfold Tl;rw[nm,if_pos h]
 ·have a:Tl (l.take (X6 l l.length)) i=[]:=by
   unfold Tl;rw[nm,if_neg h];rfl
  rw[a];by_cases b:i<l.length
  ·exact(Zb l (by omega) b).symm
  ·unfold Tl;rw[a9 (by omega)];rfl
theorem dU(l:List (List Tw)):(Xg l).getLast? ≠ some []:=by
 have c:(Xg l).length=X6 l l.length:=by
  have:=aM l l.length;unfold Xg;rw[ll];omega
 cases a:X6 l l.length with
 |zero=>
  have:Xg l=[]:=s6.1 (by rw[c,a]);rw[this];simp
 |succ m=>
  have d:=Z1 l a;rw[oj,c,a];intro e;have b:Tl (Xg l) m=[]:=by unfold Tl;rw[show m=m+1-1 by omega,e];rfl
  rw[aG]at b;exact d b
theorem YT(l:List (List Tw))(n:Nat):(Xx l n).length=max l.length (n+1):=by
 unfold Xx;simp;omega
theorem az(l:List (List Tw))(n i:Nat):Tl (Xx l n) i=Tl l i:=by
 unfold Tl Xx;by_cases h:i<l.length
 ·rw[List.getElem?_append_left h]
 ·rw[List.getElem?_append_right (by omega),List.getElem?_replicate,a9 (l:=l) (by omega)];split<;>rfl
theorem bE(l:List (List Tw))(n i:Nat)(r:List Tw):Tl (WT l n r) i=if i=n then r else Tl l i:=by
 unfold WT;by_cases h:i=n
 ·rw[if_pos h,h];have:=YT l n;unfold Tl;rw[List.getElem?_set_self (by omega)];rfl
 ·rw[if_neg h];unfold Tl;rw[List.getElem?_set_ne (λe=>h e.symm)];exact az l n i
theorem aK(L:Td)(n i:Nat)(r:List Tw):Tl (V9 L n r).2 i=if i=n then r else Tl L.2 i:=by
 show Tl (Xg _) i=_;rw[aG,bE]
theorem dV(L:Td)(n:Nat)(r:List Tw):(V9 L n r).2.getLast? ≠ some []:=dU _
theorem gO(L:Td)(n:Nat)(r:List Tw):(V9 L n r).2.length<=max L.2.length (n+1):=by
 show(Xg _).length<=_;unfold Xg;rw[ll];have:(WT L.2 n r).length=max L.2.length (n+1):=by unfold WT;rw[l6,YT]
 omega
theorem eO(l:List (List Tw)):(Xg l).flatten=l.flatten:=by
 have h:l=Xg l++l.drop (X6 l l.length):=(li _ _).symm
 have a:(l.drop (X6 l l.length)).flatten=[]:=by
  rw[s5];intro x c;obtain⟨i,hi⟩:=ee c;rw[List.getElem?_drop]at hi;have b:=(a8.1 hi).1;have:=Zb l (k:=l.length) (i:=X6 l l.length+i) (by omega) b;unfold Tl at this;rw[hi]at this;exact this
 conv=>rhs;rw[h,nb,a,en]
theorem gh(l:List (List Tw))(n:Nat):(Xx l n).flatten=l.flatten:=by
 unfold Xx;rw[nb]
 have:(xi (n+1-l.length) ([]:List Tw)).flatten=[]:=by
  rw[s5];intro x a;exact(List.mem_replicate.1 a).2
 rw[this,en]
theorem eP(L:Td)(n:Nat)(r:List Tw):∃ p q,L.2.flatten=p++(Tl L.2 n++q)/\(V9 L n r).2.flatten=p++(r++q):=by
 have a:n<(Xx L.2 n).length:=by rw[YT];omega
 refine⟨((Xx L.2 n).take n).flatten,((Xx L.2 n).drop (n+1)).flatten,?_,?_⟩
 ·rw[<- az L.2 n n,<- gh L.2 n]
  have:Xx L.2 n=(Xx L.2 n).take n++((Xx L.2 n)[n]::(Xx L.2 n).drop (n+1)):=by
   rw[<- List.drop_eq_getElem_cons a,li]
  have b:Tl (Xx L.2 n) n=(Xx L.2 n)[n]:=by unfold Tl;rw[bl a];rfl
  rw[b]
  conv=>lhs;rw[this]
  rw[nb,sk]
 ·show(Xg (WT L.2 n r)).flatten=_;rw[eO];unfold WT;rw[r6,if_pos a,nb,sk]
theorem VLev.own{L:Td}(v:VLev L)(i:Nat):(Tl L.2 i).length<=2 /\ ∀ r∈Tl L.2 i,VR (UV L.1 i) r:=by
 unfold Tl;cases h:L.2[i]? with
 |none=>exact⟨by simp,λr a=>by cases a⟩
 |some rs=>exact v.lev i rs h
theorem VLev.with'{L:Td}(v:VLev L){n:Nat}(f:n<12){r:List Tw}(d:r.length<=2)(e:∀ x∈r,VR (UV L.1 n) x)(b:((V9 L n r).2.flatten.map dv).Nodup):VLev (V9 L n r):=by
 refine⟨v.B1,v.B2,?_,λi rs hi=> ?_,b,dV L n r⟩
 ·have:=gO L n r;have:=v.len;omega
 ·have a:=aK L n i r;unfold Tl at a;rw[hi]at a;simp only[nP]at a;rw[a];split
  ·rename_i c;rw[c];exact⟨d,e⟩
  ·exact v.own i
theorem VLev.arrive{L:Td}(v:VLev L){n:Nat}(g:n<12){x:Tw}(j:(Tl L.2 n).length<2)(i:VR (UV L.1 n) x)(b:∀ y∈L.2.flatten,y.1≠x.1):VLev (V9 L n (Tl L.2 n++[x])):=by
 refine v.with' g (by simp;omega) (λy hy=> ?_) ?_
 ·rcases o3.1 hy with hy|hy
  ·exact(v.own n).2 y hy
  ·rw[rY.1 hy];exact i
 ·obtain⟨p,q,c,d⟩:=eP L n (Tl L.2 n++[x])
  have h:(V9 L n (Tl L.2 n++[x])).2.flatten.Perm (x::L.2.flatten):=by
   rw[c,d,dc];refine List.Perm.trans ?_ (List.perm_middle (l₁:=p++Tl L.2 n) (l₂:=q) (a:=x) |>.trans (by rw[dc]));rw[dc];exact List.Perm.refl _
  refine(h.map dv).nodup_iff.2 (sr.2 ⟨λf=> ?_,v.ids⟩);obtain⟨y,hy,e⟩:=nn.1 f;exact b y hy e
theorem ax{l:List (List Tw)}{x:Tw}:x∈l.flatten <-> ∃ i,x∈Tl l i:=by
 rw[hV];constructor
 ·rintro⟨rs,a,b⟩;obtain⟨i,hi⟩:=ee a;exact⟨i,by unfold Tl;rw[hi];exact b⟩
 ·rintro⟨i,h⟩;unfold Tl at h;cases hi:l[i]? with
  |none=>rw[hi]at h;cases h
  |some rs=>rw[hi]at h;exact⟨rs,co hi,h⟩
theorem Yt{l:List (List Tw)}{x:Tw}(h:x∈l.flatten):x.1<=V6 l:=by
 have d:∀ (rs:List Tw) (m:Int),m<=rs.foldl (λm r=>TQ m r.1) m /\ ∀ x∈rs,x.1<=rs.foldl (λm r=>TQ m r.1) m:=by
  intro rs
  induction rs with
  |nil=>intro m;exact⟨by simp,λx hx=>by cases hx⟩
  |cons r rs c=>
   intro m;obtain⟨b,a⟩:=c (TQ m r.1);rw[Wu]at b a;simp only[hI,Wu]at b a ⊢;refine⟨by omega,λx hx=> ?_⟩;rcases gl.1 hx with e|hx
   ·rw[e];omega
   ·exact a x hx
 have two:∀ (ls:List (List Tw)) (m:Int),m<=ls.foldl (λm rs=>rs.foldl (λm r=>TQ m r.1) m) m /\ ∀ rs∈ls,∀ x∈rs,x.1<=ls.foldl (λm rs=>rs.foldl (λm r=>TQ m r.1) m) m:=by
  intro ls
  induction ls with
  |nil=>intro m;exact⟨by simp,λx hx=>by cases hx⟩
  |cons rs ls c=>
   intro m;obtain⟨b,a⟩:=c (rs.foldl (λm r=>TQ m r.1) m);obtain⟨i,g⟩:=d rs m;simp only[hI];refine⟨by omega,λf hrs x hx=> ?_⟩;rcases gl.1 hrs with e|hrs
   ·subst e;have:=g x hx;omega
   ·exact a f hrs x hx
 obtain⟨rs,b,a⟩:=hV.1 h;exact(two l 0).2 rs b x a
end
section
open Go Sv
theorem Z3{M:List (List Tw)}{f:Int->Option (LR Int (Nat×(Int×Unit)))}(a:f 0=some (.dn (0,(0,()))))(hs:∀ k,k<M.length->f ((k+1:Nat):Int)=if Tl M k=[]then some (.nx (k:Int))else some (.dn (0,(((k+1:Nat):Int),())))):∀ k,k<=M.length->LF (k+1) f (k:Int)=some (0,((X6 M k:Nat):Int),())
 |0,_=>UJ a
 |k+1,hk=>by
  have h:=hs k (by omega);unfold X6;by_cases b:Tl M k=[]
  ·rw[if_pos b]at h ⊢;rw[UI h];exact Z3 a hs k (by omega)
  ·rw[if_neg b]at h ⊢;exact UJ h
theorem o8(L:List (List Tw))(n:Nat):LB (Rb (max L.length (n+1)) ([]:List Tw)) 0 L (AS (Rb (max L.length (n+1)) ([]:List Tw)))=Xx L n:=by
 have a:AS (Rb (max L.length (n+1)) ([]:List Tw))=max L.length (n+1):=by unfold AS Rb;simp
 rw[a];unfold LB Xx Rb;rw[gq (by omega:L.length<=max L.length (n+1))];simp only[xk,xg,List.drop_replicate,eo]
 congr 2
 omega
theorem gy(l:List (List Tw))(n:Nat)(r:List Tw):lset (Xx l n) n r=WT l n r:=rfl
theorem VI{l:List (List Tw)}{i:Nat}(h:i<l.length):l[i]?=some (Tl l i):=by
 unfold Tl;rw[bl h];rfl
theorem di{β:Type}(l:List Tw)(x y:Unit->Option β):br (OY (l.length:Int) 0) x y=if l=[]then x ()else y ():=by
 rw[TE];by_cases h:l=[]
 ·rw[if_pos h,if_pos (by rw[h];rfl)]
 ·rw[if_neg h,if_neg (by have:=eg.2 h;omega)]
theorem aB{L:Td}(i:L.2.length<=1000){n:Nat}(j:n<1000)(r:List Tw):WD (L,((n:Int),r))=some (V9 L n r):=by
 have b:TQ (Kh (AS L.2)) (SE .i64 (n:Int) 1)=((max L.2.length (n+1):Nat):Int):=by
  rw[Tf (by omega),Wu,Te,Tc];omega
 unfold WD;simp only[b,Tb,o8,gy];have d:(Xx L.2 n).length=max L.2.length (n+1):=YT _ _;have l:(WT L.2 n r).length=max L.2.length (n+1):=by unfold WT;rw[l6,d]
 rw[UC (by omega),Sx,if_pos (by rw[Tc,d];omega),S6 (VI (by omega))]
 have c:=Z3 (M:=WT L.2 n r) (f:=λa=>br (Sz a 0) (λ_=>R0 (SI .i64 a 1) λe=>gd (KI e (AS (WT L.2 n r))) λ_=>ix (WT L.2 n r) e λh=>br (OY (Kh (AS h)) 0) (λ_=>some (.nx (SI .i64 a 1))) λ_=>some (.dn ((0,(a,()))))) λ_=>some (.dn ((0,(a,()))))) rfl (λk b=>by
  have hi:SI .i64 ((k+1:Nat):Int) 1=(k:Int):=by rw[Sd (by omega)];omega
  simp only[hi,Tb];rw[TG,if_pos (by omega),Sx,if_pos (by rw[Tc];omega),S6 (VI b)]
  exact di _ _ _) _ (eb _)
 rw[Te,show AS (WT L.2 n r)=(WT L.2 n r).length from rfl];refine Tv (Ut (by omega) c) ?_;have g:=aM (WT L.2 n r) (WT L.2 n r).length;simp only[Tb];rw[UC g,Sw,if_pos (by omega),Sr,if_pos (by omega),Sw,if_pos (by unfold BF PY;omega)];unfold V9 Xg D0 BF PY;simp
end
section
open Go Sv
def eQ(d:Int)(j:XY):Bool:=OY d j.1
def V8(js:List XY)(d:Int):Option XY:=js.find? (eQ d)
def Yu(js:List XY):List (Int×XY):=js.map λj=>(j.1,j)
def zJ:XY:=(0,(([],([],([],([],0)))),((false,([],false)),([],0))))
def Wa(L:Td)(d:Int):XY:=match Tl L.2 d.toNat with
 |[r0,r1]=>(d,Vq r1.2 r0.2 (decide (d=(L.2.length:Int)-1)) 0)
 |_=>zJ
def XG(s:UB)(L:Td)(a d:Int):XY:=(if d=a then none else V8 s.2.1 d).getD (Wa L d)
def d9(s:UB)(L:Td)(next a:Int):UB:=(L,((UO 0 L.2).map (XG s L a),next))
theorem aD(d:Int):∀ js:List XY,MT (λa b=>OY a b) (Yu js) d=V8 js d
 |[]=>rfl
 |j::js=>by
  show(bif OY d j.1 then some j else MT (λa b=>OY a b) (Yu js) d)=(j::js).find? (eQ d)
  rw[sp,aD d js];show _=match OY d j.1 with|true=>some j|false=>V8 js d
  cases OY d j.1<;>rfl
theorem aE{j:XY}:∀ {js:List XY},j.1 ∉ js.map (·.1)->IR (λa b=>OY a b) (Yu js) j.1 j=Yu (js++[j])
 |[],_=>rfl
 |i::js,h=>by
  show(bif OY j.1 i.1 then(j.1,j)::Yu js else(i.1,i)::IR (λa b=>OY a b) (Yu js) j.1 j)=(i.1,i)::Yu (js++[j])
  have d:OY j.1 i.1=false:=by rw[U4];simp;intro e;exact h (by simp[e])
  rw[d,cond_false,aE (λc=>h (by simp at c ⊢;exact .inr c))]
theorem Zi{js:List XY}{d:Int}(h:d ∉ js.map (·.1)):V8 js d=none:=by
 unfold V8;rw[List.find?_eq_none];intro j a;unfold eQ;rw[U4];simp only[decide_eq_true_eq];intro e;exact h (by rw[e];exact List.mem_map_of_mem a)
theorem aC{x d:Int}:∀ {js:List XY},(js.map (·.1)).Nodup->MT (λa b=>OY a b) (IQ (λa b=>OY a b) (Yu js) x) d=if d=x then none else V8 js d
 |[],_=>by split<;>rfl
 |j::js,h=>by
  rw[List.map_cons,sr]at h;show MT (λa b=>OY a b) (bif OY x j.1 then Yu js else(j.1,j)::IQ (λa b=>OY a b) (Yu js) x) d=_
  have g:V8 (j::js) d=if d=j.1 then some j else V8 js d:=by
   unfold V8;rw[sp];unfold eQ;rw[U4];by_cases e:d=j.1<;>simp[e]
  rw[U4,g];by_cases f:x=j.1
  ·rw[show decide (x=j.1)=true by simp[f],cond_true,aD];by_cases c:d=x
   ·rw[if_pos c];exact Zi (by rw[c,f];exact h.1)
   ·rw[if_neg c,if_neg (by rw[<- f];exact c)]
  ·rw[show decide (x=j.1)=false by simp[f],cond_false];show(bif OY d j.1 then some j else MT (λa b=>OY a b) (IQ (λa b=>OY a b) (Yu js) x) d)=_
   rw[aC h.2,U4];by_cases c:d=j.1
   ·rw[show decide (d=j.1)=true by simp[c],cond_true,if_pos c,if_neg (by rw[c];exact λe=>f e.symm)]
   ·rw[show decide (d=j.1)=false by simp[c],cond_false,if_neg c]
theorem VR.vl'{L:Td}(v:VLev L){n:Nat}{r:Tw}(h:r∈Tl L.2 n):VL r.2:=((v.own n).2 r h).vl
theorem eZ(L:Td)(a:L.2.length<=1000)(n:Nat):VD (L,(n:Int))=some (decide ((n:Int)=(L.2.length:Int)-1)):=by
 unfold VD;simp only[Te,Tc];rw[Sd (by omega),U4]
theorem gZ{L:Td}(v:VLev L){n:Nat}(h:(Tl L.2 n).length=2):XL (L,(n:Int))=some (Wa L n,0):=by
 have d:n<L.2.length:=by
  by_cases e:n<L.2.length
  ·exact e
  ·unfold Tl at h;rw[a9 (by omega)]at h;cases h
 have i:=v.len;obtain⟨f,g⟩:=v.small;unfold XL;simp only[Te,Tc];rw[Yg _ f g,Wx v,Sp,TJ,if_pos rfl,TI,if_neg (by omega),TF,if_neg (by omega),TF,if_neg (by omega),Tb,S6 (VI d),TI,if_neg (by omega),eZ L (by omega) n,Sp]
 obtain⟨b,c,a⟩:∃ b c,Tl L.2 n=[b,c]:=by
  match hq:Tl L.2 n with
  |[b,c]=>exact⟨b,c,rfl⟩
  |[]=>rw[hq]at h;cases h
  |[_]=>rw[hq]at h;cases h
  |_::_::_::_=>rw[hq]at h;simp at h
 rw[ad _ (by rw[VI d,a]) (VR.vl' v (n:=n) (by rw[a];simp)) (VR.vl' v (n:=n) (by rw[a];simp)),Sp];unfold Wa;rw[ed,a]
theorem Zc(i:Nat)(rs:List Tw)(ls:List (List Tw)):UO i (rs::ls)=(if rs.length=2 then[(i:Int)]else[])++UO (i+1) ls:=rfl
theorem ao{s:UB}(f:(s.2.1.map (·.1)).Nodup)(t:s.2.1.length<=1000){L:Td}(v:VLev L)(next a:Int):Vw (s,(L,(next,a)))=some (d9 s L next a,0):=by
 have u:=v.len;unfold Vw;simp only[Te,Tc]
 rw[U1 (l:=s.2.1) (σ:=List (Int×XY)) (s:=((0:Int),([]:List (Int×XY)))) (λi m=>((i:Int),m)) (λls i m=>∃ p,s.2.1=p++ls/\m=Yu p) (λ_ _ _=>(0,(((s.2.1.length:Int),Yu s.2.1),()))) [] rfl (by omega) ⟨[],rfl,rfl⟩ (λm h=>by
  obtain⟨p,d,rfl⟩:=h
  simp only;rw[re,R6,d,en]) (λi x ls m q b hi h=>by
   obtain⟨p,d,rfl⟩:=h;refine⟨Yu (p++[x]),?_,⟨p++[x],by rw[d];simp,rfl⟩,rfl⟩;simp only;rw[rl hi,SX,Tb,S6 b,Tn b (by omega),aE];intro g;rw[d,oy,ol]at f
   exact f.2.2 _ g x.1 (by simp) rfl),Sp]
 simp only
 rw[U1 (l:=L.2) (σ:=List XY) (s:=((0:Int),((0:Int),(((0:Int),(([]:List (List Tw)),(([]:List XY),(0:Int)))),(L.1,(L.2,(([]:List XY),next))))))) (λi js=>((0:Int),((i:Int),(((0:Int),(([]:List (List Tw)),(([]:List XY),(0:Int)))),(L.1,(L.2,(js,next))))))) (λls i js=>js++(UO i ls).map (XG s L a)=(UO 0 L.2).map (XG s L a)) (λ_ _ _=>(0,(((0:Int),((L.2.length:Int),(((0:Int),(([]:List (List Tw)),(([]:List XY),(0:Int)))),(L.1,(L.2,((UO 0 L.2).map (XG s L a),next)))))),()))) [] rfl (by omega) rfl (λm h=>by
  simp only;rw[re,R6,<- h];simp[UO]) (λi rs ls m q b hi h=>by
   have k:Tl L.2 i=rs:=by unfold Tl;rw[b];rfl
   have o:=(v.own i).1;rw[k]at o;refine⟨m++(if rs.length=2 then[XG s L a i]else[]),?_,?_,rfl⟩
   ·simp only;rw[rl hi,SX,Tb,S6 b,TI]
    have g:m.length<=1000:=by
     have c:=congrArg gs h;have r:=WW L.2 0;rw[fl,iP,iP]at c;omega
    by_cases c:rs.length=2;rotate_left
    ·rw[if_pos (by omega),if_neg c,en,Tn b (by omega)]
    rw[if_neg (by omega),if_pos c,aC f];have e:XG s L a i=(if(i:Int)=a then none else V8 s.2.1 i).getD (Wa L i):=rfl
    cases n:(if(i:Int)=a then none else V8 s.2.1 (i:Int))with
    |none=>
     rw[n,tg]at e;rw[e,gZ v (by rw[k];exact c),UW,TM,if_neg (show ¬ TV (none:Option XY)=true by simp[TV]),Sp];simp only;rw[TJ,if_pos rfl,UC (by simp only[BF,ci,cP];omega),Tn b (by omega)];rfl
    |some j=>
     rw[n,nP]at e;rw[e,UW,TM,if_pos (show TV (some j)=true from rfl),UC (by simp only[BF,ci,cP];omega),Tn b (by omega)];rfl
   ·rw[dc,<- h,Zc,oy]
    congr 2
    split<;>rfl),Sp]
 rfl
end
section
open Go Sv
def pS(s:UZ):Option XZ:=if s.1=true then some s.2.1 else none
theorem Asc.weak:∀ {l:List Ta} {p c:Option XZ},(∀ a,c=some a -> ∃ q,p=some q/\SQ q a=false)->Asc p l->Asc c l
 |[],_,_,_,_=>trivial
 |x::l,p,c,h,⟨g,i⟩=>⟨λa b=>by
  obtain⟨q,e,j⟩:=h a b;have d:=g q e;by_cases f:a=q
  ·rw[f];exact d
  ·exact U5 (Yl j (λe=>f e.symm)) d,i⟩
theorem ai:∀ (l:List Ta) (s:UZ),ZW s l->Asc (pS s) (WA s l)
 |[],_,_=>trivial
 |x::l,s,⟨_,g,h⟩=>by
  have i:=ai l _ h;have f:Asc (some x.1) (WA (true,(x.1,s.2.2)) l):=i;unfold WA;by_cases c:keep s x=true
  ·rw[if_pos c];refine⟨λq d=> ?_,f⟩;unfold pS at d;by_cases b:s.1=true
   ·rw[if_pos b]at d;cases d;refine Yl (g b) λe=> ?_;unfold keep at c;rw[b,e]at c;simp at c
   ·rw[if_neg b]at d;cases d
  ·rw[if_neg c,xg];refine f.weak λj a=>⟨x.1,rfl,?_⟩;unfold pS at a;by_cases b:s.1=true
   ·rw[if_pos b]at a;cases a;exact g b
   ·rw[if_neg b]at a;cases a
theorem aj:∀ {l:List Ta} {s:UZ} {x:Ta},x∈WA s l->x∈l
 |y::l,s,x,h=>by
  unfold WA at h;rcases o3.1 h with h|h
  ·split at h
   ·rw[rY.1 h];simp
   ·cases h
  ·exact List.mem_cons_of_mem _ (aj h)
theorem dw:∀ {l:List Ta} {s:UZ},ZW s l -> ∀ x∈l,kE x=0
 |y::l,s,⟨a,_,b⟩,x,h=>by
  rcases gl.1 h with e|h
  ·rw[e];exact a
  ·exact dw b x h
theorem o7{a b:List Ta}(va:VL a)(f:VL b)(c:Bool){k:Nat}(d:k<=a.length+b.length)(j:a.length+b.length<=5000):VL (Vq a b c k).2.2.1/\(Vq a b c k).2.2.1.length<=a.length+b.length:=by
 have e:=Xe va f c d
 have i:(WA (s0 c) (Ts a b k)).length<=k:=by
  have:=Xr (s0 c) (Ts a b k);rw[Un va f d]at this;exact this
 have g:(Vq a b c k).2.2.1=WA (s0 c) (Ts a b k):=rfl;rw[g];exact⟨⟨by omega,λx h=>dw e x (aj h),ai _ _ e⟩,by omega⟩
theorem eX{S β:Type}{f:S->Option (LR S β)}{r:β}(mk:Int->S)(n:Nat){s:S}(b:s=mk ((n:Int)-1))(g:n<1000000)(hs:∀ k,k<n->f (mk (k:Int))=some (.nx (mk ((k:Int)-1))))(c:f (mk (-1))=some (.dn r)):loop f s=some r:=by
 subst b
 have a:∀ k,k<=n->LF (k+1) f (mk ((k:Int)-1))=some r:=by
  intro k
  induction k with
  |zero=>intro _;exact UJ c
  |succ k d=>
   intro e;have:=hs k (by omega);rw[show((k+1:Nat):Int)-1=(k:Int) by omega,UI this];exact d (by omega)
 exact Ut (by omega) (a n (eb _))
theorem aw{L:Td}(v:VLev L){n:Nat}(o:n<12){x:Tw}(q:x.2.length<=1048576)(b:∀ y∈L.2.flatten,y.1≠x.1)(m:(Tl L.2 n).length<2) :
  Vc (L,((n:Int),x))=some (if kR [] (UV L.1 n) x≠0 then((0,[]),kR [] (UV L.1 n) x)else(V9 L n (Tl L.2 n++[x]),0)):=by
 have p:=v.len;unfold Vc;simp only[Te,Tc];rw[dj v,Sp,if_neg (by omega),TJ,if_pos rfl,Z7 v.B1 v.B2 (by omega),Z9 x _ (by omega),show Rw (n:Int) 0=true by unfold Rw;simp];rw[ma,Sp,TJ];by_cases a:kR [] (UV L.1 n) x=0;rotate_left
 ·rw[if_neg a,if_pos a]
 rw[if_pos a,if_neg (by simp[a])]
 rw[U1 (l:=L.2) (σ:=Unit) (s:=((0:Int),(((0:Int),([]:List (List Tw))),(0:Int)))) (λi _=>((i:Int),(((0:Int),([]:List (List Tw))),(0:Int)))) (λ_ _ _=>True) (λ_ _ _=>(0,(((L.2.length:Int),(((0:Int),([]:List (List Tw))),(0:Int))),()))) () rfl (by omega) trivial (λ_ _=>by
  simp only;rw[re];rfl) (λi rs ls _ j hi c _=>by
   refine⟨(),?_,trivial,rfl⟩;have e:Tl L.2 i=rs:=by unfold Tl;rw[hi];rfl
   have f:=(v.own i).1;rw[e]at f;simp only;rw[rl c,SX,Tb,S6 hi,Sd (by omega)]
   rw[eX (λk=>(k,(((0:Int),([]:List (List Tw))),(0:Int)))) rs.length rfl (by omega) (λk a=>by
    have h:rs[k]?=some rs[k]:=bl a;have d:rs[k].1≠x.1:=b _ (hV.2 ⟨rs,co hi,l4 a⟩);simp only
    rw[TF,if_pos (by omega),Tb,S6 h,TE,if_neg d,Sd (by omega)]) (r:=(0,(((-1:Int),(((0:Int),([]:List (List Tw))),(0:Int))),()))) rfl,Sp]
   rw[Tn hi (by omega)]
   rfl),Sp]
 rw[Sq,if_pos rfl,TI];by_cases g:n<L.2.length
 ·rw[if_pos (by omega),Tb,S6 (VI g),TE,if_neg (by omega),Tb,Tb,UC (eb _),Su,if_pos rfl,UC (gM _)];have hs:D0 (Tl L.2 n) 0 (Tl L.2 n).length=Tl L.2 n:=by unfold D0;simp
  rw[hs,UC (by simp only[BF,ci,cP];omega),aB (by omega) (by omega),Sp];rfl
 ·rw[if_neg (by omega)];have e:Tl L.2 n=[]:=by unfold Tl;rw[a9 (by omega)];rfl
  rw[UC (by simp),aB (by omega) (by omega),Sp,e];rfl
end
section
open Go Sv
def zS:UB:=((0,[]),([],0))
def Zx(j:XY):List Ta:=j.2.2.2.1
def sX(s:UB)(j:XY):Nat:=if pB s.1 j=true then j.1.toNat else j.1.toNat+1
def vK(s:UB)(j:XY):Td:=if Zx j=[]then V9 s.1 j.1.toNat []else V9 (V9 s.1 j.1.toNat []) (sX s j) (Tl (V9 s.1 j.1.toNat []).2 (sX s j)++[(s.2.2,Zx j)])
theorem Z4:∀ (ls:List (List Tw)) (i:Nat),(UO i ls).Nodup /\ ∀ d∈UO i ls,(i:Int)<=d
 |[],_=>⟨.nil,λ_ h=>by cases h⟩
 |rs::ls,i=>by
  obtain⟨b,a⟩:=Z4 ls (i+1);rw[Zc];by_cases h:rs.length=2
  ·rw[if_pos h];refine⟨sr.2 ⟨λc=> ?_,b⟩,λd hd=> ?_⟩
   ·have:=a _ c;omega
   ·rcases gl.1 hd with e|hd
    ·omega
    ·have:=a d hd;omega
  ·rw[if_neg h];exact⟨b,λd hd=>by have:=a d hd;omega⟩
theorem VSt.nodup{s:UB}(v:VSt s):(s.2.1.map (·.1)).Nodup:=by rw[v.due];exact(Z4 _ _).1
theorem JobAt.out{L:Td}{n:Nat}{j:XY}(h:JobAt L n j)(v:VLev L)(hs:(∀ r∈Tl L.2 n,r.2.length<=2000)):VL (Zx j)/\((Zx j).length:Int)<=2*UV L.1 n/\j.1=(n:Int)/\n<12/\Tl L.2 n≠[]:=by
 obtain⟨a,b,d,k,e,rfl,i,_,l,m⟩:=h;have c:Tl L.2 n=[a,b]:=by unfold Tl;rw[e];rfl
 have s:=hs a (by rw[c];simp);have t:=hs b (by rw[c];simp);have u:=((v.own n).2 a (by rw[c];simp)).le;have w:=((v.own n).2 b (by rw[c];simp)).le;obtain⟨f,g⟩:=o7 m l d i (by omega);have p:=(a8.1 e).1;have q:=v.len;refine⟨f,?_,rfl,by omega,by rw[c];simp⟩
 have o:((Zx ((n:Int),Vq b.2 a.2 d k)).length:Int)<=(b.2.length:Int)+(a.2.length:Int):=by
  have:(Zx ((n:Int),Vq b.2 a.2 d k)).length<=b.2.length+a.2.length:=g;omega
 omega
structure InstF (s:UB) (n:Nat) (j:XY):Prop where
 l1:VLev (V9 s.1 n [])
 to12:Zx j≠[]->sX s j<12
 vr:Zx j≠[]->VR (UV s.1.1 (sX s j)) (s.2.2,Zx j)
 id:∀ y∈(V9 s.1 n []).2.flatten,y.1≠s.2.2
 room:Zx j≠[]->(Tl (V9 s.1 n []).2 (sX s j)).length<2
 lev:VLev (vK s j)
end
section
open Go Sv
end
section
open Go Sv
theorem dk{ls:List (List Tw)}{d:Int}(h:d∈UO 0 ls):∃ (n:Nat) (a b:Tw),d=(n:Int)/\ls[n]?=some [a,b]:=by
 obtain⟨k,f⟩:=ee h;obtain⟨n,c,a,b,e⟩:=XX f;exact⟨n,a,b,by rw[c,eo],e⟩
theorem am{l:List (List Tw)}{n:Int}(i:0<n)(h:∀ x∈l.flatten,x.1<n):V6 l<n:=by
 have f:∀ (rs:List Tw) (m:Int),m<n->(∀ x∈rs,x.1<n)->rs.foldl (λm r=>TQ m r.1) m<n:=by
  intro rs
  induction rs with
  |nil=>intro m b _;exact b
  |cons r rs e=>
   intro m b c;rw[hI];refine e _ ?_ λx d=>c x (by simp[d]);rw[Wu];have:=c r (by simp);omega
 have two:∀ (ls:List (List Tw)) (m:Int),m<n->(∀ rs∈ls,∀ x∈rs,x.1<n)->ls.foldl (λm rs=>rs.foldl (λm r=>TQ m r.1) m) m<n:=by
  intro ls
  induction ls with
  |nil=>intro m b _;exact b
  |cons rs ls e=>
   intro m b c;rw[hI];exact e _ (f rs m b (c rs (by simp))) λg a=>c g (by simp[a])
 exact two l 0 i λrs a x d=>h x (hV.2 ⟨rs,a,d⟩)
theorem me{l:List (List Tw)}(e:l.getLast? ≠ some []){n:Nat}(a:Tl l n≠[])(b:∀ i,n<i->Tl l i=[]):l.length=n+1:=by
 have f:n<l.length:=by
  by_cases h:n<l.length
  ·exact h
  ·unfold Tl at a;rw[a9 (by omega)]at a;exact absurd rfl a
 by_cases c:l.length=n+1
 ·exact c
 ·exfalso;have d:=b (l.length-1) (by omega);refine e ?_;rw[oj,VI (by omega),d]
theorem bg{js:List XY}{d:Int}{j:XY}(h:V8 js d=some j):j∈js/\j.1=d:=by
 unfold V8 at h;have a:=List.find?_some h;unfold eQ at a;rw[U4]at a;exact⟨List.mem_of_find?_eq_some h,(of_decide_eq_true a).symm⟩
theorem gY{L:Td}(v:VLev L){n:Nat}{b c:Tw}(h:L.2[n]?=some [b,c]):JobAt L n (Wa L (n:Int)):=by
 have a:Tl L.2 n=[b,c]:=by unfold Tl;rw[h];rfl
 refine⟨b,c,decide ((n:Int)=(L.2.length:Int)-1),0,h,?_,gM _,λd=> ?_,VR.vl' v (n:=n) (by rw[a];simp),VR.vl' v (n:=n) (by rw[a];simp)⟩
 ·unfold Wa;rw[ed,a]
 ·have:=of_decide_eq_true d;have:=(a8.1 h).1;omega
theorem mQ{s:UB}(v:VSt s){L:Td}(u:VLev L){next a:Int}(F:1<=next)(G:next<=1000001)(I:∀ x∈L.2.flatten,x.1<next)
  (J:∀ (n:Nat) (g h:Tw),s.1.2[n]?=some [g,h]->(n:Int)≠a->(∃ q r,L.2[n]?=some [q,r])->L.2[n]?=some [g,h]/\(n+1=s.1.2.length->n+1=L.2.length)):VSt (d9 s L next a):=by
 have b:∀ d∈UO 0 L.2,(XG s L a d).1=d /\ ∃ n,JobAt L n (XG s L a d):=λd c=>by
  obtain⟨n,q,r,rfl,t⟩:=dk c;unfold XG;cases l:(if(n:Int)=a then none else V8 s.2.1 (n:Int))with
  |none=>
   rw[tg];have i:=gY u t;refine⟨?_,n,i⟩;obtain⟨_,_,_,_,_,e,_⟩:=i;rw[e]
  |some j=>
   rw[nP];by_cases o:(n:Int)=a
   ·rw[if_pos o]at l;cases l
   rw[if_neg o]at l;obtain⟨p,f⟩:=bg l;refine⟨f,n,?_⟩;obtain⟨m,g,h,E,k,w,rfl,y,z,A,B⟩:=v.job j p;have K:m=n:=by have:(m:Int)=(n:Int):=f;omega
   subst K;obtain⟨C,D⟩:=J m g h w o ⟨q,r,t⟩;exact⟨g,h,E,k,C,rfl,y,λi=>D (z i),A,B⟩
 refine⟨u,F,G,am (by show 0<next;omega) I,?_,λj p=> ?_⟩
 ·show((UO 0 L.2).map (XG s L a)).map (·.1)=UO 0 L.2;rw[List.map_map]
  conv=>rhs;rw[<- List.map_id (UO 0 L.2)]
  exact List.map_congr_left λd c=>(b d c).1
 ·obtain⟨d,c,rfl⟩:=nn.1 p;exact(b d c).2
theorem aS{l:List (List Tw)}{n:Nat}{b c:Tw}:l[n]?=some [b,c]<->Tl l n=[b,c]:=by
 unfold Tl;constructor
 ·intro h;rw[h];rfl
 ·intro h;cases a:l[n]? with
  |none=>rw[a]at h;cases h
  |some rs=>rw[a]at h;exact congrArg some h
end
section
open Go Sv
theorem nF{B:Int}{M:List (List Tw)}{f:(Int×List (List Tw))->Option (LR (Int×List (List Tw)) (Nat×((Int×List (List Tw))×Unit)))}(a:f (B,[])=some (.dn (0,((B,[]),()))))(hs:∀ k,k<M.length->f (B,M.take (k+1))=if Tl M k=[]then some (.nx (B,M.take k))else some (.dn (0,((B,M.take (k+1)),())))):∀ k,k<=M.length->LF (k+1) f (B,M.take k)=some (0,((B,M.take (X6 M k)),()))
 |0,_=>by rw[xk];exact UJ a
 |k+1,hk=>by
  have h:=hs k (by omega);unfold X6;by_cases b:Tl M k=[]
  ·rw[if_pos b]at h ⊢;rw[UI h];exact nF a hs k (by omega)
  ·rw[if_neg b]at h ⊢;exact UJ h
theorem mK{M:List (List Tw)}{k:Nat}(h:k<M.length):M.take (k+1)=M.take k++[Tl M k]:=by
 rw[List.take_add_one,VI h];rfl
theorem iE{L:Td}(s:L.2.length<=1000){n:Nat}(u:n<1000){r:List Tw}(l:r.length<=1048576)(o:∀ i,(Tl L.2 i).length<=1048576):VX (L,((n:Int),r))=some (V9 L n r):=by
 have t:(WT L.2 n r).length=max L.2.length (n+1):=by unfold WT;rw[l6,YT]
 unfold VX;simp only[Te,Tc];refine Tv (Xd (r:=(0,((((max L.2.length (n+1):Nat):Int),(L.1,WT L.2 n r)),()))) (λk=>((k:Int),(L.1,(WT L.2 n r).take k))) (max L.2.length (n+1)) (by simp) (by omega) (λk j=> ?_) ?_) ?_
 ·have c:((WT L.2 n r).take k).length=k:=by rw[ll];omega
  simp only[c];rw[mK (by omega),bE,Tf (by omega),TI];by_cases g:k<L.2.length
  ·rw[if_pos (by omega),TF,if_neg (by omega),Tb,S6 (VI g),TE];by_cases a:k=n
   ·rw[if_pos (by omega),if_pos a,UC l,UC (by simp only[BF,ci,cP];omega)];rfl
   ·rw[if_neg (by omega),if_neg a,UC (o k),UC (by simp only[BF,ci,cP];omega)];rfl
  ·rw[if_neg (by omega),TH,if_pos (by omega),TF,if_pos (by omega),TE];by_cases a:k=n
   ·rw[if_pos (by omega),if_pos a,UC l,UC (by simp only[BF,ci,cP];omega)];rfl
   ·rw[if_neg (by omega),if_neg a,UC (by simp only[BF,ci,cP];omega)];have:Tl L.2 k=[]:=by unfold Tl;rw[a9 (by omega)];rfl
    rw[this];rfl
 ·have c:(WT L.2 n r).take (max L.2.length (n+1))=WT L.2 n r:=gq (by omega);simp only;rw[TI,if_neg (by omega),TH,if_neg (by omega),c]
 ·have d:=nF (B:=L.1) (M:=WT L.2 n r) (f:=λb=>br (Sz (b.2.length:Int) 0) (λ_=>R0 (SI .i64 (b.2.length:Int) 1) λp=>ix b.2 p λq=>br (OY (q.length:Int) 0) (λ_=>R0 (SI .i64 (b.2.length:Int) 1) λh=>gd (CF h b.2.length) λ_=>gd (CF 0 h) λ_=>some (.nx (b.1,D0 b.2 0 h))) λ_=>some (.dn ((0,(b,()))))) λ_=>some (.dn ((0,(b,()))))) rfl (λk j=>by
   have c:((WT L.2 n r).take (k+1)).length=k+1:=by rw[ll];omega
   have hi:SI .i64 ((k+1:Nat):Int) 1=(k:Int):=by rw[Sd (by omega)];omega
   have m:((WT L.2 n r).take (k+1))[k]?=some (Tl (WT L.2 n r) k):=by rw[nm,if_pos (by omega),VI j]
   simp only[c,hi];rw[TG,if_pos (by omega),Tb,S6 m,di];by_cases e:Tl (WT L.2 n r) k=[]
   ·rw[if_pos e,if_pos e,Tb,UC (by omega),UC (by omega)]
    have:D0 ((WT L.2 n r).take (k+1)) 0 k=(WT L.2 n r).take k:=by
     unfold D0;rw[List.drop_zero,kd,List.take_take];congr 1;omega
    rw[this]
   ·rw[if_neg e,if_neg e]) _ (eb _)
  rw[gq (eb _)]at d;exact Tv (Ut (by omega) d) rfl
end
section
open Go Sv
theorem eu{L:Td}(v:VLev L){n:Nat}(h:(Tl L.2 n).length=2):Vn (L,(n:Int))=some (Wa L n,0):=by
 have d:n<L.2.length:=by
  by_cases e:n<L.2.length
  ·exact e
  ·unfold Tl at h;rw[a9 (by omega)]at h;cases h
 have i:=v.len;obtain⟨f,g⟩:=v.small;unfold Vn;simp only[Te,Tc];rw[bx _ f g,Wx v,Sp,TE,if_pos rfl,TI,if_neg (by omega),TF,if_neg (by omega),TE,if_pos rfl,TF,if_neg (by omega),Tb,S6 (VI d),TI,if_neg (by omega),TJ,if_pos rfl,Zq v d,Sp]
 obtain⟨b,c,a⟩:∃ b c,Tl L.2 n=[b,c]:=by
  match hq:Tl L.2 n with
  |[b,c]=>exact⟨b,c,rfl⟩
  |[]=>rw[hq]at h;cases h
  |[_]=>rw[hq]at h;cases h
  |_::_::_::_=>rw[hq]at h;simp at h
 rw[aI _ (by rw[VI d,a]) (VR.vl' v (n:=n) (by rw[a];simp)) (VR.vl' v (n:=n) (by rw[a];simp)),Sp];unfold Wa;rw[ed,a]
theorem Yz(l:List Ta)(c:l.length<=9223372036854775807):VQ (l,l)=some true:=by
 unfold VQ;simp only[Te,Tc];refine Tv (Xd (r:=(1,(((l.length:Int),false),()))) (λk=>((k:Int),false)) l.length rfl (by omega) (λk a=> ?_) (by simp only;rw[re];rfl)) ?_
 ·have b:l[k]?=some l[k]:=bl a;simp only;rw[rl a,SX,SX,Tb,S6 b,Tb,S6 b,Za,if_pos rfl,Tf (by omega)]
 ·rw[Sq,if_neg (show ¬ (1=0) by omega)];unfold OY;simp
theorem bR(r:Tw)(a:r.2.length<=9223372036854775807):WO (r,r)=some true:=by
 unfold WO;rw[TE,if_pos rfl,Yz _ a];rfl
theorem aV(l:List Tw)(c:l.length<=1048576)(h:∀ r∈l,r.2.length<=9223372036854775807):V4 (l,l)=some true:=by
 unfold V4;simp only[Te,Tc];rw[TJ,if_pos rfl];refine Tv (Xd (r:=(1,(((l.length:Int),false),()))) (λk=>((k:Int),false)) l.length rfl (by omega) (λk a=> ?_) (by simp only;rw[re];rfl)) rfl;have b:l[k]?=some l[k]:=bl a;simp only;rw[rl a,SX,Tb,S6 b,Tb,S6 b,bR _ (h _ (l4 a)),Sp,U3,R6,Tf (by omega)]
theorem bQ(L:Td)(e:L.2.length<=1048576)(d:∀ rs∈L.2,rs.length<=1048576 /\ ∀ r∈rs,r.2.length<=9223372036854775807):XV (L,L)=some true:=by
 unfold XV;simp only[Te,Tc];rw[TJ,if_pos rfl,TJ,if_pos rfl];refine Tv (Xd (r:=(1,(((L.2.length:Int),false),()))) (λk=>((k:Int),false)) L.2.length rfl (by omega) (λk b=> ?_) (by simp only;rw[re];rfl)) rfl;have c:L.2[k]?=some L.2[k]:=bl b;have a:=d _ (l4 b);simp only;rw[rl b,SX,Tb,S6 c,Tb,S6 c,aV _ a.1 a.2,Sp,U3,R6,Tf (by omega)]
theorem bO{L:Td}{n:Nat}{j:XY}(h:JobAt L n j):WP (j,j)=some true:=by
 obtain⟨l,m,a,k,_,rfl,b,_,g,i⟩:=h;obtain⟨s1,s2,c,d,e,f⟩:=Y7 i g a b;unfold WP;rw[TE,if_pos rfl,Zo _ _ s1 s2 c d e f];simp[Sp]
theorem cB{t:UB}(v:VSt t):V5 (t,t)=some true:=by
 have m:=v.sm;have d:=v.jsmall;unfold V5;simp only[Te,Tc];rw[bQ _ m.lv m.rs,Sp,U3,R6,TJ,if_pos rfl,TJ,if_pos rfl];refine Tv (Xd (r:=(1,(((t.2.1.length:Int),false),()))) (λk=>((k:Int),false)) t.2.1.length rfl (by omega) (λk a=> ?_) (by simp only;rw[re];rfl)) rfl;have b:t.2.1[k]?=some t.2.1[k]:=bl a;obtain⟨n,c⟩:=v.job _ (l4 a);simp only;rw[rl a,SX,Tb,S6 b,Tb,S6 b,bO c,Sp,U3,R6,Tf (by omega)]
theorem qV:V5 (zS,zS)=some true:=by decide +kernel
end
section
open Go Sv
abbrev gT:=(Int×qM)
def ak(j:XY):gT:=(j.1,(j.2.1.1,(j.2.1.2.1,(j.2.1.2.2.1,(j.2.1.2.2.2.1,(j.2.1.2.2.2.2,(j.2.2.1.1,(j.2.2.1.2.1,(j.2.2.1.2.2,(j.2.2.2.1,j.2.2.2.2))))))))))
theorem eR(p:List XY)(x:XY)(d:Int):V8 (p++[x]) d=(V8 p d).or (if x.1=d then some x else none):=by
 unfold V8;rw[List.find?_append]
 congr 1
 rw[sp];unfold eQ;rw[U4];by_cases h:x.1=d
 ·rw[if_pos h,show decide (d=x.1)=true by simp[h]]
 ·rw[if_neg h,show decide (d=x.1)=false by simp;exact λe=>h e.symm];rfl
theorem ga{s:UB}(w:(s.2.1.map (·.1)).Nodup)(E:s.2.1.length<=1000)(L:Td)(a:Int){D:List Int}{i:Nat}{d:Int}(hi:D[i]?=some d):(loop (λ(c:Int×gT)=>br (S1 c.1 (s.2.1.length:Int)) (λ_=>R0 c.1 λm=>ix s.2.1 m λr=>R0 (i:Int) λn=>ix D n λt=>br (OY r.1 t) (λ_=>R0 (i:Int) λo=>ix D o λu=>br (Rx u a) (λ_=>R0 c.1 λq=>ix s.2.1 q λb=>some (.nx ((SE .i64 c.1 1,(b.1,(b.2.1.1,(b.2.1.2.1,(b.2.1.2.2.1,(b.2.1.2.2.2.1,(b.2.1.2.2.2.2,(b.2.2.1.1,(b.2.2.1.2.1,(b.2.2.1.2.2,b.2.2.2))))))))))))) λ_=>some (.nx (SE .i64 c.1 1,c.2))) λ_=>some (.nx (SE .i64 c.1 1,c.2))) λ_=>some (.dn (((0:Nat),(c,()))))) ((0:Int),ak (Wa L d)))=some (0,(((s.2.1.length:Int),ak (XG s L a d)),())):=by
 refine U1 (l:=s.2.1) (σ:=XY) (s:=((0:Int),ak (Wa L d))) (λk j=>((k:Int),ak j)) (λls k j=>∃ p,s.2.1=p++ls/\j=(if d=a then none else V8 p d).getD (Wa L d)) (λ_ _ _=>(0,(((s.2.1.length:Int),ak (XG s L a d)),()))) (Wa L d) rfl (by omega) ⟨[],rfl,by split<;>rfl⟩ (λj h=> ?_) (λk x ls j C y z h=> ?_)
 ·obtain⟨p,e,rfl⟩:=h;rw[en]at e;simp only;rw[re,R6,<- e];rfl
 ·obtain⟨p,e,rfl⟩:=h
  have B:x.1 ∉ p.map (·.1):=λA=>by
   rw[e,oy,ol]at w;exact w.2.2 _ A x.1 (by simp) rfl
  refine⟨(if d=a then none else V8 (p++[x]) d).getD (Wa L d),?_,⟨p++[x],by rw[e];simp,rfl⟩,rfl⟩
  simp only;rw[rl z,SX,Tb,S6 y,Tb,S6 hi,TE,Tf (by omega),eR];by_cases f:x.1=d
  ·rw[if_pos f,Tb,S6 hi,TJ,Tb,S6 y,if_pos f];by_cases g:d=a
   ·rw[if_pos g,if_pos g,if_pos g]
   ·rw[if_neg g,if_neg g,Zi (by rw[<- f];exact B)];rfl
  ·rw[if_neg f,if_neg f];have:(V8 p d).or none=V8 p d:=by cases V8 p d<;>rfl
   rw[this]
theorem bX{s:UB}(B:(s.2.1.map (·.1)).Nodup)(D:s.2.1.length<=1000){L:Td}(v:VLev L)(next b:Int):loop (λ(g:(Int×(Int×((List (List Tw))×((List XY)×Int)))))=>br (S1 g.1 ((UO 0 L.2).length:Int)) (λ_=>R0 g.1 λm=>ix (UO 0 L.2) m λt=>bd (Vn (((g.2.1,g.2.2.1),t))) λc=>bd (loop (λ(f:Int×gT)=>br (S1 f.1 (s.2.1.length:Int)) (λ_=>R0 f.1 λo=>ix s.2.1 o λu=>R0 g.1 λp=>ix (UO 0 L.2) p λw=>br (OY u.1 w) (λ_=>R0 g.1 λq=>ix (UO 0 L.2) q λx=>br (Rx x b) (λ_=>R0 f.1 λr=>ix s.2.1 r λe=>some (.nx ((SE .i64 f.1 1,(e.1,(e.2.1.1,(e.2.1.2.1,(e.2.1.2.2.1,(e.2.1.2.2.2.1,(e.2.1.2.2.2.2,(e.2.2.1.1,(e.2.2.1.2.1,(e.2.2.1.2.2,e.2.2.2))))))))))))) λ_=>some (.nx (SE .i64 f.1 1,f.2))) λ_=>some (.nx (SE .i64 f.1 1,f.2))) λ_=>some (.dn (((0:Nat),(f,()))))) (((0:Int),(c.1.1,(c.1.2.1.1,(c.1.2.1.2.1,(c.1.2.1.2.2.1,(c.1.2.1.2.2.2.1,(c.1.2.1.2.2.2.2,(c.1.2.2.1.1,(c.1.2.2.1.2.1,(c.1.2.2.1.2.2,c.1.2.2.2)))))))))))) λa=>gd (CF (BF g.2.2.2.1.length [((a.2.1.2.1,((a.2.1.2.2.1,(a.2.1.2.2.2.1,(a.2.1.2.2.2.2.1,(a.2.1.2.2.2.2.2.1,a.2.1.2.2.2.2.2.2.1)))),((a.2.1.2.2.2.2.2.2.2.1,(a.2.1.2.2.2.2.2.2.2.2.1,a.2.1.2.2.2.2.2.2.2.2.2.1)),a.2.1.2.2.2.2.2.2.2.2.2.2))):XY)].length) 1048576) λ_=>some (.nx ((SE .i64 g.1 1,(g.2.1,(g.2.2.1,(Ij g.2.2.2.1 ([(a.2.1.2.1,((a.2.1.2.2.1,(a.2.1.2.2.2.1,(a.2.1.2.2.2.2.1,(a.2.1.2.2.2.2.2.1,a.2.1.2.2.2.2.2.2.1)))),((a.2.1.2.2.2.2.2.2.2.1,(a.2.1.2.2.2.2.2.2.2.2.1,a.2.1.2.2.2.2.2.2.2.2.2.1)),a.2.1.2.2.2.2.2.2.2.2.2.2)))]),g.2.2.2.2))))))) λ_=>some (.dn (((0:Nat),(g,()))))) (((0:Int),(L.1,(L.2,(([]:List XY),next)))))=some (0,((((UO 0 L.2).length:Int),(L.1,(L.2,((UO 0 L.2).map (XG s L b),next)))),())):=by
 have I:=v.len;have F:=WW L.2 0;refine U1 (l:=UO 0 L.2) (σ:=List XY) (λi js=>((i:Int),(L.1,(L.2,(js,next))))) (λls i js=>js++ls.map (XG s L b)=(UO 0 L.2).map (XG s L b)) (λ_ _ _=>(0,((((UO 0 L.2).length:Int),(L.1,(L.2,((UO 0 L.2).map (XG s L b),next)))),()))) [] rfl (by omega) rfl (λjs h=> ?_) (λi d ls js A hi C h=> ?_)
 ·simp only;rw[re,R6,<- h];simp
 ·refine⟨js++[XG s L b d],?_,by rw[<- h];simp,rfl⟩;obtain⟨n,J,K,k,E⟩:=dk (co hi);have y:=eu v (n:=n) (by rw[aS.1 E];rfl);rw[<- k]at y
  have G:js.length<=1000:=by
   have z:=congrArg gs h;rw[fl,iP,iP]at z;omega
  simp only;rw[rl C,SX,Tb,S6 hi];have j:Vn ((L.1,L.2),d)=some (Wa L d,0):=y;rw[j,Sp];refine Tv (ga B D L b hi) ?_;rw[UC (by simp only[BF,ci,cP];omega),Tf (by omega)];rfl
end
section
open Go Sv
theorem Xt{α β σ S:Type}{l:List α}(c:Nat)(n:c<=1000)(mk:Nat->σ->S)(I:Nat->σ->Prop)(Q:β->Prop){f:S->Option (LR S β)}{s:S}(a:σ)(i:s=mk 0 a)(hi:I 0 a)
  (p:∀ k a,(k=l.length\/k=c)->k<=l.length->I k a -> ∃ r,f (mk k a)=some (.dn r)/\Q r)
  (hc:∀ k x a,l[k]?=some x->k<c->I k a->(∃ b,f (mk k a)=some (.nx (mk (k+1) b))/\I (k+1) b) \/ ∃ r,f (mk k a)=some (.dn r)/\Q r):∃ r,loop f s=some r/\Q r:=by
 refine Va (l:=l.take c) mk (λ_ k a=>I k a/\k<=(l.take c).length) Q a i (by simp;omega) ⟨hi,by omega⟩ (λa h=>p _ a (by simp;omega) (by simp;omega) h.1) (λk x m a q e o h=> ?_);have d:k<c:=by simp at o;omega
 have g:l[k]?=some x:=by rw[nm]at e;rw[if_pos d]at e;exact e
 rcases hc k x a g d h.1 with⟨b,h1,j⟩|h1
 ·exact .inl ⟨b,h1,j,by omega⟩
 ·exact .inr h1
theorem Z6{k c:Nat}(h:k<c):S1 (k:Int) (c:Int)=true:=by unfold S1;simp;omega
theorem eL{α β:Type}{l:List α}{k c:Nat}(h:k=l.length\/k=c)(b:k<=l.length)(A B C:Option β)(e:B=C):br (S1 (k:Int) (l.length:Int)) (λ_=>br (S1 (k:Int) (c:Int)) (λ_=>A) λ_=>B) (λ_=>C)=C:=by
 rw[TI];by_cases a:(k:Int)<(l.length:Int)
 ·rw[if_pos a,TI,if_neg (by omega),e]
 ·rw[if_neg a]
theorem ZF(l:List Ta):∃ b,VW l=some b/\(b=false->l.length<=30):=by
 unfold VW;simp only[Te,Tc]
 obtain⟨r,m,a⟩:=Xt (l:=l) (σ:=Unit) (s:=((0:Int),false)) 40 (by omega) (λk _=>((k:Int),false)) (λ_ _=>True) (λ(r:Nat×((Int×Bool)×Unit))=>r.1=1\/(r.1=0/\r.2.1.2=true))
  (f:=λs0=>br (S1 s0.1 (l.length:Int)) (λ_=>br (S1 s0.1 40) (λ_=>R0 s0.1 λi=>ix l i λo=>br (Sz (Mi o.1:Int) 100) (λ_=>some (.dn ((0,((s0.1,true),()))))) λ_=>R0 s0.1 λj=>ix l j λp=>br (Sz (Mi p.2.1:Int) 100) (λ_=>some (.dn ((0,((s0.1,true),()))))) λ_=>some (.nx (SE .i64 s0.1 1,s0.2))) λ_=>some (.dn ((1,(s0,()))))) λ_=>some (.dn ((1,(s0,())))))
  () rfl trivial (λk _ h d _=>⟨_,(eL (c:=40) h d _ _ _ rfl),.inl rfl⟩) (λk x _ g d _=>by
   simp only;have e:=(a8.1 g).1;rw[rl e,SX,show S1 (k:Int) 40=true from Z6 d,SX,Tb,S6 g,TG,Tb,S6 g,TG,Tf (by omega)]
   repeat' split
   all_goals first|exact .inr ⟨_,rfl,.inr ⟨rfl,rfl⟩⟩|exact .inl ⟨(),rfl,trivial⟩)
 rw[m,Sp,Sq];rcases a with a|⟨a,n⟩
 ·rw[if_neg (show ¬ r.1=0 by omega)];exact⟨_,rfl,λh=>by unfold Sz at h;simp at h;omega⟩
 ·rw[if_pos a,n];exact⟨_,rfl,λh=>by cases h⟩
theorem aq(l:List Tw):∃ b,VN l=some b/\(b=false->l.length<=6 /\ ∀ r∈l,r.2.length<=30):=by
 unfold VN;simp only[Te,Tc]
 obtain⟨r,w,d⟩:=Xt (l:=l) (σ:=Unit) (s:=((0:Int),false)) 10 (by omega) (λk _=>((k:Int),false)) (λk _=>∀ i x,i<k->l[i]?=some x->x.2.length<=30) (λ(r:Nat×((Int×Bool)×Unit))=>(r.1=1 /\ ∀ i x,i<10->l[i]?=some x->x.2.length<=30)\/(r.1=0/\r.2.1.2=true))
  (f:=λs0=>br (S1 s0.1 (l.length:Int)) (λ_=>br (S1 s0.1 10) (λ_=>R0 s0.1 λu=>ix l u λA=>bd (VW A.2) λz=>br z (λ_=>some (.dn ((0,((s0.1,true),()))))) λ_=>some (.nx (SE .i64 s0.1 1,s0.2))) λ_=>some (.dn ((1,(s0,()))))) λ_=>some (.dn ((1,(s0,())))))
  () rfl (λi x h=>by omega) (λk _ h j g=>⟨_,(eL (c:=10) h j _ _ _ rfl),.inl ⟨rfl,λi x hi a=>g i x (by have:=(a8.1 a).1;omega) a⟩⟩) (λk x _ a j g=>by
   simp only;have m:=(a8.1 a).1;obtain⟨b,e,p⟩:=ZF x.2;rw[rl m,SX,show S1 (k:Int) 10=true from Z6 j,SX,Tb,S6 a,e,Sp,Tf (by omega)];cases b with
   |true=>exact .inr ⟨_,rfl,.inr ⟨rfl,rfl⟩⟩
   |false=>
    refine .inl ⟨(),rfl,λi y hi n=> ?_⟩;by_cases h:i=k
    ·subst h;rw[a]at n;cases n;exact p rfl
    ·exact g i y (by omega) n)
 rw[w,Sp,Sq];rcases d with⟨d,o⟩|⟨d,o⟩
 ·rw[if_neg (show ¬ r.1=0 by omega)];refine⟨_,rfl,λh=> ?_⟩;have q:l.length<=6:=by unfold Sz at h;simp at h;omega
  exact⟨q,λr t=>by
   obtain⟨i,hi⟩:=ee t
   exact o i r (by have:=(a8.1 hi).1;omega) hi⟩
 ·rw[if_pos d,o];exact⟨_,rfl,λh=>by cases h⟩
theorem eU(L:Td):∃ b,XM L=some b/\(b=false->L.2.length<=14 /\ ∀ rs∈L.2,rs.length<=6 /\ ∀ r∈rs,r.2.length<=30):=by
 unfold XM;simp only[Te,Tc]
 obtain⟨r,w,d⟩:=Xt (l:=L.2) (σ:=Unit) (s:=((0:Int),false)) 20 (by omega) (λk _=>((k:Int),false)) (λk _=>∀ i x,i<k->L.2[i]?=some x->x.length<=6 /\ ∀ r∈x,r.2.length<=30) (λ(r:Nat×((Int×Bool)×Unit))=>(r.1=1 /\ ∀ i x,i<20->L.2[i]?=some x->x.length<=6 /\ ∀ r∈x,r.2.length<=30)\/(r.1=0/\r.2.1.2=true))
  (f:=λs0=>br (S1 s0.1 (L.2.length:Int)) (λ_=>br (S1 s0.1 20) (λ_=>R0 s0.1 λu=>ix L.2 u λA=>bd (VN A) λz=>br z (λ_=>some (.dn ((0,((s0.1,true),()))))) λ_=>some (.nx (SE .i64 s0.1 1,s0.2))) λ_=>some (.dn ((1,(s0,()))))) λ_=>some (.dn ((1,(s0,())))))
  () rfl (λi x h=>by omega) (λk _ h j g=>⟨_,(eL (c:=20) h j _ _ _ rfl),.inl ⟨rfl,λi x hi a=>g i x (by have:=(a8.1 a).1;omega) a⟩⟩) (λk x _ a j g=>by
   simp only;have m:=(a8.1 a).1;obtain⟨b,e,p⟩:=aq x;rw[rl m,SX,show S1 (k:Int) 20=true from Z6 j,SX,Tb,S6 a,e,Sp,Tf (by omega)];cases b with
   |true=>exact .inr ⟨_,rfl,.inr ⟨rfl,rfl⟩⟩
   |false=>
    refine .inl ⟨(),rfl,λi y hi n=> ?_⟩;by_cases h:i=k
    ·subst h;rw[a]at n;cases n;exact p rfl
    ·exact g i y (by omega) n)
 rw[w,Sp,Sq];rcases d with⟨d,o⟩|⟨d,o⟩
 ·rw[if_neg (show ¬ r.1=0 by omega)];refine⟨_,rfl,λh=> ?_⟩;have q:L.2.length<=14:=by unfold Sz at h;simp at h;omega
  exact⟨q,λr t=>by
   obtain⟨i,hi⟩:=ee t
   exact o i r (by have:=(a8.1 hi).1;omega) hi⟩
 ·rw[if_pos d,o];exact⟨_,rfl,λh=>by cases h⟩
theorem d8(l:List Ta):∃ b,U7 l=some b:=by
 unfold U7;simp only[Te,Tc]
 obtain⟨r,j,o⟩:=Xt (l:=l) (σ:=Unit) (s:=((0:Int),false)) 80 (by omega) (λk _=>((k:Int),false)) (λ_ _=>True) (λ(r:Nat×((Int×Bool)×Unit))=>True)
  (f:=λs0=>br (S1 s0.1 (l.length:Int)) (λ_=>br (S1 s0.1 80) (λ_=>R0 s0.1 λg=>ix l g λm=>br (Sz (Mi m.1:Int) 100) (λ_=>some (.dn ((0,((s0.1,true),()))))) λ_=>R0 s0.1 λi=>ix l i λn=>br (Sz (Mi n.2.1:Int) 100) (λ_=>some (.dn ((0,((s0.1,true),()))))) λ_=>some (.nx (SE .i64 s0.1 1,s0.2))) λ_=>some (.dn ((1,(s0,()))))) λ_=>some (.dn ((1,(s0,())))))
  () rfl trivial (λk _ h a _=>⟨_,(eL (c:=80) h a _ _ _ rfl),trivial⟩) (λk x _ e a _=>by
   simp only;have d:=(a8.1 e).1;rw[rl d,SX,show S1 (k:Int) 80=true from Z6 a,SX,Tb,S6 e,TG,Tb,S6 e,TG,Tf (by omega)]
   repeat' split
   all_goals first|exact .inr ⟨_,rfl,trivial⟩|exact .inl ⟨(),rfl,trivial⟩)
 rw[j,Sp,Sq];split<;>exact⟨_,rfl⟩
theorem eV(s:UB):∃ b,XN s=some b/\(b=false->Sm s /\ ∀ rs∈s.1.2,∀ r∈rs,r.2.length<=30):=by
 unfold XN;simp only[Te,Tc]
 obtain⟨r,q,g⟩:=Xt (l:=s.2.1) (σ:=Unit) (s:=((0:Int),false)) 20 (by omega) (λk _=>((k:Int),false)) (λ_ _=>True) (λ(r:Nat×((Int×Bool)×Unit))=>r.1=0\/(r.1=1/\r.2.1.2=true))
  (f:=λs0=>br (S1 s0.1 (s.2.1.length:Int)) (λ_=>br (S1 s0.1 20) (λ_=>R0 s0.1 λE=>ix s.2.1 E λi=>bd (loop (λa=>br (S1 a.1 (i.2.1.1.length:Int)) (λ_=>br (S1 a.1 10) (λ_=>R0 a.1 λp=>ix i.2.1.1 p λw=>bd (U7 w) λt=>br t (λ_=>some (.dn ((0,((a.1,true),()))))) λ_=>some (.nx (SE .i64 a.1 1,a.2))) λ_=>some (.dn ((1,(a,()))))) λ_=>some (.dn ((1,(a,()))))) (0,s0.2)) λu=>br (neq u.1 0) (λ_=>some (.dn ((1,((s0.1,u.2.1.2),()))))) λ_=>bd (U7 i.2.2.2.1) λF=>br F (λ_=>some (.dn ((1,((s0.1,true),()))))) λ_=>br (Sz (i.2.1.1.length:Int) 6) (λ_=>some (.dn ((1,((s0.1,true),()))))) λ_=>br (Sz (i.2.1.2.1.length:Int) 40) (λ_=>some (.dn ((1,((s0.1,true),()))))) λ_=>br (Sz (i.2.1.2.2.1.length:Int) 40) (λ_=>some (.dn ((1,((s0.1,true),()))))) λ_=>br (Sz (i.2.1.2.2.2.1.length:Int) 40) (λ_=>some (.dn ((1,((s0.1,true),()))))) λ_=>br (Sz (Mi i.2.2.1.2.1:Int) 200) (λ_=>some (.dn ((1,((s0.1,true),()))))) λ_=>some (.nx (SE .i64 s0.1 1,u.2.1.2))) λ_=>some (.dn ((0,(s0,()))))) λ_=>some (.dn ((0,(s0,())))))
  () rfl trivial (λk _ h j _=>⟨_,(eL (c:=20) h j _ _ _ rfl),.inl rfl⟩) (λk x _ z j _=>by
   simp only;have m:=(a8.1 z).1;rw[rl m,SX,show S1 (k:Int) 20=true from Z6 j,SX,Tb,S6 z]
   obtain⟨r,q,g⟩:=Xt (l:=x.2.1.1) (σ:=Unit) (s:=((0:Int),false)) 10 (by omega) (λk _=>((k:Int),false)) (λ_ _=>True) (λ(r:Nat×((Int×Bool)×Unit))=>(r.1=1/\r.2.1.2=false)\/(r.1=0/\r.2.1.2=true))
    (f:=λa=>br (S1 a.1 (x.2.1.1.length:Int)) (λ_=>br (S1 a.1 10) (λ_=>R0 a.1 λp=>ix x.2.1.1 p λw=>bd (U7 w) λt=>br t (λ_=>some (.dn ((0,((a.1,true),()))))) λ_=>some (.nx (SE .i64 a.1 1,a.2))) λ_=>some (.dn ((1,(a,()))))) λ_=>some (.dn ((1,(a,())))))
    () rfl trivial (λk _ h j _=>⟨_,(eL (c:=10) h j _ _ _ rfl),.inl ⟨rfl,rfl⟩⟩) (λk y _ A j _=>by
     simp only;have m:=(a8.1 A).1;obtain⟨b,e⟩:=d8 y;rw[rl m,SX,show S1 (k:Int) 10=true from Z6 j,SX,Tb,S6 A,e,Sp,Tf (by omega)];cases b with
     |true=>exact .inr ⟨_,rfl,.inr ⟨rfl,rfl⟩⟩
     |false=>exact .inl ⟨(),rfl,trivial⟩)
   obtain⟨b,e⟩:=d8 x.2.2.2.1;rw[q,Sp,Sq,e];rcases g with⟨g,n⟩|⟨g,n⟩
   ·rw[if_neg (show ¬ r.1=0 by omega),Sp,TM,TG,TG,TG,TG,TG,n,Tf (by omega)]
    repeat' split
    all_goals first|exact .inr ⟨_,rfl,.inr ⟨rfl,rfl⟩⟩|exact .inl ⟨(),rfl,trivial⟩
   ·rw[if_pos g,n]
    exact .inr ⟨_,rfl,.inr ⟨rfl,rfl⟩⟩)
 rw[q,Sp,Sq];rcases g with g|⟨g,n⟩
 ·rw[if_pos g,TG];by_cases h:(s.2.1.length:Int)>14
  ·rw[if_pos h];exact⟨_,rfl,λh=>by cases h⟩
  ·rw[if_neg h];obtain⟨b,e,C⟩:=eU s.1;rw[e];refine⟨b,rfl,λB=> ?_⟩;obtain⟨G,o⟩:=C B;exact⟨⟨by omega,λrs d=>⟨by have:=(o rs d).1;omega,λr D=>by have:=(o rs d).2 r D;omega⟩,by omega⟩,λrs d=>(o rs d).2⟩
 ·rw[if_neg (show ¬ r.1=0 by omega),n];exact⟨_,rfl,λh=>by cases h⟩
end
section
open Go Sv
theorem mb(a:Int):OY a a=true:=by unfold OY;simp
end
section
open Go Sv
theorem iJ(L:Td)(n:Nat):U9 (L,(n:Int))=some (Tl L.2 n):=by
 unfold U9;simp only[Te,Tc];rw[TF];by_cases h:n<L.2.length
 ·rw[if_neg (by omega),Tb,S6 (VI h)]
 ·rw[if_pos (by omega)];unfold Tl;rw[a9 (by omega)];rfl
end
section
open Go Sv
theorem Y8:∀ {l:List Ta} {q:XZ},Asc (some q) l -> ∀ x∈l,SQ q x.1=true
 |x::l,q,⟨a,b⟩,y,hy=>by
  rcases gl.1 hy with e|hy
  ·rw[e];exact a q rfl
  ·exact U5 (a q rfl) (Y8 b y hy)
end
section
open Go Sv
end
section
open Go Sv
theorem fA{t:UB}(h:t=zS\/VSt t):V5 (t,t)=some true:=by
 rcases h with h|h
 ·rw[h];exact qV
 ·exact cB h
end
section
open Go Sv
end
section
open Go Sv
def UF(b:Tw):Int×Int:=if b.1<1\/b.1>16 then(0,7)else if(b.2.length:Int)>b.1 then(0,3)else YK none 0 b.2
theorem X5(b:Tw):UP b=some (UF b):=by
 unfold UP UF;rw[TI,TG,TG];by_cases c:b.1<1
 ·rw[if_pos c,if_pos (.inl c)]
 rw[if_neg c];by_cases d:b.1>16
 ·rw[if_pos d,if_pos (.inr d)]
 rw[if_neg d,if_neg (show ¬ (b.1<1\/b.1>16) by omega),Te,Tc];by_cases a:(b.2.length:Int)>b.1
 ·rw[if_pos a,if_pos a]
 rw[if_neg a,if_neg a];have e:=Vu b.2 (by omega);unfold UG Uk at e;rw[TG,Te,Tc,if_neg (show ¬ (b.2.length:Int)>5000 by omega),if_neg (show ¬ b.2.length>5000 by omega)]at e;exact e
theorem ZO(b:Tw):WJ b=some (UF b):=by
 rw[<- X5];unfold WJ UP
 congr 1
 funext _
 congr 1
 funext _
 congr 1
 funext _
 congr 2
 funext s0
 by_cases h:0<=s0.2.2
 ·simp only[Se h];cases a:b.2[s0.2.2.toNat]? with
  |none=>unfold ix;simp only[a]
  |some x=>simp only[S6 a,Wy,Ux,Sp]
 ·have c:∀ {β:Type} (k:Nat->Option β),R0 s0.2.2 k=none:=λk=>by unfold R0;simp[h]
  simp only[c]
def UE(f:Uc):Int:=if(UF f.1).2≠0 then(UF f.1).2 else if(UN f.2).2≠0 then(UN f.2).2 else if f.1.1≠f.2.1.1 then 6 else 0
theorem ZP{f:Uc}(m:Sm f.2):WK f=some (UE f):=by
 unfold WK UE;rw[ZO,Sp,TE];by_cases a:(UF f.1).2=0;rotate_left
 ·rw[if_neg a,TE,if_neg a,if_pos a]
 rw[if_pos a,if_neg (show ¬ (UF f.1).2≠0 by simp[a]),qR m,Sp,TE];by_cases b:(UN f.2).2=0;rotate_left
 ·rw[if_neg b,if_pos b]
 rw[if_pos b,if_neg (show ¬ (UN f.2).2≠0 by simp[b]),TJ];by_cases c:f.1.1=f.2.1.1
 ·rw[if_pos c,if_neg (show ¬ f.1.1≠f.2.1.1 by simp[c]),b]
 ·rw[if_neg c,if_pos c]
end
section
open Go Sv
theorem ec{α:Type}(l:List α)(k:Nat):D0 l 0 k=l.take k:=by unfold D0;simp
end
section
open Go Sv
def aa(s:UB)(l:List Ta):Td:=V9 s.1 0 (Tl s.1.2 0++[(s.2.2,l)])
def X3(s:UB)(l:List Ta):UB×Int:=
 if(UN s).2≠0 then(zS,(UN s).2)else if s.2.2>1000000\/2<=(Tl s.1.2 0).length then(zS,5)else if(Uk l).2≠0 then(zS,(Uk l).2)
 else if kR [] (UV s.1.1 0) (s.2.2,l)≠0 then(zS,kR [] (UV s.1.1 0) (s.2.2,l))else(d9 s (aa s l) (s.2.2+1) (-1),0)
theorem Zd{s:UB}(v:VSt s):∀ y∈s.1.2.flatten,y.1≠s.2.2:=λy a=>by
 have:=Yt a;have:=v.n3;omega
theorem ZS{s:UB}(v:VSt s){l:List Ta}(a:(Tl s.1.2 0).length<2)(b:kR [] (UV s.1.1 0) (s.2.2,l)=0):VLev (aa s l):=
 v.lev.arrive (by omega) a (gv.1 b).1 (Zd v)
theorem aL(s:UB)(l:List Ta)(i:Nat):Tl (aa s l).2 i=if i=0 then Tl s.1.2 0++[(s.2.2,l)]else Tl s.1.2 i:=by
 unfold aa;rw[aK]
theorem mY{s:UB}(v:VSt s){l:List Ta}(d:(Tl s.1.2 0).length<2)(h:kR [] (UV s.1.1 0) (s.2.2,l)=0)(t:s.2.2<=1000000):VSt (d9 s (aa s l) (s.2.2+1) (-1)):=by
 have m:=v.n1;refine mQ v (ZS v d h) (by omega) (by omega) (λx o=> ?_) (λn q r j _ _=> ?_)
 ·obtain⟨i,hi⟩:=ax.1 o
  have a:∀ {y:Tw} {k:Nat},y∈Tl s.1.2 k->y.1<s.2.2+1:=fun {y k} p=>by
   have:=Yt (ax.2 ⟨k,p⟩);have:=v.n3;omega
  rw[aL]at hi;by_cases g:i=0
  ·rw[if_pos g]at hi;rcases o3.1 hi with hi|hi
   ·exact a hi
   ·rw[rY.1 hi];show s.2.2<s.2.2+1;omega
  ·rw[if_neg g]at hi;exact a hi
 ·have c:=aS.1 j;have f:n≠0:=λe=>by rw[e]at c;rw[c]at d;simp at d
  have b:Tl (aa s l).2 n=[q,r]:=by rw[aL,if_neg f,c]
  refine⟨aS.2 b,λu=>(me (ZS v d h).last (by rw[b];simp) λi hi=> ?_).symm⟩;rw[aL,if_neg (by omega)];unfold Tl;rw[a9 (by omega)];rfl
theorem qN{s:UB}(v:VSt s)(h:s.2.2<=1000000)(l:List Ta):kR [] (UV s.1.1 0) (s.2.2,l)=if(Uk l).2≠0 then(Uk l).2 else if l.length=0 then 4 else if(l.length:Int)>UV s.1.1 0 then 3 else 0:=by
 have:=v.n1;unfold kR;rw[if_neg (by simp only;omega)];simp
theorem Zy{s:UB}(m:Sm s){l:List Ta}(o:l.length<=1000):VM (s,l)=some (X3 s l):=by
 unfold VM X3;rw[t4 m,Sp,TJ];by_cases b:(UN s).2=0;rotate_left
 ·rw[if_neg b,if_pos b];rfl
 have v:=Xl.1 b;have j:=v.n1;have k:=aA v.lev (n:=0) (by omega);rw[if_pos b,if_neg (by simp[b])];show(bd (Uh (s.1,((0:Nat):Int))) λp=>_)=_;rw[k,Sp];simp only;rw[if_neg (show ¬ (0>=12) by omega),TJ,if_pos rfl,TG];by_cases d:s.2.2>1000000
 ·rw[if_pos d,if_pos (.inl d)];rfl
 have e:bJ s.1 0=decide ((Tl s.1.2 0).length<2):=by unfold bJ Tl;simp
 rw[if_neg d,UW,e,Uo];by_cases f:2<=(Tl s.1.2 0).length
 ·rw[if_neg (by omega),if_pos (.inr f)];rfl
 rw[if_pos (by omega),if_neg (show ¬ (s.2.2>1000000\/2<=(Tl s.1.2 0).length) by omega)];rw[UC (by simp only[AS];omega),Yy _ (by simp only;omega),Sp,if_neg (show ¬ (s.2.2<1\/s.2.2>1000000) by omega),TJ];by_cases c:(Uk l).2=0;rotate_left
 ·rw[if_neg c,if_pos c];rfl
 rw[if_pos c,if_neg (by simp[c])];have g:=aw v.lev (n:=0) (by omega) (x:=(s.2.2,l)) (by simp only;omega) (Zd v) (by omega);show(bd (Vc (s.1,(((0:Nat):Int),(s.2.2,l)))) λq=>_)=_;rw[g,Sp];by_cases a:kR [] (UV s.1.1 0) (s.2.2,l)=0;rotate_left
 ·rw[if_pos a,if_pos a,TJ,if_neg a];rfl
 rw[if_neg (by simp[a]),if_neg (by simp[a]),TJ,if_pos rfl];have i:=v.jsmall;have h:=ao v.nodup (by omega) (ZS v (by omega) a) (s.2.2+1) (-1);rw[Sb (by omega)];show(bd (Vw (s,(aa s l,(s.2.2+1,(-1))))) λr=>_)=_;rw[h];rfl
end
section
open Go Sv
theorem YH{α β γ δ:Type}{f:α->Option (LR δ γ)}{s:α}{k:δ->Option β}{a:γ->Option β}{x:δ}(h:f s=some (.nx x)):jn f s k a=k x:=by
 unfold jn;rw[h]
theorem mj{L:Td}(v:VLev L){n:Nat}(D:n<12){x:Tw}(F:x.2.length<=1048576)(c:∀ y∈L.2.flatten,y.1≠x.1)(C:(Tl L.2 n).length<2) :
  Wn (L,((n:Int),x))=some (if kR [] (UV L.1 n) x≠0 then((0,[]),kR [] (UV L.1 n) x)else(V9 L n (Tl L.2 n++[x]),0)):=by
 have E:=v.len;have w:=YR L.2 v.two;unfold Wn;simp only[Te,Tc];rw[iG v,Sp,if_neg (by omega),TJ,if_pos rfl,Zr v,Sp];refine Tv (U1 (l:=VB L.2) (σ:=List Int) (s:=(([]:List Int),(0:Int))) (λi m=>(m,(i:Int))) (λls i m=>m++ls.map dv=(VB L.2).map dv) (λ_ _ _=>(0,(((VB L.2).map dv,((VB L.2).length:Int)),()))) [] rfl (by omega) rfl (λm h=> ?_) (λi r ls m B hi d h=> ?_)) ?_
 ·simp only;rw[re,R6,<- h];simp
 ·refine⟨m++[dv r],?_,by rw[<- h];simp,rfl⟩
  have j:m.length<=1000:=by
   have q:=congrArg gs h;rw[fl,iP,iP]at q;omega
  simp only;rw[rl d,SX,Tb,S6 hi,UC (by simp only[BF,ci,cP];omega),Tf (by omega)];rfl
 have f:x.1 ∉ (VB L.2).map dv:=λj=>by
  obtain⟨y,z,e⟩:=nn.1 j;obtain⟨rs,k,o⟩:=List.mem_flatMap.1 z;exact c y (hV.2 ⟨rs,k,List.mem_reverse.1 o⟩) e
 have u:kR ((VB L.2).map dv) (UV L.1 n) x=kR [] (UV L.1 n) x:=by
  rw[gu,if_neg f];split
  ·rename_i h;exact h.symm
  ·rfl
 have small:∀ i,(Tl L.2 i).length<=1048576:=λi=>by have:=(v.own i).1;omega
 have t:=iE (L:=L) (n:=n) (r:=Tl L.2 n++[x]) (by omega) (by omega) (by simp;omega) small;rw[bM v.B1 v.B2 (by omega),Sp,bG _ _ _ (by omega) (by simp;omega),u,Sp,TE];by_cases a:kR [] (UV L.1 n) x=0;rotate_left
 ·rw[if_neg a,if_pos a,TJ,if_neg a]
 rw[if_pos a,if_neg (by simp[a]),TF]
 have b:(bd (U9 (L,(n:Int))) λg=>gd (CF g.length 1048576) λ_=>gd (CF (BF g.length [x].length) 1048576) λ_=>bd (VX (L,((n:Int),Ij g [x]))) λA=>some (A,(0:Int)))=some (V9 L n (Tl L.2 n++[x]),0):=by
  rw[iJ,Sp,UC (by omega),UC (by simp only[BF,ci,cP];omega)];exact Tv t rfl
 by_cases p:n<L.2.length
 ·rw[if_neg (by omega),Tb,S6 (VI p),TE,if_neg (by omega),TJ,if_pos a];exact b
 ·rw[if_pos (by omega),TJ,if_pos a];exact b
theorem bo{s:UB}(m:Sm s){l:List Ta}(w:l.length<=1000):Wo (s,l)=some (X3 s l):=by
 unfold Wo X3;rw[qR m,Sp];simp only[Te,Tc];by_cases c:(UN s).2=0;rotate_left
 ·rw[if_pos c];refine(YH (x:=(UN s).2) (YH (x:=false) (by rw[TE,if_neg c]) |>.trans rfl)).trans ?_;rw[TJ,if_neg c];rfl
 have v:=Xl.1 c;have t:=v.n1;have r:=v.lev.len;rw[if_neg (by simp[c])];have k:=(v.lev.own 0).1;by_cases i:s.2.2>1000000\/2<=(Tl s.1.2 0).length
 ·rw[if_pos i]
  refine(YH (x:=(5:Int)) (YH (x:=true) (by
   rw[TE,if_pos c,TG];by_cases j:s.2.2>1000000
   ·rw[if_pos j]
   ·rw[if_neg j];have a:2<=(Tl s.1.2 0).length:=by omega
    have f:0<s.1.2.length:=by
     by_cases h:0<s.1.2.length
     ·exact h
     ·unfold Tl at a;rw[a9 (by omega)]at a;simp at a
    rw[TF,if_neg (by omega),S6 (VI f)]
    rw[show OY ((Tl s.1.2 0).length:Int) 2=true by rw[U4];simp;omega]) |>.trans rfl)).trans ?_
  rfl
 rw[if_neg i]
 refine(YH (x:=(UN s).2) (YH (x:=false) (by
   rw[TE,if_pos c,TG,if_neg (by omega),TF];by_cases f:0<s.1.2.length
   ·rw[if_neg (by omega),S6 (VI f)];rw[show OY ((Tl s.1.2 0).length:Int) 2=false by rw[U4];simp;omega]
   ·rw[if_pos (by omega)]) |>.trans rfl)).trans ?_
 rw[TJ,if_pos c,d7 _ (by simp only;omega),Sp,if_neg (show ¬ (s.2.2<1\/s.2.2>1000000) by omega)];have b:=qN v (by omega:s.2.2<=1000000) l;by_cases a:(Uk l).2=0;rotate_left
 ·rw[if_pos a];refine(YH (x:=(Uk l).2) (YH (x:=false) (by rw[TE,if_neg a]) |>.trans rfl)).trans ?_;rw[TJ,if_neg a];rfl
 rw[if_neg (by simp[a])];rw[if_neg (by simp[a])]at b;by_cases f:l.length=0
 ·rw[if_pos f]at b;rw[if_pos (by rw[b];decide),b]
  refine(YH (x:=(4:Int)) (YH (x:=true) (by
   rw[TE,if_pos a,show OY (l.length:Int) 0=true by rw[U4];simp;exact s6.1 f]) |>.trans rfl)).trans ?_
  rfl
 refine(YH (x:=(Uk l).2) (YH (x:=false) (by
   rw[TE,if_pos a,show OY (l.length:Int) 0=false by rw[U4];simp;exact λe=>f (by rw[e];rfl)]) |>.trans rfl)).trans ?_
 have o:=mj v.lev (n:=0) (by omega) (x:=(s.2.2,l)) (by simp only;omega) (Zd v) (by omega);rw[TJ,if_pos a];refine Tv o ?_;by_cases g:kR [] (UV s.1.1 0) (s.2.2,l)=0;rotate_left
 ·rw[if_pos g,if_pos g,TJ,if_neg g];rfl
 rw[if_neg (by simp[g]),if_neg (by simp[g]),TJ,if_pos rfl];have d:=ZS v (by omega) g;have q:=v.jsmall;have p:=d.len;rw[Sb (by omega)];show(bd (VA (aa s l)) λu=>_)=_;rw[du (by omega),Sp];exact Tv (bX v.nodup (by omega) d (s.2.2+1) (-1)) rfl
theorem ab{s:UB}(l:List Ta):(X3 s l).1=zS\/VSt (X3 s l).1:=by
 unfold X3;by_cases a:(UN s).2=0;rotate_left
 ·rw[if_pos a];exact .inl rfl
 rw[if_neg (by simp[a])];by_cases c:s.2.2>1000000\/2<=(Tl s.1.2 0).length
 ·rw[if_pos c];exact .inl rfl
 rw[if_neg c];by_cases d:(Uk l).2=0;rotate_left
 ·rw[if_pos d];exact .inl rfl
 rw[if_neg (by simp[d])];by_cases b:kR [] (UV s.1.1 0) (s.2.2,l)=0;rotate_left
 ·rw[if_pos b];exact .inl rfl
 rw[if_neg (by simp[b])];exact .inr (mY (Xl.1 a) (by omega) b (by omega))
end
section
open Go Sv
end
section
open Go Sv
end
section
open Go Sv
end
section
open Go Sv
theorem oz{a:Int}(h : -9223372036854775808<=a/\a<=9223372036854775807):TK .i64 a=a:=by
 have:=Sb (a:=a) (b:=0) (by omega);unfold SE at this;rw[Int.add_zero]at this;exact this
end
section
open Go Sv
def Vo:List Ta->XZ->Nat
 |[],_=>0
 |y::l,k=>if SQ y.1 k=true then Vo l k+1 else 0
def X8(l:List Ta)(k:XZ):Bool:=match l[Vo l k]? with
 |some y=>decide (y.1=k)
 |none=>false
theorem ZE:∀ (l:List Ta) (k:XZ),Vo l k<=l.length
 |[],_=>by simp[Vo]
 |y::l,k=>by
  have:=ZE l k;unfold Vo;split<;>simp<;>omega
theorem gx:∀ {l:List Ta} {k:XZ} {i:Nat} {y:Ta},l[i]?=some y->i<Vo l k->SQ y.1 k=true
 |[],_,_,_,h,_=>by simp at h
 |x::l,k,0,y,h,hi=>by
  cases h;unfold Vo at hi;split at hi
  ·assumption
  ·omega
 |x::l,k,i+1,y,h,hi=>by
  unfold Vo at hi;split at hi
  ·exact gx (l:=l) (by simpa using h) (by omega)
  ·omega
theorem gw:∀ {l:List Ta} {p:Option XZ},Asc p l -> ∀ {k:XZ} {i:Nat} {y:Ta},l[i]?=some y->Vo l k<=i->SQ y.1 k=false
 |[],_,_,_,_,_,h,_=>by simp at h
 |x::l,p,⟨d,a⟩,k,i,y,h,hi=>by
  unfold Vo at hi;cases i with
  |zero=>
   cases h;split at hi
   ·omega
   ·rename_i hs;simpa using hs
  |succ i=>
   have b:l[i]?=some y:=by simpa using h
   split at hi
   ·exact gw a b (by omega)
   ·rename_i hs;have hs:SQ x.1 k=false:=by simpa using hs
    have:=Y8 a y (co b);cases c:SQ y.1 k with
    |false=>rfl
    |true=>rw[U5 this c]at hs;cases hs
theorem o5{l:List Ta}{p:Option XZ}(e:Asc p l){k:XZ}{i:Nat}(g:i<=l.length)(c:∀ j y,j<i->l[j]?=some y->SQ y.1 k=true)(d:∀ j y,i<=j->l[j]?=some y->SQ y.1 k=false):i=Vo l k:=by
 have f:=ZE l k;rcases Nat.lt_trichotomy i (Vo l k)with h|h|h
 ·have b:l[i]?=some l[i]:=bl (by omega);have a:=gx b h;rw[d i _ (eb _) b]at a;cases a
 ·exact h
 ·have b:l[Vo l k]?=some l[Vo l k]:=bl (by omega);have a:=gw e b (eb _);rw[c _ _ h b]at a;cases a
theorem dh{a b:Nat}(h:a+b<=1000000):TK .i64 (S5 .u64 (TK .u64 (SE .i64 (a:Int) (b:Int))) 1)=(((a+b) / 2:Nat):Int):=by
 rw[Sb (by omega)]
 have e1:TK .u64 ((a:Int)+(b:Int))=((a+b:Nat):Int):=by
  show(let m:=((a:Int)+(b:Int)) % (2 ^ 64:Int);if false&&decide (m>=(2 ^ 63:Int))then m-(2 ^ 64:Int)else m)=_
  simp;omega
 rw[e1]
 have e2:S5 .u64 ((a+b:Nat):Int) 1=(((a+b) / 2:Nat):Int):=by
  show Int.fdiv ((a+b:Nat):Int) (2 ^ 1)=_;rw[Int.fdiv_eq_ediv_of_nonneg _ (by decide)];omega
 rw[e2];exact oz (by omega)
theorem bW:∀ {l:List Ta} {p:Option XZ},Asc p l -> ∀ {a b:Nat} {x y:Ta},a<b->l[a]?=some x->l[b]?=some y->SQ x.1 y.1=true
 |[],_,_,_,_,_,_,_,h,_=>by simp at h
 |z::l,p,⟨_,d⟩,a,b,x,y,f,e,h2=>by
  cases b with
  |zero=>omega
  |succ b=>
   have c:l[b]?=some y:=by simpa using h2
   cases a with
   |zero=>cases e;exact Y8 d y (co c)
   |succ a=>exact bW d (a:=a) (b:=b) (by omega) (by simpa using e) c
theorem ZC{l:List Ta}{p:Option XZ}(e:Asc p l)(k:XZ)(g:l.length<=100000):∀ (n i j:Nat),i<=j->j<=l.length->j-i<n->(∀ q y,q<i->l[q]?=some y->SQ y.1 k=true)->(∀ q y,j<=q->l[q]?=some y->SQ y.1 k=false) ->
  LF n (λs0=>br (S1 s0.1 s0.2) (λ_=>R0 (TK .i64 (S5 .u64 (TK .u64 (SE .i64 s0.1 s0.2)) 1)) λr=>ix l r λs=>br (Hg (Hg (SQ s.1 k))) (λ_=>some (.nx ((SE .i64 (TK .i64 (S5 .u64 (TK .u64 (SE .i64 s0.1 s0.2)) 1)) 1,s0.2)))) λ_=>some (.nx ((s0.1,TK .i64 (S5 .u64 (TK .u64 (SE .i64 s0.1 s0.2)) 1))))) λ_=>some (.dn (((0:Nat),(s0,()))))) ((i:Int),(j:Int))=some (0,(((Vo l k:Int),(Vo l k:Int)),()))
 |0,_,_,_,_,h,_,_=>by omega
 |n+1,i,j,hij,hj,hn,h1,h2=>by
  by_cases h:i<j
  ·have m:(i+j) / 2<l.length:=by omega
   have d:l[(i+j) / 2]?=some l[(i+j) / 2]:=bl m;cases hs:SQ l[(i+j) / 2].1 k with
   |true=>
    rw[UI (s':=((((i+j) / 2+1:Nat):Int),(j:Int))) (by
     simp only
     rw[TI,if_pos (by omega),dh (by omega),Tb,S6 d,hs,U3,Vs,SX,Tf (by omega)])]
    refine ZC e k g n _ j (by omega) hj (by omega) (λq y o c=> ?_) h2;by_cases b:q=(i+j) / 2
    ·subst b;rw[d]at c;cases c;exact hs
    ·have a:q<(i+j) / 2:=by omega
     have f:SQ y.1 l[(i+j) / 2].1=true:=bW e a c d;exact U5 f hs
   |false=>
    rw[UI (s':=((i:Int),(((i+j) / 2:Nat):Int))) (by
     simp only
     rw[TI,if_pos (by omega),dh (by omega),Tb,S6 d,hs,Vs,U3,R6])]
    refine ZC e k g n i _ (by omega) (by omega) (by omega) h1 (λq y o c=> ?_);cases a:SQ y.1 k with
    |false=>rfl
    |true=>
     by_cases b:q=(i+j) / 2
     ·subst b;rw[d]at c;cases c;rw[hs]at a;cases a
     ·have:=bW e (show(i+j) / 2<q by omega) d c;rw[U5 this a]at hs;cases hs
  ·have:i=j:=by omega
   subst this;have:=o5 e hj h1 h2
   rw[UJ (x:=(0,(((Vo l k:Int),(Vo l k:Int)),()))) (by
    simp only
    rw[TI,if_neg (by omega),this])]
theorem gb{l:List Ta}{p:Option XZ}(f:Asc p l)(k:XZ)(g:l.length<=100000):Vg (l,k)=some ((Vo l k:Int),X8 l k):=by
 unfold Vg;simp only[Te,Tc];have h:=ZC f k g (l.length+1) 0 l.length (by omega) (eb _) (by omega) (λq y h=>by omega) (λq y h c=>by rw[a9 h]at c;cases c);refine Tv (Ut (by omega) h) ?_;dsimp only;have i:=ZE l k;unfold X8;rw[TI];by_cases d:Vo l k<l.length
 ·have b:l[Vo l k]?=some l[Vo l k]:=bl d;rw[if_pos (by omega),Tb,S6 b,b];simp only
  congr 2
  cases a:seq l[Vo l k].1 k with
  |true=>exact(decide_eq_true (Xo.1 a)).symm
  |false=>
   refine(decide_eq_false λe=> ?_).symm;rw[Xo.2 e]at a;cases a
 ·rw[if_neg (by omega),a9 (by omega)]
end
section
open Go Sv
abbrev sc:=(Int×(((List Ta)×Nat)×(Int×Bool)))
def om(most:Int)(ls:List Ta):sc->Option (LR sc (Nat×(sc×Unit))):=
 (λ(s1:(Int×(((List Ta)×Nat)×(Int×Bool))))=>br (S1 s1.2.2.1 (Kh (AS ls))) (λ_=>R0 s1.2.2.1 λk=>ix ls k λi=>gd (CF (BF 0 s1.2.1.2) (AS s1.2.1.1)) λ_=>bd (Vg ((D0 s1.2.1.1 0 (BF 0 s1.2.1.2),i.1))) λd=>br d.2 (λ_=>R0 d.1 λh=>gd (KI h s1.2.1.2) λ_=>gd (KI (BF 0 h) (AS s1.2.1.1)) λ_=>ix s1.2.1.1 (BF 0 h) λn=>some (.nx ((SI .i64 (SE .i64 s1.1 (SE .i64 (SI .i64 (Kh s1.2.1.2) d.1) 1)) 1,((lset s1.2.1.1 (BF 0 h) i,s1.2.1.2),(SE .i64 s1.2.2.1 1,s1.2.2.2)))))) λ_=>br (OY (Kh s1.2.1.2) most) (λ_=>some (.dn ((0,((SE .i64 s1.1 (SE .i64 (SI .i64 (Kh s1.2.1.2) d.1) 1),(s1.2.1,(s1.2.2.1,false))),()))))) λ_=>R0 (SE .i64 (Kh s1.2.1.2) 1) λb=>R0 (Kh (PY (AS s1.2.1.1) 0)) λj=>gd (CF b j) λ_=>gd (neq (BF 0 j) (AS s1.2.1.1)) λ_=>gd (KI 0 (AS s1.2.1.1)) λ_=>R0 (SE .i64 d.1 1) λc=>gd (CF (BF 0 b) (AS s1.2.1.1)) λ_=>gd (CF c b) λ_=>br (KI (BF 0 c) (AS s1.2.1.1)) (λ_=>R0 d.1 λa=>gd (CF (BF 0 b) (AS s1.2.1.1)) λ_=>gd (CF a b) λ_=>br (KI (BF 0 a) (AS s1.2.1.1)) (λ_=>gd (CF (BF (BF 0 a) (PY b a)) (AS s1.2.1.1)) λ_=>gd (CF (BF (BF 0 c) (PY b c)) (AS s1.2.1.1)) λ_=>R0 d.1 λe=>gd (KI e b) λ_=>gd (KI (BF 0 e) (AS (LB s1.2.1.1 (BF 0 c) (D0 s1.2.1.1 (BF 0 a) (BF (BF 0 a) (PY b a))) (PY b c)))) λ_=>ix (LB s1.2.1.1 (BF 0 c) (D0 s1.2.1.1 (BF 0 a) (BF (BF 0 a) (PY b a))) (PY b c)) (BF 0 e) λl=>some (.nx ((SE .i64 s1.1 (SE .i64 (SI .i64 (Kh s1.2.1.2) d.1) 1),((lset (LB s1.2.1.1 (BF 0 c) (D0 s1.2.1.1 (BF 0 a) (BF (BF 0 a) (PY b a))) (PY b c)) (BF 0 e) i,b),(SE .i64 s1.2.2.1 1,s1.2.2.2)))))) λ_=>gd (CF (BF (BF 0 c) (PY b c)) (AS s1.2.1.1)) λ_=>R0 d.1 λf=>gd (KI f b) λ_=>gd (KI (BF 0 f) (AS (LB s1.2.1.1 (BF 0 c) [] (PY b c)))) λ_=>ix (LB s1.2.1.1 (BF 0 c) [] (PY b c)) (BF 0 f) λm=>some (.nx ((SE .i64 s1.1 (SE .i64 (SI .i64 (Kh s1.2.1.2) d.1) 1),((lset (LB s1.2.1.1 (BF 0 c) [] (PY b c)) (BF 0 f) i,b),(SE .i64 s1.2.2.1 1,s1.2.2.2)))))) λ_=>R0 d.1 λg=>gd (CF (BF 0 b) (AS s1.2.1.1)) λ_=>gd (CF g b) λ_=>br (KI (BF 0 g) (AS s1.2.1.1)) (λ_=>gd (CF (BF (BF 0 g) (PY b g)) (AS s1.2.1.1)) λ_=>none) λ_=>none) λ_=>some (.dn ((0,(s1,())))))
theorem mT(x:Tw×List Ta):VK x =
 (R0 (SE .i64 x.1.1 1) λc=>gd (CF 0 c) λ_=>gd (CF c 1048576) λ_=>gd (CF (BF 0 (AS x.1.2)) 1048576) λ_=>gd (CF (BF 0 0) (AS (Rb c ((([],([],(false,0))):Ta))))) λ_=>br (neq (AS x.1.2) 0) (λ_=>bd (loop (om x.1.1 x.2) ((0,((Rb c ((([],([],(false,0))):Ta)),0),(0,true))))) λa=>gd (CF (BF 0 a.2.1.2.1.2) (AS a.2.1.2.1.1)) λ_=>some ((D0 a.2.1.2.1.1 0 (BF 0 a.2.1.2.1.2),(a.2.1.1,a.2.1.2.2.2)))) λ_=>br (CF (BF (BF 0 0) (AS x.1.2)) (AS (Rb c ((([],([],(false,0))):Ta))))) (λ_=>bd (loop (om x.1.1 x.2) ((0,((LB (Rb c ((([],([],(false,0))):Ta))) (BF 0 0) x.1.2 (AS x.1.2),BF 0 (AS x.1.2)),(0,true))))) λb=>gd (CF (BF 0 b.2.1.2.1.2) (AS b.2.1.2.1.1)) λ_=>some ((D0 b.2.1.2.1.1 0 (BF 0 b.2.1.2.1.2),(b.2.1.1,b.2.1.2.2.2)))) λ_=>none):=rfl
theorem nH(n:Nat):BF 0 n=n:=by unfold BF;omega
theorem qQ(n:Nat):PY n 0=n:=rfl
def V7(l:List Ta)(x:Ta):List Ta:=l.take (Vo l x.1)++x::l.drop (Vo l x.1+if X8 l x.1=true then 1 else 0)
theorem Z5(y:Ta)(l:List Ta)(k:XZ):X8 (y::l) k=if SQ y.1 k=true then X8 l k else decide (y.1=k):=by
 unfold X8;by_cases h:SQ y.1 k=true
 ·rw[if_pos h];have:Vo (y::l) k=Vo l k+1:=by conv=>lhs;unfold Vo;rw[if_pos h]
  rw[this];rfl
 ·rw[if_neg h];have:Vo (y::l) k=0:=by conv=>lhs;unfold Vo;rw[if_neg h]
  rw[this];rfl
theorem aH(y:Ta)(l:List Ta)(x:Ta):V7 (y::l) x=if SQ y.1 x.1=true then y::V7 l x else if y.1=x.1 then x::l else x::y::l:=by
 unfold V7;rw[Z5];by_cases h:SQ y.1 x.1=true
 ·rw[if_pos h,if_pos h];have:Vo (y::l) x.1=Vo l x.1+1:=by conv=>lhs;unfold Vo;rw[if_pos h]
  rw[this,Nat.add_right_comm,List.take_succ_cons,List.drop_succ_cons];rfl
 ·rw[if_neg h,if_neg h];have:Vo (y::l) x.1=0:=by conv=>lhs;unfold Vo;rw[if_neg h]
  rw[this];by_cases a:y.1=x.1
  ·rw[if_pos a,if_pos (decide_eq_true a)];rfl
  ·rw[if_neg a,if_neg (by simp[a])];rfl
theorem bB(x:Ta):V7 [] x=[x]:=by unfold V7;simp[Vo]
theorem YU(x:Ta):∀ {l:List Ta} {p:Option XZ},Asc p l->(∀ q,p=some q->SQ q x.1=true)->Asc p (V7 l x)
 |[],p,_,hp=>by rw[bB];exact⟨hp,trivial⟩
 |y::l,p,⟨d,b⟩,hp=>by
  rw[aH];by_cases h:SQ y.1 x.1=true
  ·rw[if_pos h];exact⟨d,YU x b λq c=>by cases c;exact h⟩
  ·rw[if_neg h];by_cases a:y.1=x.1
   ·rw[if_pos a];exact⟨hp,by rw[<- a];exact b⟩
   ·rw[if_neg a];exact⟨hp,λq c=>by cases c;exact Yl (by simpa using h) a,b⟩
theorem Xy(l:List Ta)(x:Ta):(V7 l x).length=l.length+if X8 l x.1=true then 0 else 1:=by
 have b:=ZE l x.1;unfold V7;by_cases h:X8 l x.1=true
 ·have:Vo l x.1<l.length:=by
   by_cases a:Vo l x.1<l.length
   ·exact a
   ·unfold X8 at h;rw[a9 (by omega)]at h;cases h
  rw[if_pos h,if_pos h];simp;omega
 ·rw[if_neg h,if_neg h];simp;omega
def ZL(most:Nat):List Ta->List Ta->Int->List Ta×(Int×Bool)
 |l,[],w=>(l,(w,true))
 |l,x::ls,w=>if X8 l x.1=true then ZL most (V7 l x) ls (w+((l.length:Int)-(Vo l x.1:Int)+1)-1)
  else if l.length=most then(l,(w+((l.length:Int)-(Vo l x.1:Int)+1),false))else ZL most (V7 l x) ls (w+((l.length:Int)-(Vo l x.1:Int)+1))
theorem mc{a b t:List Ta}{z x:Ta}:lset (LB (a++(b++z::t)) (a.length+1) (D0 (a++(b++z::t)) a.length (a.length+(a.length+b.length+1-a.length))) (a.length+b.length+1-(a.length+1))) a.length x=a++x::(b++t):=by
 obtain⟨y,r,c⟩:∃ y r,b++z::t=y::r:=by cases b<;>exact⟨_,_,rfl⟩
 have e1:(a++(b++z::t)).take (a.length+1)=a++[y]:=by rw[c,xc,gq (by omega),s8];rfl
 have e2:D0 (a++(b++z::t)) a.length (a.length+(a.length+b.length+1-a.length))=b++[z]:=by
  unfold D0;rw[List.drop_left,show a.length+(a.length+b.length+1-a.length)-a.length=b.length+1 by omega,xc,gq (by omega),s8];rfl
 have e3:(b++[z]).take (a.length+b.length+1-(a.length+1))=b:=by
  rw[show a.length+b.length+1-(a.length+1)=b.length by omega,xj]
 have e4:(a++(b++z::t)).drop (a.length+1+b.length)=t:=by
  rw[show a++(b++z::t)=(a++b++[z])++t by simp,List.drop_left' (by simp;omega)]
 unfold lset LB;rw[e2,e3,e1,e4,dc,List.set_append_right _ _ (eb _),Nat.sub_self];rfl
structure WrI (most:Nat) (l:List Ta) (R:List Ta):Prop where
 asc:Asc none l
 le:l.length<=most
 len:R.length=most+1
 row:R.take l.length=l
theorem WrI.sub{most:Nat}{l R:List Ta}(h:WrI most l R):D0 R 0 l.length=l:=by rw[ec];exact h.row
theorem nD{most:Nat}(hm:most<=16){ls l R:List Ta}(I:WrI most l R){k:Nat}{x:Ta}(F:ls[k]?=some x)(Z:ls.length<=1000){w:Int}(hw:0<=w/\w<=1000000) :
  (X8 l x.1=true /\ ∃ o,WrI most (V7 l x) o/\om most ls (w,((R,l.length),((k:Int),true)))=some (.nx (w+((l.length:Int)-(Vo l x.1:Int)+1)-1,((o,(V7 l x).length),(((k+1:Nat):Int),true))))) \/
  (¬ X8 l x.1=true/\l.length=most/\om most ls (w,((R,l.length),((k:Int),true)))=some (.dn (0,((w+((l.length:Int)-(Vo l x.1:Int)+1),((R,l.length),((k:Int),false))),())))) \/
  (¬ X8 l x.1=true/\l.length≠most /\ ∃ o,WrI most (V7 l x) o/\om most ls (w,((R,l.length),((k:Int),true)))=some (.nx (w+((l.length:Int)-(Vo l x.1:Int)+1),((o,(V7 l x).length),(((k+1:Nat):Int),true))))):=by
 have B:=(a8.1 F).1;have D:=ZE l x.1;have N:=I.le;have y:=I.len;have A:=I.row;obtain⟨t,s⟩:∃ t,R=l++t:=⟨R.drop l.length,by conv=>lhs;rw[<- li l.length R,A]⟩
 have q:t.length=most+1-l.length:=by
  have:=congrArg gs s;simp at this;omega
 obtain⟨z,g,rfl⟩:∃ z g,t=z::g:=by
  cases t with
  |nil=>simp at q;omega
  |cons z g=>exact⟨z,g,rfl⟩
 unfold om;simp only[Te,Tc,nH,qQ];rw[rl B,SX,Tb,S6 F,UC (by omega),I.sub,gb I.asc x.1 (by omega),Sp];dsimp only;have O:SI .i64 (l.length:Int) (Vo l x.1:Int)=(l.length:Int)-(Vo l x.1:Int):=Sd (by omega);have P:SE .i64 ((l.length:Int)-(Vo l x.1:Int)) 1=(l.length:Int)-(Vo l x.1:Int)+1:=Sb (by omega);have S:SE .i64 w ((l.length:Int)-(Vo l x.1:Int)+1)=w+((l.length:Int)-(Vo l x.1:Int)+1):=Sb (by omega);have U:SI .i64 (w+((l.length:Int)-(Vo l x.1:Int)+1)) 1=w+((l.length:Int)-(Vo l x.1:Int)+1)-1:=Sd (by omega);have W:SE .i64 (k:Int) 1=((k+1:Nat):Int):=Tf (by omega);have X:SE .i64 (l.length:Int) 1=((l.length+1:Nat):Int):=Tf (by omega);have Y:SE .i64 (Vo l x.1:Int) 1=((Vo l x.1+1:Nat):Int):=Tf (by omega);simp only[O,P,S,U,W,X,Y];by_cases hh:X8 l x.1=true
 ·refine .inl ⟨hh,?_⟩
  have n:Vo l x.1<l.length:=by
   by_cases L:Vo l x.1<l.length
   ·exact L
   ·unfold X8 at hh;rw[a9 (by omega)]at hh;cases hh
  have e:(V7 l x).length=l.length:=by rw[Xy,if_pos hh];rfl
  have j:V7 l x=l.set (Vo l x.1) x:=by
   unfold V7;rw[if_pos hh,r6,if_pos n]
  refine⟨lset R (Vo l x.1) x,⟨YU x I.asc (λ_ h=>by cases h),by omega,by unfold lset;simp;exact y,?_⟩,?_⟩
  ·rw[e,j,s];unfold lset;rw[List.set_append_left _ _ n,xh (by simp)]
  ·rw[hh,SX,Tb]
   have G:∀ {β:Type} (c:Unit->Option β),gd (KI (Vo l x.1) l.length) c=c ():=λc=>by
    unfold KI;rw[show xe (Vo l x.1) l.length=true by simpa using n];rfl
   have J:∀ {β:Type} (c:Unit->Option β),gd (KI (Vo l x.1) R.length) c=c ():=λc=>by
    unfold KI;rw[show xe (Vo l x.1) R.length=true by simp;omega];rfl
   rw[G,J,S6 (bl (by omega:Vo l x.1<R.length)),e]
 ·refine .inr ?_;have M:X8 l x.1=false:=by simpa using hh
  rw[M,R6,TE];by_cases p:l.length=most
  ·exact .inl ⟨by simp,p,by rw[if_pos (by omega)]⟩
  ·refine .inr ⟨by simp,p,?_⟩;rw[if_neg (by omega),Tb,Tb]
   have r:∀ {β:Type} {a b:Nat} (h:a<b) (c:Unit->Option β),gd (KI a b) c=c ():=λh c=>by
    unfold KI;rw[show xe _ _=true by simpa using h];rfl
   have E:∀ {β:Type} {a b:Nat} (h:a<b) (c d:Unit->Option β),br (KI a b) c d=c ():=λh c d=>by
    unfold KI;rw[show xe _ _=true by simpa using h];rfl
   have K:∀ {β:Type} {a:Nat} (c:Unit->Option β),gd (neq a a) c=c ():=λc=>by
    unfold neq;rw[show xm _ _=true by simp];rfl
   have e:(V7 l x).length=l.length+1:=by rw[Xy,if_neg hh]
   have j:V7 l x=l.take (Vo l x.1)++x::l.drop (Vo l x.1):=by unfold V7;rw[if_neg hh];rfl
   obtain⟨i,hi⟩:∃ i,i=Vo l x.1:=⟨_,rfl⟩;rw[<- hi]at j D ⊢;have C:(l.take i).length=i:=by simp;omega
   have u:R=l.take i++(l.drop i++z::g):=by rw[<- dc,li];exact s
   have f:lset (LB R (i+1) (D0 R i (BF i (PY (l.length+1) i))) (PY (l.length+1) (i+1))) i x=l.take i++x::(l.drop i++g):=by
    have:=mc (a:=l.take i) (b:=l.drop i) (t:=g) (z:=z) (x:=x);rw[<- u,C,show i+(l.drop i).length=l.length by simp;omega]at this;exact this
   have m:(LB R (i+1) (D0 R i (BF i (PY (l.length+1) i))) (PY (l.length+1) (i+1))).length=most+1:=by
    have:=congrArg gs f;unfold lset at this;rw[l6]at this;rw[this];simp only[fl,ci,xb,ll];simp at q;omega
   refine⟨l.take i++x::(l.drop i++g),⟨YU x I.asc (λ_ h=>by cases h),by omega,?_,?_⟩,?_⟩
   ·rw[<- f];unfold lset;rw[l6];exact m
   ·rw[e,j,show l.take i++x::(l.drop i++g)=(l.take i++x::l.drop i)++g by simp,xh (by simp;omega)]
   ·rw[UC (by omega),K,r (by omega),Tb,UC (by omega),UC (by omega),E (by omega),Tb,UC (by omega),UC (by omega),E (by omega),UC (by unfold BF PY;omega),UC (by unfold BF PY;omega),Tb,r (by omega),r (by rw[m];omega),S6 (bl (by rw[m];omega)),f,e]
theorem eA{most:Nat}(u:most<=16){ls l R:List Ta}(I:WrI most l R)(p:ls.length<=1000):∃ r,loop (om most ls) (0,((R,l.length),((0:Int),true)))=some r/\r.2.1.2.1.2<=r.2.1.2.1.1.length/\(D0 r.2.1.2.1.1 0 r.2.1.2.1.2,(r.2.1.1,r.2.1.2.2.2))=ZL most l ls 0:=by
 obtain⟨T,i⟩:∃ T,T=ZL most l ls 0:=⟨_,rfl⟩;rw[<- i];refine Va (l:=ls) (σ:=(List Ta×List Ta)×Int) (λk s=>(s.2,((s.1.1,s.1.2.length),((k:Int),true)))) (λm k s=>WrI most s.1.2 s.1.1/\ZL most s.1.2 m s.2=T/\0<=s.2/\s.2<=20*k) _ ((R,l),0) rfl (by omega) ⟨I,i.symm,by simp,by simp⟩ (λs h=> ?_) (λk x m s A y hi h=> ?_)
 ·obtain⟨⟨c,l'⟩,w⟩:=s;obtain⟨b,a,_⟩:=h;refine⟨(0,((w,((c,l'.length),((ls.length:Int),true))),())),?_,?_,?_⟩
  ·unfold om;simp only[Te,Tc];rw[re,R6]
  ·have n:c.length=most+1:=b.len;have z:l'.length<=most:=b.le;show l'.length<=c.length;omega
  ·simp only at a ⊢;have o:D0 c 0 l'.length=l':=b.sub;rw[o,<- a];rfl
 ·obtain⟨⟨c,l'⟩,w⟩:=s;obtain⟨b,a,g,j⟩:=h;simp only at a g j b ⊢;have q:=ZE l' x.1;have t:=b.le;unfold ZL at a;rcases nD u b y p (w:=w) ⟨g,by omega⟩with⟨d,R2,I2,e⟩|⟨d,f,e⟩|⟨d,f,R2,I2,e⟩
  ·rw[if_pos d]at a;exact .inl ⟨((R2,V7 l' x),_),e,I2,a,by simp only;omega,by simp only;omega⟩
  ·rw[if_neg d,if_pos f]at a;refine .inr ⟨_,e,?_,?_⟩
   ·have n:c.length=most+1:=b.len;show l'.length<=c.length;omega
   ·simp only;rw[b.sub,<- a]
  ·rw[if_neg d,if_neg f]at a;exact .inl ⟨((R2,V7 l' x),_),e,I2,a,by simp only;omega,by simp only;omega⟩
theorem mU{most:Nat}(q:1<=most)(m:most<=16){es ls:List Ta}(n:Asc none es)(o:es.length<=most)(k:ls.length<=1000):VK ((((most:Nat):Int),es),ls)=some (ZL most es ls 0):=by
 rw[mT];simp only[Te,Tc,nH];rw[Tf (by omega),Tb,UC (by omega),UC (by omega),UC (by omega),UC (by omega)];have a:(Rb (most+1) ((([],([],(false,0))):Ta))).length=most+1:=by unfold Rb;simp
 by_cases i:es=[]
 ·subst i;have b:∀ {β:Type} (c d:Unit->Option β),br (neq ([]:List Ta).length 0) c d=c ():=λc d=>rfl;rw[b];obtain⟨r,f,g,h⟩:=eA m (ls:=ls) (l:=[]) (R:=Rb (most+1) ((([],([],(false,0))):Ta))) ⟨trivial,by simp,a,rfl⟩ k;rw[<- h];refine Tv f ?_;rw[UC g]
 ·have s:=eg.2 i
  have b:∀ {β:Type} (c d:Unit->Option β),br (neq es.length 0) c d=d ():=λc d=>by
   unfold neq
   rw[show xm es.length 0=false by
    cases p:xm es.length 0 with
    |false=>rfl
    |true=>have:=Nat.eq_of_beq_eq_true p;omega];rfl
  have e:∀ {β:Type} (c d:Unit->Option β),br (CF es.length (Rb (most+1) ((([],([],(false,0))):Ta))).length) c d=c ():=λc d=>by
   rw[a];unfold CF;rw[show Nat.ble es.length (most+1)=true by simp;omega];rfl
  rw[b,e]
  have j:LB (Rb (most+1) ((([],([],(false,0))):Ta))) 0 es es.length=es++(Rb (most+1) ((([],([],(false,0))):Ta))).drop es.length:=by
   unfold LB;simp
  obtain⟨r,f,g,h⟩:=eA m (ls:=ls) (l:=es) (R:=LB (Rb (most+1) ((([],([],(false,0))):Ta))) 0 es es.length) ⟨n,o,by rw[j,fl,xb,a];omega,by rw[j,xj]⟩ k;rw[<- h];refine Tv f ?_;rw[UC g]
end
end Go.Proofs.YtanppfoapnaeaaaGreat.Pl
