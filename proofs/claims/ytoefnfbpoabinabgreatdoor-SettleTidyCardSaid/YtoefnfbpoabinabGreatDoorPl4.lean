/- Functions of the program and of the specification as plain functions, and laws about them. No condition. -/
import Derived.Test.YtoefnfbpoabinabGreatDoorPl3
import Derived.KernelRfl
set_option linter.all false
open List renaming any_cons->vt, cons_append->x8, foldl_cons->iP, getElem?_eq_getElem->eo, getElem?_eq_some_iff->a8, length_cons->ci, length_drop->ya, length_nil->co, map_append->yn, map_cons->hI, mem_cons->ml, mem_filter->yo, mem_map->i0, nodup_cons->li, take_add_one->gs
open Nat renaming add_assoc->ns, le_refl->eb, zero_add->hM
open Option renaming filter->sk, none_or->tb
open Option renaming some->zo, none->zn
open Bool renaming true->zt, false->zf
namespace Go.Proofs.YtoefnfbpoabinabGreatDoor.Pl
section
open Go Sv
theorem uI{α β γ:Type}{f:α->Option (LR α β)}{K:β->Option γ}{R:Option γ}(Inv:α->Prop)(Q:β->Prop)(m:α->Nat){s:α}(hs:Inv s)(b:m s<18446744073709551616)
  (step:∀ s,Inv s->(∃ s',f s=zo (.nx s')/\Inv s'/\m s'<m s)\/(∃ x,f s=zo (.dn x)/\Q x)) (a:∀ x,Q x->K x=R):bd (loop f s) K=R:=by
 obtain⟨x,e,q⟩:=TP Inv Q m hs b step;rw[e];exact a x q
theorem uJ{β:Type}(n:Nat)(x y:Unit->Option β):br (neq n 0) x y=if n=0 then x ()else y ():=by
 rw[UH]
theorem AAj{s0 s:U8}(g:Gd s0 s):Wv s=4/\(Wr s).2=4\/Wv s≠4/\Wv s≠0/\(Wr s).2≠4/\((Wr s).2=Wv s\/(Wr s).2=0/\(YE s (Wr s).1).2.2=Wv s)\/Wv s=0/\(Wr s).2=0/\(YE s (Wr s).1).2.2=0:=by
 by_cases a:Wv s=4
 ·exact .inl ⟨a,(ib g a).1⟩
 ·by_cases b:Wv s=0
  ·have:=iZ g b;omega
  ·refine .inr (.inl ⟨a,b,?_⟩);unfold Wv at a b ⊢;omega
theorem AEE{u:jP}{x:Int×Bool}(h:0<=u.1/\u.1<=1000000):(yV u x).1=u.1+1:=by
 show TI .i64 u.1 1=_;exact To (by omega)
def At(s0:U8)(g:Int)(T:U8×((List Int×jP)×Int))(k:Nat)(s:U8)(l:List Int)(u:jP):Prop:=Gd s0 s/\0<=u.1/\u.1+k=g/\g<=1000000/\(l.length:Int)=u.1/\T=((WX k s).1,((l++(WX k s).2.1.map (·.1),uu u (WX k s).2.1),(WX k s).2.2))
theorem At.step{s0 s:U8}{g:Int}{T:U8×((List Int×jP)×Int)}{k:Nat}{l:List Int}{u:jP}(a:At s0 g T (k+1) s l u)(e:Wv s=0):At s0 g T k (Z6 s) (l++[(fH s).1]) (yV u (fH s)):=by
 obtain⟨c,h,i,d,j,f⟩:=a;obtain⟨_,_,_,_,_,_,_,b⟩:=YD c e;have m:=AEE (x:=fH s) (show 0<=u.1/\u.1<=1000000 by omega);refine⟨b,by omega,by omega,d,by simp;omega,?_⟩;rw[f];simp only[WX,e,ne_eq,not_true_eq_false,if_false,hI,List.append_assoc,x8,List.nil_append];rfl
theorem At.none{s0 s:U8}{g:Int}{T:U8×((List Int×jP)×Int)}{k:Nat}{l:List Int}{u:jP}(a:At s0 g T k s l u)(e:Wv s=4):T=(s,((l,u),0)):=by
 rw[a.2.2.2.2.2];cases k<;>simp[WX,e,uu]
theorem At.fail{s0 s:U8}{g:Int}{T:U8×((List Int×jP)×Int)}{k:Nat}{l:List Int}{u:jP}(a:At s0 g T (k+1) s l u)(c:Wv s≠4)(b:Wv s≠0):T=(s,((l,u),Wv s)):=by
 rw[a.2.2.2.2.2];simp[WX,c,b,uu]
theorem At.last{s0 s:U8}{g:Int}{T:U8×((List Int×jP)×Int)}{l:List Int}{u:jP}(a:At s0 g T 0 s l u):T=(s,((l,u),0)):=by
 rw[a.2.2.2.2.2];simp[WX,uu]
theorem nY{β:Type}{a b:Nat}(h:a<b)(k:Unit->Option β):gd (I8 a b) k=k ():=by
 have:I8 a b=zt:=by unfold I8;simpa using h
 rw[this];rfl
end
section
open Go Sv
def flS(s:U8):Int×(List (List VU)×(List Job×Int)):=(s.1.1,(s.1.2,s.2))
end
section
open Go Sv
theorem ze{s t:U8}{n:Nat}{j:Job}{b:Bool}(v:VSt s)(F:StepF s n j t b){i:Nat}(e:i≠n)(d:(VD s.1.2 i).length=2):VD t.1.2 i=VD s.1.2 i/\V5 t.2.1 (i:Int)=V5 s.2.1 (i:Int):=by
 by_cases c:0<VW s.1 j
 ·obtain⟨_,e1,_,e2⟩:=F.read c
  simp_all
 ·obtain⟨_,e1,_,e2,e3,e4⟩:=F.inst (by omega)
  have g:¬ (WC j≠[]/\i=an s j):=λ⟨a,hi⟩=>by
   simp_all
  have a:VD t.1.2 i=VD s.1.2 i:=by simp_all
  refine⟨a,?_⟩;obtain⟨j',f⟩:=v.hasJob d
  grind
theorem zg{s0 s:U8}(g:Gd s0 s)(e:Wv s=0){i:Nat}(b:(VD s.1.2 i).length=2)(f:fH s≠((i:Int),zt)):(VD (Z6 s).1.2 i).length=2:=by
 obtain⟨n,j,d,k,h,hc,F,_⟩:=YD g e;by_cases a:i=n
 ·subst a;by_cases c:0<VW s.1 j
  ·rw[(F.read c).2.1];exact b
  ·exact absurd (Prod.ext d (F.inst (by omega)).1) f
 ·rw[(ze g.1 F a b).1];exact b
def iY(a:Int):Nat->Nat->U8->Int×Int
 |0,_,_=>(0,0)
 |k+1,n,s=>if Wv s≠0 then(0,Wv s)else if fH s=(a,zt)then(((n+1:Nat):Int),0)else iY a k (n+1) (Z6 s)
theorem dH{s:U8}(v:VSt s):al 2000 s<=48024:=by
 have a:=oL 2000 v;have b:=nU v.lev;omega
def NAt(s0:U8)(a:Int)(T:Int×Int)(k n:Nat)(s:U8):Prop:=Gd s0 s/\al 2000 s<k/\n+k<=60000/\T=iY a k n s /\ ∃ i:Nat,a=(i:Int)/\(VD s.1.2 i).length=2
theorem NAt.fail{s0 s:U8}{d:Int}{T:Int×Int}{k n:Nat}(a:NAt s0 d T k n s)(e:Wv s≠0):T=(0,Wv s):=by
 obtain⟨_,f,_,c,_⟩:=a;obtain⟨b,rfl⟩:∃ b,k=b+1:=⟨k-1,by omega⟩;rw[c];simp[iY,e]
theorem NAt.hit{s0 s:U8}{c:Int}{T:Int×Int}{k n:Nat}(a:NAt s0 c T k n s)(e:Wv s=0)(h:fH s=(c,zt)):T=(((n+1:Nat):Int),0):=by
 obtain⟨_,f,_,d,_⟩:=a;obtain⟨b,rfl⟩:∃ b,k=b+1:=⟨k-1,by omega⟩;rw[d];simp[iY,e,h]
theorem NAt.next{s0 s:U8}{d:Int}{T:Int×Int}{k n:Nat}(a:NAt s0 d T k n s)(e:Wv s=0)(h:fH s≠(d,zt)):∃ b,k=b+1/\NAt s0 d T b (n+1) (Z6 s)/\al 2000 (Z6 s)<al 2000 s:=by
 obtain⟨c,m,o,g,i,j,l⟩:=a;obtain⟨b,rfl⟩:∃ b,k=b+1:=⟨k-1,by omega⟩;obtain⟨_,_,_,_,_,_,_,f⟩:=YD c e;have p:=(de c c.2.2 e).1;refine⟨b,rfl,⟨f,by omega,by omega,?_,i,j,zg c e l (by simp_all)⟩,by omega⟩;rw[g];simp[iY,e,h]
end
section
open Go Sv
set_option maxRecDepth 1000000
end
section
open Go Sv
end
section
open Go Sv
set_option maxRecDepth 100000
end
section
open Go Sv
end
section
open Go Sv
set_option maxRecDepth 100000
def lst(a:kh):List Int:=[a.1,a.2.1,a.2.2.1,a.2.2.2.1,a.2.2.2.2.1,a.2.2.2.2.2.1,a.2.2.2.2.2.2.1,a.2.2.2.2.2.2.2.1,a.2.2.2.2.2.2.2.2.1,a.2.2.2.2.2.2.2.2.2.1,a.2.2.2.2.2.2.2.2.2.2.1,a.2.2.2.2.2.2.2.2.2.2.2]
end
section
open Go Sv
set_option maxRecDepth 100000
end
section
open Go Sv
@[reducible] def tE:Ty:=.pair .str (.pair .str (.pair .bool (.int .i64)))
@[reducible] def tJb:Ty:=.pair (.pair (.int .i64) (.sl zt (.sl zt (.pair (.int .i64) (.sl zt tE))))) (.pair (.sl zt (.pair (.int .i64) (.pair (.pair (.sl zf (.sl zt tE)) (.pair (.sl zf (.int .i64)) (.pair (.sl zt (.pair .str .bool)) (.pair (.sl zf (.int .i64)) (.int .i64))))) (.pair (.pair .bool (.pair .str .bool)) (.pair (.sl zt tE) (.int .i64)))))) (.int .i64))
theorem za{s:U8}(h:Rx tJb s):∀ rs∈s.1.2,∀ r∈rs,r.2.length<=9223372036854775807:=by
 obtain⟨⟨_,d,c⟩,_⟩:=h;exact λrs b r a=>((c rs b).2 r a).2.1
end
section
open Go Sv
set_option maxRecDepth 100000
theorem mU:Ym=Vu:=rfl
theorem ff(l:List U7)(h:l.length<=1000000):Ym (l,l)=zo zt:=by
 grind [mU,X6]
end
section
open Go Sv
end
section
open Go Sv
theorem lS{f:Nat->Nat}{n:Nat}:∀ {m:Nat},n<m->f n<=WO f m
 |m+1,h=>by
  show f n<=WO f m+f m;by_cases e:n=m
  ·grind
  ·have:=lS (f:=f) (n:=n) (m:=m) (by omega);omega
theorem oN{s:U8}{N:Nat}(v:VSt s)(p:VM s.1.2.flatten<=N)(h:al N s=0):s.2.1=[]:=by
 have hd:VF 0 s.1.2=[]:=by
  cases e:VF 0 s.1.2 with
  |nil=>rfl
  |cons d l=>
   have m:d∈VF 0 s.1.2:=by rw[e];simp
   obtain⟨j,n,c,g,i,b,q⟩:=v.atDue m;have a:n<12:=by have:=v.lev.len;omega
   obtain⟨t,u,o,r,_⟩:=b.rd;have hc:=ko o
   have k:gP N s n<=al N s:=by
    unfold al;exact lS (f:=gP N s) a
   grind [gP,oR,jQ,ci,co]
 have:=v.due
 simp_all
theorem uc{s:U8}(v:VSt s)(h:s.2.1=[]):Wv s=4:=by
 have a:(VA s).2=0:=VH.2 v;have hd:VF 0 s.1.2=[]:=by rw[<- v.due,h];rfl
 simp_all[Wr,Wv,zx,zy,decide]
theorem iy{s:U8}(v:VSt s)(h:s.2.1=[]):∀ n,WX n s=(s,([],0))
 |0=>rfl
 |n+1=>by unfold WX;rw[zy (uc v h)]
theorem mS{s0 s:U8}{N R:Nat}(g:Gd s0 s)(a:VM s.1.2.flatten<=N)(d:al N s<=R)(h:(WX R s).2.2=0):(WX R s).1.2.1=[]:=by
 obtain⟨f,i,b,c,j⟩:=bK (n:=R) g a;by_cases e:(WX R s).2.1.length<R
 ·grind
 ·exact oN b.1 c (by omega)
end
section
open Go Sv
def nZ(b:List U7)(e:U7):Bool:=b.any λy=>seq y.1 e.1
theorem gI{b:List U7}{e:U7}:nZ b e=zt <-> ∃ y∈b,y.1=e.1:=by
 simp_all[nZ,seq,List.any_eq_true]
def ej(f:VV):List U7:=f.1.2++(Le f.2.1).filter λe=> !nZ f.1.2 e
def VK(f:VV):List U7:=((ej f).foldl cv []).filter VO
theorem lu(L:VB)(k:YF):Ve (Le L) k=(WJ (VT L.2) k).filter VO:=by
 have a:=λk=>cN k (VT L.2) [] trivial;unfold Le;rw[Xy VO k (a []).1,(a k).2];rfl
theorem np(L:VB):Asc zn (Le L):=Yz VO (cN [] (VT L.2) [] trivial).1
theorem Zb(f:VV):Asc zn (VK f):=Yz VO (cM [] (ej f) [] trivial).1
theorem lw(f:VV)(k:YF):Ve (ej f) k=(Ve f.1.2 k).or (Ve (Le f.2.1) k):=by
 unfold ej;rw[aF];cases h:Ve f.1.2 k with
 |some e=>rfl
 |none=>
  rw[tb,tb,Xy _ k (np _)];cases a:Ve (Le f.2.1) k with
  |none=>rfl
  |some e=>
   have g:=(eC a).1
   have:nZ f.1.2 e=zf:=by
    cases b:nZ f.1.2 e with
    |false=>rfl
    |true=>
     obtain⟨y,c,d⟩:=gI.1 b
     grind [Ve]
   simp_all
theorem Zi(f:VV)(k:YF):Ve (VK f) k=((Ve f.1.2 k).or (WJ (VT f.2.1.2) k)).filter VO:=by
 unfold VK;rw[Xy VO k (cM k (ej f) [] trivial).1,(cM k (ej f) [] trivial).2,lw,lu];show(((zn:Option U7)).or _).filter VO=_
 simp_all
theorem nr{s:U8}(v:VSt s){l:List U7}(c:(VD s.1.2 0).length<2)(d:kR [] (Vn s.1.1 0) (s.2.2,l)=0)(k:YF):WJ (VT (cO s l).2) k=(Ve l k).or (WJ (VT s.1.2) k):=by
 have a:=(dX v c d).len;have b:=v.lev.len;rw[aK k _ (11+1) (by omega),aK k s.1.2 (11+1) (by omega)];unfold cK
 grind [Zj,WJ,VD,cO,dY]
end
section
open Go Sv
end
section
open Go Sv
structure Srt (R T:List U7):Prop where
 len:T.length=R.length
 asc:Asc zn T
 mem:∀ y,y∈T<->y∈R
def later(o:List U7)(y:U7):Prop:=∀ z,o.getLast?=zo z->TZ z.1 y.1=zt
structure Best (R o:List U7) (c:Nat) (y:U7):Prop where
 at':R[c]?=zo y
 lt:later o y
def BInv(R o:List U7)(i:Nat)(b:Int):Prop:=
 (b = -1 /\ ∀ j<i,∀ y,R[j]?=zo y -> ¬ later o y) \/ ∃ (c:Nat) (y:U7),b=(c:Int)/\c<i/\R[c]?=zo y/\later o y /\ ∀ j<i,∀ z,R[j]?=zo z->later o z->TZ z.1 y.1=zf
theorem BInv.skip{R o:List U7}{i:Nat}{b:Int}{x:U7}(h:BInv R o i b)(q:R[i]?=zo x)(p:¬ later o x):BInv R o (i+1) b:=by
 have key:∀ j<i+1,∀ z,R[j]?=zo z->later o z->j<i:=λj d z f a=>by
  grind
 rcases h with⟨e,g⟩|⟨c,y,e,g,l,m,n⟩
 ·exact .inl ⟨e,λj d y k a=>g j (key j d y k a) y k a⟩
 ·exact .inr ⟨c,y,e,by omega,l,m,λj d z f a=>n j (key j d z f a) z f a⟩
theorem BInv.first{R o:List U7}{i:Nat}{x:U7}(h:BInv R o i (-1))(a:R[i]?=zo x)(d:later o x):BInv R o (i+1) (i:Int):=by
 rcases h with⟨_,k⟩|⟨c,y,g,_⟩
 ·refine .inr ⟨i,x,rfl,by omega,a,d,λj l z b f=> ?_⟩;by_cases e:j=i
  ·subst e;rw[a]at b;cases b;exact X4 _
  grind
 ·omega
theorem BInv.stay{R o:List U7}{i c:Nat}{x y:U7}(h:BInv R o i (c:Int))(n:R[i]?=zo x)(b:R[c]?=zo y)(hs:TZ x.1 y.1=zf):BInv R o (i+1) (c:Int):=by
 rcases h with⟨e,_⟩|⟨d,q,e,k,a,f,l⟩
 ·omega
 ·obtain rfl:c=d:=by omega
  rw[b]at a;cases a;refine .inr ⟨c,y,rfl,by omega,b,f,λj m z p g=> ?_⟩
  grind
end
section
open Go Sv
end
section
open Go Sv
theorem jh{L:VB}(v:VLev L):YW L=zo (VT L.2,0):=by
 obtain⟨e,b⟩:=v.small;have g:=v.len;unfold YW;simp only[VE,VC];rw[Zk _ e b,YC v,UG,Uq,zy rfl]
 rw[WL (l:=L.2) (σ:=List VU) (s:=((0:Int),([]:List VU))) (λi m=>((i:Int),m)) (λls i m=>(∀ rs∈ls,rs.length<=2)/\m.length<=2*i) (λls _ m=>(0,(((L.2.length:Int),m++VT ls),()))) [] rfl (by omega) ⟨v.two,by simp⟩ (λm _=>by
  simp_all[re,TA,VT]) (λi rs ls m hd d hi h=>by
   refine⟨m++rs.reverse,?_,⟨λr b=>h.1 r (by simp[b]),by grind⟩,by simp[VT]⟩;have f:=h.1 rs (by simp);have j:m.length<=24:=by omega
   simp only;rw[rl hi,Tj,U9,Ua d]
   rw[lF (r:=(0,(((-1:Int),m++rs.reverse),()))) (λk n=>(k,m++(rs.drop n).reverse)) rs.length (by simp[TM,IntKind.wrap,IntKind.bits,IntKind.signed];omega) (by omega) (λk c=>by
    obtain⟨x,a⟩:∃ x,rs[k]?=zo x:=⟨rs[k],eo c⟩;simp only;rw[Ul,zy (by omega),U9,Ua a,Vo (by simp[A0];omega)];have e1:rs.drop k=x::rs.drop (k+1):=by rw[List.drop_eq_getElem_cons c,(a8.1 a).2]
    simp[e1,TM,If,IntKind.wrap,IntKind.bits,IntKind.signed];omega) (by
    simp only
    rw[Ul,zx (by omega)];simp)]
   rw[UG,VJ d (by omega)])]
 simp[UG]
end
section
open Go Sv
def X5(a:List U7)(x:U7):List U7:=if nZ a x then a else a++[x]
def mK(a:List U7):List VN:=a.map λx=>(x.1,zt)
theorem jB(a b:YF):seq a b=seq b a:=by rw[ad,ad];simp[eq_comm]
theorem oA(x:U7):∀ c:List U7,TS (Mx (λa=>λb=>seq a b) (mK c) x.1) zf=nZ c x
 |[]=>rfl
 |y::c=>by
  have d:=oA x c;simp only[mK,hI,Mx,nZ,vt]at d ⊢;rw[jB y.1 x.1];cases seq x.1 y.1 with
  |true=>rfl
  |false=>simpa using d
theorem oC(x:U7):∀ c:List U7,nZ c x=zf->Iq (λa=>λb=>seq a b) (mK c) x.1 zt=mK (c++[x])
 |[],_=>rfl
 |y::c,h=>by
  simp only[nZ,vt,Bool.or_eq_false_iff]at h;have d:=oC x c h.2;simp only[mK,hI,Iq,x8]at d ⊢;rw[jB x.1 y.1,h.1,zj,d]
theorem gu(a:List U7)(x:U7):(X5 a x).length<=a.length+1:=by unfold X5;split<;>simp
theorem aC:∀ (l a:List U7),(l.foldl X5 a).length<=a.length+l.length
 |[],_=>by simp
 |x::l,a=>by
  have b:=aC l (X5 a x);have c:=gu a x;simp only[iP,ci];omega
theorem lV(c:List U7)(x:U7)(i:Int)(d:c.length<=1000000) :
  (br (IG (TS (Mx (λa=>λb=>seq a b) (mK c) x.1) zf)) (λ_=>gd (B2 (A0 (AQ c) (AQ [x])) 1048576) λ_=>zo (LR.nx (β:=Nat×(Int×(List VN×List U7))×Unit) ((i,(Iq (λa=>λb=>seq a b) (mK c) x.1 zt,If c [x]))))) λ_=>zo (.nx (i,(mK c,c))))
   = zo (.nx (i,(mK (X5 c x),X5 c x))):=by
 rw[oA,Vp];cases h:nZ c x with
 |true=>simp[X5,h,Tj]
 |false=>
  rw[TA,Vo (by simp[A0,AQ];omega),oC x c h];simp[X5,h,If]
theorem fO(l c:List U7)(m:c.length+l.length<=1000000){f:Int×(List VN×List U7)->Option (LR (Int×(List VN×List U7)) (Nat×(Int×(List VN×List U7))×Unit))}
  (g:∀ s1,f s1=br (UV s1.1 (l.length:Int)) (λ_=>S1 s1.1 λk=>ix l k λe=>br (IG (TS (Mx (λa=>λb=>seq a b) s1.2.1 e.1) zf)) (λ_=>gd (B2 (A0 (AQ s1.2.2) (AQ [e])) 1048576) λ_=>zo (.nx ((TI .i64 s1.1 1,(Iq (λa=>λb=>seq a b) s1.2.1 e.1 zt,If s1.2.2 [e]))))) λ_=>zo (.nx (TI .i64 s1.1 1,s1.2))) λ_=>zo (.dn ((0,(s1,()))))) :
  loop f ((0:Int),(mK c,c))=zo (0,(((l.length:Int),(mK (l.foldl X5 c),l.foldl X5 c)),())):=by
 exact WL (f:=f) (l:=l) (σ:=List U7) (λi d=>((i:Int),(mK d,d))) (λls i d=>d.length<=c.length+i) (λls _ d=>(0,(((l.length:Int),(mK (ls.foldl X5 d),ls.foldl X5 d)),()))) c rfl (by omega) (by omega) (λd _=>by
  rw[g];simp[re,TA]) (λi x ls d hd j hi h=>by
   have:=gu d x;refine⟨X5 d x,?_,by omega,rfl⟩;rw[g];simp only
   rw[rl hi,Tj,U9,Ua j,lV d x _ (by omega),VJ j (by omega)])
def ap(f:VV):List U7:=(VT f.2.1.2).foldl (λa r=>r.2.foldl X5 a) (f.1.2.foldl X5 [])
theorem eu:∀ (rs:List VU) (a:List U7),(rs.foldl (λa r=>r.2.foldl X5 a) a).length<=a.length+VM rs
 |[],_=>by simp
 |r::rs,a=>by
  have b:=eu rs (r.2.foldl X5 a);have c:=aC r.2 a;simp only[iP,Wl];omega
theorem oG(rs:List VU)(c:List U7)(p:c.length+VM rs<=1000000)(t:rs.length<=1000000){f:Int×(List VN×List U7)->Option (LR (Int×(List VN×List U7)) (Nat×(Int×(List VN×List U7))×Unit))}
  (n:∀ e:Int×(List VN×List U7),f e=br (UV e.1 (rs.length:Int)) (λ_=>S1 e.1 λk=>ix rs k λg=>bd (loop (λ(s1:Int×(List VN×List U7))=>br (UV s1.1 (g.2.length:Int)) (λ_=>S1 s1.1 λq=>ix g.2 q λj=>br (IG (TS (Mx (λa=>λb=>seq a b) s1.2.1 j.1) zf)) (λ_=>gd (B2 (A0 (AQ s1.2.2) (AQ [j])) 1048576) λ_=>zo (.nx ((TI .i64 s1.1 1,(Iq (λa=>λb=>seq a b) s1.2.1 j.1 zt,If s1.2.2 [j]))))) λ_=>zo (.nx (TI .i64 s1.1 1,s1.2))) λ_=>zo (.dn ((0,(s1,()))))) (0,e.2)) λm=>zo (.nx (TI .i64 e.1 1,m.2.1.2))) λ_=>zo (.dn ((0,(e,()))))) :
  loop f ((0:Int),(mK c,c))=zo (0,(((rs.length:Int),(mK (rs.foldl (λc r=>r.2.foldl X5 c) c),rs.foldl (λc r=>r.2.foldl X5 c) c)),())):=by
 exact WL (f:=f) (l:=rs) (σ:=List U7) (λi d=>((i:Int),(mK d,d))) (λls i d=>d.length+VM ls<=1000000) (λls _ d=>(0,(((rs.length:Int),(mK (ls.foldl (λc r=>r.2.foldl X5 c) d),ls.foldl (λc r=>r.2.foldl X5 c) d)),()))) c rfl (by omega) p (λd _=>by
  rw[n];simp[re,TA]) (λi x ls d hd o hi h=>by
   have s:=aC x.2 d;rw[Wl]at h;refine⟨x.2.foldl X5 d,?_,by omega,rfl⟩;rw[n];simp only
   rw[rl hi,Tj,U9,Ua o,fO x.2 d (by omega) (λ_=>rfl),UG,VJ o (by omega)])
theorem d8(k:YF):∀ (l a:List U7),Ve (l.foldl X5 a) k=(Ve a k).or (Ve l k)
 |[],a=>by
  show Ve a k=(Ve a k).or zn;simp
 |x::l,a=>by
  rw[iP,d8 k l,Vi];unfold X5;split
  ·rename_i h;obtain⟨y,b,c⟩:=gI.1 h;split
   ·rename_i e
    have:∃ z,Ve a k=zo z:=by
     cases d:Ve a k with
     |some z=>exact⟨z,rfl⟩
     |none=>exact absurd (c.trans e) (by have:=List.find?_eq_none.1 d y b;simpa using this)
    obtain⟨z,f⟩:=this;simp[f]
   ·rfl
  ·rw[aF,ZL];cases Ve a k<;>split<;>simp
theorem bq:∀ (l c:List U7),(c.map (·.1)).Nodup->((l.foldl X5 c).map (·.1)).Nodup
 |[],_,h=>h
 |x::l,c,h=>by
  rw[iP];refine bq l _ ?_;unfold X5;split
  ·exact h
  ·rename_i j;rw[yn,List.nodup_append];refine⟨h,by simp,λa i b d e=>j ?_⟩;obtain⟨y,f,g⟩:=i0.1 i;simp only[hI,List.map_nil,List.mem_singleton]at d;exact gI.2 ⟨y,f,by rw[g,e,d]⟩
theorem d9:∀ (l a:List U7) (x:U7),x∈l.foldl X5 a->x∈a\/x∈l
 |[],_,_,h=>.inl h
 |y::l,a,x,h=>by
  rw[iP]at h;rcases d9 l _ x h with h|h
  ·unfold X5 at h;split at h
   ·exact .inl h
   ·rcases List.mem_append.1 h with h|h
    ·exact .inl h
    ·exact .inr (by simp_all)
  ·exact .inr (by simp[h])
theorem i4(k:YF):∀ (rs:List VU) (a:List U7),Ve (rs.foldl (λa r=>r.2.foldl X5 a) a) k=(Ve a k).or (WJ rs k)
 |[],a=>by
  show Ve a k=(Ve a k).or zn;simp
 |r::rs,a=>by
  rw[iP,i4 k rs,d8,Option.or_assoc];rfl
theorem ew:∀ (rs:List VU) (a:List U7),(a.map (·.1)).Nodup->((rs.foldl (λa r=>r.2.foldl X5 a) a).map (·.1)).Nodup
 |[],_,h=>h
 |r::rs,a,h=>ew rs _ (bq r.2 a h)
theorem i5:∀ (rs:List VU) (a:List U7) (x:U7),x∈rs.foldl (λa r=>r.2.foldl X5 a) a->x∈a \/ ∃ r∈rs,x∈r.2
 |[],_,_,h=>.inl h
 |r::rs,a,x,h=>by
  rcases i5 rs _ x h with h|⟨q,b,c⟩
  ·rcases d9 r.2 a x h with h|h
   ·exact .inl h
   ·exact .inr ⟨r,by simp,h⟩
  ·exact .inr ⟨q,by simp[b],c⟩
theorem ub(f:VV)(k:YF):Ve (ap f) k=(Ve f.1.2 k).or (WJ (VT f.2.1.2) k):=by
 unfold ap;rw[i4,d8];rfl
theorem dG(f:VV):((ap f).map (·.1)).Nodup:=ew _ _ (bq _ _ (by simp))
end
section
open Go Sv
theorem iD(a:U7):∀ {l:List U7} {p:Option YF},Asc p l->(∀ q,p=zo q->TZ q a.1=zt)->(∀ x∈l,x.1≠a.1)->Asc p (Q7 a l)
 |[],_,_,c,_=>⟨c,trivial⟩
 |b::l,p,⟨g,d⟩,c,h2=>by
  unfold Q7;cases f:Op.bytesLess a.1 b.1 with
  |true=>exact⟨c,λq e=>by cases e;exact f,d⟩
  |false=>exact⟨g,iD a d (λq e=>by cases e;exact aj f λe=>h2 b (by simp) e.symm) λx h=>h2 x (by simp[h])⟩
theorem iE(a:U7)(k:YF):∀ {l:List U7},(∀ x∈l,x.1≠a.1)->Ve (Q7 a l) k=if a.1=k then zo a else Ve l k
 |[],_=>ZL a k
 |b::l,h2=>by
  unfold Q7;cases d:Op.bytesLess a.1 b.1 with
  |true=>exact Vi a (b::l) k
  |false=>
   show Ve (b::Q7 a l) k=_;rw[Vi,iE a k λx c=>h2 x (by simp[c]),Vi];have:=h2 b (by simp);split<;>split<;>simp_all
theorem d7(a x:U7):∀ {l:List U7},x∈Q7 a l<->x=a\/x∈l
 |[]=>by simp[Q7]
 |b::l=>by
  unfold Q7;cases Op.bytesLess a.1 b.1 with
  |true=>simp
  |false=>
   show x∈b::Q7 a l<->_;rw[ml,d7 a x,ml];exact or_left_comm
theorem aR(x:U7):∀ {l:List U7},x∈J5 l<->x∈l
 |[]=>Iff.rfl
 |a::l=>by rw[J5,d7,aR x,ml]
theorem fN:∀ {l:List U7},(l.map (·.1)).Nodup->Asc zn (J5 l) /\ ∀ k,Ve (J5 l) k=Ve l k
 |[],_=>⟨trivial,λ_=>rfl⟩
 |a::l,h=>by
  rw[hI,li]at h;obtain⟨c,d⟩:=fN h.2;have b:∀ x∈J5 l,x.1≠a.1:=λx f e=>h.1 (i0.2 ⟨x,(aR x).1 f,e⟩);exact⟨iD a c (λq e=>by cases e) b,λk=>by rw[J5,iE a k b,d,Vi]⟩
theorem w8{x:U7}(h:kE x=0):Ur x=zt:=by
 unfold kE at h;unfold Ur
 repeat' split at h
 all_goals first|omega|skip
 rename_i d a e
 have b:(x.2.2.1 && !x.2.1.isEmpty)=zf:=by
  cases hd:x.2.2.1 with
  |false=>rfl
  |true=>cases c:x.2.1 with
   |nil=>rfl
   |cons=>exact absurd ⟨hd,by simp[c]⟩ a
 rw[b];simp;omega
theorem ks:∀ {l:List U7},(l.map (·.1)).Nodup->SB l=zt
 |[],_=>rfl
 |a::l,h=>by
  rw[hI,li]at h;simp only[SB,ks h.2,Bool.and_true,Bool.not_eq_true'];rw[List.any_eq_false];intro b c e;exact h.1 (i0.2 ⟨b,c,by simpa using e⟩)
theorem nR{l:List U7}(a:∀ x∈l,kE x=0)(b:(l.map (·.1)).Nodup)(d:l.length<=1000000):Rr l=zo (J5 l):=by
 unfold Rr;rw[show l.all Ur=zt from List.all_eq_true.2 λx c=>w8 (a x c),ks b,show Nat.ble l.length 1048576=zt from by simp;omega];rfl
theorem nD{α β:Type}{m:Option α}{Q:α->Prop}{k:α->Option β}{y:Option β}(h:∃ r,m=zo r/\Q r)(a:∀ r,Q r->k r=y):bd m k=y:=by
 obtain⟨r,rfl,h⟩:=h;exact a r h
theorem jW(l:List U7)(d:l.length<=1000000){f:Int×Int->Option (LR (Int×Int) (Nat×(Int×Int)×Unit))}
  (c:∀ s:Int×Int,f s=br (UV s.2 (l.length:Int)) (λ_=>S1 s.2 λk=>gd (I8 k (AQ l)) λ_=>ix l k λx=>bd (WB x) λr=>br r (λ_=>zo (.dn ((0,((s.2,s.2),()))))) λ_=>zo (.nx (s.1,TI .i64 s.2 1))) λ_=>zo (.dn ((1,(s,()))))) :
  ∃ r,loop f ((0:Int),(0:Int))=zo r/\((∃ i,i<l.length/\r=(0,(((i:Int),(i:Int)),()))/\(l.take i).filter VO=l.take i /\ ∃ x,l[i]?=zo x/\VO x=zf)\/((∃ s,r=(1,(s,())))/\l.filter VO=l)):=
 Xi (l:=l) (σ:=Unit) (λk _=>((0:Int),(k:Int))) (λ_ k _=>(l.take k).filter VO=l.take k) _
  () rfl (by omega) (by simp) (λ_ h=>by
   rw[c];exact⟨(1,(((0:Int),(l.length:Int)),())),by simp only[re,TA],.inr ⟨⟨_,rfl⟩,by simpa using h⟩⟩) (λk x m e hd b hi h=>by
   rw[c];simp only;rw[rl hi,Tj,U9,nY (by simpa[AQ]using hi),Ua b];unfold WB;rw[UG];cases a:x.2.2.1 with
   |true=>exact .inr ⟨_,rfl,.inl ⟨k,hi,rfl,h,x,b,by simp[VO,a]⟩⟩
   |false=>
    refine .inl ⟨(),by rw[TA,VJ b (by omega)],?_⟩;rw[gs,b]
    simp[List.filter_append,h,VO,a])
theorem mG(l:List U7)(E:l.length<=1000000){b:Nat}(D:b<l.length)(t:(l.take b).filter VO=l.take b){A:U7}(u:l[b]?=zo A)(p:VO A=zf){f:Int×(Int×List U7)->Option (LR (Int×(Int×List U7)) (Nat×(Int×(Int×List U7))×Unit))}
  (z:∀ s:Int×(Int×List U7),f s=br (UV s.2.1 (s.2.2.length:Int)) (λ_=>S1 s.2.1 λk=>gd (I8 k (AQ s.2.2)) λ_=>ix s.2.2 k λx=>bd (WB x) λr=>br (IG r) (λ_=>S1 s.1 λq=>gd (I8 q (AQ s.2.2)) λ_=>ix s.2.2 q λ_=>zo (.nx ((TI .i64 s.1 1,(TI .i64 s.2.1 1,lset s.2.2 q x))))) λ_=>zo (.nx ((s.1,(TI .i64 s.2.1 1,s.2.2))))) λ_=>zo (.dn ((0,(s,()))))) :
  ∃ r,loop f ((b:Int),(TI .i64 (b:Int) 1,l))=zo r /\ ∃ (i:Nat) (row:List U7),r=(0,(((i:Int),((l.length:Int),row)),()))/\i<l.length/\row.length=l.length/\row.take i=l.filter VO:=
 Xi (l:=l.drop (b+1)) (σ:=Nat×List U7) (λk a=>((a.1:Int),(((b+1+k:Nat):Int),a.2)))
  (λ_ k a=>a.1<=b+k/\a.2.length=l.length/\a.2.take a.1=(l.take (b+1+k)).filter VO/\a.2.drop (b+1+k)=l.drop (b+1+k)) _
  (b,l) (by rw[VG (by omega)]) (by simp;omega) ⟨by omega,rfl,by rw[Nat.add_zero,gs,u];simp[List.filter_append,t,p],rfl⟩ (λa ⟨w,c,d,_⟩=>by
   rw[ya]at w d ⊢;rw[z];have e:b+1+(l.length-(b+1))=l.length:=by omega
   exact⟨(0,(((a.1:Int),((l.length:Int),a.2)),())),by simp only[e,c,re,TA],a.1,a.2,rfl,by omega,c,by rw[d,e,List.take_length]⟩) (λk x m a hd j hi ⟨w,c,d,n⟩=>by
   rw[ya]at hi;rw[List.getElem?_drop]at j
   have B:a.2[b+1+k]?=zo x:=by
    rw[<- j];have:=congrArg (·[0]?) n;simpa using this
   have h:b+1+k<a.2.length:=by omega
   have o:∃ y,a.2[a.1]?=zo y:=⟨_,eo (by omega)⟩;obtain⟨y,C⟩:=o;rw[z];simp only;rw[show UV ((b+1+k:Nat):Int) (a.2.length:Int)=zt from rl h,Tj,U9,nY (by simpa[AQ]using h),Ua B];unfold WB;rw[UG,Vp];cases g:x.2.2.1 with
   |true=>
    refine .inl ⟨a,by rw[Tj,VG (by omega)];simp[ns],by omega,c,?_,?_⟩
    ·rw[d,<- ns,gs,j];simp[List.filter_append,VO,g]
    ·have:=congrArg (List.drop 1) n;simpa[ns]using this
   |false=>
    refine .inl ⟨(a.1+1,a.2.set a.1 x),?_,by simp only;omega,by simpa using c,?_,?_⟩
    ·rw[TA,U9,nY (by simp[AQ];omega),Ua C,VG (by omega),VG (by omega)];simp[lset,ns]
    ·simp only;rw[<- ns,gs (i:=b+1+k),j,List.filter_append,<- d,gs,List.take_set_of_le (eb _),List.getElem?_set_self (by omega)];simp[VO,g]
    ·simp only;rw[List.drop_set_of_lt (by omega)];have:=congrArg (List.drop 1) n
     simpa[ns]using this)
end
section
open Go Sv
theorem bS(f:VV):J5 ((ap f).filter VO)=VK f:=by
 have i:(((ap f).filter VO).map (·.1)).Nodup:=(dG f).sublist (List.filter_sublist.map _);obtain⟨d,g⟩:=fN i;refine bM d (Zb f) λk=> ?_;rw[g,Zi,<- ub];generalize h:ap f=l;have hd:=dG f;rw[h]at hd;clear i d g h
 induction l with
 |nil=>rfl
 |cons a l j=>
  rw[hI,li]at hd;rw[List.filter_cons,Vi];by_cases b:a.1=k
  ·rw[zy b];cases c:VO a with
   |true=>rw[zy rfl,Vi,zy b];simp[sk,c]
   |false=>
    rw[zx (by simp)];simp only[sk,c,Bool.false_eq_true,if_false];refine ZZ λx m e=>hd.1 (i0.2 ⟨x,(yo.1 m).1,e.trans b.symm⟩)
  ·rw[zx b];cases c:VO a with
   |true=>rw[zy rfl,Vi,zx b];exact j hd.2
   |false=>rw[zx (by simp)];exact j hd.2
theorem oF{f:VV}(a:VI f=0):∀ x∈ap f,kE x=0:=by
 intro x g;obtain⟨j,v,k⟩:=WF a;rcases i5 _ _ x g with h|⟨r,b,c⟩
 ·rcases d9 _ _ x h with h|h
  ·cases h
  ·exact(dv j).ok x h
 ·obtain⟨rs,d,e⟩:=List.mem_flatMap.1 b;obtain⟨i,hi⟩:=List.getElem?_of_mem d;exact((v.lev.lev i rs hi).2 r (List.mem_reverse.1 e)).vl.ok x c
theorem lH{f:VV}(b:VI f=0)(hc:VM f.2.1.2.flatten<=2000):f.1.2.length<=16/\(ap f).length<=2016:=by
 obtain⟨d,v,k⟩:=WF b;have a:=dv d;have h:=a.m1;have i:=a.m2;have j:=a.len;have e:=eu (VT f.2.1.2) (f.1.2.foldl X5 []);have c:=aC f.1.2 [];have g:=(Zm f.2.1.2).1;simp only[co]at c;refine⟨by omega,?_⟩;unfold ap;omega
theorem l8(l:List U7)(n i:Nat)(z:U7)(hi:i<=l.length):(Ey l i (Ot n z) n).take i=l.take i:=by
 unfold Ey;rw[List.take_append_of_le_length (by simp;omega),List.take_take];simp
theorem jK{f:VV}(d:VI f=0)(hc:VM f.2.1.2.flatten<=2000):Wp f=zo (VK f,0):=by
 obtain⟨B,v,C⟩:=WF d;obtain⟨z,n⟩:=lH d hc;have t:=(Zm f.2.1.2).1;have w:=Zv f.2.1.2 v.lev.two;have u:=v.lev.len;have q:=aC f.1.2 [];simp only[co]at q
 have b:∀ {β:Type} (k:List U7->Option β),bd (Rr ((ap f).filter VO)) k=k (VK f):=λk=>by
  rw[nR (λx m=>oF d x (yo.1 m).1) ((dG f).sublist (List.filter_sublist.map _)) (by have:=List.length_filter_le VO (ap f);omega),UG,bS]
 unfold Wp;rw[jh v.lev,UG,Uq,zy rfl];refine Va (fO f.1.2 [] (by simp;omega) λ_=>rfl) ?_;refine Va (oG (VT f.2.1.2) (f.1.2.foldl X5 []) (by omega) (by omega) λ_=>rfl) ?_;refine nD (jW (ap f) (by omega) λ_=>rfl) λr l=> ?_;rcases l with⟨i,hi,rfl,e,x,m,hd⟩|⟨⟨s,rfl⟩,e⟩
 ·dsimp only;rw[show neq 0 0=zt from rfl,Tj,Uk,zx (by omega)];refine nD (mG (ap f) (by omega) hi e m hd λ_=>rfl) λr l=> ?_;obtain⟨j,row,rfl,A,o,p⟩:=l;dsimp only;simp only[VC];have c:A0 0 (QC j 0)=j:=by simp[A0,QC]
  have e1:(Ey row j (Ot (QC row.length j) (([],([],(zf,0))):U7)) (QC row.length j)).length=row.length:=by
   simp[Ey,Ot,QC];omega
  have e2:DV (Ey row j (Ot (QC row.length j) (([],([],(zf,0))):U7)) (QC row.length j)) 0 (A0 0 (QC j 0))=(ap f).filter VO:=by
   rw[c,<- p];unfold DV;rw[List.drop_zero,Nat.sub_zero,l8 _ _ _ _ (by omega)]
  have g:((ap f).filter VO).length=j:=by rw[<- p,List.length_take];omega
  have h:(VK f).length=j:=by rw[<- bS,IS,g]
  rw[U9,Vo (eb _),Vo (by omega),show I8 j row.length=zt from by simp[I8];omega,Tj,Vo (by simp[A0,QC];omega),U9,e1,Vo (by omega),Vo (by omega),show I8 0 row.length=zt from by simp[I8];omega,Tj,Vo (by rw[c];omega),e2,b]
  have e3:∀ a:List U7,a.length=row.length->(Ey a 0 (VK f) (QC j 0)).length=row.length/\DV (Ey a 0 (VK f) (QC j 0)) 0 (A0 0 (QC j 0))=VK f:=λa y=>by
   rw[c];have:(VK f).take (QC j 0)=VK f:=List.take_of_length_le (by simp[QC];omega);unfold Ey DV;rw[this];refine⟨by simp;omega,?_⟩;simp[List.take_left' h]
  rw[(e3 _ e1).1,(e3 _ e1).2,Vo (by rw[c];omega)]
 ·dsimp only;rw[show neq 1 0=zf from rfl,TA,Uk,zy rfl];refine Eq.trans ?_ (b λr=>zo (r,0));rw[e];rfl
theorem nB{f:VV}(a:WP f=zo (VI f))(hc:VI f=0->VM f.2.1.2.flatten<=2000):Yu f=zo (if VI f=0 then(VK f,0)else([],VI f)):=by
 unfold Yu;rw[a,UG,Uq];by_cases h:VI f=0
 ·rw[zy h,jK h (hc h),UG,zy h]
 ·rw[zx h,zx h]
end
section
open Go Sv
theorem fo(f:Nat->Nat):∀ m,WO f (m+1)=f 0+WO (λi=>f (i+1)) m
 |0=>by simp[WO]
 |m+1=>by
  show WO f (m+1)+f (m+1)=f 0+(WO (λi=>f (i+1)) m+f (m+1));rw[fo f m];omega
theorem jH{f:Nat->Nat}:∀ {m:Nat},(∀ i,i<m->f i=0)->WO f m=0
 |0,_=>rfl
 |m+1,h=>by
  show WO f m+f m=0;rw[jH λi hi=>h i (by omega),h m (by omega)]
theorem jy{f g:Nat->Nat}:∀ {m:Nat},(∀ i,i<m->g i=f i)->WO g m=WO f m
 |0,_=>rfl
 |m+1,h=>by
  show WO g m+g m=WO f m+f m;rw[jy λi hi=>h i (by omega),h m (by omega)]
theorem kr(f:Int->Nat):∀ (ls:List (List VU)) (i m:Nat),ls.length<=m->((VF i ls).map f).sum=WO (λn=>if(VD ls n).length=2 then f ((i+n:Nat):Int)else 0) m
 |[],i,m,_=>(jH λn _=>by simp[VD]).symm
 |rs::ls,i,0,h=>by simp at h
 |rs::ls,i,m+1,h=>by
  rw[Zd,yn,List.sum_append,kr f ls (i+1) m (by simpa using h),fo];refine congr (congrArg HAdd.hAdd ?_) (jy λn _=> ?_)
  ·show _=if rs.length=2 then _ else 0
   by_cases a:rs.length=2
   ·rw[zy a,zy a];simp
   ·rw[zx a,zx a];rfl
  ·rw[show i+1+n=i+(n+1) by omega];rfl
def dA(s:U8)(i:Nat):Nat:=match V5 s.2.1 (i:Int)with
 |some j=>VM (VD s.1.2 i)-ui j+1
 |none=>0
theorem wz{s:U8}(v:VSt s)(i:Nat):dA s i=if(VD s.1.2 i).length=2 then dN s (i:Int)else 0:=by
 unfold dA dN;rw[jQ v];by_cases h:(VD s.1.2 i).length=2
 ·rw[zy h];obtain⟨j,a⟩:=v.hasJob h;rw[a];obtain⟨d,e,c,_,b,_⟩:=(v.jobAt a).rd
  grind [Wl,VM]
 ·rw[zx h,v.noJob h]
theorem iA{s:U8}(v:VSt s):cU s=WO (dA s) 12:=by
 unfold cU;rw[kr _ _ 0 12 v.lev.len];refine jy λi _=> ?_;rw[wz v,hM]
end
section
open Go Sv
def yQ(n:Nat)(s:U8):U8×(Int×Int):=if(WX n s).2.2≠0 then(zS,(0,(WX n s).2.2))else((WX n s).1,(((WX n s).2.1.length:Int),0))
abbrev FlJ:=Int×(List (List VU)×(List Job×Int))
abbrev DbS:=FlJ×((Int×Int)×(Int×(FlJ×Int)))
def yX(s:U8)(n m:Int):DbS:=(flS s,((0,0),(n,(flS s,m))))
def DAt(s0:U8)(T:U8×(Nat×Int))(k n:Nat)(m:Int)(s:U8):Prop:=
 Gd s0 s/\n+k<=1100000/\T=((WX k s).1,(n+(WX k s).2.1.length,(WX k s).2.2))/\((m=(k:Int)/\0<k)\/(m = -1-(n:Int)/\al 2000 s<k))
theorem DAt.pos{s0 s:U8}{T:U8×(Nat×Int)}{k n:Nat}{m:Int}(a:DAt s0 T k n m s):∃ b,k=b+1:=by
 obtain⟨_,_,_,h⟩:=a;exact⟨k-1,by omega⟩
theorem DAt.none{s0 s:U8}{T:U8×(Nat×Int)}{k n:Nat}{m:Int}(a:DAt s0 T k n m s)(e:Wv s=4):T=(s,(n,0)):=by
 obtain⟨b,rfl⟩:=a.pos;rw[a.2.2.1];simp[WX,e]
theorem DAt.fail{s0 s:U8}{T:U8×(Nat×Int)}{k n:Nat}{m:Int}(a:DAt s0 T k n m s)(c:Wv s≠4)(b:Wv s≠0):T=(s,(n,Wv s)):=by
 obtain⟨d,rfl⟩:=a.pos;rw[a.2.2.1];simp[WX,c,b]
theorem DAt.step{s0 s:U8}{T:U8×(Nat×Int)}{k n:Nat}{m:Int}(a:DAt s0 T k n m s)(e:Wv s=0) :
  (m-1=0/\T=(Z6 s,(n+1,0)))\/(m-1≠0 /\ ∃ b,DAt s0 T b (n+1) (m-1) (Z6 s)):=by
 obtain⟨b,rfl⟩:=a.pos;obtain⟨g,j,h,l⟩:=a;obtain⟨_,_,_,_,_,_,_,f⟩:=YD g e;have o:=(de g g.2.2 e).1
 have c:T=((WX b (Z6 s)).1,(n+1+(WX b (Z6 s)).2.1.length,(WX b (Z6 s)).2.2)):=by
  rw[h];simp[WX,e];omega
 by_cases d:m-1=0
 ·refine .inl ⟨d,?_⟩;have i:b=0:=by omega
  rw[c,i];rfl
 ·refine .inr ⟨d,b,f,by omega,c,?_⟩;omega
def DEnd(T:U8×(Nat×Int))(r:Nat×(DbS×Unit)):Prop:=
 (T.2.2=0/\(r.2.1.2.1.1=0\/r.2.1.2.1.1=1)/\r.2.1.2.2.1=(T.2.1:Int)/\r.2.1.2.2.2.1=flS T.1)\/(T.2.2≠0/\r.2.1.2.1=(2,T.2.2))
theorem DEnd.fin{T:U8×(Nat×Int)}{r:Nat×(DbS×Unit)}(h:DEnd T r) :
  (br (PC r.2.1.2.1.1 0) (λ_=>zo ((((r.2.1.2.2.2.1.1,r.2.1.2.2.2.1.2.1),r.2.1.2.2.2.1.2.2),(r.2.1.2.2.1,(0:Int))))) λ_=>br (PC r.2.1.2.1.1 1) (λ_=>zo ((((r.2.1.2.2.2.1.1,r.2.1.2.2.2.1.2.1),r.2.1.2.2.2.1.2.2),(r.2.1.2.2.1,0)))) λ_=>zo ((((0,[]),([],0)),(0,r.2.1.2.1.2))))=zo (if T.2.2≠0 then(zS,(0,T.2.2))else(T.1,((T.2.1:Int),0))):=by
 rcases h with⟨a,h2,b,c⟩|⟨a,h2⟩
 ·rw[zx (by simp[a]),c,b,Uk,Uk];rcases h2 with h2|h2
  ·rw[zy h2];rfl
  ·rw[zx (by omega),zy h2];rfl
 ·rw[zy a,h2,Uk,zx (show ¬ ((2:Int)=0) by decide),Uk,zx (show ¬ ((2:Int)=1) by decide)];rfl
theorem yS{s0 s:U8}{T:U8×(Nat×Int)}{k:Nat}{m:Int}(i:m≠0)(a:DAt s0 T k 0 m s):Zf (s,m)=zo (if T.2.2≠0 then(zS,(0,T.2.2))else(T.1,((T.2.1:Int),0))):=by
 unfold Zf;rw[Uk,zx i];refine uI (λc=>∃ k t n m,c=yX t (n:Nat) m/\DAt s0 T k n m t) (DEnd T) (λc=>al 2000 ((c.1.1,c.1.2.1),c.1.2.2)) ⟨k,s,0,m,rfl,a⟩ ?_ ?_ ?_
 ·show al 2000 s<_;have:=dH a.1.1;omega
 ·rintro c ⟨k,t,n,m,rfl,a⟩;have b:=a.1;have j:TI .i64 (n:Int) 1=((n+1:Nat):Int):=VG (by have:=a.2.1;omega);have hs:TM .i64 m 1=m-1:=Tq (by have:=a.2.1;have:=a.2.2.2;omega);rcases AAj b with⟨e1,e2⟩|⟨e1,e2,e3,e4⟩|⟨e1,e2,e3⟩
  ·refine .inr ⟨(0,((flS t,((1,0),(yX t n m).2.2)),())),?_,.inl ⟨by rw[a.none e1],.inr rfl,by rw[a.none e1];rfl,by rw[a.none e1];rfl⟩⟩;show bd (WU t) _=_;rw[(dF b).1,UG,Uk,zy e2];rfl
  ·refine .inr ⟨(0,((((0,([],([],0))):FlJ),((2,Wv t),(yX t n m).2.2)),())),?_,.inr ⟨by rw[a.fail e1 e2];exact e2,by rw[a.fail e1 e2]⟩⟩;show bd (WU t) _=_;rw[(dF b).1,UG,Uk,zx e3,Uk];rcases e4 with e4|⟨e4,e5⟩
   ·rw[zx (by omega),Uq,zx (by omega),e4]
   ·rw[zy e4];show bd (WG (t,(Wr t).1)) _=_;rw[(jG b _).1,UG,Uq,zx (by omega),e5]
  ·have o:=(de b b.2.2 e1).1;have h:∀ {γ:Type} (x y:Unit->Option γ),br (PC (TM .i64 m 1) 0) x y=if m-1=0 then x ()else y ():=λx y=>by rw[hs,Uk]
   have key:∀ {R},R=(if m-1=0 then zo (LR.dn (1,(yX (Z6 t) ((n+1:Nat):Int) (m-1),())))else zo (LR.nx (yX (Z6 t) ((n+1:Nat):Int) (m-1))))->(∃ s',R=zo (.nx s')/\(∃ k t n m,s'=yX t (n:Nat) m/\DAt s0 T k n m t)/\al 2000 ((s'.1.1,s'.1.2.1),s'.1.2.2)<al 2000 t)\/(∃ x,R=zo (.dn x)/\DEnd T x):=fun {R} e=>by
    rcases a.step e1 with⟨f,d⟩|⟨f,l,d⟩
    ·rw[zy f]at e;exact .inr ⟨_,e,.inl ⟨by rw[d],.inl rfl,by rw[d];rfl,by rw[d];rfl⟩⟩
    ·rw[zx f]at e;exact .inl ⟨_,e,⟨l,_,_,_,rfl,d⟩,by show al 2000 (Z6 t)<_;omega⟩
   refine key ?_;show bd (WU t) _=_;rw[(dF b).1,UG,Uk,zx (by omega),Uk,zy e2];show bd (WG (t,(Wr t).1)) _=_;rw[(jG b _).1,UG,Uq,zy e3];refine(h _ _).trans ?_;rw[<- j,<- hs];rfl
 ·intro r g;rw[uJ];split
  ·exact g.fin
  ·exact g.fin
theorem uo{s0 s:U8}(g:Gd s0 s):Zf (s,-1)=zo (yQ (al 2000 s+1) s):=by
 have a:=dH g.1;have:=yS (s0:=s0) (s:=s) (T:=((WX (al 2000 s+1) s).1,(0+(WX (al 2000 s+1) s).2.1.length,(WX (al 2000 s+1) s).2.2))) (k:=al 2000 s+1) (m:=-1) (by omega) ⟨g,by omega,rfl,.inr ⟨by omega,by omega⟩⟩;rw[this];simp only[hM];rfl
def V7(s:U8):U8×(Int×Int):=if(VA s).2≠0 then(zS,(0,(VA s).2))else yQ (al 2000 s+1) s
theorem cr{s:U8}(m:Sm s)(hc:VSt s->VM s.1.2.flatten<=2000):W7 s=zo (V7 s):=by
 unfold W7 V7;rw[wy m,UG,Uq];by_cases a:(VA s).2=0;rotate_left
 ·rw[zx a,zy a];rfl
 rw[zy a,zx (by simp[a])];have v:=VH.1 a;rw[uo (s0:=s) ⟨v,rfl,hc v⟩];rfl
end
section
open Go Sv
def jD(s:U8):Bool×Int:=if(VA s).2≠0 then(zf,(VA s).2)else(decide (VF 0 s.1.2=[]),0)
end
section
open Go Sv
end
section
open Go Sv
theorem uQ{s:U8}(v:VSt s)(h:s.2.1=[]):VF 0 s.1.2=[]:=by rw[<- v.due,h];rfl
end
section
open Go Sv
theorem uS(f:VV)(a:∀ rs∈f.2.1.2,∀ r∈rs,r.2.length<=9223372036854775807):∃ b,az f=zo b/\(b=zf->Sm f.2/\(VLev f.2.1->VM f.2.1.2.flatten<=40)/\f.1.2.length<=20):=by
 unfold az;simp only[VE,VC]
 obtain⟨r,o,i⟩:=bD (l:=f.1.2) (σ:=Unit) (s:=((0:Int),zf)) 25 (by omega) (λk _=>((k:Int),zf)) (λ_ _=>True) (λ(r:Nat×((Int×Bool)×Unit))=>r.1=1\/(r.1=0/\r.2.1.2=zt))
  (f:=λs0=>br (UV s0.1 (f.1.2.length:Int)) (λ_=>br (UV s0.1 25) (λ_=>S1 s0.1 λm=>ix f.1.2 m λp=>br (UT (NH p.1:Int) 100) (λ_=>zo (.dn ((0,((s0.1,zt),()))))) λ_=>S1 s0.1 λn=>ix f.1.2 n λq=>br (UT (NH q.2.1:Int) 100) (λ_=>zo (.dn ((0,((s0.1,zt),()))))) λ_=>zo (.nx (TI .i64 s0.1 1,s0.2))) λ_=>zo (.dn ((1,(s0,()))))) λ_=>zo (.dn ((1,(s0,())))))
  () rfl trivial (λk _ h d _=>⟨_,(nO (c:=25) h d _ _ _ rfl),.inl rfl⟩) (λk x _ a d _=>by
   simp only;have g:=(a8.1 a).1;rw[rl g,Tj,show UV (k:Int) 25=zt from eF d,Tj,U9,Ua a,Um,U9,Ua a,Um,VG (by omega)]
   repeat' split
   all_goals simp_all)
 rw[o,UG,UH];rcases i with i|⟨i,t⟩
 ·rw[zx (show ¬ r.1=0 by omega)];obtain⟨b,e,j⟩:=nS f.2 a;rw[e,UG];cases b with
  |true=>exact⟨_,rfl,λh=>by cases h⟩
  |false=>
   refine⟨_,rfl,λh=>⟨(j rfl).1,(j rfl).2,?_⟩⟩
   grind [UT]
 simp_all
theorem nT:ay=az:=rfl
theorem jz{f g:Nat->Nat}{n:Nat}(a:f n<=g n+1):∀ {m:Nat},(∀ i,i<m->i≠n->f i<=g i)->WO f m<=WO g m+1
 |0,_=>Nat.zero_le _
 |m+1,h=>by
  show WO f m+f m<=WO g m+g m+1;by_cases e:n=m
  ·subst e;have:=dL (f:=g) (g:=f) (m:=n) λi hi=>h i (by omega) (by omega);omega
  ·have:=jz a (m:=m) λi hi=>h i (by omega)
   grind
theorem nQ{s t:U8}{n:Nat}{j:Job}{b:Bool}(v:VSt s)(r:VSt t)(k:JobAt s.1 n j)(F:StepF s n j t b):cU s<=cU t+1:=by
 obtain⟨p,q,y,z,x,c⟩:=k.rd;have hc:VM (VD s.1.2 n)=p.2.length+q.2.length:=by simp_all[Wl,VM]
 rw[iA v,iA r];by_cases d:0<VW s.1 j
 ·obtain⟨_,e,_,f⟩:=F.read d;refine jz (n:=n) ?_ λi _ hi=> ?_
  ·unfold dA;rw[f n,zy rfl,F.job,e]
   grind
  simp_all[dA,zx]
 ·obtain⟨w,_,_,g,u,h⟩:=F.inst (by omega)
  have o:dA s n=1:=by
   unfold dA;rw[F.job]
   grind
  refine jz (n:=n) (by omega) λi _ hi=> ?_;by_cases a:(VD s.1.2 i).length=2
  ·have l:VD t.1.2 i=VD s.1.2 i:=by
    rw[g,zx hi]
    grind
   refine Nat.le_of_eq ?_;unfold dA;rw[h i,l,zy a,zx hi];obtain⟨j',m⟩:=v.hasJob a
   grind
  ·unfold dA;rw[v.noJob a];simp_all
theorem fe{s0:U8}:∀ {n:Nat} {s:U8},Gd s0 s->cU s<=(WX n s).2.1.length+cU (WX n s).1
 |0,s,g=>by simp[WX]
 |n+1,s,g=>by
  unfold WX;by_cases c:Wv s=4
  ·simp_all
  ·rw[zx c];by_cases b:Wv s=0
   ·rw[zx (by simp[b])];obtain⟨_,_,_,_,d,_,F,a⟩:=YD g b;have e:=nQ g.1 a.1 d F;have f:=fe (n:=n) a
    grind
   simp_all
theorem AAi{s0 s:U8}(g:Gd s0 s)(e:Wv s=0):(Z6 s).1.1=s.1.1:=by
 obtain⟨_,_,_,_,c,_,F,b⟩:=YD g e;rename_i n j _ _ _;by_cases a:0<VW s.1 j
 ·rw[(F.read a).2.1]
 ·rw[(F.inst (by omega)).2.1];unfold W6;split<;>rfl
theorem oa{s0:U8}:∀ {n:Nat} {s:U8},Gd s0 s->(WX n s).1.1.1=s.1.1
 |0,s,g=>rfl
 |n+1,s,g=>by
  unfold WX;by_cases c:Wv s=4
  ·grind
  ·rw[zx c];by_cases a:Wv s=0
   ·rw[zx (by simp[a])];obtain⟨_,_,_,_,_,_,_,b⟩:=YD g a;exact(oa (n:=n) b).trans (AAi g a)
   simp_all
def kg:VV:=((0,[]),zS)
def drF(f:VV):VV×(Int×Int):=if(V7 f.2).2.2≠0 then(kg,(0,(V7 f.2).2.2))else((f.1,(V7 f.2).1),((V7 f.2).2.1,0))
def Wd(f:VV):VV×(Int×Int):=if VI f≠0 then(kg,(0,VI f))else drF f
theorem ju{s:U8}(hc:VSt s->VM s.1.2.flatten<=2000):∃ n:Nat,(V7 s).2.1=(n:Int)/\n<=60000:=by
 unfold V7;by_cases h:(VA s).2=0
 ·rw[zx (by simp[h])];have v:=VH.1 h;have l:=(bK (n:=al 2000 s+1) (N:=2000) (s0:=s) ⟨v,rfl,hc v⟩ (hc v)).1;have:=dH v
  grind [yQ]
 ·rw[zy h];exact⟨0,rfl,by omega⟩
theorem d6{f:VV}(b:VI f=0)(k:VM f.2.1.2.flatten<=60)(h:(V7 f.2).2.2=0) :
  ∃ (t:U8) (n:Nat),V7 f.2=(t,((n:Int),0))/\Gd f.2 t/\VM t.1.2.flatten<=60/\t.2.1=[]/\n<=f.2.1.2.flatten.length*(VM f.2.1.2.flatten+1)/\cU f.2<=n/\VI (f.1,t)=0/\t.1.1=f.2.1.1/\V7 t=(t,(0,0)):=by
 have e:=Hj b;have v:=VH.1 e;have G:Gd f.2 f.2:=⟨v,rfl,by omega⟩
 have g:(WX (al 2000 f.2+1) f.2).2.2=0:=by
  unfold V7 yQ at h
  grind
 have o:=oL (VM f.2.1.2.flatten) v;have m:=bK (n:=al 2000 f.2+1) (N:=VM f.2.1.2.flatten) G (eb _);have c:=bK (n:=al 2000 f.2+1) (N:=60) G k;have hd:=mS (N:=2000) (R:=al 2000 f.2+1) G (by omega) (by omega) g;have i:=oa (n:=al 2000 f.2+1) G;have l:=fe (n:=al 2000 f.2+1) G;have a:=c.2.2.1.1
 have j:cU (WX (al 2000 f.2+1) f.2).1=0:=by
  unfold cU;rw[uQ a hd];rfl
 refine⟨(WX (al 2000 f.2+1) f.2).1,(WX (al 2000 f.2+1) f.2).2.1.length,?_,c.2.2.1,c.2.2.2.1,hd,by omega,by omega,?_,i,?_⟩
 ·simp_all[V7,yQ,zx]
 ·unfold VI at b ⊢;by_cases d:(Wz f.1).2=0;rotate_left
  ·omega
  rw[zx (by simp[d]),zx (by simp[e])]at b;rw[zx (by simp[d]),zx (by simp[VH.2 a])]
  simp_all
 ·unfold V7 yQ;rw[zx (by simp[VH.2 a]),iy a hd,zx (by simp)];rfl
end
section
open Go Sv
end
section
open Go Sv
def ck(f:VV):VV×(Int×Int):=
 if(Wd f).2.2≠0 then(kg,(0,(Wd f).2.2))else if(XN (Wd f).1).2≠0 then(kg,(0,(XN (Wd f).1).2))else((XN (Wd f).1).1,((Wd f).2.1,0))
theorem cF{f:VV}(k:VI f=0) :
  (f.1.2=[]/\XN f=(f,0))\/(f.1.2≠[]/\(VD f.2.1.2 0).length=2/\(XN f).2=10)\/(f.1.2≠[]/\(VD f.2.1.2 0).length<2/\f.2.2.2>1000000/\(XN f).2=5) \/
  (f.1.2≠[]/\(VD f.2.1.2 0).length<2/\f.2.2.2<=1000000/\kR [] (Vn f.2.1.1 0) (f.2.2.2,f.1.2)=0/\XN f=(((f.1.1,[]),Zp f.2 (cO f.2 f.1.2) (f.2.2.2+1) (-1)),0)):=by
 obtain⟨m,v,q⟩:=WF k;have b:=dv m;have o:=b.m1;have p:=b.len;have n:=(v.lev.own 0).1;unfold XN;rw[zx (by simp[k])];by_cases d:f.1.2.length=0
 ·simp_all
 have j:f.1.2≠[]:=λe=>d (by rw[e];rfl);rw[zx d];by_cases g:eA f=zt
 ·rw[zy g]
  grind [eA]
 rw[zx g]
 have i:(VD f.2.1.2 0).length<2:=by
  unfold eA at g
  grind
 by_cases l:f.2.2.2>1000000
 ·refine .inr (.inr (.inl ⟨j,i,l,?_⟩))
  have a:fC f.2 f.1.2=(zS,5):=by
   unfold fC;rw[zx (by simp[VH.2 v]),zy (.inl l)]
  simp_all
 have c:VL f.1.2:=⟨by have:=b.m2;omega,b.ok,b.asc⟩
 have h:kR [] (Vn f.2.1.1 0) (f.2.2.2,f.1.2)=0:=by
  rw[zd v (by omega),zx (by simp[Z8.2 c]),zx d,zx (by unfold Vn;omega)]
 have a:fC f.2 f.1.2=(Zp f.2 (cO f.2 f.1.2) (f.2.2.2+1) (-1),0):=by
  unfold fC;rw[zx (by simp[VH.2 v]),zx (by omega),zx (by simp[Z8.2 c]),zx (by simp[h])]
 simp_all
theorem fh{f:VV}(e:VI f=0)(h:(XN f).2=0) :
  VI (XN f).1=0/\(XN f).1.1=(f.1.1,[])/\VM (XN f).1.2.1.2.flatten<=VM f.2.1.2.flatten+f.1.2.length:=by
 obtain⟨n,v,o⟩:=WF e;have g:=dv n;have l:=g.m1;have m:=g.m2;rcases cF e with⟨s,a⟩|⟨_,_,a⟩|⟨_,_,_,a⟩|⟨_,d,k,c,a⟩
 ·grind
 ·omega
 ·omega
 ·rw[a];have b:Bf (f.1.1,([]:List U7)):=⟨l,m,by grind,by simp,trivial⟩;refine⟨nX b (uG v d c k) o,rfl,?_⟩;show VM (cO f.2 f.1.2).2.flatten<=_;obtain⟨p,q,r,i⟩:=Y5 f.2.1 0 (VD f.2.1.2 0++[(f.2.2.2,f.1.2)]);have j:(cO f.2 f.1.2).2.flatten=p++(VD f.2.1.2 0++[(f.2.2.2,f.1.2)]++q):=i
  grind [Xs,Wl,VM]
theorem dz{f:VV}(a:VI f=0)(c:VSt f.2->VM f.2.1.2.flatten<=60) :
  ((V7 f.2).2.2≠0/\Wd f=(kg,(0,(V7 f.2).2.2))) \/
  ∃ (t:U8) (n:Nat),V7 f.2=(t,((n:Int),0))/\Wd f=((f.1,t),((n:Int),0))/\VSt t/\VM t.1.2.flatten<=60/\t.2.1=[]/\n<=f.2.1.2.flatten.length*(VM f.2.1.2.flatten+1)/\n<=60000/\VI (f.1,t)=0/\V7 t=(t,(0,0)):=by
 have v:=(WF a).2.1;have hc:VSt f.2->VM f.2.1.2.flatten<=2000:=λv=>by grind
 obtain⟨n0,d,e⟩:=ju hc;by_cases b:(V7 f.2).2.2=0;rotate_left
 ·simp_all[Wd,drF,zx]
 ·obtain⟨t,n,g,h,i,j,k,o,l,p,m⟩:=d6 a (c v) b;refine .inr ⟨t,n,g,?_,h.1,i,j,k,?_,l,m⟩
  ·simp_all[Wd,drF,zx]
  grind
theorem jA{f:VV}(a:VI f=0)(b:VSt f.2->VM f.2.1.2.flatten<=60) :
  ((ck f).2.2≠0) \/ ∃ (g:VV) (n:Nat),ck f=(g,((n:Int),0))/\VI g=0/\g.1=(f.1.1,[])/\VM g.2.1.2.flatten<=76/\n<=60000:=by
 rcases dz a b with⟨e,h⟩|⟨t,n,j,k,l,m,o,p,c,d,q⟩
 ·simp_all[ck,zy]
 ·have i:=cy a;by_cases hs:(XN (f.1,t)).2=0
  ·obtain⟨s1,s2,r⟩:=fh d hs;refine .inr ⟨(XN (f.1,t)).1,n,?_,s1,s2,?_,c⟩
   ·simp_all[ck,zx]
   grind
  simp_all[ck,zx,zy]
theorem uH(u:Unit):W9 u=zo zt:=rfl
end
end Go.Proofs.YtoefnfbpoabinabGreatDoor.Pl
