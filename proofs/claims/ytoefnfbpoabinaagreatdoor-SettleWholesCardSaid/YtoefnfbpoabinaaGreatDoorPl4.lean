/- Functions of the program and of the specification as plain functions, and laws about them. No condition. -/
import Derived.Test.YtoefnfbpoabinaaGreatDoorPl3
import Derived.KernelRfl
set_option linter.all false
open List renaming any_cons->s7, cons_append->xl, filter_cons->oj, foldl_cons->gM, getElem?_eq_getElem->ci, getElem?_eq_some_iff->a8, getElem?_of_mem->co, getElem_mem->rz, length_drop->xm, length_filter_le->s8, length_nil->eb, length_take->rY, map_append->xo, map_cons->ee, mem_cons->li, mem_filter->pg, mem_map->eo, nodup_append->o4, nodup_cons->gs, take_add_one->ey
open Nat renaming add_assoc->l5, le_refl->ed
open Option renaming filter->oy, none_or->r7
open Option renaming some->zo, none->zn
open Bool renaming true->zt, false->zf
namespace Go.Proofs.YtoefnfbpoabinaaGreatDoor.Pl
section
open Go Sv
theorem rG{α β γ:Type}{f:α->Option (LR α β)}{K:β->Option γ}{R:Option γ}(Inv:α->Prop)(Q:β->Prop)(m:α->Nat){s:α}(hs:Inv s)(b:m s<18446744073709551616)
  (step:∀ s,Inv s->(∃ s',f s=zo (.nx s')/\Inv s'/\m s'<m s)\/(∃ x,f s=zo (.dn x)/\Q x)) (a:∀ x,Q x->K x=R):bd (loop f s) K=R:=by
 obtain⟨x,e,q⟩:=Ts Inv Q m hs b step;rw[e];exact a x q
theorem ACA{u:gn}{x:Int×Bool}(h:0<=u.1/\u.1<=1000000):(wA u x).1=u.1+1:=by
 show Tk .i64 u.1 1=_;exact US (by omega)
def At(s0:Va)(g:Int)(T:Va×((List Int×gn)×Int))(k:Nat)(s:Va)(l:List Int)(u:gn):Prop:=Gd s0 s/\0<=u.1/\u.1+k=g/\g<=1000000/\(l.length:Int)=u.1/\T=((Z4 k s).1,((l++(Z4 k s).2.1.map (·.1),sB u (Z4 k s).2.1),(Z4 k s).2.2))
theorem At.step{s0 s:Va}{g:Int}{T:Va×((List Int×gn)×Int)}{k:Nat}{l:List Int}{u:gn}(a:At s0 g T (k+1) s l u)(e:ZR s=0):At s0 g T k (ai s) (l++[(dj s).1]) (wA u (dj s)):=by
 obtain⟨c,h,i,d,j,f⟩:=a;obtain⟨_,_,_,_,_,_,_,b⟩:=Z1 c e;have m:=ACA (x:=dj s) (show 0<=u.1/\u.1<=1000000 by omega);refine⟨b,by omega,by omega,d,by simp;omega,?_⟩;rw[f];simp only[Z4,e,ne_eq,not_true_eq_false,if_false,ee,List.append_assoc,xl,List.nil_append];rfl
theorem At.none{s0 s:Va}{g:Int}{T:Va×((List Int×gn)×Int)}{k:Nat}{l:List Int}{u:gn}(a:At s0 g T k s l u)(e:ZR s=4):T=(s,((l,u),0)):=by
 rw[a.2.2.2.2.2];cases k<;>simp[Z4,e,sB]
theorem At.fail{s0 s:Va}{g:Int}{T:Va×((List Int×gn)×Int)}{k:Nat}{l:List Int}{u:gn}(a:At s0 g T (k+1) s l u)(c:ZR s≠4)(b:ZR s≠0):T=(s,((l,u),ZR s)):=by
 rw[a.2.2.2.2.2];simp[Z4,c,b,sB]
theorem At.last{s0 s:Va}{g:Int}{T:Va×((List Int×gn)×Int)}{l:List Int}{u:gn}(a:At s0 g T 0 s l u):T=(s,((l,u),0)):=by
 rw[a.2.2.2.2.2];simp[Z4,sB]
theorem bE{β:Type}{a b:Nat}(h:a<b)(k:Unit->Option β):gd (JJ a b) k=k ():=by
 have:JJ a b=zt:=by unfold JJ;simpa using h
 rw[this];rfl
end
section
open Go Sv
def flS(s:Va):Int×(List (List Vt)×(List Job×Int)):=(s.1.1,(s.1.2,s.2))
end
section
open Go Sv
theorem w8{s t:Va}{n:Nat}{j:Job}{b:Bool}(v:VSt s)(F:StepF s n j t b){i:Nat}(e:i≠n)(d:(Vh s.1.2 i).length=2):Vh t.1.2 i=Vh s.1.2 i/\WW t.2.1 (i:Int)=WW s.2.1 (i:Int):=by
 by_cases c:0<V9 s.1 j
 ·obtain⟨_,e1,_,e2⟩:=F.read c
  simp_all
 ·obtain⟨_,e1,_,e2,e3,h⟩:=F.inst (by omega)
  have g:¬ (WZ j≠[]/\i=bU s j):=λ⟨a,hi⟩=>by
   simp_all
  have a:Vh t.1.2 i=Vh s.1.2 i:=by simp_all
  refine⟨a,?_⟩;obtain⟨j',f⟩:=v.hasJob d
  grind
theorem w9{s0 s:Va}(g:Gd s0 s)(e:ZR s=0){i:Nat}(b:(Vh s.1.2 i).length=2)(f:dj s≠((i:Int),zt)):(Vh (ai s).1.2 i).length=2:=by
 obtain⟨n,j,d,k,h,hc,F,_⟩:=Z1 g e;by_cases a:i=n
 ·subst a;by_cases c:0<V9 s.1 j
  ·rw[(F.read c).2.1];exact b
  ·exact absurd (Prod.ext d (F.inst (by omega)).1) f
 ·rw[(w8 g.1 F a b).1];exact b
def gF(a:Int):Nat->Nat->Va->Int×Int
 |0,_,_=>(0,0)
 |k+1,n,s=>if ZR s≠0 then(0,ZR s)else if dj s=(a,zt)then(((n+1:Nat):Int),0)else gF a k (n+1) (ai s)
def NAt(s0:Va)(a:Int)(T:Int×Int)(k n:Nat)(s:Va):Prop:=Gd s0 s/\sL 2000 s<k/\n+k<=60000/\T=gF a k n s /\ ∃ i:Nat,a=(i:Int)/\(Vh s.1.2 i).length=2
theorem NAt.fail{s0 s:Va}{d:Int}{T:Int×Int}{k n:Nat}(a:NAt s0 d T k n s)(e:ZR s≠0):T=(0,ZR s):=by
 obtain⟨_,f,_,c,_⟩:=a;obtain⟨b,rfl⟩:∃ b,k=b+1:=⟨k-1,by omega⟩;rw[c];simp[gF,e]
theorem NAt.hit{s0 s:Va}{c:Int}{T:Int×Int}{k n:Nat}(a:NAt s0 c T k n s)(e:ZR s=0)(h:dj s=(c,zt)):T=(((n+1:Nat):Int),0):=by
 obtain⟨_,f,_,d,_⟩:=a;obtain⟨b,rfl⟩:∃ b,k=b+1:=⟨k-1,by omega⟩;rw[d];simp[gF,e,h]
theorem NAt.next{s0 s:Va}{d:Int}{T:Int×Int}{k n:Nat}(a:NAt s0 d T k n s)(e:ZR s=0)(h:dj s≠(d,zt)):∃ b,k=b+1/\NAt s0 d T b (n+1) (ai s)/\sL 2000 (ai s)<sL 2000 s:=by
 obtain⟨c,m,o,g,i,j,l⟩:=a;obtain⟨b,rfl⟩:∃ b,k=b+1:=⟨k-1,by omega⟩;obtain⟨_,_,_,_,_,_,_,f⟩:=Z1 c e;have p:=(jU c c.2.2 e).1;refine⟨b,rfl,⟨f,by omega,by omega,?_,i,j,w9 c e l (by simp_all)⟩,by omega⟩;rw[g];simp[gF,e,h]
end
section
open Go Sv
set_option maxRecDepth 1000000
end
section
open Go Sv
end
section
open Go Sv
set_option maxRecDepth 100000
end
section
open Go Sv
end
section
open Go Sv
set_option maxRecDepth 100000
def lst(a:jE):List Int:=[a.1,a.2.1,a.2.2.1,a.2.2.2.1,a.2.2.2.2.1,a.2.2.2.2.2.1,a.2.2.2.2.2.2.1,a.2.2.2.2.2.2.2.1,a.2.2.2.2.2.2.2.2.1,a.2.2.2.2.2.2.2.2.2.1,a.2.2.2.2.2.2.2.2.2.2.1,a.2.2.2.2.2.2.2.2.2.2.2]
end
section
open Go Sv
set_option maxRecDepth 100000
end
section
open Go Sv
@[reducible] def tE:Ty:=.pair .str (.pair .str (.pair .bool (.int .i64)))
@[reducible] def tJb:Ty:=.pair (.pair (.int .i64) (.sl zt (.sl zt (.pair (.int .i64) (.sl zt tE))))) (.pair (.sl zt (.pair (.int .i64) (.pair (.pair (.sl zf (.sl zt tE)) (.pair (.sl zf (.int .i64)) (.pair (.sl zt (.pair .str .bool)) (.pair (.sl zf (.int .i64)) (.int .i64))))) (.pair (.pair .bool (.pair .str .bool)) (.pair (.sl zt tE) (.int .i64)))))) (.int .i64))
theorem w7{s:Va}(h:SJ tJb s):∀ rs∈s.1.2,∀ r∈rs,r.2.length<=9223372036854775807:=by
 obtain⟨⟨_,d,c⟩,_⟩:=h;exact λrs b r a=>((c rs b).2 r a).2.1
end
section
open Go Sv
set_option maxRecDepth 100000
theorem kI:YX=V4:=rfl
theorem kJ(l:List VY)(h:l.length<=1000000):YX (l,l)=zo zt:=by
 grind [kI,X2]
end
section
open Go Sv
end
section
open Go Sv
end
section
open Go Sv
def de(b:List VY)(e:VY):Bool:=b.any λy=>seq y.1 e.1
theorem cj{b:List VY}{e:VY}:de b e=zt <-> ∃ y∈b,y.1=e.1:=by
 simp_all[de,seq,List.any_eq_true]
def Zk(f:Wm):List VY:=f.1.2++(Lw f.2.1).filter λe=> !de f.1.2 e
def XK(f:Wm):List VY:=((Zk f).foldl Wz []).filter Vf
theorem ft{l:List VY}(a:(l.map (·.1)).Nodup){y:VY}(h:y∈l):Vv l y.1=zo y:=by
 induction l with
 |nil=>cases h
 |cons x l b=>
  rw[ee,gs]at a;rw[Vu]
  grind
theorem an:∀ {l:List VY} {p:Option Xk},Asc p l->(l.map (·.1)).Nodup
 |[],_,_=>by simp
 |x::l,p,h=>by
  rw[ee,gs];refine⟨λc=> ?_,an h.2⟩;obtain⟨y,a,b⟩:=eo.1 c;exact Zs (Zn h.2 y a) b.symm
theorem jq(L:Vb)(k:Xk):Vv (Lw L) k=(Wd (Vk L.2) k).filter Vf:=by
 have a:=λk=>bW k (Vk L.2) [] trivial;unfold Lw;rw[Xu Vf k (a []).1,(a k).2];rfl
theorem gA(L:Vb):Asc zn (Lw L):=YJ Vf (bW [] (Vk L.2) [] trivial).1
theorem cD(f:Wm):Asc zn (XK f):=YJ Vf (am [] (Zk f) [] trivial).1
theorem jr(f:Wm)(k:Xk):Vv (Zk f) k=(Vv f.1.2 k).or (Vv (Lw f.2.1) k):=by
 unfold Zk;rw[Zv];cases h:Vv f.1.2 k with
 |some e=>rfl
 |none=>
  rw[r7,r7,Xu _ k (gA _)];cases a:Vv (Lw f.2.1) k with
  |none=>rfl
  |some e=>
   have g:=(dC a).1
   have:de f.1.2 e=zf:=by
    cases b:de f.1.2 e with
    |false=>rfl
    |true=>
     obtain⟨y,c,d⟩:=cj.1 b
     grind [Vv]
   simp_all
theorem dD(f:Wm)(k:Xk):Vv (XK f) k=((Vv f.1.2 k).or (Wd (Vk f.2.1.2) k)).filter Vf:=by
 unfold XK;rw[Xu Vf k (am k (Zk f) [] trivial).1,(am k (Zk f) [] trivial).2,jr,jq];show(((zn:Option VY)).or _).filter Vf=_
 simp_all
end
section
open Go Sv
theorem rH{α β γ σ S:Type}{l:List α}(mk:Nat->σ->S)(I:List α->Nat->σ->Prop)(Q:β->Prop){f:S->Option (LR S β)}{s:S}{K:β->Option γ}{R:Option γ}(a:σ)(c:s=mk 0 a)(g:l.length<=9223372036854775807)(hi:I l 0 a)
  (h:∀ a,I [] l.length a -> ∃ r,f (mk l.length a)=zo (.dn r)/\Q r)
  (hc:∀ k x m a,l.drop k=x::m->l[k]?=zo x->k<l.length->I (x::m) k a->(∃ b,f (mk k a)=zo (.nx (mk (k+1) b))/\I m (k+1) b) \/ ∃ r,f (mk k a)=zo (.dn r)/\Q r) (d:∀ r,Q r->K r=R):bd (loop f s) K=R:=by
 obtain⟨r,e,q⟩:=Xd mk I Q a c g hi h hc;rw[e];exact d r q
end
section
open Go Sv
theorem fT(x:VY):∀ {l:List VY},(∀ y∈l,y.1≠x.1)->(Wz l x).length=l.length+1 /\ ∀ y,y∈Wz l x<->y=x\/y∈l
 |[],_=>by unfold Wz;simp
 |z::l,h=>by
  unfold Wz;obtain⟨a,b⟩:=fT x (l:=l) λy c=>h y (by simp[c])
  grind
theorem fq:∀ {R l:List VY},(R.map (·.1)).Nodup->(∀ x∈R,∀ y∈l,y.1≠x.1)->(R.foldl Wz l).length=l.length+R.length /\ ∀ y,y∈R.foldl Wz l<->y∈l\/y∈R
 |[],l,_,_=>⟨rfl,λy=>by simp⟩
 |x::R,l,hn,hd=>by
  rw[ee,gs]at hn;obtain⟨a,b⟩:=fT x (l:=l) (hd x (by simp))
  obtain⟨c,d⟩:=fq (R:=R) (l:=Wz l x) hn.2 λz f y e=>by
   grind
  grind
structure Srt (R T:List VY):Prop where
 len:T.length=R.length
 asc:Asc zn T
 mem:∀ y,y∈T<->y∈R
theorem vz{R:List VY}(h:(R.map (·.1)).Nodup):Srt R (R.foldl Wz []):=by
 obtain⟨a,b⟩:=fq (R:=R) (l:=[]) h (λ_ _ _ h=>by cases h);exact⟨by grind,(am [] R [] trivial).1,λy=>by rw[b];simp⟩
def later(o:List VY)(y:VY):Prop:=∀ z,o.getLast?=zo z->UB z.1 y.1=zt
structure Best (R o:List VY) (c:Nat) (y:VY):Prop where
 at':R[c]?=zo y
 lt:later o y
theorem eM{T:List VY}{n:Nat}(a:n<=T.length){z:VY}(h:(T.take n).getLast?=zo z):∃ m,n=m+1/\T[m]?=zo z:=by
 grind
theorem gZ{R T:List VY}(s:Srt R T){n:Nat}(a:n<T.length):later (T.take n) T[n]/\T[n]∈R /\ ∀ y∈R,later (T.take n) y->UB y.1 T[n].1=zf:=by
 refine⟨λz b=> ?_,(s.mem _).1 (rz a),λy j g=> ?_⟩
 ·obtain⟨m,rfl,c⟩:=eM (by omega) b;exact eQ s.asc (Nat.lt_succ_self m) c (ci a)
 ·obtain⟨i,hi⟩:=co ((s.mem y).2 j);by_cases h:i<n
  ·exfalso
   have d:T.take n≠[]:=λe=>by
    grind [rY,eb]
   obtain⟨z,b⟩:∃ z,(T.take n).getLast?=zo z:=⟨_,List.getLast?_eq_some_getLast d⟩;have f:=g z b;obtain⟨m,rfl,c⟩:=eM (by omega) b;by_cases e:i=m
   ·simp_all[Wu]
   ·have:=eQ s.asc (show i<m by omega) hi c;rw[WR this]at f;cases f
  ·by_cases e:i=n
   ·subst e;rw[ci a]at hi;cases hi;exact Wu _
   ·exact WR (eQ s.asc (show n<i by omega) (ci a) hi)
theorem vw{R T:List VY}(s:Srt R T){n:Nat}(c:n<T.length){y:VY}(d:y∈R)(j:later (T.take n) y)(k:∀ z∈R,later (T.take n) z->UB z.1 y.1=zf):y=T[n]:=by
 obtain⟨f,g,i⟩:=gZ s c;have a:=k _ g f;have b:=i y d j
 have e:y.1=T[n].1:=by
  rcases aO y.1 T[n].1 with h|h|h<;>simp_all
 have n1:=an s.asc;have l:=ft n1 ((s.mem y).2 d);have m:=ft n1 (rz c)
 simp_all
def BInv(R o:List VY)(i:Nat)(b:Int):Prop:=
 (b = -1 /\ ∀ j<i,∀ y,R[j]?=zo y -> ¬ later o y) \/ ∃ (c:Nat) (y:VY),b=(c:Int)/\c<i/\R[c]?=zo y/\later o y /\ ∀ j<i,∀ z,R[j]?=zo z->later o z->UB z.1 y.1=zf
theorem BInv.skip{R o:List VY}{i:Nat}{b:Int}{x:VY}(h:BInv R o i b)(q:R[i]?=zo x)(p:¬ later o x):BInv R o (i+1) b:=by
 have key:∀ j<i+1,∀ z,R[j]?=zo z->later o z->j<i:=λj d z f a=>by
  grind
 rcases h with⟨e,g⟩|⟨c,y,e,g,l,m,n⟩
 ·exact .inl ⟨e,λj d y k a=>g j (key j d y k a) y k a⟩
 ·exact .inr ⟨c,y,e,by omega,l,m,λj d z f a=>n j (key j d z f a) z f a⟩
theorem BInv.first{R o:List VY}{i:Nat}{x:VY}(h:BInv R o i (-1))(a:R[i]?=zo x)(d:later o x):BInv R o (i+1) (i:Int):=by
 rcases h with⟨_,k⟩|⟨c,y,g,_⟩
 ·refine .inr ⟨i,x,rfl,by omega,a,d,λj l z b f=> ?_⟩;by_cases e:j=i
  ·subst e;rw[a]at b;cases b;exact Wu _
  grind
 ·omega
theorem BInv.better{R o:List VY}{i c:Nat}{x y:VY}(h:BInv R o i (c:Int))(b:R[i]?=zo x)(k:later o x)(m:R[c]?=zo y)(hs:UB x.1 y.1=zt):BInv R o (i+1) (i:Int):=by
 rcases h with⟨g,_⟩|⟨f,s,g,n,a,p,q⟩
 ·omega
 ·obtain rfl:c=f:=by omega
  rw[m]at a;cases a;refine .inr ⟨i,x,rfl,by omega,b,k,λj r z d l=> ?_⟩;by_cases e:j=i
  ·subst e;rw[b]at d;cases d;exact Wu _
  grind [Wq]
theorem BInv.stay{R o:List VY}{i c:Nat}{x y:VY}(h:BInv R o i (c:Int))(n:R[i]?=zo x)(b:R[c]?=zo y)(hs:UB x.1 y.1=zf):BInv R o (i+1) (c:Int):=by
 rcases h with⟨e,_⟩|⟨d,q,e,k,a,f,l⟩
 ·omega
 ·obtain rfl:c=d:=by omega
  rw[b]at a;cases a;refine .inr ⟨c,y,rfl,by omega,b,f,λj m z p g=> ?_⟩
  grind
theorem mQ{R T:List VY}(s:Srt R T)(hR:R.length<=500000){γ:Type}{K:Nat×(List VY×Unit)->Option γ}{Q:Option γ}(hk:∀ r:Nat×(List VY×Unit),r.2.1=T->K r=Q) :
  bd (loop (λ(d:(List VY))=>br (Uv (d.length:Int) (R.length:Int)) (λ_=>bd (loop (β:=Nat×((Int×Int)×Unit)) (λa=>br (Uv a.2 (R.length:Int)) (λ_=>br (PW (d.length:Int) 0) (λ_=>br (Uv a.1 0) (λ_=>zo (.nx (a.2,Tk .i64 a.2 1))) λ_=>TS a.2 λe=>gd (JJ e R.length) λ_=>ix R e λp=>TS a.1 λf=>gd (JJ f R.length) λ_=>ix R f λq=>br (UB p.1 q.1) (λ_=>zo (.nx (a.2,Tk .i64 a.2 1))) λ_=>zo (.nx (a.1,Tk .i64 a.2 1))) λ_=>TS a.2 λE=>gd (JJ E R.length) λ_=>ix R E λY=>TS (Tp .i64 (d.length:Int) 1) λF=>gd (JJ F d.length) λ_=>ix d F λZ=>br (UB Z.1 Y.1) (λ_=>br (Uv a.1 0) (λ_=>zo (.nx (a.2,Tk .i64 a.2 1))) λ_=>TS a.2 λG=>gd (JJ G R.length) λ_=>ix R G λx22=>TS a.1 λI=>gd (JJ I R.length) λ_=>ix R I λx24=>br (UB x22.1 x24.1) (λ_=>zo (.nx (a.2,Tk .i64 a.2 1))) λ_=>zo (.nx (a.1,Tk .i64 a.2 1))) λ_=>zo (.nx (a.1,Tk .i64 a.2 1))) λ_=>zo (.dn ((0,(a,()))))) (((-1),0))) λX=>TS X.2.1.1 λJ=>gd (JJ J R.length) λ_=>ix R J λM=>gd (B5 (A0 d.length [M].length) 1048576) λ_=>zo (.nx (Ir d [M]))) λ_=>zo (.dn ((0,(d,()))))) []) K=Q:=by
 have B:=s.len;refine rG (λo=>∃ n,o=T.take n/\n<=T.length) (λr=>r.2.1=T) (λo=>R.length-o.length) ⟨0,by simp,by omega⟩ (by simp;omega) ?_ hk;rintro o ⟨n,rfl,hn⟩;have hl:(T.take n).length=n:=by simp_all
 by_cases h:n<T.length;rotate_left
 ·have S:n=T.length:=by omega
  subst S;refine .inr ⟨(0,(T.take T.length,())),?_,by simp⟩;rw[hl,B,re];rfl
 refine .inl ⟨T.take (n+1),?_,⟨n+1,rfl,by omega⟩,by grind⟩;rw[hl,VE,zy (by omega)]
 have N:∀ y:VY,later (T.take n) y<->n=0 \/ ∃ z,T[n-1]?=zo z/\UB z.1 y.1=zt:=λy=>by
  constructor
  ·intro U;by_cases h0:n=0
   ·omega
   ·refine .inr ⟨T[n-1]'(by omega),ci _,U _ ?_⟩
    grind
  ·rintro (h0|⟨z,O,g⟩) w hw
   all_goals grind
 refine rH (l:=R) (σ:=Int) (λi b=>(b,(i:Int))) (λ_ i b=>BInv R (T.take n) i b) (λ(r:Nat×((Int×Int)×Unit))=>BInv R (T.take n) R.length r.2.1.1) (-1) rfl (by omega) (.inl ⟨rfl,λj hj=>by omega⟩) ?_ ?_ ?_
 ·intro b t;exact⟨_,by simp only;rw[re];rfl,t⟩
 ·intro i x m b hd u hi t;refine .inl ?_;simp only;have A:Tk .i64 (i:Int) 1=((i+1:Nat):Int):=Ve (by omega)
  have pick:later (T.take n) x -> ∃ L,(br (Uv b 0) (λ_=>zo (LR.nx (β:=Nat×((Int×Int)×Unit)) ((i:Int),Tk .i64 (i:Int) 1))) λ_=>TS (i:Int) λe=>gd (JJ e R.length) λ_=>ix R e λp=>TS b λf=>gd (JJ f R.length) λ_=>ix R f λq=>br (UB p.1 q.1) (λ_=>zo (.nx ((i:Int),Tk .i64 (i:Int) 1))) λ_=>zo (.nx (b,Tk .i64 (i:Int) 1)))=zo (LR.nx (L,((i+1:Nat):Int)))/\BInv R (T.take n) (i+1) L:=λC=>by
   rw[VE,A];rcases t with⟨rfl,g⟩|⟨c,y,rfl,g,k,P,h5⟩
   ·rw[zy (by omega)];exact⟨_,rfl,BInv.first (.inl ⟨rfl,g⟩) u C⟩
   ·have hB:BInv R (T.take n) i (c:Int):=.inr ⟨c,y,rfl,g,k,P,h5⟩;rw[zx (by omega),VZ,bE hi,U0 u,VZ,bE (by omega),U0 k,Yi];by_cases hs:UB x.1 y.1=zt
    ·rw[zy hs];exact⟨_,rfl,hB.better u C k hs⟩
    ·rw[zx hs];exact⟨_,rfl,hB.stay u k (by grind)⟩
  rw[rl hi,UN,VA];by_cases h0:n=0
  ·grind
  ·have hz:T[n-1]?=zo (T[n-1]'(by omega)):=ci _;have W:(T.take n)[n-1]?=zo (T[n-1]'(by omega)):=by grind
   have D:Tp .i64 (n:Int) 1=((n-1:Nat):Int):=by rw[UU (by omega)];omega
   rw[zx (by omega),VZ,bE hi,U0 u,D,VZ,bE (by omega),U0 W,Yi];by_cases hs:UB (T[n-1]'(by omega)).1 x.1=zt
   ·grind
   ·rw[zx hs,A];refine⟨b,rfl,BInv.skip t u λhl2=> ?_⟩<;>grind
 ·rintro r t;obtain⟨t1,t2,t3⟩:=gZ s h;rcases t with⟨O,g⟩|⟨c,y,O,g,k,P,h5⟩
  ·obtain⟨j,hj⟩:=co t2
   grind
  ·have U:=vw s h (List.mem_of_getElem? k) P λz hz hlz=>by
    obtain⟨j,hj⟩:=co hz
    grind
   rw[O,VZ,bE g,U0 k,Vz (by simp[A0];omega),U]
   grind [Ir,ey,ci]
end
section
open Go Sv
theorem jv{L:Vb}:(Lw L).length<=Vw L.2.flatten:=by
 unfold Lw;have a:=cu (Vk L.2) [];have b:=s8 Vf (cb (Vk L.2) []);have c:=(Xw L.2).1
 grind
theorem gR{f:Wm}(h:Asc zn f.1.2):((Zk f).map (·.1)).Nodup:=by
 unfold Zk;rw[xo,o4];refine⟨an h,an (YJ _ (gA _)),λa g b i e=> ?_⟩;obtain⟨y,c,j⟩:=eo.1 g;obtain⟨z,d,k⟩:=eo.1 i;have l:=(pg.1 d).2;have:de f.1.2 z=zt:=cj.2 ⟨y,c,by grind⟩
 simp_all
theorem lO{b R:List VY}(n:b.length<=1000){i:Nat}{e:VY}(o:R[i]?=zo e){γ:Type}{K:Nat×((Int×Bool)×Unit)->Option γ}{Q:Option γ}(a:∀ r:Nat×((Int×Bool)×Unit),r.2.1.2=de b e->K r=Q) :
  bd (loop (β:=Nat×((Int×Bool)×Unit)) (λs2=>br (Uv s2.1 (b.length:Int)) (λ_=>br s2.2 (λ_=>zo (.nx (Tk .i64 s2.1 1,zt))) λ_=>TS s2.1 λd=>ix b d λg=>TS (i:Int) λf=>ix R f λj=>zo (.nx (Tk .i64 s2.1 1,seq g.1 j.1))) λ_=>zo (.dn ((0,(s2,()))))) (0,zf)) K=Q:=by
 refine rH (l:=b) (σ:=Bool) (λk h=>((k:Int),h)) (λm _ h=>(h||de m e)=de b e) (λr=>r.2.1.2=de b e) zf rfl (by omega) (by simp) ?_ ?_ a
 ·intro h c;exact⟨_,by simp only;rw[re];rfl,by simpa[de]using c⟩
 ·intro k x m h hd p a c;refine .inl ?_;simp only;rw[rl a,UN,VM,Ve (by omega)];cases h with
  |true=>
   simp_all
  |false=>
   simp_all[zx,VZ,U0,de]
theorem fQ{f:Wm}(t:V8 f=0)(hc:Vw f.2.1.2.flatten<=2000):ZD f=zo (XK f):=by
 obtain⟨F,v,I⟩:=YO t;have h:=lE F;have A:=h.len;have z:=h.m2;have B:(Lw f.2.1).length<=Vw f.2.1.2.flatten:=jv
 have w:(Zk f).length<=2016:=by
  grind [Zk,List.length_append]
 have s:=vz (gR (f:=f) h.asc);obtain⟨T,n⟩:∃ T,T=(Zk f).foldl Wz []:=⟨_,rfl⟩;rw[<- n]at s;have y:=s.len;have u:XK f=T.filter Vf:=by unfold XK;rw[n]
 rw[u];unfold ZD;simp only[Vd,Vc];rw[Vz (by omega),ud v.lev,Ug];refine rH (l:=Lw f.2.1) (σ:=List VY) (λi o=>(o,(i:Int))) (λm i o=>o++m.filter (λe=> !de f.1.2 e)=Zk f/\o.length<=16+i) (λ(r:Nat×((List VY×Int)×Unit))=>r.2.1.1=Zk f) f.1.2 rfl (by omega) ⟨rfl,by omega⟩ ?_ ?_ ?_
 ·rintro o ⟨b,g⟩;exact⟨_,by simp only;rw[re];rfl,by grind⟩
 ·rintro i e m o hd p hi ⟨b,g⟩;refine .inl ?_;simp only;rw[rl hi,UN]
  have key:∃ a,(br (IR (de f.1.2 e)) (λ_=>TS (i:Int) λE=>ix (Lw f.2.1) E λq=>gd (B5 (A0 o.length [q].length) 1048576) λ_=>zo (LR.nx (β:=Nat×((List VY×Int)×Unit)) (Ir o [q],Tk .i64 (i:Int) 1))) λ_=>zo (.nx (o,Tk .i64 (i:Int) 1)))=zo (LR.nx (a,((i+1:Nat):Int)))/\a++m.filter (λe=> !de f.1.2 e)=Zk f/\a.length<=16+(i+1):=by
   rw[oj]at b;rw[WH,VM,Ve (by omega)];cases d:de f.1.2 e with
   |true=>
    grind
   |false=>
    rw[d,zy (by simp)]at b;rw[zx (by simp),VZ,U0 p,Vz (by simp[A0];omega)];exact⟨o++[e],rfl,by grind,by simp;omega⟩
  obtain⟨a,G,D⟩:=key;refine⟨a,?_,D⟩;refine lO (by omega) p λr c=> ?_
  simp_all
 ·intro r c;rw[c];refine mQ s (by omega) λr c=> ?_;rw[c];refine rH (l:=T) (σ:=List VY) (λk o=>((k:Int),o)) (λm k o=>o++m.filter Vf=T.filter Vf/\o.length<=k) (λ(r:Nat×((Int×List VY)×Unit))=>r.2.1.2=T.filter Vf) [] rfl (by omega) ⟨rfl,by simp⟩ ?_ ?_ ?_
  ·rintro o ⟨b,g⟩;exact⟨_,by simp only;rw[re];rfl,by grind⟩
  ·rintro k x m o hd d j ⟨b,g⟩;refine .inl ?_;simp only;rw[oj]at b;rw[rl j,UN,VZ,bE j,U0 d,WH,VM,Ve (by omega)];cases C:x.2.2.1 with
   |true=>
    rw[zx (by unfold Vf;grind)]at b
    grind
   |false=>
    rw[zy (by unfold Vf;grind)]at b;rw[zx (by simp),VZ,bE j,U0 d,Vz (by simp[A0];omega)];exact⟨o++[x],rfl,by grind,by simp;omega⟩
  simp_all
end
section
open Go Sv
theorem iG{L:Vb}(v:VLev L):YH L=zo (Vk L.2,0):=by
 obtain⟨e,b⟩:=v.small;have g:=v.len;unfold YH;simp only[Vd,Vc];rw[ZY _ e b,Yh v,Ug,VF,zy rfl]
 rw[WQ (l:=L.2) (σ:=List Vt) (s:=((0:Int),([]:List Vt))) (λi m=>((i:Int),m)) (λls i m=>(∀ rs∈ls,rs.length<=2)/\m.length<=2*i) (λls _ m=>(0,(((L.2.length:Int),m++Vk ls),()))) [] rfl (by omega) ⟨v.two,by simp⟩ (λm _=>by
  simp_all[re,Ta,Vk]) (λi rs ls m hd d hi h=>by
   refine⟨m++rs.reverse,?_,⟨λr b=>h.1 r (by simp[b]),by grind⟩,by simp[Vk]⟩;have f:=h.1 rs (by simp);have j:m.length<=24:=by omega
   simp only;rw[rl hi,UN,VZ,U0 d]
   rw[jQ (r:=(0,(((-1:Int),m++rs.reverse),()))) (λk n=>(k,m++(rs.drop n).reverse)) rs.length (by simp[Tp,IntKind.wrap,IntKind.bits,IntKind.signed];omega) (by omega) (λk c=>by
    obtain⟨x,a⟩:∃ x,rs[k]?=zo x:=⟨rs[k],ci c⟩;simp only;rw[VB,zy (by omega),VZ,U0 a,Vz (by simp[A0];omega)];have e1:rs.drop k=x::rs.drop (k+1):=by rw[List.drop_eq_getElem_cons c,(a8.1 a).2]
    simp[e1,Tp,Ir,IntKind.wrap,IntKind.bits,IntKind.signed];omega) (by
    simp only
    rw[VB,zx (by omega)];simp)]
   rw[Ug,Vi d (by omega)])]
 simp[Ug]
end
section
open Go Sv
def Xy(a:List VY)(x:VY):List VY:=if de a x then a else a++[x]
def mK(a:List VY):List Vj:=a.map λx=>(x.1,zt)
theorem gV(a b:Xk):seq a b=seq b a:=by rw[aJ,aJ];simp[eq_comm]
theorem lg(x:VY):∀ c:List VY,Tv (NJ (λa=>λb=>seq a b) (mK c) x.1) zf=de c x
 |[]=>rfl
 |y::c=>by
  have d:=lg x c;simp only[mK,ee,NJ,de,s7]at d ⊢;rw[gV y.1 x.1];cases seq x.1 y.1 with
  |true=>rfl
  |false=>simpa using d
theorem lj(x:VY):∀ c:List VY,de c x=zf->I2 (λa=>λb=>seq a b) (mK c) x.1 zt=mK (c++[x])
 |[],_=>rfl
 |y::c,h=>by
  simp only[de,s7,Bool.or_eq_false_iff]at h;have d:=lj x c h.2;simp only[mK,ee,I2,xl]at d ⊢;rw[gV x.1 y.1,h.1,zj,d]
theorem fU(a:List VY)(x:VY):(Xy a x).length<=a.length+1:=by unfold Xy;split<;>simp
theorem Zu:∀ (l a:List VY),(l.foldl Xy a).length<=a.length+l.length
 |[],_=>by simp
 |x::l,a=>by
  have b:=Zu l (Xy a x);have c:=fU a x;simp only[gM,List.length_cons];omega
theorem jf(c:List VY)(x:VY)(i:Int)(d:c.length<=1000000) :
  (br (IR (Tv (NJ (λa=>λb=>seq a b) (mK c) x.1) zf)) (λ_=>gd (B5 (A0 (AQ c) (AQ [x])) 1048576) λ_=>zo (LR.nx (β:=Nat×(Int×(List Vj×List VY))×Unit) ((i,(I2 (λa=>λb=>seq a b) (mK c) x.1 zt,Ir c [x]))))) λ_=>zo (.nx (i,(mK c,c))))
   = zo (.nx (i,(mK (Xy c x),Xy c x))):=by
 rw[lg,WH];cases h:de c x with
 |true=>simp[Xy,h,UN]
 |false=>
  rw[Ta,Vz (by simp[A0,AQ];omega),lj x c h];simp[Xy,h,Ir]
theorem dz(l c:List VY)(m:c.length+l.length<=1000000){f:Int×(List Vj×List VY)->Option (LR (Int×(List Vj×List VY)) (Nat×(Int×(List Vj×List VY))×Unit))}
  (g:∀ s1,f s1=br (Uv s1.1 (l.length:Int)) (λ_=>TS s1.1 λk=>ix l k λe=>br (IR (Tv (NJ (λa=>λb=>seq a b) s1.2.1 e.1) zf)) (λ_=>gd (B5 (A0 (AQ s1.2.2) (AQ [e])) 1048576) λ_=>zo (.nx ((Tk .i64 s1.1 1,(I2 (λa=>λb=>seq a b) s1.2.1 e.1 zt,Ir s1.2.2 [e]))))) λ_=>zo (.nx (Tk .i64 s1.1 1,s1.2))) λ_=>zo (.dn ((0,(s1,()))))) :
  loop f ((0:Int),(mK c,c))=zo (0,(((l.length:Int),(mK (l.foldl Xy c),l.foldl Xy c)),())):=by
 exact WQ (f:=f) (l:=l) (σ:=List VY) (λi d=>((i:Int),(mK d,d))) (λls i d=>d.length<=c.length+i) (λls _ d=>(0,(((l.length:Int),(mK (ls.foldl Xy d),ls.foldl Xy d)),()))) c rfl (by omega) (by omega) (λd _=>by
  rw[g];simp[re,Ta]) (λi x ls d hd j hi h=>by
   have:=fU d x;refine⟨Xy d x,?_,by omega,rfl⟩;rw[g];simp only
   rw[rl hi,UN,VZ,U0 j,jf d x _ (by omega),Vi j (by omega)])
def aS(f:Wm):List VY:=(Vk f.2.1.2).foldl (λa r=>r.2.foldl Xy a) (f.1.2.foldl Xy [])
theorem dX:∀ (rs:List Vt) (a:List VY),(rs.foldl (λa r=>r.2.foldl Xy a) a).length<=a.length+Vw rs
 |[],_=>by simp
 |r::rs,a=>by
  have b:=dX rs (r.2.foldl Xy a);have c:=Zu r.2 a;simp only[gM,XD];omega
theorem lu(rs:List Vt)(c:List VY)(p:c.length+Vw rs<=1000000)(t:rs.length<=1000000){f:Int×(List Vj×List VY)->Option (LR (Int×(List Vj×List VY)) (Nat×(Int×(List Vj×List VY))×Unit))}
  (n:∀ e:Int×(List Vj×List VY),f e=br (Uv e.1 (rs.length:Int)) (λ_=>TS e.1 λk=>ix rs k λg=>bd (loop (λ(s1:Int×(List Vj×List VY))=>br (Uv s1.1 (g.2.length:Int)) (λ_=>TS s1.1 λq=>ix g.2 q λj=>br (IR (Tv (NJ (λa=>λb=>seq a b) s1.2.1 j.1) zf)) (λ_=>gd (B5 (A0 (AQ s1.2.2) (AQ [j])) 1048576) λ_=>zo (.nx ((Tk .i64 s1.1 1,(I2 (λa=>λb=>seq a b) s1.2.1 j.1 zt,Ir s1.2.2 [j]))))) λ_=>zo (.nx (Tk .i64 s1.1 1,s1.2))) λ_=>zo (.dn ((0,(s1,()))))) (0,e.2)) λm=>zo (.nx (Tk .i64 e.1 1,m.2.1.2))) λ_=>zo (.dn ((0,(e,()))))) :
  loop f ((0:Int),(mK c,c))=zo (0,(((rs.length:Int),(mK (rs.foldl (λc r=>r.2.foldl Xy c) c),rs.foldl (λc r=>r.2.foldl Xy c) c)),())):=by
 exact WQ (f:=f) (l:=rs) (σ:=List VY) (λi d=>((i:Int),(mK d,d))) (λls i d=>d.length+Vw ls<=1000000) (λls _ d=>(0,(((rs.length:Int),(mK (ls.foldl (λc r=>r.2.foldl Xy c) d),ls.foldl (λc r=>r.2.foldl Xy c) d)),()))) c rfl (by omega) p (λd _=>by
  rw[n];simp[re,Ta]) (λi x ls d hd o hi h=>by
   have s:=Zu x.2 d;rw[XD]at h;refine⟨x.2.foldl Xy d,?_,by omega,rfl⟩;rw[n];simp only
   rw[rl hi,UN,VZ,U0 o,dz x.2 d (by omega) (λ_=>rfl),Ug,Vi o (by omega)])
theorem cy(k:Xk):∀ (l a:List VY),Vv (l.foldl Xy a) k=(Vv a k).or (Vv l k)
 |[],a=>by
  show Vv a k=(Vv a k).or zn;simp
 |x::l,a=>by
  rw[gM,cy k l,Vu];unfold Xy;split
  ·rename_i h;obtain⟨y,b,c⟩:=cj.1 h;split
   ·rename_i e
    have:∃ z,Vv a k=zo z:=by
     cases d:Vv a k with
     |some z=>exact⟨z,rfl⟩
     |none=>exact absurd (c.trans e) (by have:=List.find?_eq_none.1 d y b;simpa using this)
    obtain⟨z,f⟩:=this;simp[f]
   ·rfl
  ·rw[Zv,ZE];cases Vv a k<;>split<;>simp
theorem bL:∀ (l c:List VY),(c.map (·.1)).Nodup->((l.foldl Xy c).map (·.1)).Nodup
 |[],_,h=>h
 |x::l,c,h=>by
  rw[gM];refine bL l _ ?_;unfold Xy;split
  ·exact h
  ·rename_i j;rw[xo,o4];refine⟨h,by simp,λa i b d e=>j ?_⟩;obtain⟨y,f,g⟩:=eo.1 i;simp only[ee,List.map_nil,List.mem_singleton]at d;exact cj.2 ⟨y,f,by rw[g,e,d]⟩
theorem cz:∀ (l a:List VY) (x:VY),x∈l.foldl Xy a->x∈a\/x∈l
 |[],_,_,h=>.inl h
 |y::l,a,x,h=>by
  rw[gM]at h;rcases cz l _ x h with h|h
  ·unfold Xy at h;split at h
   ·exact .inl h
   ·rcases List.mem_append.1 h with h|h
    ·exact .inl h
    ·exact .inr (by simp_all)
  ·exact .inr (by simp[h])
theorem gS(k:Xk):∀ (rs:List Vt) (a:List VY),Vv (rs.foldl (λa r=>r.2.foldl Xy a) a) k=(Vv a k).or (Wd rs k)
 |[],a=>by
  show Vv a k=(Vv a k).or zn;simp
 |r::rs,a=>by
  rw[gM,gS k rs,cy,Option.or_assoc];rfl
theorem dY:∀ (rs:List Vt) (a:List VY),(a.map (·.1)).Nodup->((rs.foldl (λa r=>r.2.foldl Xy a) a).map (·.1)).Nodup
 |[],_,h=>h
 |r::rs,a,h=>dY rs _ (bL r.2 a h)
theorem gT:∀ (rs:List Vt) (a:List VY) (x:VY),x∈rs.foldl (λa r=>r.2.foldl Xy a) a->x∈a \/ ∃ r∈rs,x∈r.2
 |[],_,_,h=>.inl h
 |r::rs,a,x,h=>by
  rcases gT rs _ x h with h|⟨q,b,c⟩
  ·rcases cz r.2 a x h with h|h
   ·exact .inl h
   ·exact .inr ⟨r,by simp,h⟩
  ·exact .inr ⟨q,by simp[b],c⟩
theorem ri(f:Wm)(k:Xk):Vv (aS f) k=(Vv f.1.2 k).or (Wd (Vk f.2.1.2) k):=by
 unfold aS;rw[gS,cy];rfl
theorem cK(f:Wm):((aS f).map (·.1)).Nodup:=dY _ _ (bL _ _ (by simp))
end
section
open Go Sv
theorem ff(a:VY):∀ {l:List VY} {p:Option Xk},Asc p l->(∀ q,p=zo q->UB q a.1=zt)->(∀ x∈l,x.1≠a.1)->Asc p (RQ a l)
 |[],_,_,c,_=>⟨c,trivial⟩
 |b::l,p,⟨g,d⟩,c,h2=>by
  unfold RQ;cases f:Op.bytesLess a.1 b.1 with
  |true=>exact⟨c,λq e=>by cases e;exact f,d⟩
  |false=>exact⟨g,ff a d (λq e=>by cases e;exact aN f λe=>h2 b (by simp) e.symm) λx h=>h2 x (by simp[h])⟩
theorem fh(a:VY)(k:Xk):∀ {l:List VY},(∀ x∈l,x.1≠a.1)->Vv (RQ a l) k=if a.1=k then zo a else Vv l k
 |[],_=>ZE a k
 |b::l,h2=>by
  unfold RQ;cases d:Op.bytesLess a.1 b.1 with
  |true=>exact Vu a (b::l) k
  |false=>
   show Vv (b::RQ a l) k=_;rw[Vu,fh a k λx c=>h2 x (by simp[c]),Vu];have:=h2 b (by simp);split<;>split<;>simp_all
theorem cx(a x:VY):∀ {l:List VY},x∈RQ a l<->x=a\/x∈l
 |[]=>by simp[RQ]
 |b::l=>by
  unfold RQ;cases Op.bytesLess a.1 b.1 with
  |true=>simp
  |false=>
   show x∈b::RQ a l<->_;rw[li,cx a x,li];exact or_left_comm
theorem Z8(x:VY):∀ {l:List VY},x∈KM l<->x∈l
 |[]=>Iff.rfl
 |a::l=>by rw[KM,cx,Z8 x,li]
theorem dy:∀ {l:List VY},(l.map (·.1)).Nodup->Asc zn (KM l) /\ ∀ k,Vv (KM l) k=Vv l k
 |[],_=>⟨trivial,λ_=>rfl⟩
 |a::l,h=>by
  rw[ee,gs]at h;obtain⟨c,d⟩:=dy h.2;have b:∀ x∈KM l,x.1≠a.1:=λx f e=>h.1 (eo.2 ⟨x,(Z8 x).1 f,e⟩);exact⟨ff a c (λq e=>by cases e) b,λk=>by rw[KM,fh a k b,d,Vu]⟩
theorem uu{x:VY}(h:kE x=0):VG x=zt:=by
 unfold kE at h;unfold VG
 repeat' split at h
 all_goals first|omega|skip
 rename_i d a e
 have b:(x.2.2.1 && !x.2.1.isEmpty)=zf:=by
  cases hd:x.2.2.1 with
  |false=>rfl
  |true=>cases c:x.2.1 with
   |nil=>rfl
   |cons=>exact absurd ⟨hd,by simp[c]⟩ a
 rw[b];simp;omega
theorem jJ:∀ {l:List VY},(l.map (·.1)).Nodup->SX l=zt
 |[],_=>rfl
 |a::l,h=>by
  rw[ee,gs]at h;simp only[SX,jJ h.2,Bool.and_true,Bool.not_eq_true'];rw[List.any_eq_false];intro b c e;exact h.1 (eo.2 ⟨b,c,by simpa using e⟩)
theorem lK{l:List VY}(a:∀ x∈l,kE x=0)(b:(l.map (·.1)).Nodup)(d:l.length<=1000000):SD l=zo (KM l):=by
 unfold SD;rw[show l.all VG=zt from List.all_eq_true.2 λx c=>uu (a x c),jJ b,show Nat.ble l.length 1048576=zt from by simp;omega];rfl
theorem lB{α β:Type}{m:Option α}{Q:α->Prop}{k:α->Option β}{y:Option β}(h:∃ r,m=zo r/\Q r)(a:∀ r,Q r->k r=y):bd m k=y:=by
 obtain⟨r,rfl,h⟩:=h;exact a r h
theorem gy(l:List VY)(d:l.length<=1000000){f:Int×Int->Option (LR (Int×Int) (Nat×(Int×Int)×Unit))}
  (c:∀ s:Int×Int,f s=br (Uv s.2 (l.length:Int)) (λ_=>TS s.2 λk=>gd (JJ k (AQ l)) λ_=>ix l k λx=>bd (WP x) λr=>br r (λ_=>zo (.dn ((0,((s.2,s.2),()))))) λ_=>zo (.nx (s.1,Tk .i64 s.2 1))) λ_=>zo (.dn ((1,(s,()))))) :
  ∃ r,loop f ((0:Int),(0:Int))=zo r/\((∃ i,i<l.length/\r=(0,(((i:Int),(i:Int)),()))/\(l.take i).filter Vf=l.take i /\ ∃ x,l[i]?=zo x/\Vf x=zf)\/((∃ s,r=(1,(s,())))/\l.filter Vf=l)):=
 Xd (l:=l) (σ:=Unit) (λk _=>((0:Int),(k:Int))) (λ_ k _=>(l.take k).filter Vf=l.take k) _
  () rfl (by omega) (by simp) (λ_ h=>by
   rw[c];exact⟨(1,(((0:Int),(l.length:Int)),())),by simp only[re,Ta],.inr ⟨⟨_,rfl⟩,by simpa using h⟩⟩) (λk x m e hd b hi h=>by
   rw[c];simp only;rw[rl hi,UN,VZ,bE (by simpa[AQ]using hi),U0 b];unfold WP;rw[Ug];cases a:x.2.2.1 with
   |true=>exact .inr ⟨_,rfl,.inl ⟨k,hi,rfl,h,x,b,by simp[Vf,a]⟩⟩
   |false=>
    refine .inl ⟨(),by rw[Ta,Vi b (by omega)],?_⟩;rw[ey,b]
    simp[List.filter_append,h,Vf,a])
theorem j8(l:List VY)(E:l.length<=1000000){b:Nat}(D:b<l.length)(t:(l.take b).filter Vf=l.take b){A:VY}(u:l[b]?=zo A)(p:Vf A=zf){f:Int×(Int×List VY)->Option (LR (Int×(Int×List VY)) (Nat×(Int×(Int×List VY))×Unit))}
  (z:∀ s:Int×(Int×List VY),f s=br (Uv s.2.1 (s.2.2.length:Int)) (λ_=>TS s.2.1 λk=>gd (JJ k (AQ s.2.2)) λ_=>ix s.2.2 k λx=>bd (WP x) λr=>br (IR r) (λ_=>TS s.1 λq=>gd (JJ q (AQ s.2.2)) λ_=>ix s.2.2 q λ_=>zo (.nx ((Tk .i64 s.1 1,(Tk .i64 s.2.1 1,lset s.2.2 q x))))) λ_=>zo (.nx ((s.1,(Tk .i64 s.2.1 1,s.2.2))))) λ_=>zo (.dn ((0,(s,()))))) :
  ∃ r,loop f ((b:Int),(Tk .i64 (b:Int) 1,l))=zo r /\ ∃ (i:Nat) (row:List VY),r=(0,(((i:Int),((l.length:Int),row)),()))/\i<l.length/\row.length=l.length/\row.take i=l.filter Vf:=
 Xd (l:=l.drop (b+1)) (σ:=Nat×List VY) (λk a=>((a.1:Int),(((b+1+k:Nat):Int),a.2)))
  (λ_ k a=>a.1<=b+k/\a.2.length=l.length/\a.2.take a.1=(l.take (b+1+k)).filter Vf/\a.2.drop (b+1+k)=l.drop (b+1+k)) _
  (b,l) (by rw[Ve (by omega)]) (by simp;omega) ⟨by omega,rfl,by rw[Nat.add_zero,ey,u];simp[List.filter_append,t,p],rfl⟩ (λa ⟨w,c,d,_⟩=>by
   rw[xm]at w d ⊢;rw[z];have e:b+1+(l.length-(b+1))=l.length:=by omega
   exact⟨(0,(((a.1:Int),((l.length:Int),a.2)),())),by simp only[e,c,re,Ta],a.1,a.2,rfl,by omega,c,by rw[d,e,List.take_length]⟩) (λk x m a hd j hi ⟨w,c,d,n⟩=>by
   rw[xm]at hi;rw[List.getElem?_drop]at j
   have B:a.2[b+1+k]?=zo x:=by
    rw[<- j];have:=congrArg (·[0]?) n;simpa using this
   have h:b+1+k<a.2.length:=by omega
   have o:∃ y,a.2[a.1]?=zo y:=⟨_,ci (by omega)⟩;obtain⟨y,C⟩:=o;rw[z];simp only;rw[show Uv ((b+1+k:Nat):Int) (a.2.length:Int)=zt from rl h,UN,VZ,bE (by simpa[AQ]using h),U0 B];unfold WP;rw[Ug,WH];cases g:x.2.2.1 with
   |true=>
    refine .inl ⟨a,by rw[UN,Ve (by omega)];simp[l5],by omega,c,?_,?_⟩
    ·rw[d,<- l5,ey,j];simp[List.filter_append,Vf,g]
    ·have:=congrArg (List.drop 1) n;simpa[l5]using this
   |false=>
    refine .inl ⟨(a.1+1,a.2.set a.1 x),?_,by simp only;omega,by simpa using c,?_,?_⟩
    ·rw[Ta,VZ,bE (by simp[AQ];omega),U0 C,Ve (by omega),Ve (by omega)];simp[lset,l5]
    ·simp only;rw[<- l5,ey (i:=b+1+k),j,List.filter_append,<- d,ey,List.take_set_of_le (ed _),List.getElem?_set_self (by omega)];simp[Vf,g]
    ·simp only;rw[List.drop_set_of_lt (by omega)];have:=congrArg (List.drop 1) n
     simpa[l5]using this)
end
section
open Go Sv
theorem au(f:Wm):KM ((aS f).filter Vf)=XK f:=by
 have i:(((aS f).filter Vf).map (·.1)).Nodup:=(cK f).sublist (List.filter_sublist.map _);obtain⟨d,g⟩:=dy i;refine cc d (cD f) λk=> ?_;rw[g,dD,<- ri];generalize h:aS f=l;have hd:=cK f;rw[h]at hd;clear i d g h
 induction l with
 |nil=>rfl
 |cons a l j=>
  rw[ee,gs]at hd;rw[oj,Vu];by_cases b:a.1=k
  ·rw[zy b];cases c:Vf a with
   |true=>rw[zy rfl,Vu,zy b];simp[oy,c]
   |false=>
    rw[zx (by simp)];simp only[oy,c,Bool.false_eq_true,if_false];refine ZU λx m e=>hd.1 (eo.2 ⟨x,(pg.1 m).1,e.trans b.symm⟩)
  ·rw[zx b];cases c:Vf a with
   |true=>rw[zy rfl,Vu,zx b];exact j hd.2
   |false=>rw[zx (by simp)];exact j hd.2
theorem lr{f:Wm}(a:V8 f=0):∀ x∈aS f,kE x=0:=by
 intro x g;obtain⟨j,v,k⟩:=YO a;rcases gT _ _ x g with h|⟨r,b,c⟩
 ·rcases cz _ _ x h with h|h
  ·cases h
  ·exact(lE j).ok x h
 ·obtain⟨rs,d,e⟩:=List.mem_flatMap.1 b;obtain⟨i,hi⟩:=co d;exact((v.lev.lev i rs hi).2 r (List.mem_reverse.1 e)).vl.ok x c
theorem jT{f:Wm}(b:V8 f=0)(hc:Vw f.2.1.2.flatten<=2000):f.1.2.length<=16/\(aS f).length<=2016:=by
 obtain⟨d,v,k⟩:=YO b;have a:=lE d;have h:=a.m1;have i:=a.m2;have j:=a.len;have e:=dX (Vk f.2.1.2) (f.1.2.foldl Xy []);have c:=Zu f.1.2 [];have g:=(Xw f.2.1.2).1;simp only[eb]at c;refine⟨by omega,?_⟩;unfold aS;omega
theorem ju(l:List VY)(n i:Nat)(z:VY)(hi:i<=l.length):(E9 l i (PA n z) n).take i=l.take i:=by
 unfold E9;rw[List.take_append_of_le_length (by simp;omega),List.take_take];simp
theorem qw{f:Wm}(d:V8 f=0)(hc:Vw f.2.1.2.flatten<=2000):Yc f=zo (XK f,0):=by
 obtain⟨B,v,C⟩:=YO d;obtain⟨z,n⟩:=jT d hc;have t:=(Xw f.2.1.2).1;have w:=Zg f.2.1.2 v.lev.two;have u:=v.lev.len;have q:=Zu f.1.2 [];simp only[eb]at q
 have b:∀ {β:Type} (k:List VY->Option β),bd (SD ((aS f).filter Vf)) k=k (XK f):=λk=>by
  rw[lK (λx m=>lr d x (pg.1 m).1) ((cK f).sublist (List.filter_sublist.map _)) (by have:=s8 Vf (aS f);omega),Ug,au]
 unfold Yc;rw[iG v.lev,Ug,VF,zy rfl];refine Vx (dz f.1.2 [] (by simp;omega) λ_=>rfl) ?_;refine Vx (lu (Vk f.2.1.2) (f.1.2.foldl Xy []) (by omega) (by omega) λ_=>rfl) ?_;refine lB (gy (aS f) (by omega) λ_=>rfl) λr l=> ?_;rcases l with⟨i,hi,rfl,e,x,m,hd⟩|⟨⟨s,rfl⟩,e⟩
 ·dsimp only;rw[show neq 0 0=zt from rfl,UN,VA,zx (by omega)];refine lB (j8 (aS f) (by omega) hi e m hd λ_=>rfl) λr l=> ?_;obtain⟨j,row,rfl,A,o,p⟩:=l;dsimp only;simp only[Vc];have c:A0 0 (QR j 0)=j:=by simp[A0,QR]
  have e1:(E9 row j (PA (QR row.length j) (([],([],(zf,0))):VY)) (QR row.length j)).length=row.length:=by
   simp[E9,PA,QR];omega
  have e2:Db (E9 row j (PA (QR row.length j) (([],([],(zf,0))):VY)) (QR row.length j)) 0 (A0 0 (QR j 0))=(aS f).filter Vf:=by
   rw[c,<- p];unfold Db;rw[List.drop_zero,Nat.sub_zero,ju _ _ _ _ (by omega)]
  have g:((aS f).filter Vf).length=j:=by rw[<- p,rY];omega
  have h:(XK f).length=j:=by rw[<- au,Ic,g]
  rw[VZ,Vz (ed _),Vz (by omega),show JJ j row.length=zt from by simp[JJ];omega,UN,Vz (by simp[A0,QR];omega),VZ,e1,Vz (by omega),Vz (by omega),show JJ 0 row.length=zt from by simp[JJ];omega,UN,Vz (by rw[c];omega),e2,b]
  have e3:∀ a:List VY,a.length=row.length->(E9 a 0 (XK f) (QR j 0)).length=row.length/\Db (E9 a 0 (XK f) (QR j 0)) 0 (A0 0 (QR j 0))=XK f:=λa y=>by
   rw[c];have:(XK f).take (QR j 0)=XK f:=List.take_of_length_le (by simp[QR];omega);unfold E9 Db;rw[this];refine⟨by simp;omega,?_⟩;simp[List.take_left' h]
  rw[(e3 _ e1).1,(e3 _ e1).2,Vz (by rw[c];omega)]
 ·dsimp only;rw[show neq 1 0=zf from rfl,Ta,VA,zy rfl];refine Eq.trans ?_ (b λr=>zo (r,0));rw[e];rfl
theorem ky{f:Wm}(a:Wp f=zo (V8 f))(hc:V8 f=0->Vw f.2.1.2.flatten<=2000):Yb f=zo (if V8 f=0 then(XK f,0)else([],V8 f)):=by
 unfold Yb;rw[a,Ug,VF];by_cases h:V8 f=0
 ·rw[zy h,qw h (hc h),Ug,zy h]
 ·rw[zx h,zx h]
end
section
open Go Sv
end
section
open Go Sv
abbrev FlJ:=Int×(List (List Vt)×(List Job×Int))
abbrev DbS:=FlJ×((Int×Int)×(Int×(FlJ×Int)))
def DAt(s0:Va)(T:Va×(Nat×Int))(k n:Nat)(m:Int)(s:Va):Prop:=
 Gd s0 s/\n+k<=1100000/\T=((Z4 k s).1,(n+(Z4 k s).2.1.length,(Z4 k s).2.2))/\((m=(k:Int)/\0<k)\/(m = -1-(n:Int)/\sL 2000 s<k))
theorem DAt.pos{s0 s:Va}{T:Va×(Nat×Int)}{k n:Nat}{m:Int}(a:DAt s0 T k n m s):∃ b,k=b+1:=by
 obtain⟨_,_,_,h⟩:=a;exact⟨k-1,by omega⟩
theorem DAt.none{s0 s:Va}{T:Va×(Nat×Int)}{k n:Nat}{m:Int}(a:DAt s0 T k n m s)(e:ZR s=4):T=(s,(n,0)):=by
 obtain⟨b,rfl⟩:=a.pos;rw[a.2.2.1];simp[Z4,e]
theorem DAt.fail{s0 s:Va}{T:Va×(Nat×Int)}{k n:Nat}{m:Int}(a:DAt s0 T k n m s)(c:ZR s≠4)(b:ZR s≠0):T=(s,(n,ZR s)):=by
 obtain⟨d,rfl⟩:=a.pos;rw[a.2.2.1];simp[Z4,c,b]
theorem DAt.step{s0 s:Va}{T:Va×(Nat×Int)}{k n:Nat}{m:Int}(a:DAt s0 T k n m s)(e:ZR s=0) :
  (m-1=0/\T=(ai s,(n+1,0)))\/(m-1≠0 /\ ∃ b,DAt s0 T b (n+1) (m-1) (ai s)):=by
 obtain⟨b,rfl⟩:=a.pos;obtain⟨g,j,h,l⟩:=a;obtain⟨_,_,_,_,_,_,_,f⟩:=Z1 g e;have o:=(jU g g.2.2 e).1
 have c:T=((Z4 b (ai s)).1,(n+1+(Z4 b (ai s)).2.1.length,(Z4 b (ai s)).2.2)):=by
  rw[h];simp[Z4,e];omega
 by_cases d:m-1=0
 ·refine .inl ⟨d,?_⟩;have i:b=0:=by omega
  rw[c,i];rfl
 ·refine .inr ⟨d,b,f,by omega,c,?_⟩;omega
def DEnd(T:Va×(Nat×Int))(r:Nat×(DbS×Unit)):Prop:=
 (T.2.2=0/\(r.2.1.2.1.1=0\/r.2.1.2.1.1=1)/\r.2.1.2.2.1=(T.2.1:Int)/\r.2.1.2.2.2.1=flS T.1)\/(T.2.2≠0/\r.2.1.2.1=(2,T.2.2))
theorem DEnd.fin{T:Va×(Nat×Int)}{r:Nat×(DbS×Unit)}(h:DEnd T r) :
  (br (PW r.2.1.2.1.1 0) (λ_=>zo ((((r.2.1.2.2.2.1.1,r.2.1.2.2.2.1.2.1),r.2.1.2.2.2.1.2.2),(r.2.1.2.2.1,(0:Int))))) λ_=>br (PW r.2.1.2.1.1 1) (λ_=>zo ((((r.2.1.2.2.2.1.1,r.2.1.2.2.2.1.2.1),r.2.1.2.2.2.1.2.2),(r.2.1.2.2.1,0)))) λ_=>zo ((((0,[]),([],0)),(0,r.2.1.2.1.2))))=zo (if T.2.2≠0 then(zS,(0,T.2.2))else(T.1,((T.2.1:Int),0))):=by
 rcases h with⟨a,h2,b,c⟩|⟨a,h2⟩
 ·rw[zx (by simp[a]),c,b,VA,VA];rcases h2 with h2|h2
  ·rw[zy h2];rfl
  ·rw[zx (by omega),zy h2];rfl
 ·rw[zy a,h2,VA,zx (show ¬ ((2:Int)=0) by decide),VA,zx (show ¬ ((2:Int)=1) by decide)];rfl
end
section
open Go Sv
def gW(s:Va):Bool×Int:=if(Vg s).2≠0 then(zf,(Vg s).2)else(decide (Vr 0 s.1.2=[]),0)
end
section
open Go Sv
end
section
open Go Sv
end
section
open Go Sv
theorem rR(f:Wm)(a:∀ rs∈f.2.1.2,∀ r∈rs,r.2.length<=9223372036854775807):∃ b,ac f=zo b/\(b=zf->Sm f.2/\(VLev f.2.1->Vw f.2.1.2.flatten<=40)/\f.1.2.length<=20):=by
 unfold ac;simp only[Vd,Vc]
 obtain⟨r,o,i⟩:=af (l:=f.1.2) (σ:=Unit) (s:=((0:Int),zf)) 25 (by omega) (λk _=>((k:Int),zf)) (λ_ _=>True) (λ(r:Nat×((Int×Bool)×Unit))=>r.1=1\/(r.1=0/\r.2.1.2=zt))
  (f:=λs0=>br (Uv s0.1 (f.1.2.length:Int)) (λ_=>br (Uv s0.1 25) (λ_=>TS s0.1 λm=>ix f.1.2 m λp=>br (Ut (NZ p.1:Int) 100) (λ_=>zo (.dn ((0,((s0.1,zt),()))))) λ_=>TS s0.1 λn=>ix f.1.2 n λq=>br (Ut (NZ q.2.1:Int) 100) (λ_=>zo (.dn ((0,((s0.1,zt),()))))) λ_=>zo (.nx (Tk .i64 s0.1 1,s0.2))) λ_=>zo (.dn ((1,(s0,()))))) λ_=>zo (.dn ((1,(s0,())))))
  () rfl trivial (λk _ h d _=>⟨_,(lJ (c:=25) h d _ _ _ rfl),.inl rfl⟩) (λk x _ a d _=>by
   simp only;have g:=(a8.1 a).1;rw[rl g,UN,show Uv (k:Int) 25=zt from bf d,UN,VZ,U0 a,VC,VZ,U0 a,VC,Ve (by omega)]
   repeat' split
   all_goals simp_all)
 rw[o,Ug,Uh];rcases i with i|⟨i,t⟩
 ·rw[zx (show ¬ r.1=0 by omega)];obtain⟨b,e,j⟩:=lL f.2 a;rw[e,Ug];cases b with
  |true=>exact⟨_,rfl,λh=>by cases h⟩
  |false=>
   refine⟨_,rfl,λh=>⟨(j rfl).1,(j rfl).2,?_⟩⟩
   grind [Ut]
 simp_all
theorem lM:ab=ac:=rfl
end
section
open Go Sv
end
section
open Go Sv
theorem rF(u:Unit):Yq u=zo zt:=rfl
end
end Go.Proofs.YtoefnfbpoabinaaGreatDoor.Pl
