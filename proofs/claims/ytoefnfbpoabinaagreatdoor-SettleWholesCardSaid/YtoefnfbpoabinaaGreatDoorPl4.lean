/- Functions of the program and of the specification as plain functions, and laws about them. No condition. -/
import Derived.Test.YtoefnfbpoabinaaGreatDoorPl3
import Derived.KernelRfl
set_option linter.all false
open List renaming any_cons->vL, cons_append->ya, filter_cons->oy, foldl_cons->hI, getElem?_eq_getElem->ci, getElem?_eq_some_iff->a8, getElem?_of_mem->co, getElem_mem->o5, length_drop->yb, length_filter_le->wl, length_nil->eb, length_take->s7, map_append->ym, map_cons->en, mem_cons->l4, mem_filter->sr, mem_map->ey, nodup_append->sk, nodup_cons->gw, take_add_one->gs
open Nat renaming add_assoc->mR, le_refl->ee
open Option renaming filter->rY, none_or->s9
open Option renaming some->zo, none->zn
open Bool renaming true->zt, false->zf
namespace Go.Proofs.YtoefnfbpoabinaaGreatDoor.Pl
section
open Go Sv
theorem qz{α β γ:Type}{f:α->Option (LR α β)}{K:β->Option γ}{R:Option γ}(Inv:α->Prop)(Q:β->Prop)(m:α->Nat){s:α}(hs:Inv s)(b:m s<18446744073709551616)
  (step:∀ s,Inv s->(∃ s',f s=zo (.nx s')/\Inv s'/\m s'<m s)\/(∃ x,f s=zo (.dn x)/\Q x)) (a:∀ x,Q x->K x=R):bd (loop f s) K=R:=by
 obtain⟨x,e,q⟩:=TP Inv Q m hs b step;rw[e];exact a x q
theorem AB9{u:gR}{x:Int×Bool}(h:0<=u.1/\u.1<=1000000):(vw u x).1=u.1+1:=by
 show TI .i64 u.1 1=_;exact To (by omega)
def At(s0:U9)(g:Int)(T:U9×((List Int×gR)×Int))(k:Nat)(s:U9)(l:List Int)(u:gR):Prop:=Gd s0 s/\0<=u.1/\u.1+k=g/\g<=1000000/\(l.length:Int)=u.1/\T=((Zj k s).1,((l++(Zj k s).2.1.map (·.1),rx u (Zj k s).2.1),(Zj k s).2.2))
theorem At.step{s0 s:U9}{g:Int}{T:U9×((List Int×gR)×Int)}{k:Nat}{l:List Int}{u:gR}(a:At s0 g T (k+1) s l u)(e:Y5 s=0):At s0 g T k (aM s) (l++[(dM s).1]) (vw u (dM s)):=by
 obtain⟨c,h,i,d,j,f⟩:=a;obtain⟨_,_,_,_,_,_,_,b⟩:=Zh c e;have m:=AB9 (x:=dM s) (show 0<=u.1/\u.1<=1000000 by omega);refine⟨b,by omega,by omega,d,by simp;omega,?_⟩;rw[f];simp only[Zj,e,ne_eq,not_true_eq_false,if_false,en,List.append_assoc,ya,List.nil_append];rfl
theorem At.none{s0 s:U9}{g:Int}{T:U9×((List Int×gR)×Int)}{k:Nat}{l:List Int}{u:gR}(a:At s0 g T k s l u)(e:Y5 s=4):T=(s,((l,u),0)):=by
 rw[a.2.2.2.2.2];cases k<;>simp[Zj,e,rx]
theorem At.fail{s0 s:U9}{g:Int}{T:U9×((List Int×gR)×Int)}{k:Nat}{l:List Int}{u:gR}(a:At s0 g T (k+1) s l u)(c:Y5 s≠4)(b:Y5 s≠0):T=(s,((l,u),Y5 s)):=by
 rw[a.2.2.2.2.2];simp[Zj,c,b,rx]
theorem At.last{s0 s:U9}{g:Int}{T:U9×((List Int×gR)×Int)}{l:List Int}{u:gR}(a:At s0 g T 0 s l u):T=(s,((l,u),0)):=by
 rw[a.2.2.2.2.2];simp[Zj,rx]
theorem af{β:Type}{a b:Nat}(h:a<b)(k:Unit->Option β):gd (I8 a b) k=k ():=by
 have:I8 a b=zt:=by unfold I8;simpa using h
 rw[this];rfl
end
section
open Go Sv
def flS(s:U9):Int×(List (List VU)×(List Job×Int)):=(s.1.1,(s.1.2,s.2))
end
section
open Go Sv
theorem w7{s t:U9}{n:Nat}{j:Job}{b:Bool}(v:VSt s)(F:StepF s n j t b){i:Nat}(e:i≠n)(d:(VG s.1.2 i).length=2):VG t.1.2 i=VG s.1.2 i/\V7 t.2.1 (i:Int)=V7 s.2.1 (i:Int):=by
 by_cases c:0<Vk s.1 j
 ·obtain⟨_,e1,_,e2⟩:=F.read c
  simp_all
 ·obtain⟨_,e1,_,e2,e3,h⟩:=F.inst (by omega)
  have g:¬ (WA j≠[]/\i=az s j):=λ⟨a,hi⟩=>by
   simp_all
  have a:VG t.1.2 i=VG s.1.2 i:=by simp_all
  refine⟨a,?_⟩;obtain⟨j',f⟩:=v.hasJob d
  grind
theorem w8{s0 s:U9}(g:Gd s0 s)(e:Y5 s=0){i:Nat}(b:(VG s.1.2 i).length=2)(f:dM s≠((i:Int),zt)):(VG (aM s).1.2 i).length=2:=by
 obtain⟨n,j,d,k,h,hc,F,_⟩:=Zh g e;by_cases a:i=n
 ·subst a;by_cases c:0<Vk s.1 j
  ·rw[(F.read c).2.1];exact b
  ·exact absurd (Prod.ext d (F.inst (by omega)).1) f
 ·rw[(w7 g.1 F a b).1];exact b
def fj(a:Int):Nat->Nat->U9->Int×Int
 |0,_,_=>(0,0)
 |k+1,n,s=>if Y5 s≠0 then(0,Y5 s)else if dM s=(a,zt)then(((n+1:Nat):Int),0)else fj a k (n+1) (aM s)
def NAt(s0:U9)(a:Int)(T:Int×Int)(k n:Nat)(s:U9):Prop:=Gd s0 s/\sJ 2000 s<k/\n+k<=60000/\T=fj a k n s /\ ∃ i:Nat,a=(i:Int)/\(VG s.1.2 i).length=2
theorem NAt.fail{s0 s:U9}{d:Int}{T:Int×Int}{k n:Nat}(a:NAt s0 d T k n s)(e:Y5 s≠0):T=(0,Y5 s):=by
 obtain⟨_,f,_,c,_⟩:=a;obtain⟨b,rfl⟩:∃ b,k=b+1:=⟨k-1,by omega⟩;rw[c];simp[fj,e]
theorem NAt.hit{s0 s:U9}{c:Int}{T:Int×Int}{k n:Nat}(a:NAt s0 c T k n s)(e:Y5 s=0)(h:dM s=(c,zt)):T=(((n+1:Nat):Int),0):=by
 obtain⟨_,f,_,d,_⟩:=a;obtain⟨b,rfl⟩:∃ b,k=b+1:=⟨k-1,by omega⟩;rw[d];simp[fj,e,h]
theorem NAt.next{s0 s:U9}{d:Int}{T:Int×Int}{k n:Nat}(a:NAt s0 d T k n s)(e:Y5 s=0)(h:dM s≠(d,zt)):∃ b,k=b+1/\NAt s0 d T b (n+1) (aM s)/\sJ 2000 (aM s)<sJ 2000 s:=by
 obtain⟨c,m,o,g,i,j,l⟩:=a;obtain⟨b,rfl⟩:∃ b,k=b+1:=⟨k-1,by omega⟩;obtain⟨_,_,_,_,_,_,_,f⟩:=Zh c e;have p:=(jJ c c.2.2 e).1;refine⟨b,rfl,⟨f,by omega,by omega,?_,i,j,w8 c e l (by simp_all)⟩,by omega⟩;rw[g];simp[fj,e,h]
end
section
open Go Sv
set_option maxRecDepth 1000000
end
section
open Go Sv
end
section
open Go Sv
set_option maxRecDepth 100000
end
section
open Go Sv
end
section
open Go Sv
set_option maxRecDepth 100000
def lst(a:iv):List Int:=[a.1,a.2.1,a.2.2.1,a.2.2.2.1,a.2.2.2.2.1,a.2.2.2.2.2.1,a.2.2.2.2.2.2.1,a.2.2.2.2.2.2.2.1,a.2.2.2.2.2.2.2.2.1,a.2.2.2.2.2.2.2.2.2.1,a.2.2.2.2.2.2.2.2.2.2.1,a.2.2.2.2.2.2.2.2.2.2.2]
end
section
open Go Sv
set_option maxRecDepth 100000
end
section
open Go Sv
@[reducible] def tE:Ty:=.pair .str (.pair .str (.pair .bool (.int .i64)))
@[reducible] def tJb:Ty:=.pair (.pair (.int .i64) (.sl zt (.sl zt (.pair (.int .i64) (.sl zt tE))))) (.pair (.sl zt (.pair (.int .i64) (.pair (.pair (.sl zf (.sl zt tE)) (.pair (.sl zf (.int .i64)) (.pair (.sl zt (.pair .str .bool)) (.pair (.sl zf (.int .i64)) (.int .i64))))) (.pair (.pair .bool (.pair .str .bool)) (.pair (.sl zt tE) (.int .i64)))))) (.int .i64))
theorem w6{s:U9}(h:Rx tJb s):∀ rs∈s.1.2,∀ r∈rs,r.2.length<=9223372036854775807:=by
 obtain⟨⟨_,d,c⟩,_⟩:=h;exact λrs b r a=>((c rs b).2 r a).2.1
end
section
open Go Sv
set_option maxRecDepth 100000
theorem j7:YB=Vf:=rfl
theorem j8(l:List U7)(h:l.length<=1000000):YB (l,l)=zo zt:=by
 grind [j7,Xd]
end
section
open Go Sv
end
section
open Go Sv
end
section
open Go Sv
def dI(b:List U7)(e:U7):Bool:=b.any λy=>seq y.1 e.1
theorem cJ{b:List U7}{e:U7}:dI b e=zt <-> ∃ y∈b,y.1=e.1:=by
 simp_all[dI,seq,List.any_eq_true]
def ZO(f:WN):List U7:=f.1.2++(Le f.2.1).filter λe=> !dI f.1.2 e
def Wv(f:WN):List U7:=((ZO f).foldl Wa []).filter VE
theorem fU{l:List U7}(a:(l.map (·.1)).Nodup){y:U7}(h:y∈l):VW l y.1=zo y:=by
 induction l with
 |nil=>cases h
 |cons x l b=>
  rw[en,gw]at a;rw[VV]
  grind
theorem aS:∀ {l:List U7} {p:Option XN},Asc p l->(l.map (·.1)).Nodup
 |[],_,_=>by simp
 |x::l,p,h=>by
  rw[en,gw];refine⟨λc=> ?_,aS h.2⟩;obtain⟨y,a,b⟩:=ey.1 c;exact ZW (ZR h.2 y a) b.symm
theorem je(L:VA)(k:XN):VW (Le L) k=(WE (VJ L.2) k).filter VE:=by
 have a:=λk=>bB k (VJ L.2) [] trivial;unfold Le;rw[XX VE k (a []).1,(a k).2];rfl
theorem fc(L:VA):Asc zn (Le L):=Xv VE (bB [] (VJ L.2) [] trivial).1
theorem bX(f:WN):Asc zn (Wv f):=Xv VE (aR [] (ZO f) [] trivial).1
theorem jf(f:WN)(k:XN):VW (ZO f) k=(VW f.1.2 k).or (VW (Le f.2.1) k):=by
 unfold ZO;rw[Zb];cases h:VW f.1.2 k with
 |some e=>rfl
 |none=>
  rw[s9,s9,XX _ k (fc _)];cases a:VW (Le f.2.1) k with
  |none=>rfl
  |some e=>
   have g:=(ca a).1
   have:dI f.1.2 e=zf:=by
    cases b:dI f.1.2 e with
    |false=>rfl
    |true=>
     obtain⟨y,c,d⟩:=cJ.1 b
     grind [VW]
   simp_all
theorem cb(f:WN)(k:XN):VW (Wv f) k=((VW f.1.2 k).or (WE (VJ f.2.1.2) k)).filter VE:=by
 unfold Wv;rw[XX VE k (aR k (ZO f) [] trivial).1,(aR k (ZO f) [] trivial).2,jf,je];show(((zn:Option U7)).or _).filter VE=_
 simp_all
end
section
open Go Sv
theorem q9{α β γ σ S:Type}{l:List α}(mk:Nat->σ->S)(I:List α->Nat->σ->Prop)(Q:β->Prop){f:S->Option (LR S β)}{s:S}{K:β->Option γ}{R:Option γ}(a:σ)(c:s=mk 0 a)(g:l.length<=9223372036854775807)(hi:I l 0 a)
  (h:∀ a,I [] l.length a -> ∃ r,f (mk l.length a)=zo (.dn r)/\Q r)
  (hc:∀ k x m a,l.drop k=x::m->l[k]?=zo x->k<l.length->I (x::m) k a->(∃ b,f (mk k a)=zo (.nx (mk (k+1) b))/\I m (k+1) b) \/ ∃ r,f (mk k a)=zo (.dn r)/\Q r) (d:∀ r,Q r->K r=R):bd (loop f s) K=R:=by
 obtain⟨r,e,q⟩:=XG mk I Q a c g hi h hc;rw[e];exact d r q
end
section
open Go Sv
theorem fB(x:U7):∀ {l:List U7},(∀ y∈l,y.1≠x.1)->(Wa l x).length=l.length+1 /\ ∀ y,y∈Wa l x<->y=x\/y∈l
 |[],_=>by unfold Wa;simp
 |z::l,h=>by
  unfold Wa;obtain⟨a,b⟩:=fB x (l:=l) λy c=>h y (by simp[c])
  grind
theorem fT:∀ {R l:List U7},(R.map (·.1)).Nodup->(∀ x∈R,∀ y∈l,y.1≠x.1)->(R.foldl Wa l).length=l.length+R.length /\ ∀ y,y∈R.foldl Wa l<->y∈l\/y∈R
 |[],l,_,_=>⟨rfl,λy=>by simp⟩
 |x::R,l,hn,hd=>by
  rw[en,gw]at hn;obtain⟨a,b⟩:=fB x (l:=l) (hd x (by simp))
  obtain⟨c,d⟩:=fT (R:=R) (l:=Wa l x) hn.2 λz f y e=>by
   grind
  grind
structure Srt (R T:List U7):Prop where
 len:T.length=R.length
 asc:Asc zn T
 mem:∀ y,y∈T<->y∈R
theorem vu{R:List U7}(h:(R.map (·.1)).Nodup):Srt R (R.foldl Wa []):=by
 obtain⟨a,b⟩:=fT (R:=R) (l:=[]) h (λ_ _ _ h=>by cases h);exact⟨by grind,(aR [] R [] trivial).1,λy=>by rw[b];simp⟩
def later(o:List U7)(y:U7):Prop:=∀ z,o.getLast?=zo z->TZ z.1 y.1=zt
structure Best (R o:List U7) (c:Nat) (y:U7):Prop where
 at':R[c]?=zo y
 lt:later o y
theorem dw{T:List U7}{n:Nat}(a:n<=T.length){z:U7}(h:(T.take n).getLast?=zo z):∃ m,n=m+1/\T[m]?=zo z:=by
 grind
theorem gI{R T:List U7}(s:Srt R T){n:Nat}(a:n<T.length):later (T.take n) T[n]/\T[n]∈R /\ ∀ y∈R,later (T.take n) y->TZ y.1 T[n].1=zf:=by
 refine⟨λz b=> ?_,(s.mem _).1 (o5 a),λy j g=> ?_⟩
 ·obtain⟨m,rfl,c⟩:=dw (by omega) b;exact dz s.asc (Nat.lt_succ_self m) c (ci a)
 ·obtain⟨i,hi⟩:=co ((s.mem y).2 j);by_cases h:i<n
  ·exfalso
   have d:T.take n≠[]:=λe=>by
    grind [s7,eb]
   obtain⟨z,b⟩:∃ z,(T.take n).getLast?=zo z:=⟨_,List.getLast?_eq_some_getLast d⟩;have f:=g z b;obtain⟨m,rfl,c⟩:=dw (by omega) b;by_cases e:i=m
   ·simp_all[WV]
   ·have:=dz s.asc (show i<m by omega) hi c;rw[V2 this]at f;cases f
  ·by_cases e:i=n
   ·subst e;rw[ci a]at hi;cases hi;exact WV _
   ·exact V2 (dz s.asc (show n<i by omega) (ci a) hi)
theorem vt{R T:List U7}(s:Srt R T){n:Nat}(c:n<T.length){y:U7}(d:y∈R)(j:later (T.take n) y)(k:∀ z∈R,later (T.take n) z->TZ z.1 y.1=zf):y=T[n]:=by
 obtain⟨f,g,i⟩:=gI s c;have a:=k _ g f;have b:=i y d j
 have e:y.1=T[n].1:=by
  rcases Z3 y.1 T[n].1 with h|h|h<;>simp_all
 have n1:=aS s.asc;have l:=fU n1 ((s.mem y).2 d);have m:=fU n1 (o5 c)
 simp_all
def BInv(R o:List U7)(i:Nat)(b:Int):Prop:=
 (b = -1 /\ ∀ j<i,∀ y,R[j]?=zo y -> ¬ later o y) \/ ∃ (c:Nat) (y:U7),b=(c:Int)/\c<i/\R[c]?=zo y/\later o y /\ ∀ j<i,∀ z,R[j]?=zo z->later o z->TZ z.1 y.1=zf
theorem BInv.skip{R o:List U7}{i:Nat}{b:Int}{x:U7}(h:BInv R o i b)(q:R[i]?=zo x)(p:¬ later o x):BInv R o (i+1) b:=by
 have key:∀ j<i+1,∀ z,R[j]?=zo z->later o z->j<i:=λj d z f a=>by
  grind
 rcases h with⟨e,g⟩|⟨c,y,e,g,l,m,n⟩
 ·exact .inl ⟨e,λj d y k a=>g j (key j d y k a) y k a⟩
 ·exact .inr ⟨c,y,e,by omega,l,m,λj d z f a=>n j (key j d z f a) z f a⟩
theorem BInv.first{R o:List U7}{i:Nat}{x:U7}(h:BInv R o i (-1))(a:R[i]?=zo x)(d:later o x):BInv R o (i+1) (i:Int):=by
 rcases h with⟨_,k⟩|⟨c,y,g,_⟩
 ·refine .inr ⟨i,x,rfl,by omega,a,d,λj l z b f=> ?_⟩;by_cases e:j=i
  ·subst e;rw[a]at b;cases b;exact WV _
  grind
 ·omega
theorem BInv.better{R o:List U7}{i c:Nat}{x y:U7}(h:BInv R o i (c:Int))(b:R[i]?=zo x)(k:later o x)(m:R[c]?=zo y)(hs:TZ x.1 y.1=zt):BInv R o (i+1) (i:Int):=by
 rcases h with⟨g,_⟩|⟨f,s,g,n,a,p,q⟩
 ·omega
 ·obtain rfl:c=f:=by omega
  rw[m]at a;cases a;refine .inr ⟨i,x,rfl,by omega,b,k,λj r z d l=> ?_⟩;by_cases e:j=i
  ·subst e;rw[b]at d;cases d;exact WV _
  grind [WR]
theorem BInv.stay{R o:List U7}{i c:Nat}{x y:U7}(h:BInv R o i (c:Int))(n:R[i]?=zo x)(b:R[c]?=zo y)(hs:TZ x.1 y.1=zf):BInv R o (i+1) (c:Int):=by
 rcases h with⟨e,_⟩|⟨d,q,e,k,a,f,l⟩
 ·omega
 ·obtain rfl:c=d:=by omega
  rw[b]at a;cases a;refine .inr ⟨c,y,rfl,by omega,b,f,λj m z p g=> ?_⟩
  grind
theorem mD{R T:List U7}(s:Srt R T)(hR:R.length<=500000){γ:Type}{K:Nat×(List U7×Unit)->Option γ}{Q:Option γ}(hk:∀ r:Nat×(List U7×Unit),r.2.1=T->K r=Q) :
  bd (loop (λ(d:(List U7))=>br (UV (d.length:Int) (R.length:Int)) (λ_=>bd (loop (β:=Nat×((Int×Int)×Unit)) (λa=>br (UV a.2 (R.length:Int)) (λ_=>br (PC (d.length:Int) 0) (λ_=>br (UV a.1 0) (λ_=>zo (.nx (a.2,TI .i64 a.2 1))) λ_=>S1 a.2 λe=>gd (I8 e R.length) λ_=>ix R e λp=>S1 a.1 λf=>gd (I8 f R.length) λ_=>ix R f λq=>br (TZ p.1 q.1) (λ_=>zo (.nx (a.2,TI .i64 a.2 1))) λ_=>zo (.nx (a.1,TI .i64 a.2 1))) λ_=>S1 a.2 λE=>gd (I8 E R.length) λ_=>ix R E λY=>S1 (TM .i64 (d.length:Int) 1) λF=>gd (I8 F d.length) λ_=>ix d F λZ=>br (TZ Z.1 Y.1) (λ_=>br (UV a.1 0) (λ_=>zo (.nx (a.2,TI .i64 a.2 1))) λ_=>S1 a.2 λG=>gd (I8 G R.length) λ_=>ix R G λx22=>S1 a.1 λI=>gd (I8 I R.length) λ_=>ix R I λx24=>br (TZ x22.1 x24.1) (λ_=>zo (.nx (a.2,TI .i64 a.2 1))) λ_=>zo (.nx (a.1,TI .i64 a.2 1))) λ_=>zo (.nx (a.1,TI .i64 a.2 1))) λ_=>zo (.dn ((0,(a,()))))) (((-1),0))) λX=>S1 X.2.1.1 λJ=>gd (I8 J R.length) λ_=>ix R J λM=>gd (B2 (A0 d.length [M].length) 1048576) λ_=>zo (.nx (If d [M]))) λ_=>zo (.dn ((0,(d,()))))) []) K=Q:=by
 have B:=s.len;refine qz (λo=>∃ n,o=T.take n/\n<=T.length) (λr=>r.2.1=T) (λo=>R.length-o.length) ⟨0,by simp,by omega⟩ (by simp;omega) ?_ hk;rintro o ⟨n,rfl,hn⟩;have hl:(T.take n).length=n:=by simp_all
 by_cases h:n<T.length;rotate_left
 ·have S:n=T.length:=by omega
  subst S;refine .inr ⟨(0,(T.take T.length,())),?_,by simp⟩;rw[hl,B,re];rfl
 refine .inl ⟨T.take (n+1),?_,⟨n+1,rfl,by omega⟩,by grind⟩;rw[hl,Uo,zy (by omega)]
 have N:∀ y:U7,later (T.take n) y<->n=0 \/ ∃ z,T[n-1]?=zo z/\TZ z.1 y.1=zt:=λy=>by
  constructor
  ·intro U;by_cases h0:n=0
   ·omega
   ·refine .inr ⟨T[n-1]'(by omega),ci _,U _ ?_⟩
    grind
  ·rintro (h0|⟨z,O,g⟩) w hw
   all_goals grind
 refine q9 (l:=R) (σ:=Int) (λi b=>(b,(i:Int))) (λ_ i b=>BInv R (T.take n) i b) (λ(r:Nat×((Int×Int)×Unit))=>BInv R (T.take n) R.length r.2.1.1) (-1) rfl (by omega) (.inl ⟨rfl,λj hj=>by omega⟩) ?_ ?_ ?_
 ·intro b t;exact⟨_,by simp only;rw[re];rfl,t⟩
 ·intro i x m b hd u hi t;refine .inl ?_;simp only;have A:TI .i64 (i:Int) 1=((i+1:Nat):Int):=VD (by omega)
  have pick:later (T.take n) x -> ∃ L,(br (UV b 0) (λ_=>zo (LR.nx (β:=Nat×((Int×Int)×Unit)) ((i:Int),TI .i64 (i:Int) 1))) λ_=>S1 (i:Int) λe=>gd (I8 e R.length) λ_=>ix R e λp=>S1 b λf=>gd (I8 f R.length) λ_=>ix R f λq=>br (TZ p.1 q.1) (λ_=>zo (.nx ((i:Int),TI .i64 (i:Int) 1))) λ_=>zo (.nx (b,TI .i64 (i:Int) 1)))=zo (LR.nx (L,((i+1:Nat):Int)))/\BInv R (T.take n) (i+1) L:=λC=>by
   rw[Uo,A];rcases t with⟨rfl,g⟩|⟨c,y,rfl,g,k,P,h5⟩
   ·rw[zy (by omega)];exact⟨_,rfl,BInv.first (.inl ⟨rfl,g⟩) u C⟩
   ·have hB:BInv R (T.take n) i (c:Int):=.inr ⟨c,y,rfl,g,k,P,h5⟩;rw[zx (by omega),U8,af hi,Ua u,U8,af (by omega),Ua k,YM];by_cases hs:TZ x.1 y.1=zt
    ·rw[zy hs];exact⟨_,rfl,hB.better u C k hs⟩
    ·rw[zx hs];exact⟨_,rfl,hB.stay u k (by grind)⟩
  rw[rl hi,Tj,Uk];by_cases h0:n=0
  ·grind
  ·have hz:T[n-1]?=zo (T[n-1]'(by omega)):=ci _;have W:(T.take n)[n-1]?=zo (T[n-1]'(by omega)):=by grind
   have D:TM .i64 (n:Int) 1=((n-1:Nat):Int):=by rw[Tq (by omega)];omega
   rw[zx (by omega),U8,af hi,Ua u,D,U8,af (by omega),Ua W,YM];by_cases hs:TZ (T[n-1]'(by omega)).1 x.1=zt
   ·grind
   ·rw[zx hs,A];refine⟨b,rfl,BInv.skip t u λhl2=> ?_⟩<;>grind
 ·rintro r t;obtain⟨t1,t2,t3⟩:=gI s h;rcases t with⟨O,g⟩|⟨c,y,O,g,k,P,h5⟩
  ·obtain⟨j,hj⟩:=co t2
   grind
  ·have U:=vt s h (List.mem_of_getElem? k) P λz hz hlz=>by
    obtain⟨j,hj⟩:=co hz
    grind
   rw[O,U8,af g,Ua k,Va (by simp[A0];omega),U]
   grind [If,gs,ci]
end
section
open Go Sv
theorem jj{L:VA}:(Le L).length<=VX L.2.flatten:=by
 unfold Le;have a:=cR (VJ L.2) [];have b:=wl VE (cC (VJ L.2) []);have c:=(XZ L.2).1
 grind
theorem gA{f:WN}(h:Asc zn f.1.2):((ZO f).map (·.1)).Nodup:=by
 unfold ZO;rw[ym,sk];refine⟨aS h,aS (Xv _ (fc _)),λa g b i e=> ?_⟩;obtain⟨y,c,j⟩:=ey.1 g;obtain⟨z,d,k⟩:=ey.1 i;have l:=(sr.1 d).2;have:dI f.1.2 z=zt:=cJ.2 ⟨y,c,by grind⟩
 simp_all
theorem lF{b R:List U7}(n:b.length<=1000){i:Nat}{e:U7}(o:R[i]?=zo e){γ:Type}{K:Nat×((Int×Bool)×Unit)->Option γ}{Q:Option γ}(a:∀ r:Nat×((Int×Bool)×Unit),r.2.1.2=dI b e->K r=Q) :
  bd (loop (β:=Nat×((Int×Bool)×Unit)) (λs2=>br (UV s2.1 (b.length:Int)) (λ_=>br s2.2 (λ_=>zo (.nx (TI .i64 s2.1 1,zt))) λ_=>S1 s2.1 λd=>ix b d λg=>S1 (i:Int) λf=>ix R f λj=>zo (.nx (TI .i64 s2.1 1,seq g.1 j.1))) λ_=>zo (.dn ((0,(s2,()))))) (0,zf)) K=Q:=by
 refine q9 (l:=b) (σ:=Bool) (λk h=>((k:Int),h)) (λm _ h=>(h||dI m e)=dI b e) (λr=>r.2.1.2=dI b e) zf rfl (by omega) (by simp) ?_ ?_ a
 ·intro h c;exact⟨_,by simp only;rw[re];rfl,by simpa[dI]using c⟩
 ·intro k x m h hd p a c;refine .inl ?_;simp only;rw[rl a,Tj,Uw,VD (by omega)];cases h with
  |true=>
   simp_all
  |false=>
   simp_all[zx,U8,Ua,dI]
theorem ew{f:WN}(t:Vj f=0)(hc:VX f.2.1.2.flatten<=2000):Ym f=zo (Wv f):=by
 obtain⟨F,v,I⟩:=X2 t;have h:=kr F;have A:=h.len;have z:=h.m2;have B:(Le f.2.1).length<=VX f.2.1.2.flatten:=jj
 have w:(ZO f).length<=2016:=by
  grind [ZO,List.length_append]
 have s:=vu (gA (f:=f) h.asc);obtain⟨T,n⟩:∃ T,T=(ZO f).foldl Wa []:=⟨_,rfl⟩;rw[<- n]at s;have y:=s.len;have u:Wv f=T.filter VE:=by unfold Wv;rw[n]
 rw[u];unfold Ym;simp only[VC,VB];rw[Va (by omega),ub v.lev,UG];refine q9 (l:=Le f.2.1) (σ:=List U7) (λi o=>(o,(i:Int))) (λm i o=>o++m.filter (λe=> !dI f.1.2 e)=ZO f/\o.length<=16+i) (λ(r:Nat×((List U7×Int)×Unit))=>r.2.1.1=ZO f) f.1.2 rfl (by omega) ⟨rfl,by omega⟩ ?_ ?_ ?_
 ·rintro o ⟨b,g⟩;exact⟨_,by simp only;rw[re];rfl,by grind⟩
 ·rintro i e m o hd p hi ⟨b,g⟩;refine .inl ?_;simp only;rw[rl hi,Tj]
  have key:∃ a,(br (IG (dI f.1.2 e)) (λ_=>S1 (i:Int) λE=>ix (Le f.2.1) E λq=>gd (B2 (A0 o.length [q].length) 1048576) λ_=>zo (LR.nx (β:=Nat×((List U7×Int)×Unit)) (If o [q],TI .i64 (i:Int) 1))) λ_=>zo (.nx (o,TI .i64 (i:Int) 1)))=zo (LR.nx (a,((i+1:Nat):Int)))/\a++m.filter (λe=> !dI f.1.2 e)=ZO f/\a.length<=16+(i+1):=by
   rw[oy]at b;rw[Vs,Uw,VD (by omega)];cases d:dI f.1.2 e with
   |true=>
    grind
   |false=>
    rw[d,zy (by simp)]at b;rw[zx (by simp),U8,Ua p,Va (by simp[A0];omega)];exact⟨o++[e],rfl,by grind,by simp;omega⟩
  obtain⟨a,G,D⟩:=key;refine⟨a,?_,D⟩;refine lF (by omega) p λr c=> ?_
  simp_all
 ·intro r c;rw[c];refine mD s (by omega) λr c=> ?_;rw[c];refine q9 (l:=T) (σ:=List U7) (λk o=>((k:Int),o)) (λm k o=>o++m.filter VE=T.filter VE/\o.length<=k) (λ(r:Nat×((Int×List U7)×Unit))=>r.2.1.2=T.filter VE) [] rfl (by omega) ⟨rfl,by simp⟩ ?_ ?_ ?_
  ·rintro o ⟨b,g⟩;exact⟨_,by simp only;rw[re];rfl,by grind⟩
  ·rintro k x m o hd d j ⟨b,g⟩;refine .inl ?_;simp only;rw[oy]at b;rw[rl j,Tj,U8,af j,Ua d,Vs,Uw,VD (by omega)];cases C:x.2.2.1 with
   |true=>
    rw[zx (by unfold VE;grind)]at b
    grind
   |false=>
    rw[zy (by unfold VE;grind)]at b;rw[zx (by simp),U8,af j,Ua d,Va (by simp[A0];omega)];exact⟨o++[x],rfl,by grind,by simp;omega⟩
  simp_all
end
section
open Go Sv
theorem gq{L:VA}(v:VLev L):Xt L=zo (VJ L.2,0):=by
 obtain⟨e,b⟩:=v.small;have g:=v.len;unfold Xt;simp only[VC,VB];rw[ZC _ e b,YL v,UG,Uq,zy rfl]
 rw[V1 (l:=L.2) (σ:=List VU) (s:=((0:Int),([]:List VU))) (λi m=>((i:Int),m)) (λls i m=>(∀ rs∈ls,rs.length<=2)/\m.length<=2*i) (λls _ m=>(0,(((L.2.length:Int),m++VJ ls),()))) [] rfl (by omega) ⟨v.two,by simp⟩ (λm _=>by
  simp_all[re,TA,VJ]) (λi rs ls m hd d hi h=>by
   refine⟨m++rs.reverse,?_,⟨λr b=>h.1 r (by simp[b]),by grind⟩,by simp[VJ]⟩;have f:=h.1 rs (by simp);have j:m.length<=24:=by omega
   simp only;rw[rl hi,Tj,U8,Ua d]
   rw[jF (r:=(0,(((-1:Int),m++rs.reverse),()))) (λk n=>(k,m++(rs.drop n).reverse)) rs.length (by simp[TM,IntKind.wrap,IntKind.bits,IntKind.signed];omega) (by omega) (λk c=>by
    obtain⟨x,a⟩:∃ x,rs[k]?=zo x:=⟨rs[k],ci c⟩;simp only;rw[Ul,zy (by omega),U8,Ua a,Va (by simp[A0];omega)];have e1:rs.drop k=x::rs.drop (k+1):=by rw[List.drop_eq_getElem_cons c,(a8.1 a).2]
    simp[e1,TM,If,IntKind.wrap,IntKind.bits,IntKind.signed];omega) (by
    simp only
    rw[Ul,zx (by omega)];simp)]
   rw[UG,VH d (by omega)])]
 simp[UG]
end
section
open Go Sv
def Xb(a:List U7)(x:U7):List U7:=if dI a x then a else a++[x]
def mK(a:List U7):List VI:=a.map λx=>(x.1,zt)
theorem gE(a b:XN):seq a b=seq b a:=by rw[Zx,Zx];simp[eq_comm]
theorem lS(x:U7):∀ c:List U7,TS (Mx (λa=>λb=>seq a b) (mK c) x.1) zf=dI c x
 |[]=>rfl
 |y::c=>by
  have d:=lS x c;simp only[mK,en,Mx,dI,vL]at d ⊢;rw[gE y.1 x.1];cases seq x.1 y.1 with
  |true=>rfl
  |false=>simpa using d
theorem lU(x:U7):∀ c:List U7,dI c x=zf->Iq (λa=>λb=>seq a b) (mK c) x.1 zt=mK (c++[x])
 |[],_=>rfl
 |y::c,h=>by
  simp only[dI,vL,Bool.or_eq_false_iff]at h;have d:=lU x c h.2;simp only[mK,en,Iq,ya]at d ⊢;rw[gE x.1 y.1,h.1,zj,d]
theorem fC(a:List U7)(x:U7):(Xb a x).length<=a.length+1:=by unfold Xb;split<;>simp
theorem Za:∀ (l a:List U7),(l.foldl Xb a).length<=a.length+l.length
 |[],_=>by simp
 |x::l,a=>by
  have b:=Za l (Xb a x);have c:=fC a x;simp only[hI,List.length_cons];omega
theorem jT(c:List U7)(x:U7)(i:Int)(d:c.length<=1000000) :
  (br (IG (TS (Mx (λa=>λb=>seq a b) (mK c) x.1) zf)) (λ_=>gd (B2 (A0 (AQ c) (AQ [x])) 1048576) λ_=>zo (LR.nx (β:=Nat×(Int×(List VI×List U7))×Unit) ((i,(Iq (λa=>λb=>seq a b) (mK c) x.1 zt,If c [x]))))) λ_=>zo (.nx (i,(mK c,c))))
   = zo (.nx (i,(mK (Xb c x),Xb c x))):=by
 rw[lS,Vs];cases h:dI c x with
 |true=>simp[Xb,h,Tj]
 |false=>
  rw[TA,Va (by simp[A0,AQ];omega),lU x c h];simp[Xb,h,If]
theorem dW(l c:List U7)(m:c.length+l.length<=1000000){f:Int×(List VI×List U7)->Option (LR (Int×(List VI×List U7)) (Nat×(Int×(List VI×List U7))×Unit))}
  (g:∀ s1,f s1=br (UV s1.1 (l.length:Int)) (λ_=>S1 s1.1 λk=>ix l k λe=>br (IG (TS (Mx (λa=>λb=>seq a b) s1.2.1 e.1) zf)) (λ_=>gd (B2 (A0 (AQ s1.2.2) (AQ [e])) 1048576) λ_=>zo (.nx ((TI .i64 s1.1 1,(Iq (λa=>λb=>seq a b) s1.2.1 e.1 zt,If s1.2.2 [e]))))) λ_=>zo (.nx (TI .i64 s1.1 1,s1.2))) λ_=>zo (.dn ((0,(s1,()))))) :
  loop f ((0:Int),(mK c,c))=zo (0,(((l.length:Int),(mK (l.foldl Xb c),l.foldl Xb c)),())):=by
 exact V1 (f:=f) (l:=l) (σ:=List U7) (λi d=>((i:Int),(mK d,d))) (λls i d=>d.length<=c.length+i) (λls _ d=>(0,(((l.length:Int),(mK (ls.foldl Xb d),ls.foldl Xb d)),()))) c rfl (by omega) (by omega) (λd _=>by
  rw[g];simp[re,TA]) (λi x ls d hd j hi h=>by
   have:=fC d x;refine⟨Xb d x,?_,by omega,rfl⟩;rw[g];simp only
   rw[rl hi,Tj,U8,Ua j,jT d x _ (by omega),VH j (by omega)])
def Z6(f:WN):List U7:=(VJ f.2.1.2).foldl (λa r=>r.2.foldl Xb a) (f.1.2.foldl Xb [])
theorem dD:∀ (rs:List VU) (a:List U7),(rs.foldl (λa r=>r.2.foldl Xb a) a).length<=a.length+VX rs
 |[],_=>by simp
 |r::rs,a=>by
  have b:=dD rs (r.2.foldl Xb a);have c:=Za r.2 a;simp only[hI,Wo];omega
theorem lY(rs:List VU)(c:List U7)(p:c.length+VX rs<=1000000)(t:rs.length<=1000000){f:Int×(List VI×List U7)->Option (LR (Int×(List VI×List U7)) (Nat×(Int×(List VI×List U7))×Unit))}
  (n:∀ e:Int×(List VI×List U7),f e=br (UV e.1 (rs.length:Int)) (λ_=>S1 e.1 λk=>ix rs k λg=>bd (loop (λ(s1:Int×(List VI×List U7))=>br (UV s1.1 (g.2.length:Int)) (λ_=>S1 s1.1 λq=>ix g.2 q λj=>br (IG (TS (Mx (λa=>λb=>seq a b) s1.2.1 j.1) zf)) (λ_=>gd (B2 (A0 (AQ s1.2.2) (AQ [j])) 1048576) λ_=>zo (.nx ((TI .i64 s1.1 1,(Iq (λa=>λb=>seq a b) s1.2.1 j.1 zt,If s1.2.2 [j]))))) λ_=>zo (.nx (TI .i64 s1.1 1,s1.2))) λ_=>zo (.dn ((0,(s1,()))))) (0,e.2)) λm=>zo (.nx (TI .i64 e.1 1,m.2.1.2))) λ_=>zo (.dn ((0,(e,()))))) :
  loop f ((0:Int),(mK c,c))=zo (0,(((rs.length:Int),(mK (rs.foldl (λc r=>r.2.foldl Xb c) c),rs.foldl (λc r=>r.2.foldl Xb c) c)),())):=by
 exact V1 (f:=f) (l:=rs) (σ:=List U7) (λi d=>((i:Int),(mK d,d))) (λls i d=>d.length+VX ls<=1000000) (λls _ d=>(0,(((rs.length:Int),(mK (ls.foldl (λc r=>r.2.foldl Xb c) d),ls.foldl (λc r=>r.2.foldl Xb c) d)),()))) c rfl (by omega) p (λd _=>by
  rw[n];simp[re,TA]) (λi x ls d hd o hi h=>by
   have s:=Za x.2 d;rw[Wo]at h;refine⟨x.2.foldl Xb d,?_,by omega,rfl⟩;rw[n];simp only
   rw[rl hi,Tj,U8,Ua o,dW x.2 d (by omega) (λ_=>rfl),UG,VH o (by omega)])
theorem cW(k:XN):∀ (l a:List U7),VW (l.foldl Xb a) k=(VW a k).or (VW l k)
 |[],a=>by
  show VW a k=(VW a k).or zn;simp
 |x::l,a=>by
  rw[hI,cW k l,VV];unfold Xb;split
  ·rename_i h;obtain⟨y,b,c⟩:=cJ.1 h;split
   ·rename_i e
    have:∃ z,VW a k=zo z:=by
     cases d:VW a k with
     |some z=>exact⟨z,rfl⟩
     |none=>exact absurd (c.trans e) (by have:=List.find?_eq_none.1 d y b;simpa using this)
    obtain⟨z,f⟩:=this;simp[f]
   ·rfl
  ·rw[Zb,Yn];cases VW a k<;>split<;>simp
theorem an:∀ (l c:List U7),(c.map (·.1)).Nodup->((l.foldl Xb c).map (·.1)).Nodup
 |[],_,h=>h
 |x::l,c,h=>by
  rw[hI];refine an l _ ?_;unfold Xb;split
  ·exact h
  ·rename_i j;rw[ym,sk];refine⟨h,by simp,λa i b d e=>j ?_⟩;obtain⟨y,f,g⟩:=ey.1 i;simp only[en,List.map_nil,List.mem_singleton]at d;exact cJ.2 ⟨y,f,by rw[g,e,d]⟩
theorem cX:∀ (l a:List U7) (x:U7),x∈l.foldl Xb a->x∈a\/x∈l
 |[],_,_,h=>.inl h
 |y::l,a,x,h=>by
  rw[hI]at h;rcases cX l _ x h with h|h
  ·unfold Xb at h;split at h
   ·exact .inl h
   ·rcases List.mem_append.1 h with h|h
    ·exact .inl h
    ·exact .inr (by simp_all)
  ·exact .inr (by simp[h])
theorem gB(k:XN):∀ (rs:List VU) (a:List U7),VW (rs.foldl (λa r=>r.2.foldl Xb a) a) k=(VW a k).or (WE rs k)
 |[],a=>by
  show VW a k=(VW a k).or zn;simp
 |r::rs,a=>by
  rw[hI,gB k rs,cW,Option.or_assoc];rfl
theorem dE:∀ (rs:List VU) (a:List U7),(a.map (·.1)).Nodup->((rs.foldl (λa r=>r.2.foldl Xb a) a).map (·.1)).Nodup
 |[],_,h=>h
 |r::rs,a,h=>dE rs _ (an r.2 a h)
theorem gC:∀ (rs:List VU) (a:List U7) (x:U7),x∈rs.foldl (λa r=>r.2.foldl Xb a) a->x∈a \/ ∃ r∈rs,x∈r.2
 |[],_,_,h=>.inl h
 |r::rs,a,x,h=>by
  rcases gC rs _ x h with h|⟨q,b,c⟩
  ·rcases cX r.2 a x h with h|h
   ·exact .inl h
   ·exact .inr ⟨r,by simp,h⟩
  ·exact .inr ⟨q,by simp[b],c⟩
theorem rT(f:WN)(k:XN):VW (Z6 f) k=(VW f.1.2 k).or (WE (VJ f.2.1.2) k):=by
 unfold Z6;rw[gB,cW];rfl
theorem bf(f:WN):((Z6 f).map (·.1)).Nodup:=dE _ _ (an _ _ (by simp))
end
section
open Go Sv
theorem fM(a:U7):∀ {l:List U7} {p:Option XN},Asc p l->(∀ q,p=zo q->TZ q a.1=zt)->(∀ x∈l,x.1≠a.1)->Asc p (Q7 a l)
 |[],_,_,c,_=>⟨c,trivial⟩
 |b::l,p,⟨g,d⟩,c,h2=>by
  unfold Q7;cases f:Op.bytesLess a.1 b.1 with
  |true=>exact⟨c,λq e=>by cases e;exact f,d⟩
  |false=>exact⟨g,fM a d (λq e=>by cases e;exact Z1 f λe=>h2 b (by simp) e.symm) λx h=>h2 x (by simp[h])⟩
theorem fN(a:U7)(k:XN):∀ {l:List U7},(∀ x∈l,x.1≠a.1)->VW (Q7 a l) k=if a.1=k then zo a else VW l k
 |[],_=>Yn a k
 |b::l,h2=>by
  unfold Q7;cases d:Op.bytesLess a.1 b.1 with
  |true=>exact VV a (b::l) k
  |false=>
   show VW (b::Q7 a l) k=_;rw[VV,fN a k λx c=>h2 x (by simp[c]),VV];have:=h2 b (by simp);split<;>split<;>simp_all
theorem cV(a x:U7):∀ {l:List U7},x∈Q7 a l<->x=a\/x∈l
 |[]=>by simp[Q7]
 |b::l=>by
  unfold Q7;cases Op.bytesLess a.1 b.1 with
  |true=>simp
  |false=>
   show x∈b::Q7 a l<->_;rw[l4,cV a x,l4];exact or_left_comm
theorem Zn(x:U7):∀ {l:List U7},x∈J5 l<->x∈l
 |[]=>Iff.rfl
 |a::l=>by rw[J5,cV,Zn x,l4]
theorem dV:∀ {l:List U7},(l.map (·.1)).Nodup->Asc zn (J5 l) /\ ∀ k,VW (J5 l) k=VW l k
 |[],_=>⟨trivial,λ_=>rfl⟩
 |a::l,h=>by
  rw[en,gw]at h;obtain⟨c,d⟩:=dV h.2;have b:∀ x∈J5 l,x.1≠a.1:=λx f e=>h.1 (ey.2 ⟨x,(Zn x).1 f,e⟩);exact⟨fM a c (λq e=>by cases e) b,λk=>by rw[J5,fN a k b,d,VV]⟩
theorem us{x:U7}(h:kE x=0):Ur x=zt:=by
 unfold kE at h;unfold Ur
 repeat' split at h
 all_goals first|omega|skip
 rename_i d a e
 have b:(x.2.2.1 && !x.2.1.isEmpty)=zf:=by
  cases hd:x.2.2.1 with
  |false=>rfl
  |true=>cases c:x.2.1 with
   |nil=>rfl
   |cons=>exact absurd ⟨hd,by simp[c]⟩ a
 rw[b];simp;omega
theorem i7:∀ {l:List U7},(l.map (·.1)).Nodup->SB l=zt
 |[],_=>rfl
 |a::l,h=>by
  rw[en,gw]at h;simp only[SB,i7 h.2,Bool.and_true,Bool.not_eq_true'];rw[List.any_eq_false];intro b c e;exact h.1 (ey.2 ⟨b,c,by simpa using e⟩)
theorem lB{l:List U7}(a:∀ x∈l,kE x=0)(b:(l.map (·.1)).Nodup)(d:l.length<=1000000):Rr l=zo (J5 l):=by
 unfold Rr;rw[show l.all Ur=zt from List.all_eq_true.2 λx c=>us (a x c),i7 b,show Nat.ble l.length 1048576=zt from by simp;omega];rfl
theorem km{α β:Type}{m:Option α}{Q:α->Prop}{k:α->Option β}{y:Option β}(h:∃ r,m=zo r/\Q r)(a:∀ r,Q r->k r=y):bd m k=y:=by
 obtain⟨r,rfl,h⟩:=h;exact a r h
theorem gY(l:List U7)(d:l.length<=1000000){f:Int×Int->Option (LR (Int×Int) (Nat×(Int×Int)×Unit))}
  (c:∀ s:Int×Int,f s=br (UV s.2 (l.length:Int)) (λ_=>S1 s.2 λk=>gd (I8 k (AQ l)) λ_=>ix l k λx=>bd (V0 x) λr=>br r (λ_=>zo (.dn ((0,((s.2,s.2),()))))) λ_=>zo (.nx (s.1,TI .i64 s.2 1))) λ_=>zo (.dn ((1,(s,()))))) :
  ∃ r,loop f ((0:Int),(0:Int))=zo r/\((∃ i,i<l.length/\r=(0,(((i:Int),(i:Int)),()))/\(l.take i).filter VE=l.take i /\ ∃ x,l[i]?=zo x/\VE x=zf)\/((∃ s,r=(1,(s,())))/\l.filter VE=l)):=
 XG (l:=l) (σ:=Unit) (λk _=>((0:Int),(k:Int))) (λ_ k _=>(l.take k).filter VE=l.take k) _
  () rfl (by omega) (by simp) (λ_ h=>by
   rw[c];exact⟨(1,(((0:Int),(l.length:Int)),())),by simp only[re,TA],.inr ⟨⟨_,rfl⟩,by simpa using h⟩⟩) (λk x m e hd b hi h=>by
   rw[c];simp only;rw[rl hi,Tj,U8,af (by simpa[AQ]using hi),Ua b];unfold V0;rw[UG];cases a:x.2.2.1 with
   |true=>exact .inr ⟨_,rfl,.inl ⟨k,hi,rfl,h,x,b,by simp[VE,a]⟩⟩
   |false=>
    refine .inl ⟨(),by rw[TA,VH b (by omega)],?_⟩;rw[gs,b]
    simp[List.filter_append,h,VE,a])
theorem jr(l:List U7)(E:l.length<=1000000){b:Nat}(D:b<l.length)(t:(l.take b).filter VE=l.take b){A:U7}(u:l[b]?=zo A)(p:VE A=zf){f:Int×(Int×List U7)->Option (LR (Int×(Int×List U7)) (Nat×(Int×(Int×List U7))×Unit))}
  (z:∀ s:Int×(Int×List U7),f s=br (UV s.2.1 (s.2.2.length:Int)) (λ_=>S1 s.2.1 λk=>gd (I8 k (AQ s.2.2)) λ_=>ix s.2.2 k λx=>bd (V0 x) λr=>br (IG r) (λ_=>S1 s.1 λq=>gd (I8 q (AQ s.2.2)) λ_=>ix s.2.2 q λ_=>zo (.nx ((TI .i64 s.1 1,(TI .i64 s.2.1 1,lset s.2.2 q x))))) λ_=>zo (.nx ((s.1,(TI .i64 s.2.1 1,s.2.2))))) λ_=>zo (.dn ((0,(s,()))))) :
  ∃ r,loop f ((b:Int),(TI .i64 (b:Int) 1,l))=zo r /\ ∃ (i:Nat) (row:List U7),r=(0,(((i:Int),((l.length:Int),row)),()))/\i<l.length/\row.length=l.length/\row.take i=l.filter VE:=
 XG (l:=l.drop (b+1)) (σ:=Nat×List U7) (λk a=>((a.1:Int),(((b+1+k:Nat):Int),a.2)))
  (λ_ k a=>a.1<=b+k/\a.2.length=l.length/\a.2.take a.1=(l.take (b+1+k)).filter VE/\a.2.drop (b+1+k)=l.drop (b+1+k)) _
  (b,l) (by rw[VD (by omega)]) (by simp;omega) ⟨by omega,rfl,by rw[Nat.add_zero,gs,u];simp[List.filter_append,t,p],rfl⟩ (λa ⟨w,c,d,_⟩=>by
   rw[yb]at w d ⊢;rw[z];have e:b+1+(l.length-(b+1))=l.length:=by omega
   exact⟨(0,(((a.1:Int),((l.length:Int),a.2)),())),by simp only[e,c,re,TA],a.1,a.2,rfl,by omega,c,by rw[d,e,List.take_length]⟩) (λk x m a hd j hi ⟨w,c,d,n⟩=>by
   rw[yb]at hi;rw[List.getElem?_drop]at j
   have B:a.2[b+1+k]?=zo x:=by
    rw[<- j];have:=congrArg (·[0]?) n;simpa using this
   have h:b+1+k<a.2.length:=by omega
   have o:∃ y,a.2[a.1]?=zo y:=⟨_,ci (by omega)⟩;obtain⟨y,C⟩:=o;rw[z];simp only;rw[show UV ((b+1+k:Nat):Int) (a.2.length:Int)=zt from rl h,Tj,U8,af (by simpa[AQ]using h),Ua B];unfold V0;rw[UG,Vs];cases g:x.2.2.1 with
   |true=>
    refine .inl ⟨a,by rw[Tj,VD (by omega)];simp[mR],by omega,c,?_,?_⟩
    ·rw[d,<- mR,gs,j];simp[List.filter_append,VE,g]
    ·have:=congrArg (List.drop 1) n;simpa[mR]using this
   |false=>
    refine .inl ⟨(a.1+1,a.2.set a.1 x),?_,by simp only;omega,by simpa using c,?_,?_⟩
    ·rw[TA,U8,af (by simp[AQ];omega),Ua C,VD (by omega),VD (by omega)];simp[lset,mR]
    ·simp only;rw[<- mR,gs (i:=b+1+k),j,List.filter_append,<- d,gs,List.take_set_of_le (ee _),List.getElem?_set_self (by omega)];simp[VE,g]
    ·simp only;rw[List.drop_set_of_lt (by omega)];have:=congrArg (List.drop 1) n
     simpa[mR]using this)
end
section
open Go Sv
theorem aW(f:WN):J5 ((Z6 f).filter VE)=Wv f:=by
 have i:(((Z6 f).filter VE).map (·.1)).Nodup:=(bf f).sublist (List.filter_sublist.map _);obtain⟨d,g⟩:=dV i;refine cD d (bX f) λk=> ?_;rw[g,cb,<- rT];generalize h:Z6 f=l;have hd:=bf f;rw[h]at hd;clear i d g h
 induction l with
 |nil=>rfl
 |cons a l j=>
  rw[en,gw]at hd;rw[oy,VV];by_cases b:a.1=k
  ·rw[zy b];cases c:VE a with
   |true=>rw[zy rfl,VV,zy b];simp[rY,c]
   |false=>
    rw[zx (by simp)];simp only[rY,c,Bool.false_eq_true,if_false];refine Y8 λx m e=>hd.1 (ey.2 ⟨x,(sr.1 m).1,e.trans b.symm⟩)
  ·rw[zx b];cases c:VE a with
   |true=>rw[zy rfl,VV,zx b];exact j hd.2
   |false=>rw[zx (by simp)];exact j hd.2
theorem lX{f:WN}(a:Vj f=0):∀ x∈Z6 f,kE x=0:=by
 intro x g;obtain⟨j,v,k⟩:=X2 a;rcases gC _ _ x g with h|⟨r,b,c⟩
 ·rcases cX _ _ x h with h|h
  ·cases h
  ·exact(kr j).ok x h
 ·obtain⟨rs,d,e⟩:=List.mem_flatMap.1 b;obtain⟨i,hi⟩:=co d;exact((v.lev.lev i rs hi).2 r (List.mem_reverse.1 e)).vl.ok x c
theorem jI{f:WN}(b:Vj f=0)(hc:VX f.2.1.2.flatten<=2000):f.1.2.length<=16/\(Z6 f).length<=2016:=by
 obtain⟨d,v,k⟩:=X2 b;have a:=kr d;have h:=a.m1;have i:=a.m2;have j:=a.len;have e:=dD (VJ f.2.1.2) (f.1.2.foldl Xb []);have c:=Za f.1.2 [];have g:=(XZ f.2.1.2).1;simp only[eb]at c;refine⟨by omega,?_⟩;unfold Z6;omega
theorem ji(l:List U7)(n i:Nat)(z:U7)(hi:i<=l.length):(Ey l i (Ot n z) n).take i=l.take i:=by
 unfold Ey;rw[List.take_append_of_le_length (by simp;omega),List.take_take];simp
theorem qn{f:WN}(d:Vj f=0)(hc:VX f.2.1.2.flatten<=2000):YG f=zo (Wv f,0):=by
 obtain⟨B,v,C⟩:=X2 d;obtain⟨z,n⟩:=jI d hc;have t:=(XZ f.2.1.2).1;have w:=ZK f.2.1.2 v.lev.two;have u:=v.lev.len;have q:=Za f.1.2 [];simp only[eb]at q
 have b:∀ {β:Type} (k:List U7->Option β),bd (Rr ((Z6 f).filter VE)) k=k (Wv f):=λk=>by
  rw[lB (λx m=>lX d x (sr.1 m).1) ((bf f).sublist (List.filter_sublist.map _)) (by have:=wl VE (Z6 f);omega),UG,aW]
 unfold YG;rw[gq v.lev,UG,Uq,zy rfl];refine VY (dW f.1.2 [] (by simp;omega) λ_=>rfl) ?_;refine VY (lY (VJ f.2.1.2) (f.1.2.foldl Xb []) (by omega) (by omega) λ_=>rfl) ?_;refine km (gY (Z6 f) (by omega) λ_=>rfl) λr l=> ?_;rcases l with⟨i,hi,rfl,e,x,m,hd⟩|⟨⟨s,rfl⟩,e⟩
 ·dsimp only;rw[show neq 0 0=zt from rfl,Tj,Uk,zx (by omega)];refine km (jr (Z6 f) (by omega) hi e m hd λ_=>rfl) λr l=> ?_;obtain⟨j,row,rfl,A,o,p⟩:=l;dsimp only;simp only[VB];have c:A0 0 (QC j 0)=j:=by simp[A0,QC]
  have e1:(Ey row j (Ot (QC row.length j) (([],([],(zf,0))):U7)) (QC row.length j)).length=row.length:=by
   simp[Ey,Ot,QC];omega
  have e2:DV (Ey row j (Ot (QC row.length j) (([],([],(zf,0))):U7)) (QC row.length j)) 0 (A0 0 (QC j 0))=(Z6 f).filter VE:=by
   rw[c,<- p];unfold DV;rw[List.drop_zero,Nat.sub_zero,ji _ _ _ _ (by omega)]
  have g:((Z6 f).filter VE).length=j:=by rw[<- p,s7];omega
  have h:(Wv f).length=j:=by rw[<- aW,IS,g]
  rw[U8,Va (ee _),Va (by omega),show I8 j row.length=zt from by simp[I8];omega,Tj,Va (by simp[A0,QC];omega),U8,e1,Va (by omega),Va (by omega),show I8 0 row.length=zt from by simp[I8];omega,Tj,Va (by rw[c];omega),e2,b]
  have e3:∀ a:List U7,a.length=row.length->(Ey a 0 (Wv f) (QC j 0)).length=row.length/\DV (Ey a 0 (Wv f) (QC j 0)) 0 (A0 0 (QC j 0))=Wv f:=λa y=>by
   rw[c];have:(Wv f).take (QC j 0)=Wv f:=List.take_of_length_le (by simp[QC];omega);unfold Ey DV;rw[this];refine⟨by simp;omega,?_⟩;simp[List.take_left' h]
  rw[(e3 _ e1).1,(e3 _ e1).2,Va (by rw[c];omega)]
 ·dsimp only;rw[show neq 1 0=zf from rfl,TA,Uk,zy rfl];refine Eq.trans ?_ (b λr=>zo (r,0));rw[e];rfl
theorem ki{f:WN}(a:WQ f=zo (Vj f))(hc:Vj f=0->VX f.2.1.2.flatten<=2000):YF f=zo (if Vj f=0 then(Wv f,0)else([],Vj f)):=by
 unfold YF;rw[a,UG,Uq];by_cases h:Vj f=0
 ·rw[zy h,qn h (hc h),UG,zy h]
 ·rw[zx h,zx h]
end
section
open Go Sv
end
section
open Go Sv
abbrev FlJ:=Int×(List (List VU)×(List Job×Int))
abbrev DbS:=FlJ×((Int×Int)×(Int×(FlJ×Int)))
def DAt(s0:U9)(T:U9×(Nat×Int))(k n:Nat)(m:Int)(s:U9):Prop:=
 Gd s0 s/\n+k<=1100000/\T=((Zj k s).1,(n+(Zj k s).2.1.length,(Zj k s).2.2))/\((m=(k:Int)/\0<k)\/(m = -1-(n:Int)/\sJ 2000 s<k))
theorem DAt.pos{s0 s:U9}{T:U9×(Nat×Int)}{k n:Nat}{m:Int}(a:DAt s0 T k n m s):∃ b,k=b+1:=by
 obtain⟨_,_,_,h⟩:=a;exact⟨k-1,by omega⟩
theorem DAt.none{s0 s:U9}{T:U9×(Nat×Int)}{k n:Nat}{m:Int}(a:DAt s0 T k n m s)(e:Y5 s=4):T=(s,(n,0)):=by
 obtain⟨b,rfl⟩:=a.pos;rw[a.2.2.1];simp[Zj,e]
theorem DAt.fail{s0 s:U9}{T:U9×(Nat×Int)}{k n:Nat}{m:Int}(a:DAt s0 T k n m s)(c:Y5 s≠4)(b:Y5 s≠0):T=(s,(n,Y5 s)):=by
 obtain⟨d,rfl⟩:=a.pos;rw[a.2.2.1];simp[Zj,c,b]
theorem DAt.step{s0 s:U9}{T:U9×(Nat×Int)}{k n:Nat}{m:Int}(a:DAt s0 T k n m s)(e:Y5 s=0) :
  (m-1=0/\T=(aM s,(n+1,0)))\/(m-1≠0 /\ ∃ b,DAt s0 T b (n+1) (m-1) (aM s)):=by
 obtain⟨b,rfl⟩:=a.pos;obtain⟨g,j,h,l⟩:=a;obtain⟨_,_,_,_,_,_,_,f⟩:=Zh g e;have o:=(jJ g g.2.2 e).1
 have c:T=((Zj b (aM s)).1,(n+1+(Zj b (aM s)).2.1.length,(Zj b (aM s)).2.2)):=by
  rw[h];simp[Zj,e];omega
 by_cases d:m-1=0
 ·refine .inl ⟨d,?_⟩;have i:b=0:=by omega
  rw[c,i];rfl
 ·refine .inr ⟨d,b,f,by omega,c,?_⟩;omega
def DEnd(T:U9×(Nat×Int))(r:Nat×(DbS×Unit)):Prop:=
 (T.2.2=0/\(r.2.1.2.1.1=0\/r.2.1.2.1.1=1)/\r.2.1.2.2.1=(T.2.1:Int)/\r.2.1.2.2.2.1=flS T.1)\/(T.2.2≠0/\r.2.1.2.1=(2,T.2.2))
theorem DEnd.fin{T:U9×(Nat×Int)}{r:Nat×(DbS×Unit)}(h:DEnd T r) :
  (br (PC r.2.1.2.1.1 0) (λ_=>zo ((((r.2.1.2.2.2.1.1,r.2.1.2.2.2.1.2.1),r.2.1.2.2.2.1.2.2),(r.2.1.2.2.1,(0:Int))))) λ_=>br (PC r.2.1.2.1.1 1) (λ_=>zo ((((r.2.1.2.2.2.1.1,r.2.1.2.2.2.1.2.1),r.2.1.2.2.2.1.2.2),(r.2.1.2.2.1,0)))) λ_=>zo ((((0,[]),([],0)),(0,r.2.1.2.1.2))))=zo (if T.2.2≠0 then(zS,(0,T.2.2))else(T.1,((T.2.1:Int),0))):=by
 rcases h with⟨a,h2,b,c⟩|⟨a,h2⟩
 ·rw[zx (by simp[a]),c,b,Uk,Uk];rcases h2 with h2|h2
  ·rw[zy h2];rfl
  ·rw[zx (by omega),zy h2];rfl
 ·rw[zy a,h2,Uk,zx (show ¬ ((2:Int)=0) by decide),Uk,zx (show ¬ ((2:Int)=1) by decide)];rfl
end
section
open Go Sv
def gF(s:U9):Bool×Int:=if(VF s).2≠0 then(zf,(VF s).2)else(decide (VS 0 s.1.2=[]),0)
end
section
open Go Sv
end
section
open Go Sv
end
section
open Go Sv
theorem rJ(f:WN)(a:∀ rs∈f.2.1.2,∀ r∈rs,r.2.length<=9223372036854775807):∃ b,aH f=zo b/\(b=zf->Sm f.2/\(VLev f.2.1->VX f.2.1.2.flatten<=40)/\f.1.2.length<=20):=by
 unfold aH;simp only[VC,VB]
 obtain⟨r,o,i⟩:=aK (l:=f.1.2) (σ:=Unit) (s:=((0:Int),zf)) 25 (by omega) (λk _=>((k:Int),zf)) (λ_ _=>True) (λ(r:Nat×((Int×Bool)×Unit))=>r.1=1\/(r.1=0/\r.2.1.2=zt))
  (f:=λs0=>br (UV s0.1 (f.1.2.length:Int)) (λ_=>br (UV s0.1 25) (λ_=>S1 s0.1 λm=>ix f.1.2 m λp=>br (UT (NH p.1:Int) 100) (λ_=>zo (.dn ((0,((s0.1,zt),()))))) λ_=>S1 s0.1 λn=>ix f.1.2 n λq=>br (UT (NH q.2.1:Int) 100) (λ_=>zo (.dn ((0,((s0.1,zt),()))))) λ_=>zo (.nx (TI .i64 s0.1 1,s0.2))) λ_=>zo (.dn ((1,(s0,()))))) λ_=>zo (.dn ((1,(s0,())))))
  () rfl trivial (λk _ h d _=>⟨_,(lA (c:=25) h d _ _ _ rfl),.inl rfl⟩) (λk x _ a d _=>by
   simp only;have g:=(a8.1 a).1;rw[rl g,Tj,show UV (k:Int) 25=zt from bH d,Tj,U8,Ua a,Um,U8,Ua a,Um,VD (by omega)]
   repeat' split
   all_goals simp_all)
 rw[o,UG,UH];rcases i with i|⟨i,t⟩
 ·rw[zx (show ¬ r.1=0 by omega)];obtain⟨b,e,j⟩:=lC f.2 a;rw[e,UG];cases b with
  |true=>exact⟨_,rfl,λh=>by cases h⟩
  |false=>
   refine⟨_,rfl,λh=>⟨(j rfl).1,(j rfl).2,?_⟩⟩
   grind [UT]
 simp_all
theorem lD:aG=aH:=rfl
end
section
open Go Sv
end
section
open Go Sv
theorem qy(u:Unit):YU u=zo zt:=rfl
end
end Go.Proofs.YtoefnfbpoabinaaGreatDoor.Pl
