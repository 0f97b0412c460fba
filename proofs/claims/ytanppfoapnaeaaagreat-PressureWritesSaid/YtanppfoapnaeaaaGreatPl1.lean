/- Functions of the program and of the specification as plain functions, and laws about them. No condition. -/
import Derived.Test.YtanppfoapnaeaaaGreatPl0
set_option linter.all false
open List renaming append_assoc->dc, append_nil->en, drop_eq_getElem_cons->iz, drop_length->xa, drop_zero->ox, ext_getElem?->tk, flatMap_cons->tw, flatten_cons->sk, foldl_append->ul, foldl_cons->hI, getElem?_eq_getElem->bl, getElem?_eq_none->a9, getElem?_eq_some_iff->a8, getElem?_map->vv, getElem?_of_mem->ee, getElem_mem->l4, getLast?_eq_getElem?->oj, head?->rz, head?_drop->l5, length->gs, length_append->fl, length_cons->ci, length_nil->cP, length_pos_iff->eg, map_append->oy, mem_append->o3, mem_cons->gl, mem_flatten->hV, mem_map->nn, mem_map_of_mem->ta, mem_of_getElem?->co, nodup_append->ol, tail->pg, tail_drop->lc, take_add_one->ns, take_length->xd
open Nat renaming le_refl->eb, lt_of_not_le->hM, min_eq_left->sw, sub_zero->kd, zero_add->eo, zero_le->gM
open Int renaming mul_le_mul->xl, toNat_natCast->ed, zero_add->sa
open Option renaming map_some->vL
open Bool renaming and_eq_true->wl, false_eq_true->ey, or_eq_true->xf
open UInt8 renaming lt_iff_toNat_lt->s9
open Prod renaming ext->r7
namespace Go.Proofs.YtanppfoapnaeaaaGreat.Pl
section
open Go Sv
abbrev XZ:=List UInt8
theorem Y6(a:XZ):SQ a []=false:=by unfold SQ;cases a<;>rfl
theorem aW(b:UInt8)(y:XZ):SQ [] (b::y)=true:=rfl
theorem Xz(a b:UInt8)(x y:XZ):SQ (a::x) (b::y)=(decide (a<b)||(a == b&&SQ x y)):=rfl
theorem WU:∀ a:XZ,SQ a a=false
 |[]=>rfl
 |a::x=>by rw[Xz,WU x];simp
theorem U5:∀ {a b c:XZ},SQ a b=true->SQ b c=true->SQ a c=true
 |[],b,[],e,d=>by rw[Y6]at d;cases d
 |[],b,c::z,_,_=>rfl
 |a::x,[],c,e,_=>by rw[Y6]at e;cases e
 |a::x,b::y,[],_,d=>by rw[Y6]at d;cases d
 |a::x,b::y,c::z,e,d=>by
  rw[Xz]at e d ⊢;simp only[xf,decide_eq_true_eq,wl,beq_iff_eq]at e d ⊢;rcases e with e|⟨rfl,e⟩
  ·rcases d with d|⟨rfl,d⟩
   ·exact .inl (UInt8.lt_trans e d)
   ·exact .inl e
  ·rcases d with d|⟨rfl,d⟩
   ·exact .inl d
   ·exact .inr ⟨rfl,U5 e d⟩
theorem aX:∀ a b:XZ,SQ a b=true\/a=b\/SQ b a=true
 |[],[]=>.inr (.inl rfl)
 |[],_::_=>.inl rfl
 |_::_,[]=>.inr (.inr rfl)
 |a::x,b::y=>by
  rw[Xz,Xz];simp only[xf,decide_eq_true_eq,wl,beq_iff_eq,List.cons.injEq];rcases UInt8.lt_or_lt_of_ne (a:=a) (b:=b) |> λh=>Classical.em (a=b) |>.imp id h with h|h|h
  ·subst h;rcases aX x y with h|h|h
   ·exact .inl (.inr ⟨rfl,h⟩)
   ·exact .inr (.inl ⟨rfl,h⟩)
   ·exact .inr (.inr (.inr ⟨rfl,h⟩))
  ·exact .inl (.inl h)
  ·exact .inr (.inr (.inl h))
theorem Uy{a b:XZ}(h:SQ a b=true):SQ b a=false:=by
 cases c:SQ b a with
 |false=>rfl
 |true=>have:=U5 h c;rw[WU]at this;cases this
theorem cF{a b:XZ}(h:SQ a b=true):a≠b:=λe=>by subst e;rw[WU]at h;cases h
theorem Yl{a b:XZ}(h:SQ a b=false)(c:a≠b):SQ b a=true:=by
 rcases aX a b with h1|h1|h1
 ·rw[h]at h1;cases h1
 ·exact absurd h1 c
 ·exact h1
theorem cG{a b c:XZ}(h:SQ b a=false)(d:SQ b c=true):SQ a c=true:=by
 rcases aX a b with h1|h1|h1
 ·exact U5 h1 d
 ·subst h1;exact d
 ·rw[h]at h1;cases h1
theorem Xo{a b:XZ}:seq a b=true<->a=b:=by unfold seq;simp
theorem Yk(a b:XZ):seq a b=decide (a=b):=by
 cases h:seq a b with
 |true=>rw[Xo]at h;simp[h]
 |false=>
  have:¬ a=b:=λe=>by rw[<- Xo]at e;rw[h]at e;cases e
  simp[this]
section
variable{α β σ S:Type}
theorem Vt(a b:XZ)(x y:Unit->Option β):br (seq a b) x y=if a=b then x ()else y ():=Jg Xo x y
theorem Wb(a b:XZ)(x y:Unit->Option β):br (SQ a b) x y=if SQ a b=true then x ()else y ():=Jg Iff.rfl x y
theorem Uo(p:Prop)[Decidable p](x y:Unit->Option β):br (decide p) x y=if p then x ()else y ():=Jg (by simp) x y
theorem Tb(k:Nat)(c:Nat->Option β):R0 (k:Int) c=c k:=by rw[Se (by omega)];simp
theorem pA{l:List α}{k:Nat}{x:α}(h:l[k]?=some x):S1 (k:Int) (Kh (AS l))=true:=by
 have:=(a8.1 h).1;unfold S1 Kh AS;simp;omega
theorem mo(l:List α):S1 (l.length:Int) (Kh (AS l))=false:=by unfold S1 Kh AS;simp
theorem Tf{k:Nat}(h:k+1<=9223372036854775807):SE .i64 (k:Int) 1=((k+1:Nat):Int):=by
 rw[Sb (by omega)];omega
theorem Tn{l:List α}{k:Nat}{x:α}(h:l[k]?=some x)(a:l.length<=9223372036854775807):SE .i64 (k:Int) 1=((k+1:Nat):Int):=by
 have:=(a8.1 h).1;exact Tf (by omega)
def Zk(step:Nat->α->σ->Option (LR σ β))(a:σ->Option β):List α->Nat->σ->Option β
 |[],_,s=>a s
 |x::l,k,s=>match step k x s with
  |none=>none
  |some (.nx s')=>Zk step a l (k+1) s'
  |some (.dn b)=>some b
def vg(mk:σ->S):Option (LR σ β)->Option (LR S β)
 |none=>none
 |some (.nx s)=>some (.nx (mk s))
 |some (.dn b)=>some (.dn b)
def qK:Option β->Option (LR S β)
 |none=>none
 |some b=>some (.dn b)
theorem bm{l:List α}{mk:Nat->σ->S}{f:S->Option (LR S β)}{step:Nat->α->σ->Option (LR σ β)}{c:σ->Option β}
  (hs:∀ k x a,l[k]?=some x->f (mk k a)=vg (mk (k+1)) (step k x a)) (j:∀ a,f (mk l.length a)=qK (c a)) :
  ∀ (d n k:Nat) (a:σ),l.length-k=d->k<=l.length->d<n->LF n f (mk k a)=Zk step c (l.drop k) k a:=by
 intro d
 induction d with
 |zero=>
  intro n k a g h i;have e:k=l.length:=by omega
  obtain⟨m,rfl⟩:∃ m,n=m+1:=⟨n-1,by omega⟩;subst e;unfold LF;rw[j,xa];unfold qK Zk;cases c a<;>rfl
 |succ d p=>
  intro n k a g h i;obtain⟨m,rfl⟩:∃ m,n=m+1:=⟨n-1,by omega⟩;have e:k<l.length:=by omega
  have o:l[k]?=some l[k]:=by simp[e]
  unfold LF;rw[hs k _ a o,iz e]
  show _=match step k l[k] a with
   |none=>none
   |some (.nx s')=>Zk step c (l.drop (k+1)) (k+1) s'
   |some (.dn b)=>some b
  cases step k l[k] a with
  |none=>rfl
  |some r=>cases r with
   |nx s'=>exact p m (k+1) s' (by omega) (by omega) (by omega)
   |dn b=>rfl
theorem eY{l:List α}(mk:Nat->σ->S)(step:Nat->α->σ->Option (LR σ β))(b:σ->Option β){f:S->Option (LR S β)}{s:S}(a:σ)(c:s=mk 0 a)(e:l.length<=9223372036854775807)
  (hs:∀ k x a,l[k]?=some x->f (mk k a)=vg (mk (k+1)) (step k x a)) (d:∀ a,f (mk l.length a)=qK (b a)) :
  loop f s=Zk step b l 0 a:=by
 subst c;have:=bm hs d l.length 18446744073709551616 0 a (by omega) (by omega) (by omega);rw[ox]at this;exact this
theorem au{f:α->Option (LR α β)}{x:β}:∀ {n m:Nat} {s:α},n<=m->LF n f s=some x->LF m f s=some x
 |0,_,_,_,h=>by cases h
 |n+1,0,_,hl,_=>by omega
 |n+1,m+1,s,hl,h=>by
  unfold LF at h ⊢;split at h
  ·cases h
  ·rename_i s' e;exact au (by omega) h
  ·exact h
theorem Ut{f:α->Option (LR α β)}{x:β}{n:Nat}{s:α}(a:n<=18446744073709551616)(h:LF n f s=some x):loop f s=some x:=au a h
theorem UI{f:α->Option (LR α β)}{n:Nat}{s s':α}(h:f s=some (.nx s')):LF (n+1) f s=LF n f s':=by
 show(match f s with
  |none=>none
  |some (.nx s)=>LF n f s
  |some (.dn x)=>some x)=_
 rw[h]
theorem UJ{f:α->Option (LR α β)}{n:Nat}{s:α}{x:β}(h:f s=some (.dn x)):LF (n+1) f s=some x:=by
 show(match f s with
  |none=>none
  |some (.nx s)=>LF n f s
  |some (.dn x)=>some x)=_
 rw[h]
theorem Xd{f:S -> Option (LR S β)}{r:β}(mk:Nat -> S)(n:Nat){s:S}(h0:s=mk 0)(hn:n < 18446744073709551616)(hs:∀ k,k < n -> f (mk k)=some (.nx (mk (k + 1))))(he:f (mk n)=some (.dn r)):loop f s=some r:=by
  subst h0
  have:∀ d k,k + d=n -> LF (d + 1) f (mk k)=some r:=by
    intro d
    induction d with
    | zero => intro k hk; have : k = n := by omega
              subst this;exact UJ he
    |succ d ih=>intro k hk;rw[UI (hs k (by omega))];exact ih (k + 1) (by omega)
  exact Ut (n:=n + 1) (by omega) (this n 0 (by omega))
end
end
section
open Go Sv
def kE(x:Ta):Int:=if x.1.length>32\/x.2.1.length>64 then 3 else if x.2.2.1=true/\x.2.1≠[]then 6 else if x.2.2.2<1\/x.2.2.2>1000000000 then 7 else 0
def YK:Option XZ->Nat->List Ta->Int×Int
 |_,_,[]=>(0,0)
 |p,k,x::l=>if kE x≠0 then((k:Int),kE x)else match p with
  |some q=>if SQ q x.1=true then YK (some x.1) (k+1) l else((k:Int),6)
  |none=>YK (some x.1) (k+1) l
def Uk(l:List Ta):Int×Int:=if l.length>5000 then(-1,3)else YK none 0 l
def Asc:Option XZ->List Ta->Prop
 |_,[]=>True
 |p,x::l=>(∀ q,p=some q->SQ q x.1=true)/\Asc (some x.1) l
theorem ZU:∀ {p k l},(YK p k l).2=0<->(∀ x∈l,kE x=0)/\Asc p l
 |p,k,[]=>by simp[YK,Asc]
 |p,k,x::l=>by
  unfold YK;by_cases h:kE x=0
  ·rw[if_neg (by simp[h])];cases p with
   |none=>
    simp only[ZU (p:=some x.1) (l:=l),Asc,gl,forall_eq_or_imp];constructor
    ·rintro⟨a,b⟩;exact⟨⟨h,a⟩,(λq c=>by cases c),b⟩
    ·rintro⟨⟨_,a⟩,_,b⟩;exact⟨a,b⟩
   |some q=>
    simp only;by_cases c:SQ q x.1=true
    ·rw[if_pos c];simp only[ZU (p:=some x.1) (l:=l),Asc,gl,forall_eq_or_imp];constructor
     ·rintro⟨a,b⟩;exact⟨⟨h,a⟩,(λe d=>by cases d;exact c),b⟩
     ·rintro⟨⟨_,a⟩,_,b⟩;exact⟨a,b⟩
    ·rw[if_neg c];constructor
     ·intro h;cases h
     ·rintro⟨_,b⟩;exact absurd (b.1 q rfl) c
  ·rw[if_pos h];constructor
   ·intro h';exact absurd h' h
   ·rintro⟨a,_⟩;exact absurd (a x (by simp)) h
theorem ZA:∀ {p k l},(YK p k l).2=0->YK p k l=(0,0)
 |p,k,[],_=>rfl
 |p,k,x::l,h=>by
  unfold YK at h ⊢;by_cases a:kE x=0
  ·rw[if_neg (by simp[a])]at h ⊢;cases p with
   |none=>exact ZA h
   |some q=>
    simp only at h ⊢;by_cases b:SQ q x.1=true
    ·rw[if_pos b]at h ⊢;exact ZA h
    ·rw[if_neg b]at h;cases h
  ·rw[if_pos a]at h;exact absurd h a
structure VL (l:List Ta):Prop where
 len:l.length<=5000
 ok:∀ x∈l,kE x=0
 asc:Asc none l
theorem ZB{l:List Ta}:(Uk l).2=0<->VL l:=by
 unfold Uk;by_cases h:l.length>5000
 ·rw[if_pos h];constructor
  ·intro h;cases h
  ·intro h';have:=h'.len;omega
 ·rw[if_neg h];rw[ZU];exact⟨λ⟨a,b⟩=>⟨by omega,a,b⟩,λh=>⟨h.ok,h.asc⟩⟩
theorem YM{l:List Ta}(h:VL l):Uk l=(0,0):=by
 have a:=ZB.2 h;unfold Uk at a ⊢;rw[if_neg (by have:=h.len;omega)]at a ⊢;exact ZA a
theorem Asc.lt:∀ {p:Option XZ} {l:List Ta},Asc p l -> ∀ {i:Nat} {x y:Ta},l[i]?=some x->l[i+1]?=some y->SQ x.1 y.1=true
 |p,x::[],_,0,_,_,_,h2=>by simp at h2
 |p,a::b::l,h,0,x,y,h1,h2=>by
  simp at h1 h2;subst h1;subst h2;exact h.2.1 _ rfl
 |p,a::l,h,i+1,x,y,h1,h2=>by
  simp at h1 h2;exact Asc.lt h.2 h1 h2
theorem VL.lt{l:List Ta}(h:VL l){i:Nat}{x y:Ta}(a:l[i]?=some x)(b:l[i+1]?=some y):SQ x.1 y.1=true:=h.asc.lt a b
def kx(l:List Ta)(i:Nat):Tu:=match l[i]? with
 |some x=>(x.1,false)
 |none=>([],true)
def w0(p q:Tu):Bool:=if p.2≠q.2 then q.2 else if p.1≠q.1 then SQ p.1 q.1 else true
def Xi(a b:List Ta)(i j:Nat):Bool:=w0 (kx a i) (kx b j)
def Tk(a b:List Ta):Nat->Nat×Nat
 |0=>(0,0)
 |n+1=>if Xi a b (Tk a b n).1 (Tk a b n).2=true then((Tk a b n).1+1,(Tk a b n).2)else((Tk a b n).1,(Tk a b n).2+1)
def ZQ(a b:List Ta)(n:Nat):Option Ta:=if Xi a b (Tk a b n).1 (Tk a b n).2=true then a[(Tk a b n).1]? else b[(Tk a b n).2]?
structure Inv (a b:List Ta) (i j:Nat):Prop where
 ia:i<=a.length
 jb:j<=b.length
 pa:∀ i',i=i'+1 -> ∀ x y,a[i']?=some x->b[j]?=some y->SQ y.1 x.1=false
 pb:∀ j',j=j'+1 -> ∀ x y,b[j']?=some x->a[i]?=some y->SQ x.1 y.1=true
theorem Zf{a b:List Ta}{i j:Nat}{x y:Ta}(c:a[i]?=some x)(d:b[j]?=some y):Xi a b i j = !SQ y.1 x.1:=by
 unfold Xi w0 kx;rw[c,d];simp only[ne_eq,not_true,if_false];by_cases h:x.1=y.1
 ·rw[if_neg (by simp[h]),h,WU];rfl
 ·rw[if_pos h];cases hs:SQ x.1 y.1 with
  |true=>rw[Uy hs];rfl
  |false=>rw[Yl hs h];rfl
theorem de{a b:List Ta}{i j:Nat}{x:Ta}(c:a[i]?=some x)(d:b[j]?=none):Xi a b i j=true:=by
 unfold Xi w0 kx;rw[c,d];rfl
theorem dg{a b:List Ta}{i j:Nat}{y:Ta}(c:a[i]?=none)(d:b[j]?=some y):Xi a b i j=false:=by
 unfold Xi w0 kx;rw[c,d];rfl
theorem al{a b:List Ta}{i j:Nat}(c:a[i]?=none)(d:b[j]?=none):Xi a b i j=true:=by
 unfold Xi w0 kx;rw[c,d];rfl
theorem Inv.zero(a b:List Ta):Inv a b 0 0:=⟨by omega,by omega,λ_ h=>by omega,λ_ h=>by omega⟩
theorem Inv.stepA{a b:List Ta}(va:VL a){i j:Nat}(h:Inv a b i j){x:Ta}(c:a[i]?=some x)(g:Xi a b i j=true):Inv a b (i+1) j:=by
 have hi:=(a8.1 c).1;refine⟨by omega,h.jb,λl e k y d f=> ?_,λj' e k y d f=> ?_⟩
 ·have:l=i:=by omega
  subst this;rw[c]at d;cases d;rw[Zf c f]at g;simpa using g
 ·exact U5 (h.pb j' e k x d c) (va.lt c f)
theorem Inv.stepB{a b:List Ta}(n:VL b){i j:Nat}(h:Inv a b i j){y:Ta}(c:b[j]?=some y)(g:Xi a b i j=false):Inv a b i (j+1):=by
 have p:=(a8.1 c).1;refine⟨h.ia,by omega,λm e k o d f=> ?_,λj' e k o d f=> ?_⟩
 ·have l:=h.pa m e k y d c;exact Uy (cG l (n.lt c f))
 ·have:j'=j:=by omega
  subst this;rw[c]at d;cases d;rw[Zf f c]at g;simpa using g
theorem WS{a b:List Ta}(va:VL a)(f:VL b):∀ {n:Nat},n<=a.length+b.length->Inv a b (Tk a b n).1 (Tk a b n).2/\(Tk a b n).1+(Tk a b n).2=n
 |0,_=>⟨Inv.zero a b,rfl⟩
 |n+1,h=>by
  obtain⟨c,hs⟩:=WS va f (n:=n) (by omega);rw[show Tk a b (n+1)=if Xi a b (Tk a b n).1 (Tk a b n).2=true then((Tk a b n).1+1,(Tk a b n).2)else((Tk a b n).1,(Tk a b n).2+1)from rfl]
  revert c hs;generalize (Tk a b n).1=i;generalize (Tk a b n).2=j;intro c hs;cases g:Xi a b i j with
  |true=>
   have hi:i<a.length:=by
    refine hM λh'=> ?_;have d:a[i]?=none:=a9 h';have e:j<b.length:=by have:=c.ia;omega
    rw[dg d (by simp[e]:b[j]?=some b[j])]at g;cases g
   have:=c.stepA va (by simp[hi]:a[i]?=some a[i]) g;rw[if_pos rfl];exact⟨this,by omega⟩
  |false=>
   have k:j<b.length:=by
    refine hM λh'=> ?_;have d:b[j]?=none:=a9 h';cases e:a[i]? with
    |none=>rw[al e d]at g;cases g
    |some x=>rw[de e d]at g;cases g
   have:=c.stepB f (by simp[k]:b[j]?=some b[j]) g;rw[if_neg (by simp)];exact⟨this,by omega⟩
end
section
open Go Sv
def Tt(p q:Tu):VU:=([p,q],([0,if w0 p q=true then 1 else 0],if w0 p q=true then 0 else 1))
def Ym(a b:List Ta)(i j:Nat):U2:=([a,b],([(i:Int),(j:Int)],Tt (kx a i) (kx b j)))
def nG(a b:List Ta)(n:Nat):XZ:=match ZQ a b n with
 |some x=>x.1
 |none=>[]
def fresh(a b:List Ta)(n:Nat)(x:Ta):Bool:=decide (n=0)||decide (nG a b (n-1)≠x.1)
def mi(a b:List Ta)(c:Bool):Nat->List Ta
 |0=>[]
 |n+1=>match ZQ a b n with
  |some x=>if(fresh a b n x && !(c&&x.2.2.1))=true then mi a b c n++[x]else mi a b c n
  |none=>mi a b c n
def xW(a b:List Ta)(c:Bool)(n:Nat):UZ:=(decide (n≠0),(if n=0 then[]else nG a b (n-1),c))
def vi(a b:List Ta)(c:Bool)(n:Nat):X2:=(Ym a b (Tk a b n).1 (Tk a b n).2,(xW a b c n,(mi a b c n,(n:Int))))
def Ts(a b:List Ta):Nat->List Ta
 |0=>[]
 |n+1=>match ZQ a b n with
  |some x=>Ts a b n++[x]
  |none=>Ts a b n
section
variable{a b:List Ta}(va:VL a)(vb:VL b)
include va vb
theorem Ve{n:Nat}(h:n<a.length+b.length):∃ x,ZQ a b n=some x/\(x∈a\/x∈b):=by
 obtain⟨e,hs⟩:=WS va vb (n:=n) (by omega);unfold ZQ;revert e hs;generalize (Tk a b n).1=i;generalize (Tk a b n).2=j;intro e hs;cases g:Xi a b i j with
 |true=>
  have hi:i<a.length:=by
   refine hM λh'=> ?_;have c:a[i]?=none:=a9 h';have d:j<b.length:=by have:=e.ia;omega
   rw[dg c (by simp[d]:b[j]?=some b[j])]at g;cases g
  exact⟨a[i],by simp[hi],.inl (l4 hi)⟩
 |false=>
  have f:j<b.length:=by
   refine hM λh'=> ?_;have c:b[j]?=none:=a9 h';cases d:a[i]? with
   |none=>rw[al d c]at g;cases g
   |some x=>rw[de d c]at g;cases g
  exact⟨b[j],by simp[f],.inr (l4 f)⟩
theorem hG{n:Nat}{x:Ta}(h:ZQ a b n=some x):kE x=0:=by
 have:x∈a\/x∈b:=by
  unfold ZQ at h;split at h
  ·exact .inl (co h)
  ·exact .inr (co h)
 rcases this with h|h
 ·exact va.ok x h
 ·exact vb.ok x h
theorem dl{n:Nat}(k:n+1<a.length+b.length){x y:Ta}(d:ZQ a b n=some x)(c:ZQ a b (n+1)=some y):SQ y.1 x.1=false:=by
 obtain⟨h,hs⟩:=WS va vb (n:=n) (by omega);unfold ZQ at d c;rw[show Tk a b (n+1)=if Xi a b (Tk a b n).1 (Tk a b n).2=true then((Tk a b n).1+1,(Tk a b n).2)else((Tk a b n).1,(Tk a b n).2+1)from rfl]at c
 revert h hs d c;generalize (Tk a b n).1=i;generalize (Tk a b n).2=j;intro d c h hs;cases g:Xi a b i j with
 |true=>
  rw[if_pos g]at d;simp only[g,if_true]at c;have e:=h.stepA va d g;cases f:Xi a b (i+1) j with
  |true=>rw[if_pos f]at c;exact Uy (va.lt d c)
  |false=>rw[if_neg (by simp[f])]at c;exact e.pa i rfl x y d c
 |false=>
  rw[if_neg (by simp[g])]at d;simp only[g,if_false,ey]at c;have e:=h.stepB vb d g;cases f:Xi a b i (j+1)with
  |true=>rw[if_pos f]at c;exact Uy (e.pb j rfl x y d c)
  |false=>rw[if_neg (by simp[f])]at c;exact Uy (vb.lt d c)
theorem Un:∀ {n:Nat},n<=a.length+b.length->(Ts a b n).length=n
 |0,_=>rfl
 |n+1,h=>by
  obtain⟨x,c,_⟩:=Ve va vb (n:=n) (by omega);unfold Ts;rw[c];simp[Un (n:=n) (by omega)]
theorem Xw:∀ {n k:Nat},n<=a.length+b.length->k<n->(Ts a b n)[k]?=ZQ a b k
 |n+1,k,h,hk=>by
  obtain⟨x,d,_⟩:=Ve va vb (n:=n) (by omega);unfold Ts;rw[d];show(Ts a b n++[x])[k]?=_;have e:=Un va vb (n:=n) (by omega);by_cases c:k<n
  ·rw[List.getElem?_append_left (by omega)];exact Xw (by omega) c
  ·have:k=n:=by omega
   subst this;rw[List.getElem?_append_right (by omega),e];simp[d]
theorem bn{n m:Nat}(d:m<=a.length+b.length)(h:n<=m):(Ts a b m).take n=Ts a b n:=by
 apply tk;intro k;rw[List.getElem?_take];by_cases c:k<n
 ·rw[if_pos c,Xw va vb d (by omega),Xw va vb (by omega) c]
 ·rw[if_neg c,a9];rw[Un va vb (by omega)];omega
end
end
section
open Go Sv
theorem Te(n:Nat):Kh n=(n:Int):=rfl
theorem Tc{α:Type}(l:List α):AS l=l.length:=rfl
theorem YD(l:List UInt8):Mi l=l.length:=rfl
theorem U3:Hg true=false:=rfl
theorem Vs:Hg false=true:=rfl
theorem UW{β:Type}(c:Bool)(x y:Unit->Option β):br (Hg c) x y=br c y x:=Ss c x y
theorem UC{β:Type}{a b:Nat}(h:a<=b)(k:Unit->Option β):gd (CF a b) k=k ():=by rw[Sw,if_pos h]
theorem Yc(k:XZ):Wd k=some (if k.length>32 then 3 else 0):=by
 unfold Wd;rw[TG,Te,YD];by_cases h:k.length>32
 ·rw[if_pos (by omega),if_pos h]
 ·rw[if_neg (by omega),if_neg h]
theorem Ux(x:Ta):UA x=some (kE x):=by
 unfold UA kE;rw[Yc,Sp,TJ];by_cases e:x.1.length>32
 ·simp[e]
 rw[if_neg e,if_pos rfl,TG,Te,YD];by_cases f:x.2.1.length>64
 ·rw[if_pos (by omega),if_pos (.inr f)]
 rw[if_neg (by omega:¬ (x.2.1.length:Int)>64),if_neg (by omega),TM];by_cases b:x.2.2.1=true
 ·rw[if_pos b,UW,Vt];by_cases c:x.2.1=[]
  ·rw[if_pos c,if_neg (by simp[c]),TI,TG];by_cases a:x.2.2.2<1
   ·simp[a]
   ·by_cases d:x.2.2.2>1000000000<;>simp[a,d]
  ·rw[if_neg c,if_pos ⟨b,c⟩]
 ·rw[if_neg b,if_neg (by simp[b]),TI,TG];by_cases a:x.2.2.2<1
  ·simp[a]
  ·by_cases d:x.2.2.2>1000000000<;>simp[a,d]
theorem Vu(l:List Ta)(q:l.length<=9223372036854775807):UG l=some (Uk l):=by
 unfold UG Uk;rw[TG,Te,Tc];by_cases h:l.length>5000
 ·rw[if_pos (by omega),if_pos h]
 rw[if_neg (by omega),if_neg h]
 have key:=eY (β:=Nat×(Int×Int×Int)×Unit) (l:=l) (λk (_:Int)=>((0:Int),((0:Int),(k:Int))))
  (λk x _=>if kE x≠0 then some (.dn (0,((kE x,((k:Int),(k:Int))),())))else if k>0 then
    (match l[k-1]? with
    |some y=>if SQ y.1 x.1=true then some (.nx 0)else some (.dn (0,(((6:Int),((k:Int),(k:Int))),())))
    |none=>none)else some (.nx 0))
  (λ_=>some (1,((0,(0,(l.length:Int))),()))) (s:=(0,(0,0))) (0:Int) rfl q (f:=(λs0=>br (S1 s0.2.2 (Kh (AS l))) (λ_=>R0 s0.2.2 λB=>ix l B λz=>bd (UA z) λw=>br (Rx w 0) (λ_=>some (.dn ((0,((w,(s0.2.2,s0.2.2)),()))))) λ_=>br (Sz s0.2.2 0) (λ_=>R0 (SI .i64 s0.2.2 1) λC=>ix l C λD=>br (Hg (SQ D.1 z.1)) (λ_=>some (.dn ((0,((6,(s0.2.2,s0.2.2)),()))))) λ_=>some (.nx ((s0.1,(s0.2.1,SE .i64 s0.2.2 1))))) λ_=>some (.nx ((s0.1,(s0.2.1,SE .i64 s0.2.2 1))))) λ_=>some (.dn ((1,(s0,()))))))
  (λk x j b=>by
   simp only;rw[pA b,SX,Tb,S6 b,Ux,Sp,TJ];by_cases c:kE x=0
   ·have A:k<l.length:=(a8.1 b).1;simp only[c,if_true,ne_eq,not_true,if_false];rw[TG];by_cases d:k>0
    ·rw[if_pos (by omega:(k:Int)>0),if_pos d,Sd (by omega),show((k:Int)-1)=((k-1:Nat):Int) by omega,Tb];have g:l[k-1]?=some l[k-1]:=by rw[bl (by omega)]
     rw[S6 g,g,UW,Wb];simp only;by_cases a:SQ l[k-1].1 x.1=true
     ·rw[if_pos a,if_pos a,Tn b q];rfl
     ·rw[if_neg a,if_neg a];rfl
    ·rw[if_neg (by omega:¬ (k:Int)>0),if_neg d,Tn b q];rfl
   ·simp only[c,if_false,ne_eq,not_false_iff,if_true];rfl)
  (λj=>by
   simp only
   rw[mo,R6];rfl)
 simp only[Te,Tc]at key;rw[key]
 have i : ∀ (m:List Ta) (k:Nat) (p:Option XZ),l.drop k=m->(p=if k=0 then none else (l[k-1]?).map (·.1)) -> ∀ j,bd (Zk (β:=Nat×(Int×Int×Int)×Unit) (λk x (_:Int)=>if kE x≠0 then some (.dn (0,((kE x,((k:Int),(k:Int))),()))) else if k>0 then
    (match l[k-1]? with
    |some y=>if SQ y.1 x.1=true then some (.nx 0)else some (.dn (0,(((6:Int),((k:Int),(k:Int))),())))
    |none=>none)else some (.nx (0:Int))) (λ_=>some (1,((0,(0,(l.length:Int))),()))) m k j) (λr=>br (neq r.1 0) (λ_=>some (r.2.1.2.1,r.2.1.1)) λ_=>some ((0:Int),(0:Int)))=some (YK p k m):=by
  intro m
  induction m with
  |nil=>intro k p _ _ j;rfl
  |cons x m u=>
   intro k p t n j
   have b:l[k]?=some x:=by
    have:=congrArg rz t;rw[l5]at this;simpa using this
   have A:k<l.length:=(a8.1 b).1
   have e:l.drop (k+1)=m:=by
    have:=congrArg pg t;rw[lc]at this;simpa using this
   unfold Zk YK;by_cases c:kE x=0
   ·simp only[c,ne_eq,not_true,if_false];by_cases d:k>0
    ·have g:l[k-1]?=some l[k-1]:=by rw[bl (by omega)]
     rw[if_pos d,g];rw[if_neg (by omega:¬ k=0),g]at n;subst n;simp only[vL];by_cases a:SQ l[k-1].1 x.1=true
     ·rw[if_pos a,if_pos a];exact u (k+1) (some x.1) e (by rw[if_neg (by omega)];simp[b]) 0
     ·rw[if_neg a,if_neg a];rfl
    ·have o:k=0:=by omega
     subst o;rw[if_neg d];simp only[if_true]at n;subst n;exact u 1 (some x.1) e (by simp[b]) 0
   ·simp only[c,ne_eq,not_false_iff,if_true];rfl
 exact i l 0 none (by simp) (by simp) 0
theorem Yw{α β σ S:Type}{l:List α}(mk:Nat->σ->S)(F:List α->Nat->σ->Option β){f:S->Option (LR S β)}{s:S}(a:σ)(p:s=mk 0 a)(w:l.length<=9223372036854775807)
  (t:∀ a,f (mk l.length a)=qK (F [] l.length a))
  (hc:∀ k x m a,l.drop k=x::m->l[k]?=some x->k<l.length->(∃ b,f (mk k a)=some (.nx (mk (k+1) b))/\F (x::m) k a=F m (k+1) b)\/f (mk k a)=qK (F (x::m) k a)):loop f s=F l 0 a:=by
 subst p
 have e:∀ (m:List α) (k n:Nat) (a:σ),l.drop k=m->k<=l.length->m.length<n->LF n f (mk k a)=F m k a:=by
  intro m
  induction m with
  |nil=>
   intro k n a c r d;obtain⟨n,rfl⟩:∃ j,n=j+1:=⟨n-1,by omega⟩
   have h:k=l.length:=by
    have:=congrArg gs c;simp at this;omega
   subst h;unfold LF;rw[t];cases F [] l.length a<;>rfl
  |cons x m u=>
   intro k n a c r d;obtain⟨n,rfl⟩:∃ j,n=j+1:=⟨n-1,by omega⟩
   have o:l[k]?=some x:=by
    have:=congrArg rz c;rw[l5]at this;simpa using this
   have g:k<l.length:=(a8.1 o).1
   have i:l.drop (k+1)=m:=by
    have:=congrArg pg c;rw[lc]at this;simpa using this
   rcases hc k x m a c o g with⟨b,h1,q⟩|h1
   ·rw[UI h1,q];exact u (k+1) n b i (by omega) (by simp at d;omega)
   ·unfold LF;rw[h1];cases F (x::m) k a<;>rfl
 exact e l 0 _ a (by simp) (by omega) (by omega)
theorem rl{α:Type}{l:List α}{k:Nat}(h:k<l.length):S1 (k:Int) (l.length:Int)=true:=by unfold S1;simp;omega
theorem re{α:Type}(l:List α):S1 (l.length:Int) (l.length:Int)=false:=by unfold S1;simp
theorem Tv{α β:Type}{m:Option α}{x:α}{k:α->Option β}{r:Option β}(h:m=some x)(e:k x=r):bd m k=r:=by subst h;exact e
theorem ZG(k:Tu):Vd k=some (k.2&&decide (k.1≠[])):=by
 unfold Vd;rw[TM];cases h:k.2 with
 |true=>rw[if_pos rfl,Yk];simp[Hg]
 |false=>rw[if_neg (by simp)];rfl
def Vp(k:Tu):Prop:=k.2=true->k.1=[]
theorem md{k:Tu}(h:Vp k):Vd k=some false:=by
 rw[ZG];cases a:k.2 with
 |true=>simp[h a]
 |false=>rfl
theorem US(l:List Ta)(i:Nat):Vp (kx l i):=by
 unfold kx Vp;split<;>simp
theorem Wz{l:List Tu}(h:∀ k∈l,Vp k)(b:l≠[])(e:l.length<=32):Vh l=some 0:=by
 unfold Vh;simp only[Te,Tc];rw[TE,TG,if_neg (by have:=eg.2 b;omega),if_neg (by omega)]
 rw[Yw (l:=l) (σ:=Unit) (s:=(0,0)) (λk _=>((0:Int),(k:Int))) (λ_ _ _=>some (1,((0,(l.length:Int)),()))) () rfl (by omega) (λd=>by
  simp only;rw[re];rfl) (λk x m d _ a c=>.inl ⟨(),by
   simp only;rw[rl c,SX,Tb,S6 a,md (h x (co a)),Sp,R6,Tn a (by omega)],rfl⟩),Sp]
 rfl
theorem YN{α:Type}{l:List α}(h:l.length<=1048576):(gd (CF (AS l) 1048576) λ_=>some l)=some l:=UC h _
theorem bA(p q:Tu):Wf [p,q]=some (Tt p q):=by
 have g:w0 p q=(if p.2≠q.2 then q.2 else if p.1≠q.1 then SQ p.1 q.1 else true):=rfl
 unfold Wf;simp only[Te,Tc,ci,cP];rw[show SF .i64 2 ((0+1+1:Nat):Int)=4 from rfl,show SI .i64 4 1=3 from rfl];unfold Ti;rw[show R0 4=λk=>k 4 from rfl];simp only[UC (show 4<=1048576 by omega),YN (show[p,q].length<=1048576 by simp),Sp];rw[show R0 ((0+1+1:Nat):Int)=λk=>k 2 from rfl];simp only[UC (show 2<=1048576 by omega)];have i:∀ {w l:Int} {x:Nat×((Int×(List Int×(List Tu×(List Int×Int))))×Unit)},x=(0,((0,([0,w,0,1],([p,q],([0,l],0)))),()))->(gd (KI 1 (AS x.2.1.2.1)) λ_=>ix x.2.1.2.1 1 λd=>some ((x.2.1.2.2.1,(x.2.1.2.2.2.1,d))))=some ([p,q],([0,l],w)):=λe=>by subst e;rfl
 have r:∀ {f:(Int×(List Int×(List Tu×(List Int×Int))))->Option (LR (Int×(List Int×(List Tu×(List Int×Int)))) (Nat×((Int×(List Int×(List Tu×(List Int×Int))))×Unit)))} {w l:Int},f (3,([0,0,0,0],([p,q],([0,0],0))))=some (.nx (2,([0,0,0,1],([p,q],([0,0],0)))))->f (2,([0,0,0,1],([p,q],([0,0],0))))=some (.nx (1,([0,0,0,1],([p,q],([0,0],0))))) ->
   f (1,([0,0,0,1],([p,q],([0,0],0))))=some (.nx (0,([0,w,0,1],([p,q],([0,l],0)))))->f (0,([0,w,0,1],([p,q],([0,l],0))))=some (.dn (0,((0,([0,w,0,1],([p,q],([0,l],0)))),()))) ->
   loop f (3,([0,0,0,0],([p,q],([0,0],0))))=some (0,((0,([0,w,0,1],([p,q],([0,l],0)))),())):=λa b j m=>
  Ut (n:=4) (by omega) ((UI a).trans ((UI b).trans ((UI j).trans (UJ m))))
 have o:∀ {β:Type} (A B:Option β),w0 p q=true->br (Hg (beq p.2 q.2)) (λ_=>br (Hg q.2) (λ_=>B) λ_=>A) (λ_=>br (Hg (seq p.1 q.1)) (λ_=>br (Hg (SQ p.1 q.1)) (λ_=>B) λ_=>A) λ_=>A)=A:=fun {β} A B h=>by
  rw[g]at h;rw[UW (beq p.2 q.2),TM (beq p.2 q.2),UW q.2,TM q.2,UW (seq p.1 q.1),Vt,UW (SQ p.1 q.1),Wb];by_cases a:p.2=q.2
  ·rw[if_neg (by simp[a])]at h;rw[if_pos (by simp[Sv.beq,a])];by_cases b:p.1=q.1
   ·rw[if_pos b]
   ·rw[if_neg b];rw[if_pos b]at h;rw[if_pos h]
  ·rw[if_pos a]at h;rw[if_neg (by simp[Sv.beq,a]),if_pos h]
 have c:∀ {β:Type} (A B:Option β),w0 p q≠true->br (Hg (beq p.2 q.2)) (λ_=>br (Hg q.2) (λ_=>B) λ_=>A) (λ_=>br (Hg (seq p.1 q.1)) (λ_=>br (Hg (SQ p.1 q.1)) (λ_=>B) λ_=>A) λ_=>A)=B:=fun {β} A B h=>by
  rw[g]at h;rw[UW (beq p.2 q.2),TM (beq p.2 q.2),UW q.2,TM q.2,UW (seq p.1 q.1),Vt,UW (SQ p.1 q.1),Wb];by_cases a:p.2=q.2
  ·rw[if_neg (by simp[a])]at h;rw[if_pos (by simp[Sv.beq,a])];by_cases b:p.1=q.1
   ·rw[if_neg (by simp[b])]at h;exact absurd rfl h
   ·rw[if_neg b];rw[if_pos b]at h;rw[if_neg h]
  ·rw[if_pos a]at h;rw[if_neg (by simp[Sv.beq,a]),if_neg h]
 rw[show Rb 4 (0:Int)=[0,0,0,0]from rfl,show Rb 2 (0:Int)=[0,0]from rfl];by_cases h:w0 p q=true
 ·refine Tv (x:=(0,((0,([0,0,0,1],([p,q],([0,1],0)))),()))) ?_ ?_;refine Ut (n:=4) (by omega) ?_;refine(UI (s':=(2,([0,0,0,1],([p,q],([0,0],0))))) ?_).trans ((UI (s':=(1,([0,0,0,1],([p,q],([0,0],0))))) ?_).trans ((UI (s':=(0,([0,0,0,1],([p,q],([0,1],0))))) ?_).trans (UJ ?_)))
  ·rfl
  ·rfl
  ·exact o _ _ h
  ·rfl
  ·show some ([p,q],([0,1],0))=_;unfold Tt;simp[h]
 ·refine Tv (x:=(0,((0,([0,1,0,1],([p,q],([0,0],0)))),()))) ?_ ?_;refine Ut (n:=4) (by omega) ?_;refine(UI (s':=(2,([0,0,0,1],([p,q],([0,0],0))))) ?_).trans ((UI (s':=(1,([0,0,0,1],([p,q],([0,0],0))))) ?_).trans ((UI (s':=(0,([0,1,0,1],([p,q],([0,0],0))))) ?_).trans (UJ ?_)))
  ·rfl
  ·rfl
  ·exact c _ _ h
  ·rfl
  ·show some ([p,q],([0,0],1))=_;unfold Tt;simp[h]
theorem Y9{p q:Tu}(a:Vp p)(b:Vp q):Uu [p,q]=some (Tt p q,0):=by
 unfold Uu;rw[Wz (by simp[a,b]) (by simp) (by simp),Sp,TJ,if_pos rfl,bA,Sp]
theorem bj{p q:Tu}(c:Vp p)(d:Vp q):W2 (Tt p q)=some (0,0):=by
 unfold W2;rw[show(Tt p q).1=[p,q]from rfl,Wz (by simp[c,d]) (by simp) (by simp),Sp,TJ,if_pos rfl,TJ,if_pos (show Kh (AS (Tt p q).2.1)=Kh (AS [p,q])from rfl),bA,Sp];simp only[Te,Tc]
 rw[Yw (l:=(Tt p q).2.1) (σ:=Unit) (s:=(0,(0,0))) (λk _=>((0:Int),((k:Int),(0:Int)))) (λ_ _ _=>some (1,((0,(((Tt p q).2.1.length:Int),0)),()))) () rfl (show 2<=9223372036854775807 by omega) (λe=>by
  simp only;rw[re];rfl) (λk x m e _ a b=>.inl ⟨(),by
   simp only;rw[rl b,SX,Tb,S6 a,Tb,S6 a,TJ,if_pos rfl,Tn a (show 2<=9223372036854775807 by omega)],rfl⟩),Sp]
 rw[show neq 1 0=false from rfl,R6,TJ,if_pos rfl]
def wn(p q:Tu):Nat:=if w0 p q=true then 0 else 1
def wk(p q:Tu):Tu:=if w0 p q=true then p else q
theorem bV(p q:Tu):(Tt p q).2.2=(wn p q:Int):=by unfold Tt wn;split<;>rfl
theorem bU(p q:Tu):(Tt p q).1[wn p q]?=some (wk p q):=by unfold Tt wn wk;split<;>rfl
theorem ay{p q:Tu}(a:Vp p)(b:Vp q):We (Tt p q)=some (if(wk p q).2=true then 12 else 0):=by
 unfold We;rw[bj a b,Sp,TJ,if_pos rfl,bV,Tb,S6 (bU p q),TM];split<;>rfl
theorem Xh{p q:Tu}(a:Vp p)(b:Vp q):Uz (Tt p q)=some (if(wk p q).2=true then(0,([],12))else((wn p q:Int),((wk p q).1,0))):=by
 unfold Uz;rw[ay a b,Sp,TJ,bV,Tb,S6 (bU p q)];by_cases h:(wk p q).2=true<;>simp[h]
def rk(p q k:Tu):Tu×Tu:=if w0 p q=true then(k,q)else(p,k)
theorem gp(p q:Tu):UQ (0,(1,([p,q],())))=some (w0 p q):=by
 unfold UQ w0;show br (Hg (beq p.2 q.2)) (λ_=>some q.2) (λ_=>br (Hg (seq p.1 q.1)) (λ_=>some (SQ p.1 q.1)) λ_=>some (S1 0 1))=_;rw[UW (beq p.2 q.2),TM (beq p.2 q.2),UW (seq p.1 q.1),Vt];by_cases a:p.2=q.2
 ·rw[if_pos (show Sv.beq p.2 q.2=true by simp[Sv.beq,a]),if_neg (show ¬ p.2≠q.2 by simp[a])];by_cases b:p.1=q.1
  ·rw[if_pos b,if_neg (show ¬ p.1≠q.1 by simp[b])];rfl
  ·rw[if_neg b,if_pos b]
 ·rw[if_neg (show ¬ Sv.beq p.2 q.2=true by simp[Sv.beq,a]),if_pos a]
theorem gr(p q:Tu):UQ (1,(0,([p,q],())))=some (!w0 p q):=by
 unfold UQ w0;show br (Hg (beq q.2 p.2)) (λ_=>some p.2) (λ_=>br (Hg (seq q.1 p.1)) (λ_=>some (SQ q.1 p.1)) λ_=>some (S1 1 0))=_;rw[UW (beq q.2 p.2),TM (beq q.2 p.2),UW (seq q.1 p.1),Vt];by_cases b:p.2=q.2
 ·rw[if_pos (show Sv.beq q.2 p.2=true by simp[Sv.beq,b]),if_neg (show ¬ p.2≠q.2 by simp[b])];by_cases a:p.1=q.1
  ·rw[if_pos a.symm,if_neg (show ¬ p.1≠q.1 by simp[a])];rfl
  ·rw[if_neg (show ¬ q.1=p.1 from λe=>a e.symm),if_pos a];cases hs:SQ p.1 q.1 with
   |true=>rw[Uy hs];rfl
   |false=>rw[Yl hs a];rfl
 ·rw[if_neg (show ¬ Sv.beq q.2 p.2=true by simp[Sv.beq,Ne.symm b]),if_pos b];cases c:p.2<;>cases d:q.2<;>simp_all
theorem Xn{p q k:Tu}(y:Vp p)(z:Vp q)(x:Vp k)(A:(wk p q).2=false)(l:k.2=true\/SQ k.1 (wk p q).1=false) :
  ∃ n,Uq (Tt p q,k)=some (Tt (rk p q k).1 (rk p q k).2,(n,0)):=by
 have g:(Tt p q).1.length<=1048576:=by show 2<=_;omega
 have c:(Tt p q).2.1.length<=1048576:=by show 2<=_;omega
 have i:lset (Tt p q).1 (wn p q) k=[(rk p q k).1,(rk p q k).2]:=by unfold Tt wn rk;split<;>rfl
 have d:(Tt p q).2.1=[0,(1-(wn p q:Int))]:=by unfold Tt wn;split<;>rfl
 have o:wn p q=0\/wn p q=1:=by unfold wn;split<;>simp
 have up:∀ {f:(Int×(Int×(Unit×(List Int×Int))))->Option (LR (Int×(Int×(Unit×(List Int×Int)))) (Nat×((Int×(Int×(Unit×(List Int×Int))))×Unit)))},
   (f=λa=>br (OY (S2 .i64 a.2.1 2) 0) (λ_=>some (.dn ((0,((a.1,(S2 .i64 a.2.1 2,((),a.2.2.2))),()))))) λ_=>R0 (S2 .i64 a.2.1 2) λu=>gd (KI u (AS a.2.2.2.1)) λ_=>ix a.2.2.2.1 u λs=>bd (UQ ((s,(a.2.2.2.2,([(rk p q k).1,(rk p q k).2],()))))) λr=>br r (λ_=>R0 (S2 .i64 a.2.1 2) λj=>gd (KI j (AS a.2.2.2.1)) λ_=>ix a.2.2.2.1 j λt=>R0 (S2 .i64 a.2.1 2) λe=>gd (KI e (AS a.2.2.2.1)) λ_=>ix a.2.2.2.1 e λD=>some (.nx ((SE .i64 a.1 1,(S2 .i64 a.2.1 2,((),(lset a.2.2.2.1 e a.2.2.2.2,t))))))) λ_=>some (.nx ((SE .i64 a.1 1,(S2 .i64 a.2.1 2,((),a.2.2.2))))))
   -> loop f (0,((2:Int)+wn p q,((),([0,(1-(wn p q:Int))],(wn p q:Int)))))=some (0,((1,(0,((),(Tt (rk p q k).1 (rk p q k).2).2))),())):=by
  intro f w;subst w;refine Ut (n:=2) (by omega) ((UI (s':=(1,(1,((),(Tt (rk p q k).1 (rk p q k).2).2)))) ?_).trans (UJ rfl));rcases o with h|h
  ·rw[h]
   have B:w0 p q=true:=by
    unfold wn at h;by_cases hh:w0 p q=true
    ·exact hh
    ·rw[if_neg hh]at h;cases h
   show bd (UQ (1,(0,([(rk p q k).1,(rk p q k).2],())))) _=_;rw[gr,Sp];unfold Tt;cases C:w0 (rk p q k).1 (rk p q k).2<;>rfl
  ·rw[h];show bd (UQ (0,(1,([(rk p q k).1,(rk p q k).2],())))) _=_;rw[gp,Sp];unfold Tt;cases C:w0 (rk p q k).1 (rk p q k).2<;>rfl
 unfold Uq;simp only[ay y z,A,Sp,TJ,if_true,if_false,ey];rw[Wz (by simp[x]) (by simp) (by simp),Sp];simp only[if_true,UW];rw[TM];unfold Ti Tp;simp only[bV,Tb,S6 (bU p q),UC g,UC c,Sp,Wb,Sx,Tc,Te,i];have m:wn p q<(Tt p q).1.length:=by show wn p q<2;omega
 have hi:SE .i64 (([(rk p q k).1,(rk p q k).2].length:Nat):Int) (wn p q:Int)=(2:Int)+wn p q:=by
  rw[Sb (by simp;omega)];rfl
 rw[hi,d];simp only[Tc,Sx]at up;have key:=up rfl;rw[if_pos m];by_cases b:k.2=true
 ·rw[if_pos b,key,Sp];exact⟨_,rfl⟩
 ·rw[if_neg b,if_neg (by rcases l with h|h;exact absurd h b;rw[h];simp),key,Sp]
  exact⟨_,rfl⟩
end
section
open Go Sv
theorem Ul{S β:Type}{f:S->Option (LR S β)}{s0 s1 s2:S}{r:β}(a:f s0=some (.nx s1))(b:f s1=some (.nx s2))(c:f s2=some (.dn r)):loop f s0=some r:=
 Ut (n:=3) (by omega) ((UI a).trans ((UI b).trans (UJ c)))
theorem ZR{α β:Type}{c:Bool}{n:Int}{l:List α}{K:Nat->α->Option β}{E:Unit->Option β}(k:Nat){x:α}(hc:c=true)(b:n=(k:Int))(d:l[k]?=some x):br c (λ_=>R0 n λa=>ix l a λe=>K a e) E=K k x:=by
 subst hc;subst b;rw[SX,Tb,S6 d]
theorem V1{α β:Type}{n:Int}{l:List α}{K:Nat->α->Option β}(k:Nat){x:α}(b:n=(k:Int))(c:l[k]?=some x):R0 n (λa=>ix l a λd=>K a d)=K k x:=by
 subst b;rw[Tb,S6 c]
theorem XC{l:List Ta}{i:Nat}(h:i<=l.length):UH (l,(i:Int))=some (kx l i):=by
 unfold UH kx;simp only[Te,Tc];rw[TE];by_cases hi:i=l.length
 ·rw[if_pos (by omega),a9 (by omega)]
 ·have a:l[i]?=some l[i]:=by rw[bl (by omega)]
  rw[if_neg (by omega),Tb,S6 a,a]
section
variable{a b:List Ta}(va:VL a)(vb:VL b)
theorem mM{i j:Nat}(hi:i<=a.length)(c:j<=b.length):Wg ([a,b],[(i:Int),(j:Int)])=some (Tt (kx a i) (kx b j)):=by
 unfold Wg;refine Tv (x:=(0,((2,[kx a i,kx b j]),()))) (Ul (s1:=(1,[kx a i,([],false)])) (s2:=(2,[kx a i,kx b j])) ?_ ?_ rfl) ?_
 ·show bd (UH (a,(i:Int))) _=_;rw[XC hi];rfl
 ·show bd (UH (b,(j:Int))) _=_;rw[XC c];rfl
 ·show bd (Uu [kx a i,kx b j]) _=_;rw[Y9 (US _ _) (US _ _)];rfl
include va vb
theorem Yp:UG a=some (0,0):=by
 rw[Vu _ (by have:=va.len;omega),YM va]
theorem Yh:Vj [a,b]=some (0,0):=by
 unfold Vj;refine Tv (x:=(1,((0,(0,2)),()))) (Ul (s1:=(0,(0,1))) (s2:=(0,(0,2))) ?_ ?_ rfl) rfl
 ·show bd (UG a) _=_;rw[Yp va va];rfl
 ·show bd (UG b) _=_;rw[Yp vb vb];rfl
theorem eI(c:Bool):Ws ([a,b],c)=some (vi a b c 0,(0,0)):=by
 unfold Ws;rw[Yh va vb,Sp,TJ,if_pos rfl];refine Tv (x:=(0,((2,[kx a 0,kx b 0]),()))) (Ul (s1:=(1,[kx a 0,([],false)])) (s2:=(2,[kx a 0,kx b 0])) ?_ ?_ rfl) ?_
 ·show bd (UH (a,((0:Nat):Int))) _=_;rw[XC (by omega)];rfl
 ·show bd (UH (b,((0:Nat):Int))) _=_;rw[XC (by omega)];rfl
 ·show bd (Uu [kx a 0,kx b 0]) _=_;rw[Y9 (US _ _) (US _ _)];rfl
end
theorem Xj(x:Bool):Sv.beq x x=true:=by cases x<;>rfl
theorem YB(x:XZ):seq x x=true:=by rw[Xo]
theorem bZ(l:List Tu)(h:l.length<=1000):Tq (l,l)=some true:=by
 unfold Tq;simp only[Te,Tc]
 rw[TJ,if_pos rfl,Yw (l:=l) (σ:=Unit) (s:=(0,false)) (λk _=>((k:Int),false)) (λ_ _ _=>some (1,(((l.length:Int),false),()))) () rfl (by omega) (λc=>by
  simp only;rw[re];rfl) (λk x m c _ a b=>.inl ⟨(),by
   simp only;rw[rl b,SX,Tb,S6 a,Tb,S6 a,YB,Xj,show Hg (Nk true (Nk true true))=false from rfl,R6,Tn a (by omega)],rfl⟩),Sp]
 rfl
theorem bY(l:List Int)(h:l.length<=1000):Tj (l,l)=some true:=by
 unfold Tj;simp only[Te,Tc]
 rw[TJ,if_pos rfl,Yw (l:=l) (σ:=Unit) (s:=(0,false)) (λk _=>((k:Int),false)) (λ_ _ _=>some (1,(((l.length:Int),false),()))) () rfl (by omega) (λc=>by
  simp only;rw[re];rfl) (λk x m c _ a b=>.inl ⟨(),by
   simp only;rw[rl b,SX,Tb,S6 a,Tb,S6 a,TJ,if_pos rfl,Tn a (by omega)],rfl⟩),Sp]
 rfl
theorem eE(t:VU)(a:t.1.length<=1000)(b:t.2.1.length<=1000):WE (t,t)=some true:=by
 unfold WE;rw[TE,if_pos rfl,bZ _ a,Sp,SX,bY _ b];rfl
theorem eF(p q:Tu):WE (Tt p q,Tt p q)=some true:=eE _ (show 2<=1000 by omega) (show 2<=1000 by omega)
theorem gP{a b:List Ta}{i j:Nat}(h:Xi a b i j=true):wk (kx a i) (kx b j)=kx a i/\wn (kx a i) (kx b j)=0:=by
 unfold Xi at h;unfold wk wn;rw[if_pos h,if_pos h];exact⟨rfl,rfl⟩
theorem gQ{a b:List Ta}{i j:Nat}(h:Xi a b i j=false):wk (kx a i) (kx b j)=kx b j/\wn (kx a i) (kx b j)=1:=by
 unfold Xi at h;unfold wk wn;rw[if_neg (by simp[h]),if_neg (by simp[h])];exact⟨rfl,rfl⟩
theorem da(x y:XZ):U6 (x,y)=some (if SQ x y=true then -1 else if SQ y x=true then 1 else 0):=by
 unfold U6 VV;simp only[YB,U3,Sp,R6];rw[Wb,Wb];split
 ·rfl
 ·split<;>rfl
theorem dZ(x y:Int):Um (x,y)=some (if x<y then -1 else if x>y then 1 else 0):=by
 unfold Um WL;simp only[Sp,TJ,if_true,TI,TG];split
 ·rfl
 ·split<;>rfl
theorem iA(x y:Int):XK [x,y]=some (if x≠0 then x else y):=by
 unfold XK;by_cases h:x=0
 ·rw[if_neg (by simp[h])];by_cases a:y=0
  ·refine Tv (x:=(1,((0,2),()))) (Ul (s1:=(0,1)) (s2:=(0,2)) ?_ ?_ rfl) (by rw[a];rfl)
   ·refine(ZR 0 rfl rfl rfl).trans ?_;rw[TJ,if_pos h];rfl
   ·refine(ZR 1 rfl rfl rfl).trans ?_;rw[TJ,if_pos a];rfl
  ·refine Tv (x:=(0,((y,1),()))) (Ut (n:=2) (by omega) ((UI (s':=(0,1)) ?_).trans (UJ ?_))) rfl
   ·refine(ZR 0 rfl rfl rfl).trans ?_;rw[TJ,if_pos h];rfl
   ·refine(ZR 1 rfl rfl rfl).trans ?_;rw[TJ,if_neg a]
 ·rw[if_pos h];refine Tv (x:=(0,((x,0),()))) (Ut (n:=1) (by omega) (UJ ?_)) rfl;refine(ZR 0 rfl rfl rfl).trans ?_;rw[TJ,if_neg h]
section
variable{a b:List Ta}(va:VL a)(vb:VL b)
include va vb
theorem YY{i j:Nat}(I:Inv a b i j):Vi (Ym a b i j)=some (0,0):=by
 unfold Vi;rw[show(Ym a b i j).1=[a,b]from rfl,Yh va vb,Sp,TJ,if_pos rfl];rw[show(Ym a b i j).2.1=[(i:Int),(j:Int)]from rfl,TJ,if_pos (show Kh (AS [(i:Int),(j:Int)])=Kh (AS [a,b])from rfl)];refine Tv (x:=(1,((0,(0,2)),()))) (Ul (s1:=(0,(0,1))) (s2:=(0,(0,2))) ?_ ?_ rfl) ?_
 ·refine(ZR 0 rfl rfl rfl).trans ?_;rw[TI,if_neg (by omega),show R0 (((0:Int),((0:Int),(0:Int))).2.2)=λ(k:Nat->Option (LR (Int×(Int×Int)) (Nat×((Int×(Int×Int))×Unit))))=>k 0 from rfl];simp only;rw[S6 (x:=a) rfl,TG,if_neg (by have:=I.ia;simp only[Te,Tc];omega)];rfl
 ·refine(ZR 1 rfl rfl rfl).trans ?_;rw[TI,if_neg (by omega),show R0 (((0:Int),((0:Int),(1:Int))).2.2)=λ(k:Nat->Option (LR (Int×(Int×Int)) (Nat×((Int×(Int×Int))×Unit))))=>k 1 from rfl];simp only;rw[S6 (x:=b) rfl,TG,if_neg (by have:=I.jb;simp only[Te,Tc];omega)];rfl
 rw[show neq ((1:Nat),(((0:Int),((0:Int),(2:Int))),())).1 0=false from rfl,R6,mM I.ia I.jb,Sp,show(Ym a b i j).2.2=Tt (kx a i) (kx b j)from rfl,eF,Sp,show Hg true=false from rfl,R6,Xh (US _ _) (US _ _),Sp];by_cases c:(wk (kx a i) (kx b j)).2=true
 ·rw[if_pos c];rfl
 rw[if_neg c,TJ,if_pos rfl]
 have s:∀ {x:Ta} {f:Nat},i=f+1->a[f]?=some x -> ¬ (if(if SQ x.1 (wk (kx a i) (kx b j)).1=true then(-1:Int)else if SQ (wk (kx a i) (kx b j)).1 x.1=true then 1 else 0)≠0 then(if SQ x.1 (wk (kx a i) (kx b j)).1=true then(-1:Int)else if SQ (wk (kx a i) (kx b j)).1 x.1=true then 1 else 0)else(if(0:Int)<(wn (kx a i) (kx b j):Int)then -1 else if(0:Int)>(wn (kx a i) (kx b j):Int)then 1 else 0))>0:=by
  intro x f hi d
  have p:SQ (wk (kx a i) (kx b j)).1 x.1=false:=by
   cases g:Xi a b i j with
   |true=>
    rw[(gP g).1]at c ⊢;unfold kx at c ⊢;cases e:a[i]? with
    |none=>rw[e]at c;exact absurd rfl c
    |some y=>rw[hi]at e;exact Uy (va.lt d e)
   |false=>
    rw[(gQ g).1]at c ⊢;unfold kx at c ⊢;cases e:b[j]? with
    |none=>rw[e]at c;exact absurd rfl c
    |some y=>exact I.pa f hi x y d e
  rw[p];have:¬ (0:Int)>(wn (kx a i) (kx b j):Int):=by omega
  by_cases hs:SQ x.1 (wk (kx a i) (kx b j)).1=true
  ·simp[hs]
  ·simp only[hs,ey,if_false,ne_eq,not_true,this];split<;>omega
 have t:∀ {y:Ta} {j':Nat},j=j'+1->b[j']?=some y -> ¬ (if(if SQ y.1 (wk (kx a i) (kx b j)).1=true then(-1:Int)else if SQ (wk (kx a i) (kx b j)).1 y.1=true then 1 else 0)≠0 then(if SQ y.1 (wk (kx a i) (kx b j)).1=true then(-1:Int)else if SQ (wk (kx a i) (kx b j)).1 y.1=true then 1 else 0)else(if(1:Int)<(wn (kx a i) (kx b j):Int)then -1 else if(1:Int)>(wn (kx a i) (kx b j):Int)then 1 else 0))>0:=by
  intro y j' r e
  have q:SQ y.1 (wk (kx a i) (kx b j)).1=true:=by
   cases g:Xi a b i j with
   |true=>
    rw[(gP g).1]at c ⊢;unfold kx at c ⊢;cases d:a[i]? with
    |none=>rw[d]at c;exact absurd rfl c
    |some x=>exact I.pb j' r y x e d
   |false=>
    rw[(gQ g).1]at c ⊢;unfold kx at c ⊢;cases d:b[j]? with
    |none=>rw[d]at c;exact absurd rfl c
    |some x=>rw[r]at d;exact vb.lt e d
  rw[q];simp
 refine Tv (x:=(1,((0,(0,2)),()))) (Ul (s1:=(0,(0,1))) (s2:=(0,(0,2))) ?_ ?_ rfl) rfl
 ·refine(ZR 0 rfl rfl rfl).trans ?_;rw[TG];by_cases h:(i:Int)>0
  ·rw[if_pos h];obtain⟨f,l⟩:∃ f,i=f+1:=⟨i-1,by omega⟩;have m:f<a.length:=by have:=I.ia;omega
   have d:a[f]?=some a[f]:=by simp[m]
   refine(V1 0 rfl (x:=a) rfl).trans ((V1 f ?_ d).trans ?_)
   ·rw[Sd (by have:=va.len;have:=I.ia;omega)];omega
   rw[da,Sp];show bd (Um (0,(wn (kx a i) (kx b j):Int))) _=_;rw[dZ,Sp,iA,Sp,TG,if_neg (s l d)];rfl
  ·rw[if_neg h];rfl
 ·refine(ZR 1 rfl rfl rfl).trans ?_;rw[TG];by_cases h:(j:Int)>0
  ·rw[if_pos h];obtain⟨j',n⟩:∃ j',j=j'+1:=⟨j-1,by omega⟩;have o:j'<b.length:=by have:=I.jb;omega
   have e:b[j']?=some b[j']:=by simp[o]
   refine(V1 1 rfl (x:=b) rfl).trans ((V1 j' ?_ e).trans ?_)
   ·rw[Sd (by have:=vb.len;have:=I.jb;omega)];omega
   rw[da,Sp];show bd (Um (1,(wn (kx a i) (kx b j):Int))) _=_;rw[dZ,Sp,iA,Sp,TG,if_neg (t n e)];rfl
  ·rw[if_neg h];rfl
end
end
section
open Go Sv
theorem Wv{l:List Ta}{i:Nat}{x:Ta}(h:l[i]?=some x):kx l i=(x.1,false):=by unfold kx;rw[h]
theorem Yv{l:List Ta}{i:Nat}(h:l[i]?=none):kx l i=([],true):=by unfold kx;rw[h]
theorem ZV{l:List Ta}(v:VL l){i:Nat}{x:Ta}(h:l[i]?=some x):(kx l (i+1)).2=true\/SQ (kx l (i+1)).1 x.1=false:=by
 cases a:l[i+1]? with
 |none=>rw[Yv a];exact .inl rfl
 |some y=>rw[Wv a];exact .inr (Uy (v.lt h a))
theorem YS{α β:Type}{n:Int}{l:List α}{K:Nat->α->Option β}(k:Nat){x:α}(c:n=(k:Int))(b:l[k]?=some x):R0 n (λa=>gd (KI a (AS l)) λ_=>ix l a λd=>K a d)=K k x:=by
 subst c;rw[Tb,Sx,if_pos (show k<AS l from(a8.1 b).1),S6 b]
section
variable{a b:List Ta}(va:VL a)(vb:VL b)
include va vb
theorem mg{i j:Nat}(I:Inv a b i j){x:Ta}(c:a[i]?=some x)(g:Xi a b i j=true):Ud (Ym a b i j)=some (x,(0,(Ym a b (i+1) j,0))):=by
 obtain⟨f,l⟩:=gP g;have hi:=(a8.1 c).1;have n:=va.len;have e:(wk (kx a i) (kx b j)).2=false:=by rw[f,Wv c]
 obtain⟨m,h⟩:=Xn (p:=kx a i) (q:=kx b j) (k:=kx a (i+1)) (US _ _) (US _ _) (US _ _) e (by rw[f,Wv c];exact ZV va c)
 have d:rk (kx a i) (kx b j) (kx a (i+1))=(kx a (i+1),kx b j):=by
  unfold rk;unfold Xi at g;rw[if_pos g]
 rw[d]at h;unfold Ud;rw[YY va vb I,Sp,TJ,if_pos rfl];unfold Th Tp;refine Tv (YN (show 2<=1048576 by omega)) (Tv (YN (show 2<=1048576 by omega)) ?_);rw[show(Ym a b i j).2.2=Tt (kx a i) (kx b j)from rfl,Xh (US _ _) (US _ _),if_neg (by simp[e]),Sp,TJ,if_pos rfl,l];refine(YS 0 rfl (x:=a) rfl).trans ((YS 0 rfl (x:=(i:Int)) rfl).trans ((V1 i rfl c).trans ((YS 0 rfl (x:=(i:Int)) rfl).trans ((YS 0 rfl (x:=(i:Int)) rfl).trans ((YS 0 rfl (x:=a) rfl).trans ((YS 0 rfl (x:=SE .i64 (i:Int) 1) rfl).trans ?_))))));rw[Tf (by omega),XC (show i+1<=a.length by omega),Sp,h,Sp];rfl
theorem mh{i j:Nat}(I:Inv a b i j){y:Ta}(c:b[j]?=some y)(g:Xi a b i j=false):Ud (Ym a b i j)=some (y,(1,(Ym a b i (j+1),0))):=by
 obtain⟨f,l⟩:=gQ g;have hi:=(a8.1 c).1;have n:=vb.len;have e:(wk (kx a i) (kx b j)).2=false:=by rw[f,Wv c]
 obtain⟨m,h⟩:=Xn (p:=kx a i) (q:=kx b j) (k:=kx b (j+1)) (US _ _) (US _ _) (US _ _) e (by rw[f,Wv c];exact ZV vb c)
 have d:rk (kx a i) (kx b j) (kx b (j+1))=(kx a i,kx b (j+1)):=by
  unfold rk;unfold Xi at g;rw[if_neg (by simp[g])]
 rw[d]at h;unfold Ud;rw[YY va vb I,Sp,TJ,if_pos rfl];unfold Th Tp;refine Tv (YN (show 2<=1048576 by omega)) (Tv (YN (show 2<=1048576 by omega)) ?_);rw[show(Ym a b i j).2.2=Tt (kx a i) (kx b j)from rfl,Xh (US _ _) (US _ _),if_neg (by simp[e]),Sp,TJ,if_pos rfl,l];refine(YS 1 rfl (x:=b) rfl).trans ((YS 1 rfl (x:=(j:Int)) rfl).trans ((V1 j rfl c).trans ((YS 1 rfl (x:=(j:Int)) rfl).trans ((YS 1 rfl (x:=(j:Int)) rfl).trans ((YS 1 rfl (x:=b) rfl).trans ((YS 1 rfl (x:=SE .i64 (j:Int) 1) rfl).trans ?_))))));rw[Tf (by omega),XC (show j+1<=b.length by omega),Sp,h,Sp];rfl
def Ye(a b:List Ta)(n:Nat):U2:=Ym a b (Tk a b n).1 (Tk a b n).2
def Zt(a b:List Ta)(n:Nat):Nat:=if Xi a b (Tk a b n).1 (Tk a b n).2=true then 0 else 1
theorem Zl{n:Nat}{x:Ta}(h:n<a.length+b.length)(c:ZQ a b n=some x):Ud (Ye a b n)=some (x,((Zt a b n:Int),(Ye a b (n+1),0))):=by
 obtain⟨d,hs⟩:=WS va vb (n:=n) (by omega);unfold Ye Zt;rw[show Tk a b (n+1)=if Xi a b (Tk a b n).1 (Tk a b n).2=true then((Tk a b n).1+1,(Tk a b n).2)else((Tk a b n).1,(Tk a b n).2+1)from rfl]
 unfold ZQ at c;cases g:Xi a b (Tk a b n).1 (Tk a b n).2 with
 |true=>rw[if_pos g]at c;rw[mg va vb d c g];simp
 |false=>rw[if_neg (by simp[g])]at c;rw[mh va vb d c g];simp
end
theorem Zu{s:UZ}(b:s.2.1.length<=32)(a:s.1=false->s.2.1=[]):Vz s=some 0:=by
 unfold Vz;rw[Yc,Sp,if_neg (by omega),TJ,if_pos rfl,UW,TM];cases h:s.1 with
 |true=>rfl
 |false=>rw[if_neg (by simp),UW,Vt,if_pos (a h)]
def keep(s:UZ)(x:Ta):Bool:=!(s.1&&decide (x.1=s.2.1)) && !(s.2.2&&x.2.2.1)
theorem fB{s:UZ}{x:Ta}(e:s.2.1.length<=32)(f:s.1=false->s.2.1=[])(g:kE x=0)(a:s.1=true->SQ x.1 s.2.1=false):Ui (s,x)=some (keep s x,((true,(x.1,s.2.2)),0)):=by
 unfold Ui keep;rw[Zu e f,Sp,TJ,if_pos rfl,Ux,g,Sp,TJ,if_pos rfl];obtain⟨s1,s2,c⟩:=s;obtain⟨h,i,d,j⟩:=x;simp only at a ⊢;cases s1 with
 |true=>
  have:=a rfl;simp only[SX,R6,Wb,Vt,this,ey,if_false];by_cases b:h=s2
  ·simp[b]
  ·simp only[b,if_false,decide_false];cases c<;>cases d<;>rfl
 |false=>
  simp only[SX,R6];cases c<;>cases d<;>rfl
def WA:UZ->List Ta->List Ta
 |_,[]=>[]
 |s,x::l=>(if keep s x=true then[x]else[])++WA (true,(x.1,s.2.2)) l
theorem Xr:∀ (s:UZ) (l:List Ta),(WA s l).length<=l.length
 |_,[]=>eb _
 |s,x::l=>by
  have:=Xr (true,(x.1,s.2.2)) l;unfold WA;by_cases h:keep s x=true
  ·rw[if_pos h];simp;omega
  ·rw[if_neg h];simp;omega
def ZW:UZ->List Ta->Prop
 |_,[]=>True
 |s,x::l=>kE x=0/\(s.1=true->SQ x.1 s.2.1=false)/\ZW (true,(x.1,s.2.2)) l
theorem Zj{x:Ta}(h:kE x=0):x.1.length<=32:=by
 unfold kE at h;by_cases hh:x.1.length>32\/x.2.1.length>64
 ·rw[if_pos hh]at h;cases h
 ·omega
theorem U1{α β σ S:Type}{l:List α}(mk:Nat->σ->S)(Inv:List α->Nat->σ->Prop)(F:List α->Nat->σ->β){f:S->Option (LR S β)}{s:S}(a:σ)(p:s=mk 0 a)(z:l.length<=9223372036854775807)(hi:Inv l 0 a)
  (w:∀ a,Inv [] l.length a->f (mk l.length a)=some (.dn (F [] l.length a)))
  (hc:∀ k x m a,l.drop k=x::m->l[k]?=some x->k<l.length->Inv (x::m) k a -> ∃ b,f (mk k a)=some (.nx (mk (k+1) b))/\Inv m (k+1) b/\F (x::m) k a=F m (k+1) b):loop f s=some (F l 0 a):=by
 subst p
 have e:∀ (m:List α) (k n:Nat) (a:σ),l.drop k=m->k<=l.length->m.length<n->Inv m k a->LF n f (mk k a)=some (F m k a):=by
  intro m
  induction m with
  |nil=>
   intro k n a c u d hi;obtain⟨n,rfl⟩:∃ j,n=j+1:=⟨n-1,by omega⟩
   have h:k=l.length:=by
    have:=congrArg gs c;simp at this;omega
   subst h;exact UJ (w a hi)
  |cons x m y=>
   intro k n a c u d hi;obtain⟨n,rfl⟩:∃ j,n=j+1:=⟨n-1,by omega⟩
   have o:l[k]?=some x:=by
    have:=congrArg rz c;rw[l5]at this;simpa using this
   have g:k<l.length:=(a8.1 o).1
   have i:l.drop (k+1)=m:=by
    have:=congrArg pg c;rw[lc]at this;simpa using this
   obtain⟨b,q,r,t⟩:=hc k x m a c o g hi;rw[UI q,t];exact y (k+1) n b i (by omega) (by simp at d;omega) r
 exact e l 0 _ a (by simp) (by omega) (by omega) hi
def Uf:UZ->List Ta->UZ
 |s,[]=>s
 |s,x::l=>Uf (true,(x.1,s.2.2)) l
theorem aO{β:Type}{out:List Ta}{n:Nat}(h:out.length<=n)(a:n<=20000)(x:Ta)(k:Unit->Option β):gd (CF (BF (AS out) (AS [x])) 1048576) k=k ():=UC (by simp only[BF,AS,ci,cP];omega) k
theorem eB{l:List Ta}{b:Bool}(B:l.length<=20000)(A:ZW (false,([],b)) l):WQ (l,b)=some (WA (false,([],b)) l,(0,0)):=by
 unfold WQ U0;simp only[Te,Tc];rw[TG,if_neg (by omega),Sp]
 rw[U1 (l:=l) (σ:=UZ×List Ta) (s:=(0,(0,(0,((false,([],b)),[]))))) (λk a=>((0:Int),((k:Int),((0:Int),a))))
  (λm k a=>ZW a.1 m/\a.1.2.1.length<=32/\(a.1.1=false->a.1.2.1=[])/\a.2.length<=k/\k+m.length=l.length)
  (λm k a=>(1,((0,((l.length:Int),(0,(Uf a.1 m,a.2++WA a.1 m)))),()))) ((false,([],b)),[]) rfl (by omega) ⟨A,by simp,λ_=>rfl,by simp,by simp⟩ ?_ ?_,Sp]
 ·simp;rfl
 ·intro a _;simp only;rw[re,R6];simp[Uf,WA]
 ·rintro k x m ⟨s,out⟩ C r z ⟨⟨d,e,g⟩,i,j,n,o⟩;simp only at d e g i j n ⊢;refine⟨((true,(x.1,s.2.2)),out++if keep s x=true then[x]else[]),?_,⟨g,Zj d,(λh=>by cases h),?_,by simp at o;omega⟩,?_⟩
  ·rw[rl z,SX,Tb,S6 r,Zu i j,Sp,TJ,if_pos rfl,Ux,d,Sp,TJ,if_pos rfl];unfold keep UD;obtain⟨s1,s2,t⟩:=s;obtain⟨f,u,c,w⟩:=x;simp only[Sp,Tn r (show l.length<=9223372036854775807 by omega)]at e ⊢;have q:∀ {β:Type} (k:Unit->Option β),gd (CF (BF out.length [(f,(u,(c,w)))].length) 1048576) k=k ():=λk=>aO n (by simp at o;omega) (f,(u,(c,w))) k;cases s1 with
   |true=>
    have y:=e rfl;simp only[SX,R6,Vt,y,q];by_cases p:f=s2
    ·simp[p]
    ·simp only[p,if_false,decide_false];cases t<;>cases c<;>simp[SX,R6,Ij]
   |false=>
    simp only[SX,R6,q];cases t<;>cases c<;>simp[SX,R6,Ij]
  ·split<;>simp<;>omega
  ·simp only[Uf,WA,dc]
end
section
open Go Sv
theorem ah:∀ (l:List Ta) (s:UZ) (x:Ta),WA s (l++[x])=WA s l++(if keep (Uf s l) x=true then[x]else[])
 |[],s,x=>by
  show(if keep s x=true then[x]else[])++[]=[]++(if keep s x=true then[x]else[])
  rw[en,List.nil_append]
 |y::l,s,x=>by
  show(if keep s y=true then[y]else[])++WA _ (l++[x])=((if keep s y=true then[y]else[])++WA _ l)++_
  rw[ah l,dc];rfl
theorem YW:∀ (l:List Ta) (s:UZ) (x:Ta),Uf s (l++[x])=(true,(x.1,(Uf s l).2.2))
 |[],s,x=>rfl
 |y::l,s,x=>by simp only[List.cons_append,Uf,YW l]
theorem Ww:∀ (l:List Ta) (s:UZ),(Uf s l).2.2=s.2.2
 |[],s=>rfl
 |y::l,s=>by rw[Uf,Ww l]
theorem bH:∀ (l:List Ta) (s:UZ) (x:Ta),ZW s l->kE x=0->((Uf s l).1=true->SQ x.1 (Uf s l).2.1=false)->ZW s (l++[x])
 |[],s,x,_,a,b=>⟨a,b,trivial⟩
 |y::l,s,x,⟨a,b,c⟩,d,h5=>⟨a,b,bH l _ x c d h5⟩
theorem Z8:∀ (l:List Ta) (s:UZ),ZW s l->s.2.1.length<=32->(s.1=false->s.2.1=[])->(Uf s l).2.1.length<=32/\((Uf s l).1=false->(Uf s l).2.1=[])
 |[],s,_,h1,h2=>⟨h1,h2⟩
 |y::l,s,⟨a,_,b⟩,_,_=>Z8 l _ b (Zj a) (λh=>by cases h)
abbrev s0(a:Bool):UZ:=(false,([],a))
def Vq(a b:List Ta)(c:Bool)(n:Nat):X2:=(Ye a b n,(Uf (s0 c) (Ts a b n),(WA (s0 c) (Ts a b n),(n:Int))))
def Xb(a b:List Ta):Nat->List Int
 |0=>[]
 |n+1=>Xb a b n++[(Zt a b n:Int)]
theorem ZD(a b:List Ta):∀ n,(Xb a b n).length=n
 |0=>rfl
 |n+1=>by simp[Xb,ZD a b n]
theorem Xv{S β:Type}{f:S->Option (LR S β)}{r:β}(mk:Nat->S)(a n:Nat){s:S}(b:s=mk a)(d:a<=n)(e:n<18446744073709551616)(hs:∀ k,a<=k->k<n->f (mk k)=some (.nx (mk (k+1))))(c:f (mk n)=some (.dn r)):loop f s=some r:=by
 have h:=Xd (f:=f) (r:=r) (λk=>mk (a+k)) (n-a) (s:=s) b (by omega) (λk d=>hs (a+k) (by omega) (by omega)) (by show f (mk (a+(n-a)))=_;rw[show a+(n-a)=n by omega];exact c);exact h
theorem ZY(l:List Ta)(h:l.length<=100000):V0 (l,l)=some true:=by
 unfold V0;simp only[Te,Tc]
 rw[TJ,if_pos rfl,Yw (l:=l) (σ:=Unit) (s:=(false,0)) (λk _=>(false,(k:Int))) (λ_ _ _=>some (1,((false,(l.length:Int)),()))) () rfl (by omega) (λc=>by
  simp only;rw[re];rfl) (λk x m c _ a b=>.inl ⟨(),by
   simp only;rw[rl b,SX,Tb,S6 a,Tb,S6 a,YB,YB,Xj,show OY x.2.2.2 x.2.2.2=true by unfold OY;simp,show Hg (Nk true (Nk true (Nk true (Nk true true))))=false from rfl,R6,Tn a (by omega)],rfl⟩),Sp]
 rfl
section
variable{a b:List Ta}(va:VL a)(vb:VL b)
include va vb
theorem W0{n:Nat}{x:Ta}(c:ZQ a b n=some x):Ts a b (n+1)=Ts a b n++[x]:=by
 show(match ZQ a b n with
  |some x=>Ts a b n++[x]
  |none=>Ts a b n)=_
 rw[c]
theorem Xe(d:Bool):∀ {n:Nat},n<=a.length+b.length->ZW (s0 d) (Ts a b n)
 |0,_=>trivial
 |n+1,h=>by
  obtain⟨x,c,_⟩:=Ve va vb (n:=n) (by omega);rw[W0 va vb c];refine bH _ _ _ (Xe d (by omega)) (hG va vb c) λ_=> ?_;cases n with
  |zero=>rename_i f;cases f
  |succ m=>
   obtain⟨y,e,_⟩:=Ve va vb (n:=m) (by omega);rw[W0 va vb e,YW];exact dl va vb (by omega) e c
theorem bh(c:Bool){n:Nat}(h:n<=a.length+b.length):(Uf (s0 c) (Ts a b n)).2.1.length<=32/\((Uf (s0 c) (Ts a b n)).1=false->(Uf (s0 c) (Ts a b n)).2.1=[]):=
 Z8 _ _ (Xe va vb c h) (by simp) (λ_=>rfl)
theorem nB{n:Nat}(h:n=a.length+b.length):(wk (kx a (Tk a b n).1) (kx b (Tk a b n).2)).2=true:=by
 obtain⟨c,hs⟩:=WS va vb (n:=n) (by omega);have d:=c.ia;have e:=c.jb;rw[Yv (a9 (by omega)),Yv (a9 (by omega))];rfl
theorem nC{n:Nat}{x:Ta}(c:ZQ a b n=some x):(wk (kx a (Tk a b n).1) (kx b (Tk a b n).2)).2=false/\wn (kx a (Tk a b n).1) (kx b (Tk a b n).2)=Zt a b n:=by
 unfold ZQ at c;unfold Zt;cases g:Xi a b (Tk a b n).1 (Tk a b n).2 with
 |true=>rw[if_pos g]at c;rw[(gP g).1,(gP g).2,Wv c];exact⟨rfl,rfl⟩
 |false=>rw[if_neg (by simp[g])]at c;rw[(gQ g).1,(gQ g).2,Wv c];exact⟨rfl,rfl⟩
theorem mf:Xk [a,b]=some (Ts a b (a.length+b.length),(Xb a b (a.length+b.length),0)):=by
 have u:=va.len;have w:=vb.len;unfold Xk;rw[Yh va vb,Sp,TJ,if_pos rfl];refine Eq.trans (b:=bd (loop _ (0,[([],false),([],false)])) _) rfl ?_;refine Tv (x:=(0,((2,[kx a 0,kx b 0]),()))) (Ul (s1:=(1,[kx a 0,([],false)])) (s2:=(2,[kx a 0,kx b 0])) ?_ ?_ rfl) ?_
 ·show bd (UH (a,((0:Nat):Int))) _=_;rw[XC (by omega)];rfl
 ·show bd (UH (b,((0:Nat):Int))) _=_;rw[XC (by omega)];rfl
 rw[show((0:Nat),(((2:Int),[kx a 0,kx b 0]),())).2.1.2=[kx a 0,kx b 0]from rfl,Y9 (US _ _) (US _ _),Sp]
 refine Tv (x:=(0,((Ts a b (a.length+b.length),(Xb a b (a.length+b.length),((),([((Tk a b (a.length+b.length)).1:Int),((Tk a b (a.length+b.length)).2:Int)],Tt (kx a (Tk a b (a.length+b.length)).1) (kx b (Tk a b (a.length+b.length)).2))))),())))
  (Xv (λk=>(Ts a b k,(Xb a b k,((),([((Tk a b k).1:Int),((Tk a b k).2:Int)],Tt (kx a (Tk a b k).1) (kx b (Tk a b k).2)))))) 0 (a.length+b.length) rfl (by omega) (by omega) (λk _ r=> ?_) ?_) rfl
 ·obtain⟨x,c,_⟩:=Ve va vb (n:=k) r;obtain⟨j,s⟩:=nC va vb c;obtain⟨t,hs⟩:=WS va vb (n:=k) (by omega);have h:(Ts a b k).length=k:=Un va vb (by omega);have i:=ZD a b k;simp only;rw[Xh (US _ _) (US _ _),if_neg (by simp[j]),Sp,TJ,if_pos rfl,s];rw[W0 va vb c];unfold ZQ at c;rw[show Xb a b (k+1)=Xb a b k++[(Zt a b k:Int)]from rfl];unfold Zt;rw[show Tk a b (k+1)=if Xi a b (Tk a b k).1 (Tk a b k).2=true then((Tk a b k).1+1,(Tk a b k).2)else((Tk a b k).1,(Tk a b k).2+1)from rfl]
  have l:∀ {β:Type} (y:Ta) (q:Unit->Option β),gd (CF (BF (AS (Ts a b k)) (AS [y])) 1048576) q=q ():=λy q=>UC (by simp only[BF,AS,h,ci,cP];omega) q;have o:∀ {β:Type} (y:Int) (q:Unit->Option β),gd (CF (BF (AS (Xb a b k)) (AS [y])) 1048576) q=q ():=λy q=>UC (by simp only[BF,AS,i,ci,cP];omega) q;cases g:Xi a b (Tk a b k).1 (Tk a b k).2 with
  |true=>
   rw[if_pos g]at c;obtain⟨d,_⟩:=gP g;obtain⟨m,f⟩:=Xn (p:=kx a (Tk a b k).1) (q:=kx b (Tk a b k).2) (k:=kx a ((Tk a b k).1+1)) (US _ _) (US _ _) (US _ _) j (by rw[d,Wv c];exact ZV va c)
   have e:rk (kx a (Tk a b k).1) (kx b (Tk a b k).2) (kx a ((Tk a b k).1+1))=(kx a ((Tk a b k).1+1),kx b (Tk a b k).2):=by
    unfold rk;unfold Xi at g;rw[if_pos g]
   rw[e]at f;have hi:=(a8.1 c).1;simp only[if_true];refine(YS 0 rfl (x:=a) rfl).trans ((YS 0 rfl (x:=((Tk a b k).1:Int)) rfl).trans ((V1 _ rfl c).trans ?_));rw[l,o];refine(YS 0 rfl (x:=((Tk a b k).1:Int)) rfl).trans ((YS 0 rfl (x:=((Tk a b k).1:Int)) rfl).trans ((YS 0 rfl (x:=a) rfl).trans ((YS 0 rfl (x:=SE .i64 ((Tk a b k).1:Int) 1) rfl).trans ?_)));rw[Tf (by omega),XC (by omega),Sp,f,Sp];rfl
  |false=>
   rw[if_neg (by simp[g])]at c;obtain⟨d,_⟩:=gQ g;obtain⟨m,f⟩:=Xn (p:=kx a (Tk a b k).1) (q:=kx b (Tk a b k).2) (k:=kx b ((Tk a b k).2+1)) (US _ _) (US _ _) (US _ _) j (by rw[d,Wv c];exact ZV vb c)
   have e:rk (kx a (Tk a b k).1) (kx b (Tk a b k).2) (kx b ((Tk a b k).2+1))=(kx a (Tk a b k).1,kx b ((Tk a b k).2+1)):=by
    unfold rk;unfold Xi at g;rw[if_neg (by simp[g])]
   rw[e]at f;have hi:=(a8.1 c).1;simp only[ey,if_false];refine(YS 1 rfl (x:=b) rfl).trans ((YS 1 rfl (x:=((Tk a b k).2:Int)) rfl).trans ((V1 _ rfl c).trans ?_));rw[l,o];refine(YS 1 rfl (x:=((Tk a b k).2:Int)) rfl).trans ((YS 1 rfl (x:=((Tk a b k).2:Int)) rfl).trans ((YS 1 rfl (x:=b) rfl).trans ((YS 1 rfl (x:=SE .i64 ((Tk a b k).2:Int) 1) rfl).trans ?_)));rw[Tf (by omega),XC (by omega),Sp,f,Sp];rfl
 ·simp only;rw[Xh (US _ _) (US _ _),if_pos (nB va vb rfl),Sp,TJ,if_neg (by decide),TJ,if_neg (by decide)]
end
end
section
open Go Sv
theorem db{β:Type}{out:List Ta}{n:Nat}(h:out.length<=n)(a:n<=20000)(x:Ta)(k:Unit->Option β):gd (CF (BF out.length [x].length) 1048576) k=k ():=aO h a x k
section
variable{a b:List Ta}(va:VL a)(vb:VL b)
include va vb
theorem XH{n:Nat}(h:n<=a.length+b.length):(Ts a b (a.length+b.length)).take n=Ts a b n:=bn va vb (eb _) h
theorem YQ{n:Nat}{x:Ta}(c:Bool)(d:ZQ a b n=some x):Uf (s0 c) (Ts a b (n+1))=(true,(x.1,c)):=by
 rw[W0 va vb d,YW,Ww]
theorem cE(c:Bool){n:Nat}(h:n<=a.length+b.length):Wt (Vq a b c n)=some 0:=by
 obtain⟨e,hs⟩:=WS va vb (n:=n) h;have i:=va.len;have j:=vb.len;have f:=Xr (s0 c) (Ts a b n);have g:(Ts a b n).length=n:=Un va vb h;unfold Wt;rw[show(Vq a b c n).1=Ym a b (Tk a b n).1 (Tk a b n).2 from rfl,YY va vb e,Sp,TJ,if_pos rfl];refine Tv (x:=(0,((2,(n:Int)),()))) (Ul (s1:=(1,((Tk a b n).1:Int))) (s2:=(2,(n:Int))) ?_ ?_ rfl) ?_
 ·refine(ZR 0 rfl rfl (x:=((Tk a b n).1:Int)) rfl).trans ?_;show some (LR.nx ((1:Int),SE .i64 0 ((Tk a b n).1:Int)))=_;rw[Sb (by omega),sa]
 ·refine(ZR 1 rfl rfl (x:=((Tk a b n).2:Int)) rfl).trans ?_;show some (LR.nx ((2:Int),SE .i64 ((Tk a b n).1:Int) ((Tk a b n).2:Int)))=_;rw[Sb (by omega),show((Tk a b n).1:Int)+((Tk a b n).2:Int)=(n:Int) by omega]
 simp only[Te,Tc];rw[show(Vq a b c n).2.2.1=WA (s0 c) (Ts a b n)from rfl,show(Vq a b c n).2.2.2=(n:Int)from rfl,show(Vq a b c n).2.1=Uf (s0 c) (Ts a b n)from rfl,TG,if_neg (by omega),TG,if_neg (by omega),TJ,if_pos rfl];rw[show(Ym a b (Tk a b n).1 (Tk a b n).2).1=[a,b]from rfl,mf va vb,Sp,TJ,if_pos rfl,Tb];rw[UC (by rw[Un va vb (eb _)];exact h),UC (gM _)];rw[show D0 (Ts a b (a.length+b.length)) 0 n=Ts a b n from by unfold D0;rw[ox,kd];exact XH va vb h,Ww];rw[show(s0 c).2.2=c from rfl,eB (by omega) (Xe va vb c h),Sp,TJ,if_pos rfl];unfold U0;rw[Sp,TG];cases n with
 |zero=>
  rw[if_neg (by omega),ZY _ (by omega),Sp,U3,R6];show br (Hg (Nk (Sv.beq false false) (Nk (seq [] []) (Nk (Sv.beq c c) true)))) _ _=_;rw[Xj,Xj,YB];rfl
 |succ m=>
  obtain⟨x,d,_⟩:=Ve va vb (n:=m) (by omega);rw[if_pos (by omega),show SI .i64 ((m+1:Nat):Int) 1=(m:Int) by rw[Sd (by omega)];omega,Tb];rw[S6 (x:=x) (by rw[Xw va vb (eb _) (by omega)];exact d),ZY _ (by omega),Sp,U3,R6,YQ va vb c d];rw[Xj,Xj,YB];rfl
theorem gz{n:Nat}(h:n<=a.length+b.length):XP (Ye a b n)=some (((a.length+b.length-n:Nat):Int),0):=by
 obtain⟨c,hs⟩:=WS va vb (n:=n) h;have f:=va.len;have g:=vb.len;have d:=c.ia;have e:=c.jb;unfold XP;rw[show Ye a b n=Ym a b (Tk a b n).1 (Tk a b n).2 from rfl,YY va vb c,Sp,TJ,if_pos rfl];refine Tv (x:=(0,((2,((a.length+b.length-n:Nat):Int)),()))) (Ul (s1:=(1,(a.length:Int)-((Tk a b n).1:Int))) (s2:=(2,((a.length+b.length-n:Nat):Int))) ?_ ?_ rfl) rfl
 ·refine(ZR 0 rfl rfl (x:=a) rfl).trans ((V1 0 rfl (x:=((Tk a b n).1:Int)) rfl).trans ?_);simp only[Te,Tc];rw[Sd (by omega)];show some (LR.nx ((1:Int),SE .i64 0 ((a.length:Int)-((Tk a b n).1:Int))))=_;rw[Sb (by omega),sa]
 ·refine(ZR 1 rfl rfl (x:=b) rfl).trans ((V1 1 rfl (x:=((Tk a b n).2:Int)) rfl).trans ?_);simp only[Te,Tc];rw[Sd (by omega)];show some (LR.nx ((2:Int),SE .i64 ((a.length:Int)-((Tk a b n).1:Int)) ((b.length:Int)-((Tk a b n).2:Int))))=_;rw[Sb (by omega),show(a.length:Int)-((Tk a b n).1:Int)+((b.length:Int)-((Tk a b n).2:Int))=((a.length+b.length-n:Nat):Int) by omega]
theorem aJ(c:Bool){n:Nat}(h:n<=a.length+b.length):Uj (Vq a b c n)=some (((a.length+b.length-n:Nat):Int),0):=by
 unfold Uj;rw[cE va vb c h,Sp,TJ,if_pos rfl,show(Vq a b c n).1=Ye a b n from rfl,gz va vb h];rfl
theorem ZX(c:Bool){n:Nat}{x:Ta}(d:ZQ a b n=some x):Vq a b c (n+1)=(Ye a b (n+1),((true,(x.1,c)),(WA (s0 c) (Ts a b n)++(if keep (Uf (s0 c) (Ts a b n)) x=true then[x]else[]),((n+1:Nat):Int)))):=by
 unfold Vq;rw[W0 va vb d,YW,Ww,ah]
theorem YC(c:Bool){n:Nat}{x:Ta}(h:n<a.length+b.length)(e:ZQ a b n=some x):Ui (Uf (s0 c) (Ts a b n),x)=some (keep (Uf (s0 c) (Ts a b n)) x,((true,(x.1,c)),0)):=by
 have d:=bh va vb c (n:=n) (by omega);rw[fB d.1 d.2 (hG va vb e),Ww];intro g;cases n with
 |zero=>cases g
 |succ m=>
  obtain⟨y,f,_⟩:=Ve va vb (n:=m) (by omega);rw[YQ va vb c f];exact dl va vb (by omega) f e
def oi(k:Int)(s:X2):Int×(Int×(List (List Ta)×(List Int×(List Tu×(List Int×(Int×(Bool×(XZ×(Bool×(List Ta×Int)))))))))):=
 (k,(0,(s.1.1,(s.1.2.1,(s.1.2.2.1,(s.1.2.2.2.1,(s.1.2.2.2.2,(s.2.1.1,(s.2.1.2.1,(s.2.1.2.2,(s.2.2.1,s.2.2.2)))))))))))
theorem fD(c:Bool){n:Nat}(h:n<=a.length+b.length){k:Nat}:Uw (Vq a b c n,(k:Int))=some (Vq a b c (n+min k (a.length+b.length-n)),(((min k (a.length+b.length-n):Nat):Int),0)):=by
 have w:=va.len;have z:=vb.len;have d:∀ m,m<=a.length+b.length->(WA (s0 c) (Ts a b m)).length<=m:=λm s=>by have:=Xr (s0 c) (Ts a b m);have:=Un va vb s;omega
 obtain⟨u,t⟩:∃ u,u=min k (a.length+b.length-n):=⟨_,rfl⟩
 have i:TP (k:Int) ((a.length+b.length-n:Nat):Int)=(u:Int):=by
  unfold TP;split<;>omega
 rw[<- t];unfold Uw;rw[aJ va vb c h,Sp,TJ,if_pos rfl];simp only[i,Te,Tc];rw[TI,if_neg (by omega),show(Vq a b c n).2.2.2=(n:Int)from rfl,Sb (by omega),TG,if_neg (by omega)];rw[show(Vq a b c n).2.2.1=WA (s0 c) (Ts a b n)from rfl,show(Vq a b c n).1=Ye a b n from rfl,UC (by have:=d n h;omega),UC (show(Ye a b n).2.1.length<=1048576 from(show 2<=1048576 by omega)),TI];by_cases r:u=0
 ·rw[r,if_neg (by omega)];rfl
 rw[if_pos (by omega)];obtain⟨x,o,_⟩:=Ve va vb (n:=n) (by omega);rw[Zl va vb (by omega) o,Sp,TJ,if_pos rfl,show(Vq a b c n).2.1=Uf (s0 c) (Ts a b n)from rfl,YC va vb c (by omega) o,Sp,TJ,if_pos rfl]
 have q:∀ j,1<=j->j<u -> ∃ y,ZQ a b (n+j)=some y:=λj f g=>by
  obtain⟨y,e,_⟩:=Ve va vb (n:=n+j) (by omega);exact⟨y,e⟩
 rw[TM];have hS:=ZX va vb c o;cases p:keep (Uf (s0 c) (Ts a b n)) x with
 |true=>
  rw[p]at hS;rw[if_pos rfl,db (d n h) (by omega)];refine Tv (x:=(1,(oi u (Vq a b c (n+u)),()))) (Xv (λj=>oi j (Vq a b c (n+j))) 1 u ?_ (by omega) (by omega) (λj f g=> ?_) ?_) ?_
  ·rw[hS,show SE .i64 (n:Int) 1=((n+1:Nat):Int)from Tf (by omega)];rfl
  ·obtain⟨y,e⟩:=q j f g;show br (S1 (j:Int) (u:Int)) _ _=_;rw[TI,if_pos (by omega)];show bd (Ud (Ye a b (n+j))) _=_;rw[Zl va vb (by omega) e,Sp,TJ,if_pos rfl];show bd (Ui (Uf (s0 c) (Ts a b (n+j)),y)) _=_;rw[YC va vb c (by omega) e,Sp,TJ,if_pos rfl,TM,show n+(j+1)=n+j+1 by omega,ZX va vb c e];cases l:keep (Uf (s0 c) (Ts a b (n+j))) y with
   |true=>
    rw[if_pos rfl,if_pos rfl];show gd (CF (BF (AS (WA (s0 c) (Ts a b (n+j)))) (AS [y])) 1048576) _=_;rw[aO (d _ (by omega)) (by omega)];show some (LR.nx (SE .i64 (j:Int) 1,_))=_;unfold oi;simp only[Tf (show j+1<=9223372036854775807 by omega),Ij];rw[show SE .i64 (Vq a b c (n+j)).2.2.2 1=((n+j+1:Nat):Int)from Tf (by omega)];rfl
   |false=>
    rw[if_neg (by simp),if_neg (by simp)];show some (LR.nx (SE .i64 (j:Int) 1,_))=_;unfold oi;simp only[Tf (show j+1<=9223372036854775807 by omega)];rw[show SE .i64 (Vq a b c (n+j)).2.2.2 1=((n+j+1:Nat):Int)from Tf (by omega),en];rfl
  ·show br (S1 (u:Int) (u:Int)) _ _=_;rw[TI,if_neg (by omega)]
  ·rfl
 |false=>
  rw[p]at hS;rw[if_neg (by simp)];refine Tv (x:=(1,(oi u (Vq a b c (n+u)),()))) (Xv (λj=>oi j (Vq a b c (n+j))) 1 u ?_ (by omega) (by omega) (λj f g=> ?_) ?_) ?_
  ·rw[hS,show SE .i64 (n:Int) 1=((n+1:Nat):Int)from Tf (by omega),if_neg (by simp),en];rfl
  ·obtain⟨y,e⟩:=q j f g;show br (S1 (j:Int) (u:Int)) _ _=_;rw[TI,if_pos (by omega)];show bd (Ud (Ye a b (n+j))) _=_;rw[Zl va vb (by omega) e,Sp,TJ,if_pos rfl];show bd (Ui (Uf (s0 c) (Ts a b (n+j)),y)) _=_;rw[YC va vb c (by omega) e,Sp,TJ,if_pos rfl,TM,show n+(j+1)=n+j+1 by omega,ZX va vb c e];cases l:keep (Uf (s0 c) (Ts a b (n+j))) y with
   |true=>
    rw[if_pos rfl,if_pos rfl];show gd (CF (BF (AS (WA (s0 c) (Ts a b (n+j)))) (AS [y])) 1048576) _=_;rw[aO (d _ (by omega)) (by omega)];show some (LR.nx (SE .i64 (j:Int) 1,_))=_;unfold oi;simp only[Tf (show j+1<=9223372036854775807 by omega),Ij];rw[show SE .i64 (Vq a b c (n+j)).2.2.2 1=((n+j+1:Nat):Int)from Tf (by omega)];rfl
   |false=>
    rw[if_neg (by simp),if_neg (by simp)];show some (LR.nx (SE .i64 (j:Int) 1,_))=_;unfold oi;simp only[Tf (show j+1<=9223372036854775807 by omega)];rw[show SE .i64 (Vq a b c (n+j)).2.2.2 1=((n+j+1:Nat):Int)from Tf (by omega),en];rfl
  ·show br (S1 (u:Int) (u:Int)) _ _=_;rw[TI,if_neg (by omega)]
  ·rfl
end
end
section
open Go Sv
theorem Va{α β σ S:Type}{l:List α}(mk:Nat->σ->S)(I:List α->Nat->σ->Prop)(Q:β->Prop){f:S->Option (LR S β)}{s:S}(a:σ)(t:s=mk 0 a)(z:l.length<=9223372036854775807)(hi:I l 0 a)
  (w:∀ a,I [] l.length a -> ∃ r,f (mk l.length a)=some (.dn r)/\Q r)
  (hc:∀ k x m a,l.drop k=x::m->l[k]?=some x->k<l.length->I (x::m) k a->(∃ b,f (mk k a)=some (.nx (mk (k+1) b))/\I m (k+1) b) \/ ∃ r,f (mk k a)=some (.dn r)/\Q r):∃ r,loop f s=some r/\Q r:=by
 subst t
 have h:∀ (m:List α) (k n:Nat) (a:σ),l.drop k=m->k<=l.length->m.length<n->I m k a -> ∃ r,LF n f (mk k a)=some r/\Q r:=by
  intro m
  induction m with
  |nil=>
   intro k n a e u g hi;obtain⟨n,rfl⟩:∃ j,n=j+1:=⟨n-1,by omega⟩
   have o:k=l.length:=by
    have:=congrArg gs e;simp at this;omega
   subst o;obtain⟨r,c,d⟩:=w a hi;exact⟨r,UJ c,d⟩
  |cons x m y=>
   intro k n a e u g hi;obtain⟨n,rfl⟩:∃ j,n=j+1:=⟨n-1,by omega⟩
   have q:l[k]?=some x:=by
    have:=congrArg rz e;rw[l5]at this;simpa using this
   have i:k<l.length:=(a8.1 q).1
   have p:l.drop (k+1)=m:=by
    have:=congrArg pg e;rw[lc]at this;simpa using this
   rcases hc k x m a e q i hi with⟨b,c,d⟩|⟨r,c,d⟩
   ·rw[UI c];exact y (k+1) n b p (by omega) (by simp at g;omega) d
   ·exact⟨r,UJ c,d⟩
 exact h l 0 _ a (by simp) (by omega) (by omega) hi
theorem Xu{α:Type}(l m:List α)(i:l.length=m.length)(n:l.length<=9223372036854775806){f:(Int×Bool)->Option (LR (Int×Bool) (Nat×((Int×Bool)×Unit)))}
  (hs:∀ (k:Nat) x y,l[k]?=some x->m[k]?=some y->(x=y->f ((k:Int),false)=some (.nx (((k+1:Nat):Int),false)))/\(x≠y->f ((k:Int),false)=some (.dn (0,(((k:Int),false),())))))
  (g:f ((l.length:Int),false)=some (.dn (1,(((l.length:Int),false),())))) :
  ∃ r,loop f (0,false)=some r/\((l=m/\r.1=1)\/(l≠m/\r.1=0/\r.2.1.2=false)):=by
 refine Va (l:=l) (σ:=Unit) (λk _=>((k:Int),false)) (λt k _=>t=l.drop k/\l.take k=m.take k) _ () rfl (by omega) ⟨by simp,by simp⟩ (λj h=> ?_) (λk x t j d b o h=> ?_)
 ·refine⟨_,g,.inl ⟨?_,rfl⟩⟩;have:=h.2;rw[xd,i,xd]at this;exact this
 ·have c:k<m.length:=by omega
  have a:m[k]?=some m[k]:=by simp[c]
  by_cases e:x=m[k]
  ·refine .inl ⟨(),(hs k x m[k] b a).1 e,?_,?_⟩
   ·have:=congrArg pg d;rw[lc]at this;simp at this;exact this.symm
   ·rw[ns,ns,h.2,b,a,e]
  ·refine .inr ⟨_,(hs k x m[k] b a).2 e,.inr ⟨?_,rfl,rfl⟩⟩;intro e2;subst e2;rw[b]at a;exact e (Option.some.inj a)
theorem beq_eq(a b:Bool):Sv.beq a b=decide (a=b):=by cases a<;>cases b<;>rfl
theorem U4(a b:Int):OY a b=decide (a=b):=by
 unfold OY;by_cases h:a=b<;>simp[h]
theorem X4(p q:Prop)[Decidable p][Decidable q]:Nk (decide p) (decide q)=decide (p/\q):=by unfold Nk;simp
theorem Ug(p:Prop)[Decidable p]:Hg (decide p)=decide (¬ p):=by unfold Hg;simp
theorem Yo(a:Bool):Nk a true=a:=by cases a<;>rfl
theorem eM(l m:List Tu)(s:l.length<=9223372036854775806):Tq (l,m)=some (decide (l=m)):=by
 unfold Tq;simp only[Te,Tc];rw[TJ];by_cases b:(l.length:Int)=(m.length:Int)
 ·rw[if_pos b];have c:l.length=m.length:=by omega
  obtain⟨r,p,a⟩:=Xu l m c s (f:=λs0=>br (S1 s0.1 (l.length:Int)) (λ_=>R0 s0.1 λt=>ix l t λn=>R0 s0.1 λw=>ix m w λo=>br (Hg (Nk (seq n.1 o.1) (Nk (Sv.beq n.2 o.2) true))) (λ_=>some (.dn ((0,((s0.1,false),()))))) λ_=>some (.nx (SE .i64 s0.1 1,s0.2))) λ_=>some (.dn ((1,(s0,()))))) (λk x y d j=>by
    have i:=(a8.1 d).1
    have g:∀ {β:Type} (u v:Unit->Option β),br (Hg (Nk (seq x.1 y.1) (Nk (Sv.beq x.2 y.2) true))) u v=if x=y then v ()else u ():=by
     intro β u v;rw[Yo,Yk,beq_eq,X4,Ug,Uo];by_cases e:x=y
     ·subst e;simp
     ·rw[if_pos (λh=>e (r7 h.1 h.2)),if_neg e]
    constructor
    ·intro e;simp only;rw[rl i,SX,Tb,S6 d,Tb,S6 j,g,if_pos e,Tf (by omega)]
    ·intro e;simp only
     rw[rl i,SX,Tb,S6 d,Tb,S6 j,g,if_neg e]) (by simp only;rw[re];rfl)
  refine Tv p ?_;rcases a with⟨e,a⟩|⟨e,a,q⟩
  ·rw[Sq,a];simp[e]
  ·rw[Sq,a];simp[e,q]
 ·rw[if_neg b];have:¬ l=m:=λe=>b (by rw[e]);simp[this]
theorem YV(l m:List Int)(n:l.length<=9223372036854775806):Tj (l,m)=some (decide (l=m)):=by
 unfold Tj;simp only[Te,Tc];rw[TJ];by_cases b:(l.length:Int)=(m.length:Int)
 ·rw[if_pos b];have c:l.length=m.length:=by omega
  obtain⟨r,i,a⟩:=Xu l m c n (f:=λs0=>br (S1 s0.1 (l.length:Int)) (λ_=>R0 s0.1 λo=>ix l o λq=>R0 s0.1 λp=>ix m p λs=>br (Rx q s) (λ_=>some (.dn ((0,((s0.1,false),()))))) λ_=>some (.nx (SE .i64 s0.1 1,s0.2))) λ_=>some (.dn ((1,(s0,()))))) (λk x y d h=>by
    have g:=(a8.1 d).1;constructor
    ·intro e;simp only;rw[rl g,SX,Tb,S6 d,Tb,S6 h,TJ,if_pos e,Tf (by omega)]
    ·intro e;simp only
     rw[rl g,SX,Tb,S6 d,Tb,S6 h,TJ,if_neg e]) (by simp only;rw[re];rfl)
  refine Tv i ?_;rcases a with⟨e,a⟩|⟨e,a,j⟩
  ·rw[Sq,a];simp[e]
  ·rw[Sq,a];simp[e,j]
 ·rw[if_neg b];have:¬ l=m:=λe=>b (by rw[e]);simp[this]
theorem Za{β:Type}(x y:Ta)(u v:Unit->Option β):br (Hg (Nk (seq x.1 y.1) (Nk (seq x.2.1 y.2.1) (Nk (Sv.beq x.2.2.1 y.2.2.1) (Nk (OY x.2.2.2 y.2.2.2) true))))) u v=if x=y then v ()else u ():=by
 rw[Yo,Yk,Yk,beq_eq,U4,X4,X4,X4,Ug,Uo];by_cases e:x=y
 ·subst e;simp
 ·rw[if_pos (λh=>e (r7 h.1 (r7 h.2.1 (r7 h.2.2.1 h.2.2.2)))),if_neg e]
theorem Wc(l m:List Ta)(p:l.length<=9223372036854775806):UX (l,m)=some (decide (l=m)):=by
 unfold UX;simp only[Te,Tc];rw[TJ];by_cases d:(l.length:Int)=(m.length:Int)
 ·rw[if_pos d];have g:l.length=m.length:=by omega
  obtain⟨r,n,a⟩:=Xu l m g p (f:=λs0=>br (S1 s0.1 (l.length:Int)) (λ_=>R0 s0.1 λq=>ix l q λb=>R0 s0.1 λs=>ix m s λc=>br (Hg (Nk (seq b.1 c.1) (Nk (seq b.2.1 c.2.1) (Nk (Sv.beq b.2.2.1 c.2.2.1) (Nk (OY b.2.2.2 c.2.2.2) true))))) (λ_=>some (.dn ((0,((s0.1,false),()))))) λ_=>some (.nx (SE .i64 s0.1 1,s0.2))) λ_=>some (.dn ((1,(s0,()))))) (λk x y h j=>by
    have i:=(a8.1 h).1;constructor
    ·intro e;simp only;rw[rl i,SX,Tb,S6 h,Tb,S6 j,Za,if_pos e,Tf (by omega)]
    ·intro e;simp only
     rw[rl i,SX,Tb,S6 h,Tb,S6 j,Za,if_neg e]) (by simp only;rw[re];rfl)
  refine Tv n ?_;rcases a with⟨e,a⟩|⟨e,a,o⟩
  ·rw[Sq,a];simp[e]
  ·rw[Sq,a];simp[e,o]
 ·rw[if_neg d];have:¬ l=m:=λe=>d (by rw[e]);simp[this]
theorem Xf(l m:List Ta)(a:l.length<=9223372036854775806):Ub (l,m)=some (decide (l=m)):=by
 unfold Ub;rw[Wc l m a];rfl
instance:DecidableEq Ta:=inferInstance
instance:DecidableEq (List Ta):=inferInstance
instance:DecidableEq (List (List Ta)):=inferInstance
instance:DecidableEq Tu:=inferInstance
instance:DecidableEq VU:=inferInstance
instance:DecidableEq U2:=inferInstance
instance:DecidableEq UZ:=inferInstance
instance:DecidableEq X2:=inferInstance
theorem ap(x y:X2)(n:x.1.1.length<=1000)(i:∀ l∈x.1.1,l.length<=1000000)(o:x.1.2.1.length<=1000)(p:x.1.2.2.1.length<=1000)(q:x.1.2.2.2.1.length<=1000)(s:x.2.2.1.length<=1000000):VT (x,y)=some (decide (x=y)):=by
 obtain⟨⟨a,E,F,G,M⟩,⟨xs,L,J⟩,I,K⟩:=x;obtain⟨⟨b,N,P,S,Z⟩,⟨X,Y,O⟩,W,U⟩:=y;simp only at n i o p q s;unfold VT;simp only[Te,Tc];rw[TJ];by_cases g:(a.length:Int)=(b.length:Int)
 ·rw[if_pos g];have h:a.length=b.length:=by omega
  obtain⟨r,z,d⟩:=Xu a b h (by omega) (f:=λs0=>br (S1 s0.1 (a.length:Int)) (λ_=>R0 s0.1 λu=>ix a u λC=>R0 s0.1 λw=>ix b w λD=>bd (Ub (C,D)) λB=>br (Hg B) (λ_=>some (.dn ((0,((s0.1,false),()))))) λ_=>some (.nx (SE .i64 s0.1 1,s0.2))) λ_=>some (.dn ((1,(s0,()))))) (λk x y c m=>by
    have j:=(a8.1 c).1;have t:=i x (co c);constructor
    ·intro e;simp only;rw[rl j,SX,Tb,S6 c,Tb,S6 m,Xf _ _ (by omega),Sp,Ug,Uo,if_neg (by simp[e]),Tf (by omega)]
    ·intro e;simp only
     rw[rl j,SX,Tb,S6 c,Tb,S6 m,Xf _ _ (by omega),Sp,Ug,Uo,if_pos e]) (by simp only;rw[re];rfl)
  refine Tv z ?_;simp only[YV _ _ (show E.length<=9223372036854775806 by omega),YV _ _ (show G.length<=9223372036854775806 by omega),eM _ _ (show F.length<=9223372036854775806 by omega),Xf _ _ (show I.length<=9223372036854775806 by omega),Sp,Uo,U4,Yk,beq_eq,Yo,X4,Sq];rw[TM];rcases d with⟨e,d⟩|⟨e,d,A⟩
  ·rw[if_neg (show ¬ r.1=0 by omega)]
   repeat' split
   all_goals simp_all
  ·rw[if_pos d,if_neg (show ¬ r.2.1.2=true by simp[A])];simp[e]
 ·rw[if_neg g];have:¬ a=b:=λe=>g (by rw[e]);simp[this]
end
section
open Go Sv
def kR(a:List Int)(most:Int)(r:Tw):Int:=
 if r.1<1\/r.1>1000000 then 7 else if(Uk r.2).2≠0 then(Uk r.2).2 else if r.2.length=0 then 4 else if(r.2.length:Int)>most then 3 else if r.1∈a then 8 else 0
def Yb(most:Int):Nat->List Int->List Tw->Option (Nat×Int)
 |_,_,[]=>none
 |k,ids,r::rs=>if kR ids most r≠0 then some (k,kR ids most r)else Yb most (k+1) (ids++[r.1]) rs
def UV(B:Int)(i:Nat):Int:=B*2 ^ i
def Ya(B:Int):Nat->List Int->List (List Tw)->Option (Nat×(Nat×Int))
 |_,_,[]=>none
 |i,ids,rs::ls=>if rs.length>2 then some (i,(0,3))else match Yb (UV B i) 0 ids rs with
  |some (k,e)=>some (i,(k,e))
  |none=>Ya B (i+1) (ids++rs.map (·.1)) ls
def Vb(L:Td):Int×(Int×Int):=
 if L.1<1\/L.1>16 then(0,(0,7))else if L.2.length>12 then(0,(0,3))else match Ya L.1 0 [] L.2 with
  |some (i,(k,e))=>((i:Int),((k:Int),e))
  |none=>if L.2.getLast?=some []then(((L.2.length-1:Nat):Int),(0,6))else(0,(0,0))
theorem dz{most:Int}:∀ {rs:List Tw} {k:Nat} {a:List Int} {c:Nat} {e:Int},Yb most k a rs=some (c,e)->e≠0
 |[],_,_,_,_,h=>by cases h
 |r::rs,k,a,c,e,h=>by
  unfold Yb at h;by_cases b:kR a most r≠0
  ·rw[if_pos b]at h;cases h;exact b
  ·rw[if_neg b]at h;exact dz h
theorem aR{B:Int}:∀ {ls:List (List Tw)} {i:Nat} {a:List Int} {d f:Nat} {e:Int},Ya B i a ls=some (d,(f,e))->e≠0
 |[],_,_,_,_,_,h=>by cases h
 |rs::ls,i,a,d,f,e,h=>by
  unfold Ya at h;by_cases c:rs.length>2
  ·rw[if_pos c]at h;cases h;decide
  ·rw[if_neg c]at h;cases b:Yb (UV B i) 0 a rs with
   |none=>rw[b]at h;exact aR h
   |some x=>rw[b]at h;cases h;exact dz b
def Zw(a:List Int):List (Int×Bool):=a.map λi=>(i,true)
theorem g9(c:List Int)(i:Int):SL (MT (λa b=>OY a b) (Zw c) i) false=decide (i∈c):=by
 induction c with
 |nil=>rfl
 |cons j c d=>
  show SL (bif OY i j then some true else MT (λa b=>OY a b) (Zw c) i) false=_
  rw[U4];by_cases h:i=j
  ·simp[h,SL]
  ·simp only[h,decide_false,cond_false,gl,false_or];exact d
theorem hC{c:List Int}{i:Int}(h:i ∉ c):IR (λa b=>OY a b) (Zw c) i true=Zw (c++[i]):=by
 induction c with
 |nil=>rfl
 |cons j c f=>
  show(bif OY i j then(i,true)::Zw c else(j,true)::IR (λa b=>OY a b) (Zw c) i true)=_
  rw[U4];have d:¬ i=j:=λe=>h (by simp[e]);rw[f (λe=>h (by simp[e]))];simp only[d,decide_false,cond_false];rfl
theorem Yy(r:Tw)(b:r.2.length<=9223372036854775807):Wr r=some (if r.1<1\/r.1>1000000 then(-1,7)else Uk r.2):=by
 unfold Wr;rw[TI,TG,Vu _ b,Sp];by_cases h:r.1<1
 ·rw[if_pos h,if_pos (.inl h)]
 ·rw[if_neg h];by_cases a:r.1>1000000
  ·rw[if_pos a,if_pos (.inr a)]
  ·rw[if_neg a,if_neg (by omega)]
theorem Z9(r:Tw)(most:Int)(b:r.2.length<=9223372036854775807):VE (r,most)=some (kR [] most r):=by
 unfold VE kR;rw[Yy r b,Sp];simp only[Te,Tc];by_cases h:r.1<1\/r.1>1000000
 ·rw[if_pos h,if_pos h];rfl
 ·rw[if_neg h,if_neg h,TJ];by_cases a:(Uk r.2).2=0
  ·rw[if_pos a,if_neg (by simp[a]),TE,TG]
   repeat' split
   all_goals first|rfl|(exfalso;omega)|simp_all
  ·rw[if_neg a,if_pos a]
theorem gu(a:List Int)(most:Int)(r:Tw):kR a most r=if kR [] most r=0 then(if r.1∈a then 8 else 0)else kR [] most r:=by
 unfold kR
 repeat' split
 all_goals simp_all
theorem o9(i:Nat)(h:i<=12):(2:Int) ^ i<=4096/\1<=(2:Int) ^ i:=by
 have a:(2:Nat) ^ i<=2 ^ 12:=Nat.pow_le_pow_right (by omega) h;have b:1<=(2:Nat) ^ i:=Nat.one_le_two_pow;have c:((2 ^ i:Nat):Int)=(2:Int) ^ i:=by simp
 omega
theorem bS{B:Int}{i:Nat}(a:1<=B)(b:B<=16)(hi:i<=12):1<=UV B i/\UV B i<=65536:=by
 obtain⟨c,d⟩:=o9 i hi;unfold UV;constructor
 ·have:=xl a d (by omega) (by omega);omega
 ·have:=xl b c (by omega) (by omega);omega
theorem Z7{B:Int}{i:Nat}(a:1<=B)(b:B<=16)(hi:i<=12):S4 .i64 B (i:Int)=UV B i:=by
 have c:=bS a b hi;unfold S4;rw[show min ((i:Int).toNat) IntKind.i64.bits=i by rw[ed];exact sw (Nat.le_trans hi (by decide))];unfold UV at c ⊢;exact IntWalk.i64_in _ (by omega)
def Q1:Option (Nat×(Nat×Int))->Int->Int->Int->Prop
 |some (i,(k,e)),a,b,c=>a=(k:Int)/\b=(i:Int)/\c=e
 |none,_,_,c=>c=0
def Q2(m:List (Int×Bool)):Option (Nat×Int)->Nat->Int->Int->List (Int×Bool)->Prop
 |some (k,e),r,a,c,_=>r=0/\a=(k:Int)/\c=e
 |none,r,_,c,m'=>r=1/\c=0/\m'=m
theorem Yg(L:Td)(hb:L.2.length<=1048576)(hr:∀ rs∈L.2,rs.length<=1048576 /\ ∀ r∈rs,r.2.length<=9223372036854775807):VO L=some (Vb L):=by
 unfold VO Vb;simp only[Te,Tc];rw[TI,TG,TG];by_cases z:L.1<1
 ·rw[if_pos z,if_pos (.inl z)]
 rw[if_neg z];by_cases A:L.1>16
 ·rw[if_pos A,if_pos (.inr A)]
 rw[if_neg A,if_neg (show ¬ (L.1<1\/L.1>16) by omega)];by_cases hl:(L.2.length:Int)>12
 ·rw[if_pos hl,if_pos (by omega)]
 rw[if_neg hl,if_neg (by omega)];have hl2:L.2.length<=12:=by omega
 obtain⟨T,I⟩:∃ T,T=Ya L.1 0 [] L.2:=⟨_,rfl⟩;rw[<- I]
 have C:∀ W:Int,W=0->T=none->(br (Rx W 0) (λ_=>(none:Option (Int×(Int×Int)))) λ_=>br (Sz (L.2.length:Int) 0) (λ_=>R0 (SI .i64 (L.2.length:Int) 1) λO=>ix L.2 O λX=>br (OY (X.length:Int) 0) (λ_=>some ((SI .i64 (L.2.length:Int) 1,(0,6)))) λ_=>some ((0,(0,0)))) λ_=>some ((0,(0,0))))=some (if L.2.getLast?=some []then(((L.2.length-1:Nat):Int),(0,6))else(0,(0,0))):=by
  intro W o _;rw[TJ,if_pos o,TG];by_cases hn:L.2=[]
  ·rw[hn];rfl
  ·have hp:=eg.2 hn;rw[if_pos (by omega),show SI .i64 (L.2.length:Int) 1=((L.2.length-1:Nat):Int) by rw[Sd (by omega)];omega,Tb,oj];have n:L.2[L.2.length-1]?=some (L.2[L.2.length-1]'(by omega)):=by simp
   rw[S6 n,n,TE];by_cases N:L.2[L.2.length-1]'(by omega)=[]
   ·rw[N];simp
   ·rw[if_neg (by have:=eg.2 N;omega),if_neg (by simp[N])]
 obtain⟨r,S,b⟩:=Va (l:=L.2) (σ:=Int×(Int×List Int)) (λi j=>(j.1,(j.2.1,((0:Int),((i:Int),Zw j.2.2)))))
  (λm i j=>Ya L.1 i j.2.2 m=T) (λ(r:Nat×((Int×(Int×(Int×(Int×List (Int×Bool)))))×Unit))=>Q1 T r.2.1.1 r.2.1.2.1 r.2.1.2.2.1)
  (f:=λs0=>br (S1 s0.2.2.2.1 (L.2.length:Int)) (λ_=>R0 s0.2.2.2.1 λk1=>ix L.2 k1 λY=>br (Sz (Y.length:Int) 2) (λ_=>some (.dn ((0,((0,(s0.2.2.2.1,(3,s0.2.2.2))),()))))) λ_=>bd (loop (λa=>br (S1 a.2.1 (Y.length:Int)) (λ_=>R0 a.2.1 λP=>ix Y P λp=>gd (Rw s0.2.2.2.1 0) λ_=>bd (VE (p,S4 .i64 L.1 s0.2.2.2.1)) λg=>br (OY g 0) (λ_=>br (SL (MT ((λJ=>(λK=>OY J K))) a.2.2.2 p.1) false) (λ_=>some (.dn ((0,((a.2.1,(a.2.1,(8,a.2.2.2))),()))))) λ_=>br (Rx g 0) (λ_=>some (.dn ((0,((a.2.1,(a.2.1,(g,a.2.2.2))),()))))) λ_=>some (.nx ((a.2.1,(SE .i64 a.2.1 1,(g,IR ((λM=>(λw=>OY M w))) a.2.2.2 p.1 true)))))) λ_=>br (Rx g 0) (λ_=>some (.dn ((0,((a.2.1,(a.2.1,(g,a.2.2.2))),()))))) λ_=>some (.nx ((a.2.1,(SE .i64 a.2.1 1,(g,IR ((λx=>(λy=>OY x y))) a.2.2.2 p.1 true)))))) λ_=>some (.dn ((1,(a,()))))) ((0,(0,(s0.2.2.1,s0.2.2.2.2))))) λd=>br (neq d.1 0) (λ_=>some (.dn ((0,((d.2.1.1,(s0.2.2.2.1,(d.2.1.2.2.1,(s0.2.2.2.1,d.2.1.2.2.2)))),()))))) λ_=>some (.nx ((d.2.1.1,(s0.2.2.2.1,(d.2.1.2.2.1,(SE .i64 s0.2.2.2.1 1,d.2.1.2.2.2))))))) λ_=>some (.dn ((0,(s0,())))))
  (s:=(0,(0,(0,(0,[]))))) (0,(0,[])) rfl (by omega) I.symm (λj h=>by
   refine⟨_,by simp only;rw[re];rfl,?_⟩;simp only at h ⊢;rw[<- h];exact rfl) (λi rs m j hd n hi h=>by
   obtain⟨s1,s2,c⟩:=j;simp only at h ⊢;obtain⟨hrs1,F⟩:=hr rs (co n);rw[rl hi,SX,Tb,S6 n,TG];unfold Ya at h;by_cases Z:rs.length>2
   ·rw[if_pos (by omega)];rw[if_pos Z]at h;refine .inr ⟨_,rfl,?_⟩;rw[<- h];exact⟨rfl,rfl,rfl⟩
   rw[if_neg (by omega)];rw[if_neg Z]at h;obtain⟨U,hU⟩:∃ U,U=Yb (UV L.1 i) 0 c rs:=⟨_,rfl⟩;rw[<- hU]at h
   obtain⟨r,S,b⟩:=Va (l:=rs) (σ:=Int) (λk j=>(j,((k:Int),((0:Int),Zw (c++(rs.take k).map (·.1))))))
    (λm k _=>Yb (UV L.1 i) k (c++(rs.take k).map (·.1)) m=U) (λ(r:Nat×((Int×(Int×(Int×List (Int×Bool))))×Unit))=>Q2 (Zw (c++rs.map (·.1))) U r.1 r.2.1.1 r.2.1.2.2.1 r.2.1.2.2.2)
    (f:=λa=>br (S1 a.2.1 (rs.length:Int)) (λ_=>R0 a.2.1 λP=>ix rs P λp=>gd (Rw (i:Int) 0) λ_=>bd (VE (p,S4 .i64 L.1 (i:Int))) λg=>br (OY g 0) (λ_=>br (SL (MT ((λJ=>(λK=>OY J K))) a.2.2.2 p.1) false) (λ_=>some (.dn ((0,((a.2.1,(a.2.1,(8,a.2.2.2))),()))))) λ_=>br (Rx g 0) (λ_=>some (.dn ((0,((a.2.1,(a.2.1,(g,a.2.2.2))),()))))) λ_=>some (.nx ((a.2.1,(SE .i64 a.2.1 1,(g,IR ((λM=>(λw=>OY M w))) a.2.2.2 p.1 true)))))) λ_=>br (Rx g 0) (λ_=>some (.dn ((0,((a.2.1,(a.2.1,(g,a.2.2.2))),()))))) λ_=>some (.nx ((a.2.1,(SE .i64 a.2.1 1,(g,IR ((λx=>(λy=>OY x y))) a.2.2.2 p.1 true)))))) λ_=>some (.dn ((1,(a,())))))
    (s:=(0,(0,(0,Zw c)))) 0 (by simp) (by omega) (by simp[hU]) (λj h=>by
     refine⟨_,by simp only;rw[re];rfl,?_⟩;rw[<- h];exact⟨rfl,rfl,by simp⟩) (λk r m j hd n hk h=>by
     simp only at h ⊢;have hr2:=F r (co n);have G:(rs.take (k+1)).map (·.1)=(rs.take k).map (·.1)++[r.1]:=by rw[ns,n];simp
     rw[rl hk,SX,Tb,S6 n,show gd (Rw (i:Int) 0)=λ(q:Unit->Option (LR (Int×(Int×(Int×List (Int×Bool)))) (Nat×((Int×(Int×(Int×List (Int×Bool))))×Unit))))=>q ()from by unfold Rw;simp[gd];rfl,Z7 (by omega) (by omega) (by omega)];simp only;rw[Z9 _ _ (by omega),Sp,TE,g9,TJ];unfold Yb at h;rw[gu]at h;by_cases o:kR [] (UV L.1 i) r=0
     ·rw[if_pos o]at h;rw[if_pos o,if_pos o,Uo];by_cases E:r.1∈c++(rs.take k).map (·.1)
      ·rw[if_pos E];rw[if_pos E,if_pos (by decide)]at h;refine .inr ⟨_,rfl,?_⟩;rw[<- h];exact⟨rfl,rfl,rfl⟩
      ·rw[if_neg E];rw[if_neg E,if_neg (by decide)]at h;refine .inl ⟨(k:Int),?_,?_⟩
       ·rw[hC E,o,Tn n (by omega),G,dc]
       ·rw[G,<- dc];exact h
     ·rw[if_neg o,if_pos o]at h;rw[if_neg o,if_neg o];refine .inr ⟨_,rfl,?_⟩;rw[<- h]
      exact⟨rfl,rfl,rfl⟩)
   rw[S,Sp,Sq];cases D:U with
   |some u=>
    obtain⟨k,e⟩:=u;rw[D]at b h;rw[if_pos b.1];refine .inr ⟨_,rfl,?_⟩;rw[<- h];exact⟨b.2.1,rfl,b.2.2⟩
   |none=>
    rw[D]at b h;rw[if_neg (show ¬ r.1=0 by have:=b.1;omega)];refine .inl ⟨(r.2.1.1,((i:Int),c++rs.map (·.1))),?_,h⟩
    rw[b.2.1,b.2.2,Tn n (by omega)])
 refine Tv S ?_;cases B:T with
 |some t=>
  obtain⟨i,k,e⟩:=t;rw[B]at b I;rw[TJ,if_neg (by rw[b.2.2];exact aR I.symm),b.1,b.2.1,b.2.2]
 |none=>
  rw[B]at b;have h:=C _ b B;have q3:r.2.1.2.2.1=0:=b;rw[TJ,if_pos q3]at h ⊢;exact h
end
section
open Go Sv
structure VR (most:Int) (r:Tw):Prop where
 id1:1<=r.1
 id2:r.1<=1000000
 vl:VL r.2
 ne:r.2≠[]
 le:(r.2.length:Int)<=most
theorem gv{a:List Int}{most:Int}{r:Tw}:kR a most r=0<->VR most r/\r.1 ∉ a:=by
 unfold kR;constructor
 ·intro h;by_cases f:r.1<1\/r.1>1000000
  ·rw[if_pos f]at h;cases h
  rw[if_neg f]at h;by_cases b:(Uk r.2).2≠0
  ·rw[if_pos b]at h;exact absurd h b
  rw[if_neg b]at h;by_cases c:r.2.length=0
  ·rw[if_pos c]at h;cases h
  rw[if_neg c]at h;by_cases g:(r.2.length:Int)>most
  ·rw[if_pos g]at h;cases h
  rw[if_neg g]at h;by_cases d:r.1∈a
  ·rw[if_pos d]at h;cases h
  exact⟨⟨by omega,by omega,ZB.1 (by simpa using b),by intro e;rw[e]at c;exact c rfl,by omega⟩,d⟩
 ·rintro⟨h,d⟩;rw[if_neg (by have:=h.id1;have:=h.id2;omega),if_neg (by simp[ZB.2 h.vl]),if_neg (by have:=eg.2 h.ne;omega),if_neg (by have:=h.le;omega),if_neg d]
def dv(r:Tw):Int:=r.1
theorem ZK{most:Int}:∀ {rs:List Tw} {k:Nat} {a:List Int},Yb most k a rs=none<->(∀ r∈rs,VR most r/\r.1 ∉ a)/\(rs.map dv).Nodup
 |[],k,a=>by simp[Yb]
 |r::rs,k,a=>by
  unfold Yb;by_cases h:kR a most r=0
  ·rw[if_neg (by simp[h]),ZK (rs:=rs)];have f:=gv.1 h;simp only[gl,forall_eq_or_imp,List.map_cons,List.nodup_cons,o3,List.not_mem_nil,or_false,nn,not_exists,not_and,not_or];constructor
   ·rintro⟨b,d⟩;exact⟨⟨f,λx c=>⟨(b x c).1,(b x c).2.1⟩⟩,λx c e=>(b x c).2.2 e,d⟩
   ·rintro⟨⟨_,b⟩,d,g⟩;exact⟨λx c=>⟨(b x c).1,(b x c).2,d x c⟩,g⟩
  ·rw[if_pos h];simp only[reduceCtorEq,false_iff,not_and];intro b;exact absurd (gv.2 (b r (by simp))) h
theorem YX{B:Int}:∀ {ls:List (List Tw)} {i:Nat} {c:List Int},Ya B i c ls=none<->(∀ k rs,ls[k]?=some rs->rs.length<=2 /\ ∀ r∈rs,VR (UV B (i+k)) r/\r.1 ∉ c)/\(ls.flatten.map dv).Nodup
 |[],i,c=>by simp[Ya]
 |rs::ls,i,c=>by
  unfold Ya;by_cases h:rs.length>2
  ·rw[if_pos h];simp only[reduceCtorEq,false_iff,not_and];intro j;have:=(j 0 rs rfl).1;omega
  ·rw[if_neg h];cases g:Yb (UV B i) 0 c rs with
   |some x=>
    simp only[reduceCtorEq,false_iff,not_and];intro j l
    have m:Yb (UV B i) 0 c rs=none:=ZK.2 ⟨(j 0 rs rfl).2,by
     simp only[sk,oy]at l
     exact(ol.1 l).1⟩
    rw[g]at m;cases m
   |none=>
    have q:=ZK.1 g;simp only;rw[YX (ls:=ls)];simp only[sk,oy,o3,not_or,nn];constructor
    ·rintro⟨j,l⟩;refine⟨λk d n=> ?_,?_⟩
     ·cases k with
      |zero=>cases n;exact⟨by omega,q.1⟩
      |succ k=>
       have m:=j k d n
       exact⟨m.1,λr g=>by
        have:=m.2 r g;rw[show i+(k+1)=i+1+k by omega]
        exact⟨this.1,this.2.1⟩⟩
     ·rw[ol];refine⟨q.2,l,?_⟩;intro a s b t e;subst e;obtain⟨r,g,e1⟩:=nn.1 s;obtain⟨p,f,e2⟩:=nn.1 t;obtain⟨d,o,f⟩:=hV.1 f;obtain⟨k,n⟩:=ee o;exact((j k d n).2 p f).2.2 ⟨r,g,by unfold dv at e1 e2;omega⟩
    ·rintro⟨j,l⟩;rw[ol]at l;refine⟨λk d n=> ?_,l.2.1⟩;have m:=j (k+1) d n;refine⟨m.1,λr g=> ?_⟩;have:=m.2 r g;rw[show i+(k+1)=i+1+k by omega]at this;refine⟨this.1,this.2,?_⟩;rintro⟨p,f,e⟩;exact l.2.2 (dv p) (ta f) (dv r) (ta (hV.2 ⟨d,co n,g⟩)) e
structure VLev (L:Td):Prop where
 B1:1<=L.1
 B2:L.1<=16
 len:L.2.length<=12
 lev:∀ i rs,L.2[i]?=some rs->rs.length<=2 /\ ∀ r∈rs,VR (UV L.1 i) r
 ids:(L.2.flatten.map dv).Nodup
 last:L.2.getLast? ≠ some []
theorem Xm{L:Td}:(Vb L).2.2=0<->VLev L:=by
 unfold Vb;constructor
 ·intro h;by_cases c:L.1<1\/L.1>16
  ·rw[if_pos c]at h;cases h
  rw[if_neg c]at h;by_cases d:L.2.length>12
  ·rw[if_pos d]at h;cases h
  rw[if_neg d]at h;cases a:Ya L.1 0 [] L.2 with
  |some x=>
   obtain⟨i,k,e⟩:=x;rw[a]at h;exact absurd h (aR a)
  |none=>
   rw[a]at h;simp only at h;by_cases f:L.2.getLast?=some []
   ·rw[if_pos f]at h;cases h
   ·have g:=YX.1 a
    exact⟨by omega,by omega,by omega,λi rs hi=>by
     have:=g.1 i rs hi;rw[eo]at this
     exact⟨this.1,λr b=>(this.2 r b).1⟩,g.2,f⟩
 ·intro h
  have a:Ya L.1 0 [] L.2=none:=YX.2 ⟨λk rs j=>by
   have:=h.lev k rs j;rw[eo]
   exact⟨this.1,λr b=>⟨this.2 r b,by simp⟩⟩,h.ids⟩
  rw[if_neg (by have:=h.B1;have:=h.B2;omega),if_neg (by have:=h.len;omega),a];simp only;rw[if_neg h.last]
theorem Wx{L:Td}(h:VLev L):Vb L=(0,(0,0)):=by
 have a:Ya L.1 0 [] L.2=none:=YX.2 ⟨λk rs b=>by
  have:=h.lev k rs b;rw[eo]
  exact⟨this.1,λr c=>⟨this.2 r c,by simp⟩⟩,h.ids⟩
 unfold Vb;rw[if_neg (by have:=h.B1;have:=h.B2;omega),if_neg (by have:=h.len;omega),a];simp only;rw[if_neg h.last]
def V6(l:List (List Tw)):Int:=l.foldl (λm rs=>rs.foldl (λm r=>TQ m r.1) m) 0
def UO:Nat->List (List Tw)->List Int
 |_,[]=>[]
 |i,rs::ls=>(if rs.length=2 then[(i:Int)]else[])++UO (i+1) ls
theorem an(L:Td)(f:L.2.length<=1048576)(d:∀ rs∈L.2,rs.length<=1048576):WM L=some (V6 L.2):=by
 unfold WM;simp only[Te,Tc]
 rw[U1 (l:=L.2) (σ:=Int) (s:=((0:Int),(0:Int))) (λi m=>(m,(i:Int))) (λ_ _ _=>True) (λls _ m=>(0,((ls.foldl (λm rs=>rs.foldl (λm r=>TQ m r.1) m) m,(L.2.length:Int)),()))) 0 rfl (by omega) trivial (λm _=>by
  simp only;rw[re];rfl) (λi rs ls m b a hi _=>by
   refine⟨rs.foldl (λm r=>TQ m r.1) m,?_,trivial,rfl⟩;have e:=d rs (co a);simp only
   rw[rl hi,SX,Tb,S6 a,U1 (l:=rs) (σ:=Int) (s:=((0:Int),m)) (λi m=>((i:Int),m)) (λ_ _ _=>True) (λl _ m=>(0,(((rs.length:Int),l.foldl (λm r=>TQ m r.1) m),()))) m rfl (by omega) trivial (λm _=>by
    simp only;rw[re];rfl) (λk r l m b a c _=>by
     refine⟨TQ m r.1,?_,trivial,rfl⟩;simp only
     rw[rl c,SX,Tb,S6 a,Tn a (by omega)]),Sp,Tn a (by omega)]),Sp]
 rfl
def YZ(L:Td)(a:List Int)(i:Nat)(j:XY):Bool:=match a[i]? with
 |none=>true
 |some d=>if j.1≠d then true else if j.2.2.1.2.2=true/\j.1≠(L.2.length:Int)-1 then true else match L.2[d.toNat]? with
  |some [r0,r1]=>if j.2.2.2.2<0\/j.2.2.2.2>((r1.2.length+r0.2.length:Nat):Int)then true else decide (Vq r1.2 r0.2 j.2.2.1.2.2 j.2.2.2.2.toNat≠j.2)
  |_=>true
def WR(L:Td)(a:List Int):Nat->List XY->Option Nat
 |_,[]=>none
 |i,j::js=>if YZ L a i j=true then some i else WR L a (i+1) js
def UN(s:UB):Int×Int:=
 if(Vb s.1).2.2≠0 then(-1,(Vb s.1).2.2)else if s.2.2<1\/s.2.2>1000001 then(-1,7)else if s.2.2<=V6 s.1.2 then(-1,6)else match WR s.1 (UO 0 s.1.2) 0 s.2.1 with
  |some i=>((i:Int),6)
  |none=>if s.2.1.length<(UO 0 s.1.2).length then(-1,4)else(0,0)
theorem XX:∀ {ls:List (List Tw)} {i k:Nat} {d:Int},(UO i ls)[k]?=some d -> ∃ n:Nat,d=((i+n:Nat):Int) /\ ∃ e f,ls[n]?=some [e,f]
 |[],i,k,d,h=>by cases h
 |rs::ls,i,k,d,h=>by
  unfold UO at h;by_cases a:rs.length=2
  ·rw[if_pos a]at h;cases k with
   |zero=>
    simp at h;refine⟨0,by simp[<- h],?_⟩
    match rs,a with
    |[e,f],_=>exact⟨e,f,rfl⟩
   |succ k=>
    simp at h;obtain⟨n,b,c⟩:=XX h;exact⟨n+1,by rw[b];congr 1;omega,c⟩
  ·rw[if_neg a]at h;simp at h;obtain⟨n,b,c⟩:=XX h;exact⟨n+1,by rw[b];congr 1;omega,c⟩
theorem WW:∀ (ls:List (List Tw)) (i:Nat),(UO i ls).length<=ls.length
 |[],i=>eb _
 |rs::ls,i=>by
  have:=WW ls (i+1);unfold UO;split<;>simp<;>omega
theorem ad{L:Td}{n:Nat}{a b:Tw}(c:Bool)(h:L.2[n]?=some [a,b])(d:VL a.2)(e:VL b.2):Ur (L,((n:Int),c))=some ((n:Int),Vq b.2 a.2 c 0):=by
 unfold Ur;simp only;rw[Tb,S6 h,S6 (x:=b) rfl,S6 (x:=a) rfl,eI e d];rfl
theorem Y7{a b:List Ta}(va:VL a)(d:VL b)(c:Bool){n:Nat}(h:n<=a.length+b.length):(Vq a b c n).1.1.length<=1000/\(∀ l∈(Vq a b c n).1.1,l.length<=1000000)/\(Vq a b c n).1.2.1.length<=1000/\(Vq a b c n).1.2.2.1.length<=1000/\(Vq a b c n).1.2.2.2.1.length<=1000/\(Vq a b c n).2.2.1.length<=1000000:=by
 have j:=va.len;have k:=d.len;refine⟨show 2<=1000 by omega,λl f=> ?_,show 2<=1000 by omega,show 2<=1000 by omega,show 2<=1000 by omega,?_⟩
 ·have:l=a\/l=b:=by simpa[Vq,Ye,Ym]using f
  rcases this with e|e<;>subst e<;>omega
 ·have g:=Xr (s0 c) (Ts a b n);have i:=Un va d h;show(WA (s0 c) (Ts a b n)).length<=_;omega
theorem o0{L:Td}{n:Nat}{a b:Tw}{j:XY}(h:L.2[n]?=some [a,b])(e:VL a.2)(f:VL b.2){β:Type}(A B:Option β) :
  (bd (Ur (L,((n:Int),j.2.2.1.2.2))) λc=>bd (Uj c.2) λl=>br (S1 j.2.2.2.2 0) (λ_=>A) λ_=>br (Sz j.2.2.2.2 l.1) (λ_=>A) λ_=>bd (Uw (c.2,j.2.2.2.2)) λm=>bd (VT (m.1,j.2)) λo=>br (Hg o) (λ_=>A) λ_=>B)
  = if j.2.2.2.2<0\/j.2.2.2.2>((b.2.length+a.2.length:Nat):Int)then A else if Vq b.2 a.2 j.2.2.1.2.2 j.2.2.2.2.toNat=j.2 then B else A:=by
 rw[ad _ h e f,Sp,aJ f e _ (gM _),Sp,TI,TG,kd];by_cases g:j.2.2.2.2<0
 ·rw[if_pos g,if_pos (.inl g)]
 rw[if_neg g];by_cases i:j.2.2.2.2>((b.2.length+a.2.length:Nat):Int)
 ·rw[if_pos i,if_pos (.inr i)]
 rw[if_neg i,if_neg (show ¬ (j.2.2.2.2<0\/j.2.2.2.2>((b.2.length+a.2.length:Nat):Int)) by omega)];obtain⟨k,p⟩:∃ k:Nat,j.2.2.2.2=(k:Int):=⟨j.2.2.2.2.toNat,by omega⟩;rw[p,fD f e _ (gM _),Sp,kd,eo,sw (by omega),ed];obtain⟨s1,s2,q,r,s,t⟩:=Y7 f e j.2.2.1.2.2 (n:=k) (by omega);rw[ap _ _ s1 s2 q r s t,Sp,Ug,Uo];by_cases d:Vq b.2 a.2 j.2.2.1.2.2 k=j.2
 ·rw[if_neg (by simp[d]),if_pos d]
 ·rw[if_pos d,if_neg d]
theorem bf(s:UB)(N:s.1.2.length<=1048576)(hr:∀ rs∈s.1.2,rs.length<=1048576 /\ ∀ r∈rs,r.2.length<=9223372036854775807)(hj:s.2.1.length<=1048576):Ua s=some (UN s):=by
 unfold Ua UN;simp only[Te,Tc];rw[Yg _ N hr,Sp,TJ];by_cases z:(Vb s.1).2.2=0;rotate_left
 ·rw[if_neg z,if_pos z]
 rw[if_pos z,if_neg (by simp[z]),TI,TG,an _ N (λrs h=>(hr rs h).1),Sp];have v:=Xm.1 z;by_cases C:s.2.2<1
 ·rw[if_pos C,if_pos (.inl C)]
 rw[if_neg C];by_cases p:s.2.2>1000001
 ·rw[if_pos p,if_pos (.inr p)]
 rw[if_neg p,if_neg (show ¬ (s.2.2<1\/s.2.2>1000001) by omega),TH];by_cases o:s.2.2<=V6 s.1.2
 ·rw[if_pos o,if_pos o]
 rw[if_neg o,if_neg o]
 rw[U1 (l:=s.1.2) (σ:=List Int) (s:=((0:Int),([]:List Int))) (λi m=>((i:Int),m)) (λls i m=>m++UO i ls=UO 0 s.1.2) (λ_ _ _=>(0,(((s.1.2.length:Int),UO 0 s.1.2),()))) [] rfl (by omega) rfl (λm h=>by
  simp only;rw[re,R6,<- h];simp[UO]) (λi rs ls m hd E hi h=>by
   refine⟨m++(if rs.length=2 then[(i:Int)]else[]),?_,?_,rfl⟩
   ·simp only;rw[rl hi,SX,Tb,S6 E,TE]
    have hm:m.length<=1048575:=by
     have D:=congrArg gs h;have q:=WW s.1.2 0;have u:=v.len;rw[fl]at D;omega
    by_cases D:rs.length=2
    ·rw[if_pos (by omega),if_pos D,UC (by simp only[BF,AS,ci,cP];omega),Tn E (by omega)];rfl
    ·rw[if_neg (by omega),if_neg D,en,Tn E (by omega)]
   ·rw[dc];exact h),Sp]
 simp only;obtain⟨a,g⟩:∃ a,a=UO 0 s.1.2:=⟨_,rfl⟩;have hdl:a.length<=12:=by have:=WW s.1.2 0;have:=v.len;rw[g];omega
 rw[<- g];obtain⟨T,hT⟩:∃ T,T=WR s.1 a 0 s.2.1:=⟨_,rfl⟩;rw[<- hT]
 obtain⟨r,q1,I⟩:=Va (l:=s.2.1) (σ:=Unit) (λi _=>((0:Int),((0:Int),(i:Int)))) (λjs i _=>WR s.1 a i js=T) (λ(r:Nat×((Int×(Int×Int))×Unit))=>(T=none/\r.1=1)\/(∃ i:Nat,T=some i/\r.1=0/\r.2.1.1=6/\r.2.1.2.1=(i:Int)))
  (f:=λb=>br (S1 b.2.2 (s.2.1.length:Int)) (λ_=>R0 b.2.2 λk7=>ix s.2.1 k7 λe=>br (Rw b.2.2 (a.length:Int)) (λ_=>some (.dn ((0,((6,(b.2.2,b.2.2)),()))))) λ_=>R0 b.2.2 λk9=>gd (KI k9 a.length) λ_=>ix a k9 λx10=>br (Rx e.1 x10) (λ_=>some (.dn ((0,((6,(b.2.2,b.2.2)),()))))) λ_=>br e.2.2.1.2.2 (λ_=>bd (VD (s.1,e.1)) λP=>br (Hg P) (λ_=>some (.dn ((0,((6,(b.2.2,b.2.2)),()))))) λ_=>bd (Ur ((s.1,(e.1,e.2.2.1.2.2)))) λL=>bd (Uj L.2) λS=>br (S1 e.2.2.2.2 0) (λ_=>some (.dn ((0,((6,(b.2.2,b.2.2)),()))))) λ_=>br (Sz e.2.2.2.2 S.1) (λ_=>some (.dn ((0,((6,(b.2.2,b.2.2)),()))))) λ_=>bd (Uw (L.2,e.2.2.2.2)) λU=>bd (VT (U.1,e.2)) λW=>br (Hg W) (λ_=>some (.dn ((0,((6,(b.2.2,b.2.2)),()))))) λ_=>some (.nx ((b.1,(b.2.1,SE .i64 b.2.2 1))))) λ_=>bd (Ur ((s.1,(e.1,e.2.2.1.2.2)))) λM=>bd (Uj M.2) λX=>br (S1 e.2.2.2.2 0) (λ_=>some (.dn ((0,((6,(b.2.2,b.2.2)),()))))) λ_=>br (Sz e.2.2.2.2 X.1) (λ_=>some (.dn ((0,((6,(b.2.2,b.2.2)),()))))) λ_=>bd (Uw (M.2,e.2.2.2.2)) λY=>bd (VT (Y.1,e.2)) λZ=>br (Hg Z) (λ_=>some (.dn ((0,((6,(b.2.2,b.2.2)),()))))) λ_=>some (.nx ((b.1,(b.2.1,SE .i64 b.2.2 1))))) λ_=>some (.dn ((1,(b,())))))
  (s:=(0,(0,0))) () rfl (by omega) hT.symm (λ_ h=>by
   refine⟨_,by simp only;rw[re];rfl,.inl ⟨by rw[<- h];rfl,rfl⟩⟩) (λi j js _ hd E hi h=>by
   simp only;rw[rl hi,SX,Tb,S6 E,TF];unfold WR at h
   have c:YZ s.1 a i j=true -> ∃ r:Nat×((Int×(Int×Int))×Unit),(some (LR.dn ((0,((6,((i:Int),(i:Int))),()))):LR (Int×(Int×Int)) _))=some (.dn r)/\((T=none/\r.1=1)\/(∃ i:Nat,T=some i/\r.1=0/\r.2.1.1=6/\r.2.1.2.1=(i:Int))):=λN=>by
    rw[if_pos N]at h;exact⟨_,rfl,.inr ⟨i,h.symm,rfl,rfl,rfl⟩⟩
   have x:YZ s.1 a i j=false -> ∃ st':Unit,(some (LR.nx ((0:Int),((0:Int),SE .i64 (i:Int) 1))):Option (LR _ (Nat×((Int×(Int×Int))×Unit))))=some (.nx ((0:Int),((0:Int),((i+1:Nat):Int))))/\WR s.1 a (i+1) js=T:=λhg=>by
    rw[if_neg (by simp[hg])]at h;exact⟨(),by rw[Tn E (by omega)],h⟩
   by_cases C:(i:Int)>=(a.length:Int)
   ·rw[if_pos C];exact .inr (c (by unfold YZ;rw[a9 (by omega)]))
   rw[if_neg C,Tb,Sx,if_pos (by omega)];have w:a[i]?=some (a[i]'(by omega)):=by simp
   rw[S6 w,TJ];obtain⟨n,O,J,K,y⟩:=XX (ls:=s.1.2) (i:=0) (k:=i) (d:=a[i]'(by omega)) (by rw[<- g];exact w);rw[eo]at O
   have t:YZ s.1 a i j=(if j.1≠(a[i]'(by omega))then true else if j.2.2.1.2.2=true/\j.1≠(s.1.2.length:Int)-1 then true else if j.2.2.2.2<0\/j.2.2.2.2>((K.2.length+J.2.length:Nat):Int)then true else decide (Vq K.2 J.2 j.2.2.1.2.2 j.2.2.2.2.toNat≠j.2)):=by
    unfold YZ;rw[w];simp only;rw[O,ed,y]
   by_cases p:j.1=(a[i]'(by omega));rotate_left
   ·rw[if_neg p];exact .inr (c (by rw[t,if_pos p]))
   rw[if_pos p];rw[if_neg (by simp[p])]at t;have F:j.1=(n:Int):=by rw[p,O]
   have hv:=(v.lev n _ y).2;have v0:=(hv J (by simp)).vl;have v1:=(hv K (by simp)).vl;have G:SI .i64 (s.1.2.length:Int) 1=(s.1.2.length:Int)-1:=Sd (by omega);unfold VD;simp only[Te,Tc];rw[Sp,G,U4,Ug,Uo,F,o0 y v0 v1,TM];rw[F]at t;by_cases o:j.2.2.1.2.2=true/\(n:Int)≠(s.1.2.length:Int)-1
   ·rw[if_pos o.1,if_pos o.2];exact .inr (c (by rw[t,if_pos o]))
   rw[if_neg o]at t
   have D:∀ {γ:Type} (A B:γ),(if j.2.2.1.2.2=true then if ¬(n:Int)=(s.1.2.length:Int)-1 then A else B else B)=B:=by
    intro γ A B;by_cases q:j.2.2.1.2.2=true
    ·rw[if_pos q,if_neg (λu=>o ⟨q,u⟩)]
    ·rw[if_neg q]
   rw[D];by_cases q:j.2.2.2.2<0\/j.2.2.2.2>((K.2.length+J.2.length:Nat):Int)
   ·rw[if_pos q];exact .inr (c (by rw[t,if_pos q]))
   rw[if_neg q];rw[if_neg q]at t;by_cases u:Vq K.2 J.2 j.2.2.1.2.2 j.2.2.2.2.toNat=j.2
   ·rw[if_pos u];exact .inl (x (by rw[t];simp[u]))
   ·rw[if_neg u]
    exact .inr (c (by rw[t];simp[u])))
 rw[z];refine Tv q1 ?_;rw[Sq];rcases I with⟨I,q3⟩|⟨i,I,q3,q4,q5⟩
 ·rw[if_neg (show ¬ r.1=0 by omega),I,TI];simp only;by_cases h7:s.2.1.length<a.length
  ·rw[if_pos (by omega),if_pos h7]
  ·rw[if_neg (by omega),if_neg h7]
 ·rw[if_pos q3,I,q4,q5]
end
section
open Go Sv
theorem Wy(x:Ta):Tx x=some (kE x):=by
 unfold Tx kE;rw[TG,Te,YD];by_cases e:x.1.length>32
 ·rw[if_pos (by omega),if_pos (.inl e)]
 rw[if_neg (by omega),TG,Te,YD];by_cases f:x.2.1.length>64
 ·rw[if_pos (by omega),if_pos (.inr f)]
 rw[if_neg (by omega:¬ (x.2.1.length:Int)>64),if_neg (by omega),TM];by_cases b:x.2.2.1=true
 ·rw[if_pos b,UW,Vt];by_cases c:x.2.1=[]
  ·rw[if_pos c,if_neg (by simp[c]),TI,TG];by_cases a:x.2.2.2<1
   ·simp[a]
   ·by_cases d:x.2.2.2>1000000000<;>simp[a,d]
  ·rw[if_neg c,if_pos ⟨b,c⟩]
 ·rw[if_neg b,if_neg (by simp[b]),TI,TG];by_cases a:x.2.2.2<1
  ·simp[a]
  ·by_cases d:x.2.2.2>1000000000<;>simp[a,d]
def VC:List UInt8->List UInt8->Nat
 |x::a,y::b=>if x=y then VC a b+1 else 0
 |_,_=>0
theorem mN(x y:UInt8):OY (TW x) (TW y)=decide (x=y):=by
 rw[U4];unfold TW;by_cases h:x=y
 ·simp[h]
 ·have:¬ ((x.toNat:Int)=(y.toNat:Int)):=λe=>h (UInt8.toNat_inj.1 (by omega));simp[h,this]
theorem eK(a b:List UInt8)(z:a.length<=9223372036854775806):Wh (a,b)=some (VC a b:Int):=by
 unfold Wh;simp only[Te,YD]
 have key:∀ (m:List UInt8) (k n:Nat),a.drop k=m->k<=a.length->k<=b.length->m.length<n->LF n (λs0=>br (S1 s0 (a.length:Int)) (λ_=>br (S1 s0 (b.length:Int)) (λ_=>R0 s0 λt=>ix a t λw=>R0 s0 λu=>ix b u λy=>br (OY (TW w) (TW y)) (λ_=>some (LR.nx (SE .i64 s0 1))) λ_=>some (.dn ((0,(s0,()))))) λ_=>some (.dn ((0,(s0,()))))) λ_=>some (.dn ((0,(s0,()))))) (k:Int)=some ((0:Nat),(((k+VC m (b.drop k):Nat):Int),())):=by
  intro m
  induction m with
  |nil=>
   intro k n f r h p;obtain⟨n,rfl⟩:∃ j,n=j+1:=⟨n-1,by omega⟩
   have i:k=a.length:=by
    have:=congrArg gs f;simp at this;omega
   subst i;refine UJ ?_;rw[re];simp[R6,VC]
  |cons x m s=>
   intro k n f r h p;obtain⟨n,rfl⟩:∃ j,n=j+1:=⟨n-1,by omega⟩
   have o:a[k]?=some x:=by
    have:=congrArg rz f;rw[l5]at this;simpa using this
   have c:k<a.length:=(a8.1 o).1
   have l:a.drop (k+1)=m:=by
    have:=congrArg pg f;rw[lc]at this;simpa using this
   by_cases d:k<b.length
   ·have q:b[k]?=some b[k]:=by simp[d]
    rw[iz d];unfold VC;by_cases e:x=b[k]
    ·rw[if_pos e];refine(UI (s':=((k+1:Nat):Int)) ?_).trans ?_
     ·rw[rl c,SX,rl d,SX,Tb,S6 o,Tb,S6 q,mN,Uo,if_pos e,Tf (by omega)]
     ·rw[s (k+1) n l (by omega) (by omega) (by simp at p;omega),show k+1+VC m (b.drop (k+1))=k+(VC m (b.drop (k+1))+1) by omega]
    ·rw[if_neg e];refine UJ ?_;rw[rl c,SX,rl d,SX,Tb,S6 o,Tb,S6 q,mN,Uo,if_neg e];simp
   ·have g:k=b.length:=by omega
    refine UJ ?_;rw[rl c,SX,g,re,R6,xa];simp[VC]
 refine Tv (Ut (n:=a.length+1) (by omega) (key a 0 (a.length+1) (by simp) (by omega) (by omega) (by omega))) ?_;simp
def Yi(a b:XZ):Int:=if SQ a b=true then -1 else if a=b then 0 else 1
theorem ae:∀ (a b:XZ),(VC a b<=a.length/\VC a b<=b.length)/\(VC a b=a.length->VC a b=b.length->Yi a b=0)/\(VC a b=a.length->VC a b≠b.length->Yi a b = -1)/\(VC a b≠a.length->VC a b=b.length->Yi a b=1)/\(∀ x y,a[VC a b]?=some x->b[VC a b]?=some y->Yi a b=if x.toNat<y.toNat then -1 else 1)
 |[],[]=>by simp[VC,Yi,Y6]
 |[],y::b=>by simp[VC,Yi,aW]
 |x::a,[]=>by simp[VC,Yi,Y6]
 |x::a,y::b=>by
  obtain⟨⟨o,g⟩,i,j,k,l⟩:=ae a b;by_cases e:x=y
  ·subst e
   have n:Yi (x::a) (x::b)=Yi a b:=by
    unfold Yi;rw[Xz];simp
   have hc:VC (x::a) (x::b)=VC a b+1:=by simp[VC]
   rw[n,hc];refine⟨⟨by simp;omega,by simp;omega⟩,λu v=>i (by simp at u;omega) (by simp at v;omega),λu v=>j (by simp at u;omega) (by simp at v;omega),λu v=>k (by simp at u;omega) (by simp at v;omega),λp q d f=>l p q (by simpa using d) (by simpa using f)⟩
  ·have hc:VC (x::a) (y::b)=0:=by simp[VC,e]
   rw[hc];refine⟨⟨by omega,by omega⟩,λu=>by simp at u,λu=>by simp at u,λ_ u=>by simp at u,λp q d f=> ?_⟩;simp at d f;subst d f;unfold Yi;rw[Xz];have m:¬ (x::a=y::b):=λh=>e (by injection h);by_cases c:x.toNat<y.toNat
   ·have:x<y:=s9.2 c;simp[this,c]
   ·have:¬ x<y:=λh=>c (s9.1 h);simp[this,c,e]
theorem gU(a b:XZ)(p:a.length<=1000000000)(q:b.length<=1000000000):WF (a,b)=some (Yi a b):=by
 obtain⟨⟨o,i⟩,j,k,l,m⟩:=ae a b;unfold WF;simp only[Te,YD];rw[eK a b (by omega),Sp,TE]
 have n:(if(VC a b:Int)<(b.length:Int)then(R0 (VC a b:Int) λc=>ix a c λe=>R0 (VC a b:Int) λd=>ix b d λf=>br (S1 (TW e) (TW f)) (λ_=>some (-1:Int)) λ_=>some 1)else some 1)=(if VC a b=a.length then(if(VC a b:Int)<(b.length:Int)then(R0 (VC a b:Int) λc=>ix a c λe=>R0 (VC a b:Int) λd=>ix b d λf=>br (S1 (TW e) (TW f)) (λ_=>some (-1:Int)) λ_=>some 1)else some 1)else some (Yi a b)):=by
  by_cases u:VC a b=a.length
  ·rw[if_pos u]
  ·rw[if_neg u];by_cases v:VC a b=b.length
   ·rw[if_neg (by omega),l u v]
   ·rw[if_pos (by omega),Tb];have g:a[VC a b]?=some (a[VC a b]'(by omega)):=by simp
    have h:b[VC a b]?=some (b[VC a b]'(by omega)):=by simp
    rw[S6 g,Tb,S6 h,TI,m _ _ g h];unfold TW;by_cases w:(a[VC a b]'(by omega)).toNat<(b[VC a b]'(by omega)).toNat
    ·rw[if_pos (by omega),if_pos w]
    ·rw[if_neg (by omega),if_neg w]
 by_cases u:VC a b=a.length
 ·rw[if_pos (by omega),TE];by_cases v:VC a b=b.length
  ·rw[if_pos (by omega),j u v]
  ·rw[if_neg (by omega),TE,if_pos (by omega),k u v]
 ·rw[if_neg (by omega),TE,if_neg (by omega),TI,n,if_neg u]
theorem dm(a b:XZ):Yi a b>=0<->SQ a b=false:=by
 unfold Yi;cases h:SQ a b with
 |true=>simp
 |false=>simp;split<;>omega
theorem W1(l:List Ta)(E:l.length<=9223372036854775807):U8 l=some (Uk l):=by
 unfold U8 Uk;simp only[Te,Tc];rw[TG];by_cases h:l.length>5000
 ·rw[if_pos (by omega),if_pos h]
 rw[if_neg (by omega),if_neg h];obtain⟨T,o⟩:∃ T,T=YK none 0 l:=⟨_,rfl⟩;rw[<- o]
 obtain⟨r,w,j⟩:=Va (l:=l) (σ:=Unit) (s:=((0:Int),((0:Int),(0:Int)))) (λk _=>((0:Int),((0:Int),(k:Int)))) (λm k _=>YK (if k=0 then none else(l[k-1]?).map (·.1)) k m=T/\(∀ y,k≠0->l[k-1]?=some y->kE y=0)) (λ(r:Nat×((Int×(Int×Int))×Unit))=>(r.1=1/\T=(0,0))\/(r.1=0/\T=(r.2.1.2.1,r.2.1.1)))
  (f:=λs0=>br (S1 s0.2.2 (l.length:Int)) (λ_=>R0 s0.2.2 λq=>ix l q λA=>bd (Tx A) λd=>br (OY d 0) (λ_=>br (Sz s0.2.2 0) (λ_=>R0 (SI .i64 s0.2.2 1) λt=>ix l t λB=>R0 s0.2.2 λu=>ix l u λC=>bd (WF (B.1,C.1)) λz=>br (Rw z 0) (λ_=>some (.dn ((0,((6,(s0.2.2,s0.2.2)),()))))) λ_=>br (Rx d 0) (λ_=>some (.dn ((0,((d,(s0.2.2,s0.2.2)),()))))) λ_=>some (.nx ((s0.1,(s0.2.1,SE .i64 s0.2.2 1))))) λ_=>br (Rx d 0) (λ_=>some (.dn ((0,((d,(s0.2.2,s0.2.2)),()))))) λ_=>some (.nx ((s0.1,(s0.2.1,SE .i64 s0.2.2 1))))) λ_=>br (Rx d 0) (λ_=>some (.dn ((0,((d,(s0.2.2,s0.2.2)),()))))) λ_=>some (.nx ((s0.1,(s0.2.1,SE .i64 s0.2.2 1))))) λ_=>some (.dn ((1,(s0,())))))
  () rfl (by omega) ⟨o.symm,λ_ h=>absurd rfl h⟩ (λ_ h=>by
   refine⟨_,by simp only;rw[re];rfl,.inl ⟨rfl,?_⟩⟩;rw[<- h.1];simp[YK]) (λk x m _ D g p h=>by
   simp only;obtain⟨h,c⟩:=h;rw[rl p,SX,Tb,S6 g,Wy,Sp,TE];unfold YK at h
   have next:kE x=0->(T=YK (some x.1) (k+1) m)->YK (if k+1=0 then none else(l[k+1-1]?).map (·.1)) (k+1) m=T/\(∀ y,k+1≠0->l[k+1-1]?=some y->kE y=0):=λa e=>by
    rw[if_neg (by omega),Nat.add_sub_cancel,g,e];exact⟨rfl,λy _ i=>by cases i;exact a⟩
   by_cases a:kE x=0
   ·rw[if_pos a,TG];rw[if_neg (by simp[a])]at h;by_cases b:k=0
    ·rw[if_neg (by omega),TJ,if_pos a];rw[if_pos b]at h;exact .inl ⟨(),by rw[Tn g (by omega)],next a h.symm⟩
    ·have i:l[k-1]?=some (l[k-1]'(by omega)):=by rw[bl]
     rw[if_pos (by omega),show SI .i64 (k:Int) 1=((k-1:Nat):Int) by rw[Sd (by omega)];omega,Tb,S6 i,Tb,S6 g];rw[if_neg b,i]at h;simp only[vL]at h;rw[gU _ _ (by have:=Zj (c _ b i);omega) (by have:=Zj a;omega),Sp,TF];by_cases hs:SQ (l[k-1]'(by omega)).1 x.1=true
     ·rw[if_neg (λe=>by rw[dm,hs]at e;cases e),TJ,if_pos a];rw[if_pos hs]at h;exact .inl ⟨(),by rw[Tn g (by omega)],next a h.symm⟩
     ·rw[if_pos ((dm _ _).2 (by simpa using hs))];rw[if_neg hs]at h;exact .inr ⟨_,rfl,.inr ⟨rfl,h.symm⟩⟩
   ·rw[if_neg a,TJ,if_neg a];rw[if_pos a]at h
    exact .inr ⟨_,rfl,.inr ⟨rfl,h.symm⟩⟩)
 refine Tv w ?_;rw[Sq];rcases j with⟨j,n⟩|⟨j,n⟩
 ·rw[if_neg (show ¬ r.1=0 by omega),n]
 ·rw[if_pos j,n]
theorem mO(p q:Tu)(d:Vp p)(e:Vp q):Wk ([p,q],(0,1))=some (w0 p q):=by
 unfold Wk w0;refine(V1 0 rfl (x:=p) rfl).trans ((V1 1 rfl (x:=q) rfl).trans ?_);rw[beq_eq,Ug,Uo,UW,TM];by_cases a:p.2=q.2
 ·rw[if_neg (show ¬ ¬ p.2=q.2 by simp[a]),if_neg (show ¬ p.2≠q.2 by simp[a])];by_cases b:p.2=true
  ·rw[if_pos b,d b,e (a ▸ b)];rfl
  ·rw[if_neg b,UW,Vt];by_cases c:p.1=q.1
   ·rw[if_pos c,if_neg (by simp[c])];rfl
   ·rw[if_neg c,if_pos c]
 ·rw[if_pos a,if_pos a]
theorem ZN(p q:Tu)(n:Nat)(k:Int)(h:2<=k)(a:k<=100):ND To (n+1) ([p,q],k)=some (k-2,0):=by
 show To (ND To n) ([p,q],k)=_;unfold To;show br (Rw k 2) (λ_=>some (SI .i64 k 2,0)) _=_;rw[TF,if_pos h,Sd (by omega)]
theorem Zm(p q:Tu)(a:Vp p)(b:Vp q):Wj ([p,q],1)=some (if w0 p q=true then(0,1)else(1,0)):=by
 show To (ND To 99) ([p,q],1)=_;unfold To;show br (Rw (1:Int) 2) (λ_=>some (SI .i64 (1:Int) 2,0)) (λ_=>bd (ND To (98+1) ([p,q],2)) λc=>bd (ND To (98+1) ([p,q],3)) _)=_;rw[TF,if_neg (by omega),ZN p q 98 2 (by omega) (by omega),Sp,ZN p q 98 3 (by omega) (by omega),Sp];show bd (Wk ([p,q],(0,1))) _=_;rw[mO p q a b,Sp,TM];cases h:w0 p q<;>rfl
theorem mL(p q:Tu)(a:Vp p)(c:Vp q):XR [p,q]=some (Tt p q):=by
 unfold XR;refine Eq.trans (b:=bd (loop _ (1,([p,q],([0,0],0)))) _) rfl ?_;refine Tv (x:=(0,((2,([p,q],([0,if w0 p q=true then 1 else 0],0))),()))) (Ut (n:=2) (by omega) ((UI (s':=(2,([p,q],([0,if w0 p q=true then 1 else 0],0)))) ?_).trans (UJ rfl))) ?_
 ·show bd (Wj ([p,q],1)) _=_;rw[Zm p q a c,Sp];refine(YS 1 rfl (x:=(0:Int)) rfl).trans ?_;cases h:w0 p q<;>rfl
 ·rw[Zm p q a c,Sp];unfold Tt;cases h:w0 p q<;>rfl
theorem ew{l:List Tu}(h:∀ k∈l,Vp k)(c:l≠[])(f:l.length<=32):W3 l=some 0:=by
 unfold W3;simp only[Te,Tc];rw[TE,TG,if_neg (by have:=eg.2 c;omega),if_neg (by omega)]
 rw[U1 (l:=l) (σ:=Unit) (s:=((0:Int),(0:Int))) (λk _=>((k:Int),(0:Int))) (λ_ _ _=>True) (λ_ _ _=>(1,(((l.length:Int),0),()))) () rfl (by omega) trivial (λe _=>by
  simp only;rw[re];rfl) (λk x m e _ a d _=>⟨(),by
   simp only;rw[rl d,SX,Tb,S6 a,TM,Tn a (by omega)];by_cases b:x.2=true
   ·rw[if_pos b,Tb,S6 a,UW,Vt,if_pos (h x (co a) b)]
   ·rw[if_neg b],trivial,rfl⟩),Sp]
 rfl
theorem eJ(p q:Tu)(a:Vp p)(b:Vp q):WH [p,q]=some (Tt p q,0):=by
 unfold WH;rw[ew (by simp[a,b]) (by simp) (by simp),Sp,TJ,if_pos rfl,mL p q a b,Sp]
end
section
open Go Sv
theorem XD:Ue=UX:=rfl
theorem Zn:XQ=Tj:=rfl
theorem bw(l m:List Tu)(i:l.length<=9223372036854775806)(j:l.length=m.length):∃ r,loop (λs1=>br (S1 s1.1 (l.length:Int)) (λ_=>R0 s1.1 λn=>ix l n λf=>R0 s1.1 λo=>ix m o λg=>br (Hg (Nk (seq f.1 g.1) (Nk (Sv.beq f.2 g.2) true))) (λ_=>some (LR.dn ((0:Nat),((s1.1,false),())))) λ_=>some (.nx (SE .i64 s1.1 1,s1.2))) λ_=>some (.dn ((1,(s1,()))))) ((0:Int),false)=some r/\((l=m/\r.1=1)\/(l≠m/\r.1=0/\r.2.1.2=false)):=by
 refine Xu l m j i (λk x y a d=> ?_) (by simp only;rw[re];rfl);have c:=(a8.1 a).1
 have b:∀ {β:Type} (u v:Unit->Option β),br (Hg (Nk (seq x.1 y.1) (Nk (Sv.beq x.2 y.2) true))) u v=if x=y then v ()else u ():=by
  intro β u v;rw[Yo,Yk,beq_eq,X4,Ug,Uo];by_cases e:x=y
  ·subst e;simp
  ·rw[if_pos (λh=>e (r7 h.1 h.2)),if_neg e]
 constructor
 ·intro e;simp only;rw[rl c,SX,Tb,S6 a,Tb,S6 d,b,if_pos e,Tf (by omega)]
 ·intro e;simp only;rw[rl c,SX,Tb,S6 a,Tb,S6 d,b,if_neg e]
theorem Zp(s t:VU)(g:s.1.length<=1000)(h:s.2.1.length<=1000):Wi (s,t)=some (decide (s=t)):=by
 obtain⟨b,d,k⟩:=s;obtain⟨c,f,l⟩:=t;simp only at g h;unfold Wi;simp only[Te,Tc];rw[TJ];by_cases e1:(b.length:Int)=(c.length:Int);rotate_left
 ·rw[if_neg e1];have:¬ b=c:=λe=>e1 (by rw[e]);simp[this]
 rw[if_pos e1,TJ];by_cases e2:k=l;rotate_left
 ·rw[if_neg e2];simp[e2]
 rw[if_pos e2,Zn,YV _ _ (by omega),Sp,Ug,Uo];by_cases e3:d=f;rotate_left
 ·rw[if_pos e3];simp[e3]
 rw[if_neg (show ¬ ¬ d=f by simp[e3])];obtain⟨r,i,a⟩:=bw b c (by omega) (by omega);refine Tv i ?_;rw[Sq];rcases a with⟨e,a⟩|⟨e,a,j⟩
 ·rw[if_neg (show ¬ r.1=0 by omega)];simp[e,e2,e3]
 ·rw[if_pos a,j];simp[e]
theorem bF(s t:U2)(u:s.1.length<=1000)(g:∀ l∈s.1,l.length<=1000000)(w:s.2.1.length<=1000)(h:s.2.2.1.length<=1000)(i:s.2.2.2.1.length<=1000):XT (s,t)=some (decide (s=t)):=by
 obtain⟨a,n,o⟩:=s;obtain⟨d,p,q⟩:=t;simp only at u g w h i;unfold XT;simp only[Te,Tc];rw[TJ];by_cases e1:(a.length:Int)=(d.length:Int);rotate_left
 ·rw[if_neg e1];have:¬ a=d:=λe=>e1 (by rw[e]);simp[this]
 rw[if_pos e1,Zn,YV _ _ (by omega),Sp,Ug,Uo];by_cases e2:n=p;rotate_left
 ·rw[if_pos e2];simp[e2]
 rw[if_neg (show ¬ ¬ n=p by simp[e2]),Zp _ _ h i,Sp,Ug,Uo];by_cases e3:o=q;rotate_left
 ·rw[if_pos e3];simp[e3]
 rw[if_neg (show ¬ ¬ o=q by simp[e3])]
 obtain⟨r,C,c⟩:=Xu a d (by omega) (by omega) (f:=λs2=>br (S1 s2.1 (a.length:Int)) (λ_=>R0 s2.1 λA=>ix a A λF=>R0 s2.1 λB=>ix d B λG=>bd (Ue (F,G)) λE=>br (Hg E) (λ_=>some (.dn ((0,((s2.1,false),()))))) λ_=>some (.nx (SE .i64 s2.1 1,s2.2))) λ_=>some (.dn ((1,(s2,()))))) (λk x y b m=>by
   have j:=(a8.1 b).1;have z:=g x (co b);constructor
   ·intro e;simp only;rw[rl j,SX,Tb,S6 b,Tb,S6 m,XD,Wc _ _ (by omega),Sp,Ug,Uo,if_neg (by simp[e]),Tf (by omega)]
   ·intro e;simp only
    rw[rl j,SX,Tb,S6 b,Tb,S6 m,XD,Wc _ _ (by omega),Sp,Ug,Uo,if_pos e]) (by simp only;rw[re];rfl)
 refine Tv C ?_;rw[Sq];rcases c with⟨e,c⟩|⟨e,c,D⟩
 ·rw[if_neg (show ¬ r.1=0 by omega)];simp[e,e2,e3]
 ·rw[if_pos c,D];simp[e]
theorem Zo(x y:X2)(a:x.1.1.length<=1000)(b:∀ l∈x.1.1,l.length<=1000000)(c:x.1.2.1.length<=1000)(d:x.1.2.2.1.length<=1000)(e:x.1.2.2.2.1.length<=1000)(f:x.2.2.1.length<=1000000):UL (x,y)=some (decide (x=y)):=by
 obtain⟨i,⟨xs,k,h⟩,g,j⟩:=x;obtain⟨n,⟨q,r,m⟩,p,o⟩:=y;simp only at a b c d e f;unfold UL;simp only[bF _ _ a b c d e,XD,Wc _ _ (show g.length<=9223372036854775806 by omega),Sp,Uo,U4,Yk,beq_eq,Yo,X4]
 repeat' split
 all_goals simp_all
section
variable{a b:List Ta}(va:VL a)(vb:VL b)
include va vb
theorem Yj:Vm [a,b]=some (0,0):=by
 have c:=va.len;have d:=vb.len;unfold Vm;refine Eq.trans (b:=bd (loop _ (0,(0,0))) _) rfl ?_;refine Tv (x:=(1,((0,(0,2)),()))) (Ul (s1:=(0,(0,1))) (s2:=(0,(0,2))) ?_ ?_ rfl) rfl
 ·refine(ZR 0 rfl rfl (x:=a) rfl).trans ?_;rw[W1 _ (by omega),YM va,Sp];rfl
 ·refine(ZR 1 rfl rfl (x:=b) rfl).trans ?_;rw[W1 _ (by omega),YM vb,Sp];rfl
theorem X9{i j:Nat}(hi:i<=a.length)(g:j<=b.length):Vl ([a,b],[(i:Int),(j:Int)])=some (if i=a.length/\j=b.length then -1 else if Xi a b i j=true then 0 else 1):=by
 have k:=va.len;have l:=vb.len;unfold Vl;simp only[Te,Tc];refine Tv (x:=(0,((if i=a.length/\j=b.length then -1 else if Xi a b i j=true then 0 else 1,2),()))) (Ul (s1:=(if i=a.length then -1 else 0,1)) (s2:=(if i=a.length/\j=b.length then -1 else if Xi a b i j=true then 0 else 1,2)) ?_ ?_ rfl) rfl
 ·refine(ZR 0 rfl rfl (x:=(i:Int)) rfl).trans ((V1 0 rfl (x:=a) rfl).trans ?_);rw[TI];by_cases h:i=a.length
  ·rw[if_neg (by omega),if_pos h];rfl
  ·rw[if_pos (by omega),if_neg h];rfl
 ·refine(ZR 1 rfl rfl (x:=(j:Int)) rfl).trans ((V1 1 rfl (x:=b) rfl).trans ?_);rw[TI];by_cases h:j=b.length
  ·rw[if_neg (by omega)];by_cases c:i=a.length
   ·rw[if_pos c,if_pos ⟨c,h⟩];rfl
   ·rw[if_neg c,if_neg (λe=>c e.1)];have d:a[i]?=some (a[i]'(by omega)):=by simp
    rw[de d (a9 (by omega))];rfl
  ·have f:b[j]?=some (b[j]'(by omega)):=by simp
   rw[if_pos (by omega),TI,if_neg (λe:i=a.length/\j=b.length=>h e.2)];by_cases c:i=a.length
   ·rw[if_pos c,if_pos (by omega),dg (a9 (by omega)) f];rfl
   ·rw[if_neg c,if_neg (by omega)];have d:a[i]?=some (a[i]'(by omega)):=by simp
    refine(V1 1 rfl (x:=b) rfl).trans ((V1 1 rfl (x:=(j:Int)) rfl).trans ((V1 j rfl f).trans ((V1 0 rfl (x:=a) rfl).trans ((V1 0 rfl (x:=(i:Int)) rfl).trans ((V1 i rfl d).trans ?_)))));rw[Wb,Zf d f];cases hs:SQ (b[j]'(by omega)).1 (a[i]'(by omega)).1<;>rfl
theorem YA{i j:Nat}(hi:i<=a.length)(e:j<=b.length):VF ([a,b],[(i:Int),(j:Int)])=some (Ym a b i j):=by
 have f:=va.len;have g:=vb.len;unfold VF;simp only[Te,Tc];rw[UC (show[a,b].length<=1048576 from(show 2<=1048576 by omega)),UC (show[(i:Int),(j:Int)].length<=1048576 from(show 2<=1048576 by omega))];refine Tv (x:=(0,((2,[kx a i,kx b j]),()))) (Ul (s1:=(1,[kx a i])) (s2:=(2,[kx a i,kx b j])) ?_ ?_ rfl) ?_
 ·refine(ZR 0 rfl rfl (x:=(i:Int)) rfl).trans ((V1 0 rfl (x:=a) rfl).trans ?_);rw[U4,Ug,Uo];by_cases h:i=a.length
  ·have c:((i:Int)=(a.length:Int)):=by omega
   rw[if_neg (show ¬ ¬ ((i:Int)=(a.length:Int)) by simp[c]),Yv (a9 (by omega))];simp only[c,decide_true];rfl
  ·have d:a[i]?=some (a[i]'(by omega)):=by simp
   have c:¬ ((i:Int)=(a.length:Int)):=by omega
   rw[if_pos c];refine(V1 0 rfl (x:=a) rfl).trans ((V1 0 rfl (x:=(i:Int)) rfl).trans ((V1 i rfl d).trans ?_));rw[Wv d];simp only[c,decide_false];rfl
 ·refine(ZR 1 rfl rfl (x:=(j:Int)) rfl).trans ((V1 1 rfl (x:=b) rfl).trans ?_);rw[U4,Ug,Uo];by_cases h:j=b.length
  ·have c:((j:Int)=(b.length:Int)):=by omega
   rw[if_neg (show ¬ ¬ ((j:Int)=(b.length:Int)) by simp[c]),Yv (l:=b) (i:=j) (a9 (by omega))];simp only[c,decide_true];rfl
  ·have d:b[j]?=some (b[j]'(by omega)):=by simp
   have c:¬ ((j:Int)=(b.length:Int)):=by omega
   rw[if_pos c];refine(V1 1 rfl (x:=b) rfl).trans ((V1 1 rfl (x:=(j:Int)) rfl).trans ((V1 j rfl d).trans ?_));rw[Wv (l:=b) (i:=j) d];simp only[c,decide_false];rfl
 ·show bd (WH [kx a i,kx b j]) _=_;rw[eJ _ _ (US _ _) (US _ _)];rfl
theorem dx{i:Nat}{l:List Ta}(h:i≠0)(hi:i<=l.length):∃ x,l[i-1]?=some x:=⟨l[i-1]'(by omega),by simp⟩
theorem ZI{i j:Nat}(I:Inv a b i j):Vk (Ym a b i j)=some (0,0):=by
 have t:=va.len;have u:=vb.len;have hi:=I.ia;have k:=I.jb;unfold Vk;rw[show(Ym a b i j).1=[a,b]from rfl,Yj va vb,Sp,TJ,if_pos rfl];rw[show(Ym a b i j).2.1=[(i:Int),(j:Int)]from rfl,TJ,if_pos (show Kh (AS [(i:Int),(j:Int)])=Kh (AS [a,b])from rfl)];refine Tv (x:=(1,((0,(0,2)),()))) (Ul (s1:=(0,(0,1))) (s2:=(0,(0,2))) ?_ ?_ rfl) ?_
 ·refine(ZR 0 rfl rfl (x:=(i:Int)) rfl).trans ?_;rw[TI,if_neg (by omega)];refine(V1 0 rfl (x:=(i:Int)) rfl).trans ((V1 0 rfl (x:=a) rfl).trans ?_);rw[TG,if_neg (by simp only[Te,Tc];omega)];rfl
 ·refine(ZR 1 rfl rfl (x:=(j:Int)) rfl).trans ?_;rw[TI,if_neg (by omega)];refine(V1 1 rfl (x:=(j:Int)) rfl).trans ((V1 1 rfl (x:=b) rfl).trans ?_);rw[TG,if_neg (by simp only[Te,Tc];omega)];rfl
 rw[show neq ((1:Nat),(((0:Int),((0:Int),(2:Int))),())).1 0=false from rfl,R6,YA va vb hi k,Sp,Zp (Ym a b i j).2.2 (Ym a b i j).2.2 (show 2<=1000 by omega) (show 2<=1000 by omega),Sp,Ug,Uo,if_neg (show ¬ ¬ (Ym a b i j).2.2=(Ym a b i j).2.2 by simp),X9 va vb hi k,Sp];by_cases r:i=a.length/\j=b.length
 ·rw[if_pos r];refine Tv (x:=(1,((0,(0,0)),()))) (Ut (n:=1) (by omega) (UJ ?_)) rfl;rfl
 rw[if_neg r];cases g:Xi a b i j with
 |true=>
  rw[if_pos rfl]
  have p:i<a.length:=by
   refine hM λh'=> ?_;have o:j<b.length:=by omega
   rw[dg (a9 h') (show b[j]?=some (b[j]'o) by simp)]at g;cases g
  have e:a[i]?=some (a[i]'p):=by simp
  refine Tv (x:=(1,((0,(0,2)),()))) (Ul (s1:=(0,(0,1))) (s2:=(0,(0,2))) ?_ ?_ rfl) rfl
  ·show br (S1 (0:Int) 2) _ _=_;rw[TI,if_pos (by omega),TF,if_pos (by omega)];refine(V1 0 rfl (x:=(i:Int)) rfl).trans ?_;rw[TE];by_cases f:i=0
   ·rw[if_pos (by omega)];rfl
   ·rw[if_neg (by omega)];obtain⟨y,d⟩:=dx va vb (l:=a) f hi;refine(V1 0 rfl (x:=a) rfl).trans ((V1 0 rfl (x:=(i:Int)) rfl).trans ?_);rw[show SI .i64 (i:Int) 1=((i-1:Nat):Int) by rw[Sd (by omega)];omega,Tb,S6 d];refine(V1 0 rfl (x:=a) rfl).trans ((V1 0 rfl (x:=(i:Int)) rfl).trans ((V1 i rfl e).trans ?_));have c:=va.lt d (show a[i-1+1]?=some _ by rw[show i-1+1=i by omega];exact e);rw[Wb,if_neg (by rw[Uy c];simp),Vt,if_neg (cF c)];rfl
  ·show br (S1 (1:Int) 2) _ _=_;rw[TI,if_pos (by omega),TF,if_pos (by omega)];refine(V1 1 rfl (x:=(j:Int)) rfl).trans ?_;rw[TE];by_cases f:j=0
   ·rw[if_pos (by omega)];rfl
   ·rw[if_neg (by omega)];obtain⟨y,d⟩:=dx va vb (l:=b) f k;refine(V1 1 rfl (x:=b) rfl).trans ((V1 1 rfl (x:=(j:Int)) rfl).trans ?_);rw[show SI .i64 (j:Int) 1=((j-1:Nat):Int) by rw[Sd (by omega)];omega,Tb,S6 d];refine(V1 0 rfl (x:=a) rfl).trans ((V1 0 rfl (x:=(i:Int)) rfl).trans ((V1 i rfl e).trans ?_));have c:=I.pb (j-1) (by omega) y _ d e;rw[Wb,if_neg (by rw[Uy c];simp),Vt,if_neg (cF c)];rfl
 |false=>
  rw[if_neg (by simp)]
  have h:j<b.length:=by
   refine hM λh'=> ?_;have m:i<a.length:=by omega
   rw[de (show a[i]?=some (a[i]'m) by simp) (a9 h')]at g;cases g
  have e:b[j]?=some (b[j]'h):=by simp
  refine Tv (x:=(1,((0,(0,2)),()))) (Ul (s1:=(0,(0,1))) (s2:=(0,(0,2))) ?_ ?_ rfl) rfl
  ·show br (S1 (0:Int) 2) _ _=_;rw[TI,if_pos (by omega),TF,if_pos (by omega)];refine(V1 0 rfl (x:=(i:Int)) rfl).trans ?_;rw[TE];by_cases f:i=0
   ·rw[if_pos (by omega)];rfl
   ·rw[if_neg (by omega)];obtain⟨y,d⟩:=dx va vb (l:=a) f hi;refine(V1 0 rfl (x:=a) rfl).trans ((V1 0 rfl (x:=(i:Int)) rfl).trans ?_);rw[show SI .i64 (i:Int) 1=((i-1:Nat):Int) by rw[Sd (by omega)];omega,Tb,S6 d];refine(V1 1 rfl (x:=b) rfl).trans ((V1 1 rfl (x:=(j:Int)) rfl).trans ((V1 j rfl e).trans ?_));have q:=I.pa (i-1) (by omega) y _ d e;rw[Wb,if_neg (by rw[q];simp),Vt];by_cases s:y.1=(b[j]'h).1
    ·rw[if_pos s];rfl
    ·rw[if_neg s];rfl
  ·show br (S1 (1:Int) 2) _ _=_;rw[TI,if_pos (by omega),TF,if_pos (by omega)];refine(V1 1 rfl (x:=(j:Int)) rfl).trans ?_;rw[TE];by_cases f:j=0
   ·rw[if_pos (by omega)];rfl
   ·rw[if_neg (by omega)];obtain⟨y,d⟩:=dx va vb (l:=b) f k;refine(V1 1 rfl (x:=b) rfl).trans ((V1 1 rfl (x:=(j:Int)) rfl).trans ?_);rw[show SI .i64 (j:Int) 1=((j-1:Nat):Int) by rw[Sd (by omega)];omega,Tb,S6 d];refine(V1 1 rfl (x:=b) rfl).trans ((V1 1 rfl (x:=(j:Int)) rfl).trans ((V1 j rfl e).trans ?_));have c:=vb.lt d (show b[j-1+1]?=some _ by rw[show j-1+1=j by omega];exact e);rw[Wb,if_neg (by rw[Uy c];simp),Vt,if_neg (cF c)];rfl
end
end
section
open Go Sv
section
variable{a b:List Ta}(va:VL a)(vb:VL b)
include va vb
theorem iD{n:Nat}{x:Ta}(h:n<a.length+b.length)(d:ZQ a b n=some x):V2 (Ye a b n)=some (x,((Zt a b n:Int),(Ye a b (n+1),0))):=by
 obtain⟨i,hs⟩:=WS va vb (n:=n) (by omega);obtain⟨j,k⟩:=WS va vb (n:=n+1) (by omega);have l:=va.len;have m:=vb.len;have e:=i.ia;have f:=i.jb;unfold V2;rw[show Ye a b n=Ym a b (Tk a b n).1 (Tk a b n).2 from rfl,ZI va vb i,Sp,TJ,if_pos rfl,show(Ym a b (Tk a b n).1 (Tk a b n).2).1=[a,b]from rfl,show(Ym a b (Tk a b n).1 (Tk a b n).2).2.1=[((Tk a b n).1:Int),((Tk a b n).2:Int)]from rfl,X9 va vb e f,Sp,if_neg (λhh:(Tk a b n).1=a.length/\(Tk a b n).2=b.length=>by omega)];unfold ZQ at d;have c:Tk a b (n+1)=if Xi a b (Tk a b n).1 (Tk a b n).2=true then((Tk a b n).1+1,(Tk a b n).2)else((Tk a b n).1,(Tk a b n).2+1):=rfl
 unfold Ye Zt;cases g:Xi a b (Tk a b n).1 (Tk a b n).2 with
 |true=>
  rw[g,if_pos rfl]at c;rw[g,if_pos rfl]at d;have hi:=(a8.1 d).1;rw[if_pos rfl,TI,if_neg (by omega),UC (show AS [((Tk a b n).1:Int),((Tk a b n).2:Int)]<=1048576 from(show 2<=1048576 by omega))];refine(YS 0 rfl (x:=((Tk a b n).1:Int)) rfl).trans ((YS 0 rfl (x:=((Tk a b n).1:Int)) rfl).trans ((V1 0 rfl (x:=a) rfl).trans ((V1 0 rfl (x:=((Tk a b n).1:Int)) rfl).trans ((V1 _ rfl d).trans ?_))));rw[Tf (by omega),show lset [((Tk a b n).1:Int),((Tk a b n).2:Int)] 0 (((Tk a b n).1+1:Nat):Int)=[(((Tk a b n).1+1:Nat):Int),((Tk a b n).2:Int)]from rfl,YA va vb (by omega) f,Sp,c];rfl
 |false=>
  rw[g,if_neg (by simp)]at c;rw[g,if_neg (by simp)]at d;have hi:=(a8.1 d).1;rw[if_neg (by simp),TI,if_neg (by omega),UC (show AS [((Tk a b n).1:Int),((Tk a b n).2:Int)]<=1048576 from(show 2<=1048576 by omega))];refine(YS 1 rfl (x:=((Tk a b n).2:Int)) rfl).trans ((YS 1 rfl (x:=((Tk a b n).2:Int)) rfl).trans ((V1 1 rfl (x:=b) rfl).trans ((V1 1 rfl (x:=((Tk a b n).2:Int)) rfl).trans ((V1 _ rfl d).trans ?_))));rw[Tf (by omega),show lset [((Tk a b n).1:Int),((Tk a b n).2:Int)] 1 (((Tk a b n).2+1:Nat):Int)=[((Tk a b n).1:Int),(((Tk a b n).2+1:Nat):Int)]from rfl,YA va vb e (by omega),Sp,c];rfl
theorem iC{n:Nat}(h:n<=a.length+b.length):XS (Ye a b n)=some (((a.length+b.length-n:Nat):Int),0):=by
 obtain⟨c,hs⟩:=WS va vb (n:=n) h;have f:=va.len;have g:=vb.len;have d:=c.ia;have e:=c.jb;unfold XS;rw[show Ye a b n=Ym a b (Tk a b n).1 (Tk a b n).2 from rfl,ZI va vb c,Sp,TJ,if_pos rfl];refine Tv (x:=(0,((2,((a.length+b.length-n:Nat):Int)),()))) (Ul (s1:=(1,(a.length:Int)-((Tk a b n).1:Int))) (s2:=(2,((a.length+b.length-n:Nat):Int))) ?_ ?_ rfl) rfl
 ·refine(ZR 0 rfl rfl (x:=a) rfl).trans ((V1 0 rfl (x:=((Tk a b n).1:Int)) rfl).trans ?_);simp only[Te,Tc];rw[show SE .i64 (0:Int) (a.length:Int)=(a.length:Int) by rw[Sb (by omega),sa],Sd (by omega)];rfl
 ·refine(ZR 1 rfl rfl (x:=b) rfl).trans ((V1 1 rfl (x:=((Tk a b n).2:Int)) rfl).trans ?_);simp only[Te,Tc];show some (LR.nx ((2:Int),SI .i64 (SE .i64 ((a.length:Int)-((Tk a b n).1:Int)) (b.length:Int)) ((Tk a b n).2:Int)))=_;rw[Sb (by omega),Sd (by omega),show(a.length:Int)-((Tk a b n).1:Int)+(b.length:Int)-((Tk a b n).2:Int)=((a.length+b.length-n:Nat):Int) by omega]
theorem dq:WX [a,b]=some (Ts a b (a.length+b.length),(Xb a b (a.length+b.length),0)):=by
 have l:=va.len;have m:=vb.len;unfold WX;rw[Yj va vb,Sp,TJ,if_pos rfl];refine Eq.trans (b:=bd (loop _ ([],([],([],(0,([],[0,0])))))) _) rfl ?_
 refine Tv (x:=(0,((Xb a b (a.length+b.length),(Ts a b (a.length+b.length),0)),())))
  (Xv (λk=>([],(Ts a b k,([],(0,(Xb a b k,[((Tk a b k).1:Int),((Tk a b k).2:Int)])))))) 0 (a.length+b.length) rfl (by omega) (by omega) (λk _ j=> ?_) ?_) rfl
 ·obtain⟨x,c,_⟩:=Ve va vb (n:=k) j;obtain⟨d,hs⟩:=WS va vb (n:=k) (by omega);have e:(Ts a b k).length=k:=Un va vb (by omega);have f:=ZD a b k;simp only;rw[X9 va vb d.ia d.jb,Sp,if_neg (λhh:(Tk a b k).1=a.length/\(Tk a b k).2=b.length=>by omega)];rw[W0 va vb c];unfold ZQ at c;rw[show Xb a b (k+1)=Xb a b k++[(Zt a b k:Int)]from rfl];unfold Zt;rw[show Tk a b (k+1)=if Xi a b (Tk a b k).1 (Tk a b k).2=true then((Tk a b k).1+1,(Tk a b k).2)else((Tk a b k).1,(Tk a b k).2+1)from rfl]
  have h:∀ {β:Type} (y:Ta) (q:Unit->Option β),gd (CF (BF (AS (Ts a b k)) (AS [y])) 1048576) q=q ():=λy q=>UC (by simp only[BF,AS,e,ci,cP];omega) q;have i:∀ {β:Type} (y:Int) (q:Unit->Option β),gd (CF (BF (AS (Xb a b k)) (AS [y])) 1048576) q=q ():=λy q=>UC (by simp only[BF,AS,f,ci,cP];omega) q;cases g:Xi a b (Tk a b k).1 (Tk a b k).2 with
  |true=>
   rw[g,if_pos rfl]at c;have hi:=(a8.1 c).1;simp only[if_true];rw[TI,if_neg (by omega)];refine(V1 0 rfl (x:=a) rfl).trans ((YS 0 rfl (x:=((Tk a b k).1:Int)) rfl).trans ((V1 _ rfl c).trans ?_));rw[h,i];refine(YS 0 rfl (x:=((Tk a b k).1:Int)) rfl).trans ((YS 0 rfl (x:=((Tk a b k).1:Int)) rfl).trans ?_);rw[Tf (by omega)];rfl
  |false=>
   rw[g,if_neg (by simp)]at c;have hi:=(a8.1 c).1;simp only[ey,if_false];rw[TI,if_neg (by omega)];refine(V1 1 rfl (x:=b) rfl).trans ((YS 1 rfl (x:=((Tk a b k).2:Int)) rfl).trans ((V1 _ rfl c).trans ?_));rw[h,i];refine(YS 1 rfl (x:=((Tk a b k).2:Int)) rfl).trans ((YS 1 rfl (x:=((Tk a b k).2:Int)) rfl).trans ?_);rw[Tf (by omega)];rfl
 ·obtain⟨d,hs⟩:=WS va vb (n:=a.length+b.length) (eb _);simp only;rw[X9 va vb d.ia d.jb,Sp,if_pos (show(Tk a b (a.length+b.length)).1=a.length/\(Tk a b (a.length+b.length)).2=b.length by have:=d.ia;have:=d.jb;omega),TI,if_pos (by omega)]
end
theorem bL{s:UZ}(b:s.2.1.length<=32)(a:s.1=false->s.2.1=[]):W4 s=some 0:=by
 unfold W4;rw[TG,if_neg (by simp only[Te,YD];omega),UW,TM];cases h:s.1 with
 |true=>rfl
 |false=>rw[if_neg (by simp),UW,Vt,if_pos (a h)]
theorem bz{s:UZ}{x:Ta}(e:s.2.1.length<=32)(f:s.1=false->s.2.1=[])(g:kE x=0)(a:s.1=true->SQ x.1 s.2.1=false):XU (s,x)=some (keep s x,((true,(x.1,s.2.2)),0)):=by
 unfold XU keep;rw[bL e f,Sp,TE,if_pos rfl,Wy,g,Sp,TE,if_pos rfl];obtain⟨s1,s2,c⟩:=s;obtain⟨h,i,d,j⟩:=x;simp only at a ⊢;cases s1 with
 |true=>
  have:=a rfl;simp only[SX,Wb,this,ey,if_false,TJ,if_true,UW,Vt];by_cases b:h=s2
  ·simp[b,R6]
  ·simp only[b,if_false,decide_false];cases c<;>cases d<;>rfl
 |false=>
  simp only[R6,TJ,if_true,UW];cases c<;>cases d<;>rfl
theorem bp{l:List Ta}{b:Bool}(t:l.length<=20000)(r:ZW (false,([],b)) l):Wl (l,b)=some (WA (false,([],b)) l,(0,0)):=by
 unfold Wl VG;simp only[Te,Tc];rw[TG,if_neg (by omega),Sp]
 rw[U1 (l:=l) (σ:=UZ×List Ta) (s:=(0,(0,([],([],(0,(false,([],b)))))))) (λk a=>((0:Int),((k:Int),(([]:List Ta),(a.2,((0:Int),a.1))))))
  (λm k a=>ZW a.1 m/\a.1.2.1.length<=32/\(a.1.1=false->a.1.2.1=[])/\a.2.length<=k/\k+m.length=l.length)
  (λm k a=>(1,((0,((l.length:Int),([],(a.2++WA a.1 m,(0,Uf a.1 m))))),()))) ((false,([],b)),[]) rfl (by omega) ⟨r,by simp,λ_=>rfl,by simp,by simp⟩ ?_ ?_,Sp]
 ·simp;rfl
 ·intro a _;simp only;rw[re,R6];simp[Uf,WA]
 ·rintro k x m ⟨s,out⟩ u d p ⟨⟨c,e,f⟩,g,i,j,n⟩;simp only at c e f g i j ⊢;refine⟨((true,(x.1,s.2.2)),out++if keep s x=true then[x]else[]),?_,⟨f,Zj c,(λh=>by cases h),?_,by simp at n;omega⟩,?_⟩
  ·rw[rl p,SX,Tb,S6 d,bz g i c e,Sp,TJ,if_pos rfl,TM,Tb,S6 d];have o:∀ {β:Type} (k:Unit->Option β),gd (CF (BF out.length [x].length) 1048576) k=k ():=λk=>db j (by simp at n;omega) x k;rw[o,Tn d (show l.length<=9223372036854775807 by omega)];cases q:keep s x<;>simp[Ij]
  ·split<;>simp<;>omega
  ·simp only[Uf,WA,dc]
section
variable{a b:List Ta}(va:VL a)(vb:VL b)
include va vb
theorem Z0(c:Bool){n:Nat}(h:n<=a.length+b.length):VP (Ts a b n,c)=some (WA (s0 c) (Ts a b n),Uf (s0 c) (Ts a b n)):=by
 have f:=va.len;have g:=vb.len;have d:(Ts a b n).length=n:=Un va vb h;unfold VP;simp only[Te,Tc];rw[bp (by omega) (Xe va vb c h),Sp];unfold VG;rw[Sp,TG,d];cases n with
 |zero=>rw[if_neg (by omega)];rfl
 |succ m=>
  obtain⟨x,e,_⟩:=Ve va vb (n:=m) (by omega);rw[if_pos (by omega),show SI .i64 ((m+1:Nat):Int) 1=(m:Int) by rw[Sd (by omega)];omega,Tb,S6 (x:=x) (by rw[Xw va vb h (by omega)];exact e),YQ va vb c e]
theorem bK(c:Bool){n:Nat}(h:n<=a.length+b.length):V3 (Vq a b c n)=some (n:Int):=by
 obtain⟨d,hs⟩:=WS va vb (n:=n) h;have e:=va.len;have f:=vb.len;unfold V3;refine Tv (x:=(0,(((n:Int),2),()))) (Ul (s1:=(((Tk a b n).1:Int),1)) (s2:=((n:Int),2)) ?_ ?_ rfl) rfl
 ·refine(ZR 0 rfl rfl (x:=((Tk a b n).1:Int)) rfl).trans ?_;show some (LR.nx (SE .i64 0 ((Tk a b n).1:Int),(1:Int)))=_;rw[Sb (by omega),sa]
 ·refine(ZR 1 rfl rfl (x:=((Tk a b n).2:Int)) rfl).trans ?_;show some (LR.nx (SE .i64 ((Tk a b n).1:Int) ((Tk a b n).2:Int),(2:Int)))=_;rw[Sb (by omega),show((Tk a b n).1:Int)+((Tk a b n).2:Int)=(n:Int) by omega]
theorem bN(c:Bool){n:Nat}(h:n<=a.length+b.length):W6 (Vq a b c n)=some 0:=by
 obtain⟨d,hs⟩:=WS va vb (n:=n) h;have g:=va.len;have i:=vb.len;have e:=Xr (s0 c) (Ts a b n);have f:(Ts a b n).length=n:=Un va vb h;unfold W6;rw[show(Vq a b c n).1=Ym a b (Tk a b n).1 (Tk a b n).2 from rfl,ZI va vb d,Sp,TJ,if_pos rfl,bK va vb c h,Sp];simp only[Te,Tc];rw[show(Vq a b c n).2.2.1=WA (s0 c) (Ts a b n)from rfl,show(Vq a b c n).2.2.2=(n:Int)from rfl,show(Vq a b c n).2.1=Uf (s0 c) (Ts a b n)from rfl,TG,if_neg (by omega),TG,if_neg (by omega),TJ,if_pos rfl];rw[show(Ym a b (Tk a b n).1 (Tk a b n).2).1=[a,b]from rfl,dq va vb,Sp,Tb];rw[UC (by rw[Un va vb (eb _)];exact h),UC (gM _)];rw[show D0 (Ts a b (a.length+b.length)) 0 n=Ts a b n from by unfold D0;rw[ox,kd];exact XH va vb h,Ww];rw[show(s0 c).2.2=c from rfl,Z0 va vb c h,Sp,XD,Wc _ _ (by omega),Sp,Ug,Uo,if_neg (by simp),Ww,Xj,Xj,YB];rfl
theorem Zs(c:Bool){n:Nat}(h:n<=a.length+b.length):UK (Vq a b c n)=some (((a.length+b.length-n:Nat):Int),0):=by
 unfold UK;rw[bN va vb c h,Sp,TJ,if_pos rfl,show(Vq a b c n).1=Ye a b n from rfl,iC va vb h];rfl
theorem cA(c:Bool){n:Nat}(h:n<=a.length+b.length){k:Nat}:UU (Vq a b c n,(k:Int))=some (Vq a b c (n+min k (a.length+b.length-n)),(((min k (a.length+b.length-n):Nat):Int),0)):=by
 have i:=va.len;have l:=vb.len;obtain⟨u,e⟩:∃ u,u=min k (a.length+b.length-n):=⟨_,rfl⟩
 have d:TP (k:Int) ((a.length+b.length-n:Nat):Int)=(u:Int):=by
  unfold TP;split<;>omega
 rw[<- e];unfold UU;rw[Zs va vb c h,Sp,TE,if_pos rfl];simp only[d,Te,Tc];rw[TI,if_neg (by omega),TJ,if_pos rfl,bK va vb c h,Sp,Sb (by omega),TG,if_neg (by omega)]
 refine Tv (x:=(0,(((u:Int),((Ye a b (n+u)).1,((Ye a b (n+u)).2.1,((Ye a b (n+u)).2.2.1,((Ye a b (n+u)).2.2.2.1,((Ye a b (n+u)).2.2.2.2,((Vq a b c n).2.1.1,((Vq a b c n).2.1.2.1,((Vq a b c n).2.1.2.2,(Vq a b c n).2.2))))))))),())))
  (Xv (λj=>((j:Int),((Ye a b (n+j)).1,((Ye a b (n+j)).2.1,((Ye a b (n+j)).2.2.1,((Ye a b (n+j)).2.2.2.1,((Ye a b (n+j)).2.2.2.2,((Vq a b c n).2.1.1,((Vq a b c n).2.1.2.1,((Vq a b c n).2.1.2.2,(Vq a b c n).2.2)))))))))) 0 u rfl (by omega) (by omega) (λj _ g=> ?_) ?_) ?_
 ·obtain⟨y,f,_⟩:=Ve va vb (n:=n+j) (by omega);show br (S1 (j:Int) (u:Int)) _ _=_;rw[TI,if_pos (by omega)];show bd (V2 (Ye a b (n+j))) _=_;rw[iD va vb (by omega) f,Sp,Tf (by omega)];rfl
 ·show br (S1 (u:Int) (u:Int)) _ _=_;rw[TI,if_neg (by omega)]
 ·rw[show(Vq a b c n).1.1=[a,b]from rfl,dq va vb,Sp,show(Vq a b c n).2.2.2=(n:Int)from rfl,show SE .i64 (n:Int) (u:Int)=((n+u:Nat):Int) by rw[Sb (by omega)];omega,Tb];rw[UC (by rw[Un va vb (eb _)];omega),UC (gM _)];rw[show D0 (Ts a b (a.length+b.length)) 0 (n+u)=Ts a b (n+u)from by unfold D0;rw[ox,kd];exact XH va vb (by omega),show(Vq a b c n).2.1.2.2=c from Ww _ _,Z0 va vb c (by omega),Sp];rfl
end
end
section
open Go Sv
theorem fC(B:Int)(i:Nat):UV B (i+1)=2*UV B i:=by
 unfold UV;rw[Int.pow_succ,<- Int.mul_assoc,Int.mul_comm]
theorem bM{B:Int}{i:Nat}(a:1<=B)(b:B<=16)(hi:i<=12):VZ (B,(i:Int))=some (UV B i):=by
 unfold VZ;refine Tv (x:=(0,((UV B i,(i:Int)),()))) (Xd (λk=>(UV B k,(k:Int))) i (by simp[UV]) (by omega) (λk d=> ?_) ?_) rfl
 ·have c:=bS a b (show k<=12 by omega);simp only;rw[TI,if_pos (by omega),Sc (by omega),Tf (by omega),fC]
 ·simp only;rw[TI,if_neg (by omega)]
theorem d7(r:Tw)(b:r.2.length<=9223372036854775807):WG r=some (if r.1<1\/r.1>1000000 then(-1,7)else Uk r.2):=by
 unfold WG;rw[TI,TG,W1 _ b,Sp];by_cases h:r.1<1
 ·rw[if_pos h,if_pos (.inl h)]
 ·rw[if_neg h];by_cases a:r.1>1000000
  ·rw[if_pos a,if_pos (.inr a)]
  ·rw[if_neg a,if_neg (by omega)]
theorem bG(r:Tw)(most:Int)(a:List Int)(z:r.2.length<=9223372036854775807)(hi:a.length<=1048576):VY (r,(most,a))=some (kR a most r):=by
 unfold VY kR;rw[d7 r (by omega),Sp];simp only[Te,Tc];by_cases h:r.1<1\/r.1>1000000
 ·rw[if_pos h,if_pos h];rfl
 rw[if_neg h,if_neg h,TJ];by_cases b:(Uk r.2).2=0;rotate_left
 ·rw[if_neg b,if_pos b]
 rw[if_pos b,if_neg (show ¬ (Uk r.2).2≠0 by simp[b]),TE,TG];by_cases i:r.2.length=0
 ·rw[if_pos (by omega),if_pos i]
 rw[if_neg (by omega),if_neg i];by_cases c:(r.2.length:Int)>most
 ·rw[if_pos c,if_pos c]
 rw[if_neg c,if_neg c]
 obtain⟨q,p,d⟩:=Va (l:=a) (σ:=Unit) (s:=((0:Int),(0:Int))) (λk _=>((k:Int),(0:Int))) (λm k _=>r.1∈a<->r.1∈m) (λ(q:Nat×((Int×Int)×Unit))=>(q.1=1/\r.1 ∉ a)\/(q.1=0/\r.1∈a/\q.2.1.2=8))
  (f:=λs1=>br (S1 s1.1 (a.length:Int)) (λ_=>R0 s1.1 λo=>ix a o λw=>br (OY w r.1) (λ_=>some (.dn ((0,((s1.1,8),()))))) λ_=>some (.nx (SE .i64 s1.1 1,s1.2))) λ_=>some (.dn ((1,(s1,())))))
  () rfl (by omega) Iff.rfl (λ_ h=>⟨_,by simp only;rw[re];rfl,.inl ⟨rfl,by simpa using h⟩⟩) (λk x m _ y j n h=>by
   simp only;rw[rl n,SX,Tb,S6 j,TE];by_cases e:x=r.1
   ·rw[if_pos e];exact .inr ⟨_,rfl,.inr ⟨rfl,by rw[h,e];simp,rfl⟩⟩
   ·rw[if_neg e];exact .inl ⟨(),by rw[Tn j (by omega)],by rw[h,gl];exact⟨λu=>u.elim (λe2=>absurd e2.symm e) id,.inr⟩⟩)
 refine Tv p ?_;rw[Sq];rcases d with⟨d,g⟩|⟨d,g,t⟩
 ·rw[if_neg (show ¬ q.1=0 by omega),if_neg g]
 ·rw[if_pos d,if_pos g,t]
theorem dy(L:Td)(hb:L.2.length<=9223372036854775807)(hr:∀ rs∈L.2,rs.length<=9223372036854775807 /\ ∀ r∈rs,r.2.length<=9223372036854775807):Uv L=some (Vb L):=by
 unfold Uv Vb;simp only[Te,Tc];rw[TI,TG,TG];by_cases n:L.1<1
 ·rw[if_pos n,if_pos (.inl n)]
 rw[if_neg n];by_cases o:L.1>16
 ·rw[if_pos o,if_pos (.inr o)]
 rw[if_neg o,if_neg (show ¬ (L.1<1\/L.1>16) by omega)];by_cases S:(L.2.length:Int)>12
 ·rw[if_pos S,if_pos (by omega)]
 rw[if_neg S,if_neg (by omega)];have hl2:L.2.length<=12:=by omega
 obtain⟨T,N⟩:∃ T,T=Ya L.1 0 [] L.2:=⟨_,rfl⟩;rw[<- N]
 have p:T=none->(br (Sz (L.2.length:Int) 0) (λ_=>R0 (SI .i64 (L.2.length:Int) 1) λD=>ix L.2 D λJ=>br (OY (J.length:Int) 0) (λ_=>some ((SI .i64 (L.2.length:Int) 1,((0:Int),(6:Int))))) λ_=>some ((0,(0,0)))) λ_=>some ((0,(0,0))))=some (if L.2.getLast?=some []then(((L.2.length-1:Nat):Int),(0,6))else(0,(0,0))):=by
  intro _;rw[TG];by_cases X:L.2=[]
  ·rw[X];rfl
  ·have hp:=eg.2 X;rw[if_pos (by omega),show SI .i64 (L.2.length:Int) 1=((L.2.length-1:Nat):Int) by rw[Sd (by omega)];omega,Tb,oj];have d:L.2[L.2.length-1]?=some (L.2[L.2.length-1]'(by omega)):=by simp
   rw[S6 d,d,TE];by_cases C:L.2[L.2.length-1]'(by omega)=[]
   ·rw[C];simp
   ·rw[if_neg (by have:=eg.2 C;omega),if_neg (by simp[C])]
 obtain⟨r,G,j⟩:=Va (l:=L.2) (σ:=List Int) (s:=((0:Int),(([]:List Int),((0:Int),((0:Int),(0:Int)))))) (λi a=>((0:Int),(a,((0:Int),((0:Int),(i:Int))))))
  (λm i a=>Ya L.1 i a m=T/\a.length<=2*i) (λ(r:Nat×((Int×(List Int×(Int×(Int×Int))))×Unit))=>(r.1=1/\T=none)\/(r.1=0/\Q1 T r.2.1.1 r.2.1.2.2.1 r.2.1.2.2.2.1/\T≠none))
  (f:=λ(s0:(Int×((List Int)×(Int×(Int×Int)))))=>br (S1 s0.2.2.2.2 (L.2.length:Int)) (λ_=>R0 s0.2.2.2.2 λk1=>ix L.2 k1 λB=>br (Sz (B.length:Int) 2) (λ_=>some (.dn ((0,((0,(s0.2.1,(s0.2.2.2.2,(3,s0.2.2.2.2)))),()))))) λ_=>bd (loop (λ(b:(Int×((List Int)×(Int×(Int×Int)))))=>br (S1 b.2.2.2.2 (B.length:Int)) (λ_=>R0 b.2.2.2.2 λE=>ix B E λK=>bd (VZ (L.1,s0.2.2.2.2)) λI=>bd (VY ((K,(I,b.2.1)))) λy=>br (Rx y 0) (λ_=>some (.dn ((0,((b.2.2.2.2,(b.2.1,(s0.2.2.2.2,(y,b.2.2.2.2)))),()))))) λ_=>R0 b.2.2.2.2 λF=>ix B F λz=>gd (CF (BF b.2.1.length [z.1].length) 1048576) λ_=>some (.nx ((b.1,(Ij b.2.1 [z.1],(b.2.2.1,(b.2.2.2.1,SE .i64 b.2.2.2.2 1))))))) λ_=>some (.dn ((1,(b,()))))) ((s0.1,(s0.2.1,(s0.2.2.1,(s0.2.2.2.1,0)))))) λc=>br (neq c.1 0) (λ_=>some (.dn ((0,((c.2.1.1,(c.2.1.2.1,(c.2.1.2.2.1,(c.2.1.2.2.2.1,s0.2.2.2.2)))),()))))) λ_=>some (.nx ((c.2.1.1,(c.2.1.2.1,(c.2.1.2.2.1,(c.2.1.2.2.2.1,SE .i64 s0.2.2.2.2 1))))))) λ_=>some (.dn ((1,(s0,())))))
  [] rfl (by omega) ⟨N.symm,by simp⟩ (λa h=>by
   refine⟨_,by simp only;rw[re];rfl,.inl ⟨rfl,?_⟩⟩;rw[<- h.1];rfl) (λi rs m a Z d hi h=>by
   obtain⟨h,P⟩:=h;simp only;obtain⟨Y,u⟩:=hr rs (co d);rw[rl hi,SX,Tb,S6 d,TG];unfold Ya at h;by_cases M:rs.length>2
   ·rw[if_pos (by omega)];rw[if_pos M]at h;refine .inr ⟨_,rfl,.inr ⟨rfl,?_,by rw[<- h];simp⟩⟩;rw[<- h];exact⟨rfl,rfl,rfl⟩
   rw[if_neg (by omega)];rw[if_neg M]at h;obtain⟨U,O⟩:∃ U,U=Yb (UV L.1 i) 0 a rs:=⟨_,rfl⟩;rw[<- O]at h
   obtain⟨r,G,j⟩:=Va (l:=rs) (σ:=Unit) (s:=((0:Int),(a,((0:Int),((0:Int),(0:Int)))))) (λk _=>((0:Int),(a++(rs.take k).map (·.1),((0:Int),((0:Int),(k:Int))))))
    (λm k _=>Yb (UV L.1 i) k (a++(rs.take k).map (·.1)) m=U) (λ(r:Nat×((Int×(List Int×(Int×(Int×Int))))×Unit))=>(r.1=1/\U=none/\r.2.1=(0,(a++rs.map (·.1),(0,(0,(rs.length:Int))))))\/(r.1=0 /\ ∃ k e,U=some (k,e)/\r.2.1.1=(k:Int)/\r.2.1.2.2.1=(i:Int)/\r.2.1.2.2.2.1=e))
    (f:=λ(b:(Int×((List Int)×(Int×(Int×Int)))))=>br (S1 b.2.2.2.2 (rs.length:Int)) (λ_=>R0 b.2.2.2.2 λE=>ix rs E λK=>bd (VZ (L.1,(i:Int))) λI=>bd (VY ((K,(I,b.2.1)))) λy=>br (Rx y 0) (λ_=>some (.dn ((0,((b.2.2.2.2,(b.2.1,((i:Int),(y,b.2.2.2.2)))),()))))) λ_=>R0 b.2.2.2.2 λF=>ix rs F λz=>gd (CF (BF b.2.1.length [z.1].length) 1048576) λ_=>some (.nx ((b.1,(Ij b.2.1 [z.1],(b.2.2.1,(b.2.2.2.1,SE .i64 b.2.2.2.2 1))))))) λ_=>some (.dn ((1,(b,())))))
    () (by simp) (by omega) (by simp[O]) (λ_ h=>by
     refine⟨_,by simp only;rw[re];rfl,.inl ⟨rfl,by rw[<- h];rfl,by simp⟩⟩) (λk r m _ Z d hk h=>by
     simp only;have hr2:=u r (co d);have w:(rs.take (k+1)).map (·.1)=(rs.take k).map (·.1)++[r.1]:=by rw[ns,d];simp
     have W:(a++(rs.take k).map (·.1)).length<=100:=by simp;omega
     rw[rl hk,SX,Tb,S6 d,bM (by omega) (by omega) (by omega),Sp,bG _ _ _ (by omega) (by omega),Sp,TJ];unfold Yb at h;by_cases A:kR (a++(rs.take k).map (·.1)) (UV L.1 i) r=0
     ·rw[if_neg (λhh:kR (a++(rs.take k).map (·.1)) (UV L.1 i) r≠0=>hh A)]at h;rw[if_pos A,Tb,S6 d,UC (by simp only[BF,ci,cP];omega)];refine .inl ⟨(),?_,?_⟩
      ·rw[Tn d (by omega),w,<- dc];rfl
      ·rw[w,<- dc];exact h
     ·rw[if_pos A]at h;rw[if_neg A]
      exact .inr ⟨_,rfl,.inr ⟨rfl,_,_,h.symm,rfl,rfl,rfl⟩⟩)
   rw[G,Sp,Sq];rcases j with⟨j,g,x⟩|⟨j,k,e,g,x,q5,q6⟩
   ·rw[if_neg (show ¬ r.1=0 by omega),x,Tn d (by omega)];rw[g]at h;exact .inl ⟨a++rs.map (·.1),rfl,h,by simp;omega⟩
   ·rw[if_pos j];rw[g]at h;refine .inr ⟨_,rfl,.inr ⟨rfl,?_,by rw[<- h];simp⟩⟩;rw[<- h]
    exact⟨x,q5,q6⟩)
 refine Tv G ?_;rw[Sq];rcases j with⟨j,g⟩|⟨j,g,x⟩
 ·rw[if_neg (show ¬ r.1=0 by omega),g];exact p g
 ·rw[if_pos j];cases q:T with
  |none=>exact absurd q x
  |some t=>
   obtain⟨i,k,e⟩:=t;rw[q]at g;rw[g.1,g.2.1,g.2.2]
theorem bx(L:Td)(b:L.2.length<=1048576)(a:∀ rs∈L.2,rs.length<=1048576 /\ ∀ r∈rs,r.2.length<=9223372036854775807):Uv L=some (Vb L):=dy L (by omega) λrs h=>⟨by have:=(a rs h).1;omega,(a rs h).2⟩
def VB(ls:List (List Tw)):List Tw:=ls.flatMap List.reverse
theorem VLev.small{L:Td}(v:VLev L):L.2.length<=1048576 /\ ∀ rs∈L.2,rs.length<=1048576 /\ ∀ r∈rs,r.2.length<=9223372036854775807:=by
 refine⟨by have:=v.len;omega,λrs a=> ?_⟩;obtain⟨i,hi⟩:=ee a;obtain⟨d,b⟩:=v.lev i rs hi;exact⟨by omega,λr c=>by have:=(b r c).vl.len;omega⟩
theorem YR:∀ (ls:List (List Tw)),(∀ rs∈ls,rs.length<=2)->(VB ls).length<=2*ls.length
 |[],_=>by simp[VB]
 |rs::ls,h=>by
  have a:=YR ls λr b=>h r (by simp[b]);have c:=h rs (by simp);unfold VB at a ⊢;rw[tw,fl,List.length_reverse,ci];omega
theorem VLev.two{L:Td}(v:VLev L):∀ rs∈L.2,rs.length<=2:=λrs a=>by
 obtain⟨i,hi⟩:=ee a;exact(v.lev i rs hi).1
theorem Zr{L:Td}(v:VLev L):Vy L=some (VB L.2,0):=by
 obtain⟨d,b⟩:=v.small;have f:=v.len;unfold Vy;simp only[Te,Tc];rw[bx _ d b,Wx v,Sp,TJ,if_pos rfl]
 rw[U1 (l:=L.2) (σ:=List Tw) (s:=(([]:List Tw),(0:Int))) (λi m=>(m,(i:Int))) (λls i m=>(∀ rs∈ls,rs.length<=2)/\m.length<=2*i) (λls _ m=>(0,((m++VB ls,(L.2.length:Int)),()))) [] rfl (by omega) ⟨v.two,by simp⟩ (λm _=>by
  simp only;rw[re,R6];simp[VB]) (λi rs ls m e a hi h=>by
   refine⟨m++rs.reverse,?_,⟨λr b=>h.1 r (by simp[b]),by have:=h.1 rs (by simp);simp;omega⟩,by simp[VB]⟩;have c:=h.1 rs (by simp);have g:m.length<=24:=by have:=h.2;omega
   simp only;rw[rl hi,SX,Tb,S6 a];have gg:∀ {β:Type} (z:List Tw) (x:Tw) (k:Unit->Option β),z.length<=100->gd (CF (BF z.length [x].length) 1048576) k=k ():=λz x k j=>UC (by simp only[BF,ci,cP];omega) k
   match rs,c,a with
   |[],_,a=>
    refine Tv (x:=(0,((m,-1),()))) (Ut (n:=1) (by omega) (UJ rfl)) ?_;rw[Tn a (by omega)];simp
   |[r0],_,a=>
    refine Tv (x:=(0,((m++[r0],-1),()))) (Ut (n:=2) (by omega) ((UI (s':=(m++[r0],-1)) ?_).trans (UJ rfl))) ?_
    ·show br (Rw (0:Int) 0) _ _=_;rw[TF,if_pos (by omega),Tb,S6 a];refine(V1 0 rfl (x:=r0) rfl).trans ?_;rw[gg m _ _ (by omega)];rfl
    ·rw[Tn a (by omega)];simp
   |[r0,r1],_,a=>
    refine Tv (x:=(0,((m++[r1]++[r0],-1),()))) (Ut (n:=3) (by omega) ((UI (s':=(m++[r1],0)) ?_).trans ((UI (s':=(m++[r1]++[r0],-1)) ?_).trans (UJ rfl)))) ?_
    ·show br (Rw (1:Int) 0) _ _=_;rw[TF,if_pos (by omega),Tb,S6 a];refine(V1 1 rfl (x:=r1) rfl).trans ?_;rw[gg m _ _ (by omega)];rfl
    ·show br (Rw (0:Int) 0) _ _=_;rw[TF,if_pos (by omega),Tb,S6 a];refine(V1 0 rfl (x:=r0) rfl).trans ?_;rw[gg (m++[r1]) _ _ (by simp;omega)];rfl
    ·rw[Tn a (by omega)];simp),Sp]
 simp
theorem Wu(a b:Int):TQ a b=max a b:=by unfold TQ;split<;>omega
theorem WB:∀ (l:List Tw) (m:Int),0<=m->l.foldl (λm r=>TQ m r.1) m=max m (l.foldl (λm r=>TQ m r.1) 0)
 |[],m,h=>by simp;omega
 |r::l,m,h=>by
  have a:=WB l (TQ m r.1) (by rw[Wu];omega);have b:=WB l (TQ 0 r.1) (by rw[Wu];omega);simp only[hI];rw[a,b,Wu,Wu];omega
theorem Zv(l:List Tw)(m:Int)(h:0<=m):l.reverse.foldl (λm r=>TQ m r.1) m=l.foldl (λm r=>TQ m r.1) m:=by
 induction l generalizing m with
 |nil=>rfl
 |cons r l a=>
  rw[List.reverse_cons,ul,a m h,hI];simp only[hI,List.foldl_nil];rw[WB l m h,WB l (TQ m r.1) (by rw[Wu];omega),Wu,Wu];omega
theorem aN(l:List Tw)(m:Int)(h:0<=m):0<=l.foldl (λm r=>TQ m r.1) m:=by
 rw[WB l m h];omega
theorem YI:∀ (ls:List (List Tw)) (m:Int),0<=m->(VB ls).foldl (λm r=>TQ m r.1) m=ls.foldl (λm rs=>rs.foldl (λm r=>TQ m r.1) m) m
 |[],m,_=>rfl
 |rs::ls,m,h=>by
  have a:=YI ls (rs.foldl (λm r=>TQ m r.1) m) (aN _ _ h);unfold VB at a ⊢;rw[tw,ul,Zv rs m h,hI,a]
theorem aT{L:Td}(v:VLev L):VS L=some (V6 L.2):=by
 have d:=v.len;have e:=YR L.2 v.two;unfold VS;simp only[Te,Tc];rw[Zr v,Sp]
 rw[U1 (l:=VB L.2) (σ:=Int) (s:=((0:Int),(0:Int))) (λi m=>(m,(i:Int))) (λ_ _ _=>True) (λl _ m=>(0,((l.foldl (λm r=>TQ m r.1) m,((VB L.2).length:Int)),()))) 0 rfl (by omega) trivial (λm _=>by
  simp only;rw[re,R6];rfl) (λk r l m c a b _=>⟨TQ m r.1,by
   simp only
   rw[rl b,SX,Tb,S6 a,Tn a (by omega)],trivial,rfl⟩),Sp]
 rw[YI _ _ (by omega)];rfl
theorem du{L:Td}(e:L.2.length<=1000):VA L=some (UO 0 L.2):=by
 unfold VA;simp only[Te,Tc]
 rw[U1 (l:=L.2) (σ:=List Int) (s:=(([]:List Int),(0:Int))) (λi m=>(m,(i:Int))) (λls i m=>m++UO i ls=UO 0 L.2) (λ_ _ _=>(0,((UO 0 L.2,(L.2.length:Int)),()))) [] rfl (by omega) rfl (λm h=>by
  simp only;rw[re,R6,<- h];simp[UO]) (λi rs ls m d b hi h=>by
   refine⟨m++(if rs.length=2 then[(i:Int)]else[]),?_,?_,rfl⟩
   ·simp only;rw[rl hi,SX,Tb,S6 b,TE]
    have f:m.length<=1000:=by
     have a:=congrArg gs h;have c:=WW L.2 0;rw[fl]at a;omega
    by_cases a:rs.length=2
    ·rw[if_pos (by omega),if_pos a,UC (by simp only[BF,ci,cP];omega),Tn b (by omega)];rfl
    ·rw[if_neg (by omega),if_neg a,en,Tn b (by omega)]
   ·rw[dc];exact h),Sp]
theorem iG{L:Td}(v:VLev L)(k:Int):Xc (L,k)=some (if k<0\/k>=12 then 7 else 0):=by
 obtain⟨c,d⟩:=v.small;unfold Xc;rw[bx _ c d,Wx v,Sp,TE,if_pos rfl,TI,TF];by_cases a:k<0
 ·rw[if_pos a,if_pos (.inl a)]
 ·rw[if_neg a];by_cases b:k>=12
  ·rw[if_pos b,if_pos (.inr b)]
  ·rw[if_neg b,if_neg (by omega)]
theorem Zq{L:Td}(v:VLev L){n:Nat}(b:n<L.2.length):UR (L,(n:Int))=some (decide ((n:Int)=(L.2.length:Int)-1)):=by
 have a:=v.len;unfold UR Xq;simp only[Te,Tc];rw[iG v,Sp,if_neg (by omega),TJ,if_pos rfl,Sp,Tf (by omega)];unfold Sz;rw[Ug];by_cases h:(n:Int)=(L.2.length:Int)-1
 ·simp[h]
 ·simp[h];omega
theorem bu{a b:List Ta}(va:VL a)(d:VL b)(c:Bool):W5 ([a,b],c)=some (Vq a b c 0,(0,0)):=by
 unfold W5 Xp VG;rw[Yj va d,Sp,TJ,if_pos rfl];refine Eq.trans (b:=bd (bd (VF ([a,b],[((0:Nat):Int),((0:Nat):Int)])) _) _) rfl ?_;rw[YA va d (gM _) (gM _)];rfl
theorem aI{L:Td}{n:Nat}{a b:Tw}(c:Bool)(h:L.2[n]?=some [a,b])(d:VL a.2)(e:VL b.2):Tz (L,((n:Int),c))=some ((n:Int),Vq b.2 a.2 c 0):=by
 have f:=(a8.1 h).1;unfold Tz;simp only[Te,Tc];rw[TF,if_neg (by omega),Tb,S6 h,S6 (x:=b) rfl,S6 (x:=a) rfl,bu e d];rfl
theorem ml{L:Td}{n:Nat}{a b:Tw}{j:XY}(h:L.2[n]?=some [a,b])(e:VL a.2)(f:VL b.2){β:Type}(A B:Option β) :
  (bd (Tz (L,((n:Int),j.2.2.1.2.2))) λc=>bd (UK c.2) λl=>br (S1 j.2.2.2.2 0) (λ_=>A) λ_=>br (Sz j.2.2.2.2 l.1) (λ_=>A) λ_=>bd (UU (c.2,j.2.2.2.2)) λm=>bd (UL (m.1,j.2)) λo=>br (Hg o) (λ_=>A) λ_=>B)
  = if j.2.2.2.2<0\/j.2.2.2.2>((b.2.length+a.2.length:Nat):Int)then A else if Vq b.2 a.2 j.2.2.1.2.2 j.2.2.2.2.toNat=j.2 then B else A:=by
 rw[aI _ h e f,Sp,Zs f e _ (gM _),Sp,TI,TG,kd];by_cases g:j.2.2.2.2<0
 ·rw[if_pos g,if_pos (.inl g)]
 rw[if_neg g];by_cases i:j.2.2.2.2>((b.2.length+a.2.length:Nat):Int)
 ·rw[if_pos i,if_pos (.inr i)]
 rw[if_neg i,if_neg (show ¬ (j.2.2.2.2<0\/j.2.2.2.2>((b.2.length+a.2.length:Nat):Int)) by omega)];obtain⟨k,p⟩:∃ k:Nat,j.2.2.2.2=(k:Int):=⟨j.2.2.2.2.toNat,by omega⟩;rw[p,cA f e _ (gM _),Sp,kd,eo,sw (by omega),ed];obtain⟨s1,s2,q,r,s,t⟩:=Y7 f e j.2.2.1.2.2 (n:=k) (by omega);rw[Zo _ _ s1 s2 q r s t,Sp,Ug,Uo];by_cases d:Vq b.2 a.2 j.2.2.1.2.2 k=j.2
 ·rw[if_neg (by simp[d]),if_pos d]
 ·rw[if_pos d,if_neg d]
end
section
open Go Sv
theorem aU(s:UB)(J:s.1.2.length<=9223372036854775807)(hr:∀ rs∈s.1.2,rs.length<=9223372036854775807 /\ ∀ r∈rs,r.2.length<=9223372036854775807)(hj:s.2.1.length<=9223372036854775807):VH s=some (UN s):=by
 unfold VH UN;simp only[Te,Tc];rw[dy _ J hr,Sp,TE];by_cases o:(Vb s.1).2.2=0;rotate_left
 ·rw[if_neg o,if_pos o,TE,if_neg o,TJ,if_neg o]
 rw[if_pos o,if_neg (show ¬ (Vb s.1).2.2≠0 by simp[o]),TI,TG];have v:=Xm.1 o;by_cases y:s.2.2<1
 ·rw[if_pos y,if_pos (.inl y)]
 rw[if_neg y];by_cases p:s.2.2>1000001
 ·rw[if_pos p,if_pos (.inr p)]
 rw[if_neg p,if_neg (show ¬ (s.2.2<1\/s.2.2>1000001) by omega),TE,if_pos o,aT v,Sp,TH];by_cases m:s.2.2<=V6 s.1.2
 ·rw[if_pos m,if_pos m]
 rw[if_neg m,if_neg m,TJ,if_pos o,du (by have:=v.len;omega),Sp];obtain⟨a,g⟩:∃ a,a=UO 0 s.1.2:=⟨_,rfl⟩;have hdl:a.length<=12:=by have:=WW s.1.2 0;have:=v.len;rw[g];omega
 rw[<- g];obtain⟨T,Z⟩:∃ T,T=WR s.1 a 0 s.2.1:=⟨_,rfl⟩;rw[<- Z]
 obtain⟨r,q1,D⟩:=Va (l:=s.2.1) (σ:=Unit) (λi _=>((0:Int),((0:Int),(i:Int)))) (λjs i _=>WR s.1 a i js=T) (λ(r:Nat×((Int×(Int×Int))×Unit))=>(T=none/\r.1=1)\/(∃ i:Nat,T=some i/\r.1=0/\r.2.1.1=6/\r.2.1.2.1=(i:Int)))
  (f:=λb=>br (S1 b.2.2 (s.2.1.length:Int)) (λ_=>R0 b.2.2 λk7=>ix s.2.1 k7 λe=>br (Rw b.2.2 (a.length:Int)) (λ_=>some (.dn ((0,((6,(b.2.2,b.2.2)),()))))) λ_=>R0 b.2.2 λk9=>ix a k9 λX=>br (Rx e.1 X) (λ_=>some (.dn ((0,((6,(b.2.2,b.2.2)),()))))) λ_=>br e.2.2.1.2.2 (λ_=>bd (UR (s.1,e.1)) λM=>br (Hg M) (λ_=>some (.dn ((0,((6,(b.2.2,b.2.2)),()))))) λ_=>bd (Tz ((s.1,(e.1,e.2.2.1.2.2)))) λG=>bd (UK G.2) λN=>br (S1 e.2.2.2.2 0) (λ_=>some (.dn ((0,((6,(b.2.2,b.2.2)),()))))) λ_=>br (Sz e.2.2.2.2 N.1) (λ_=>some (.dn ((0,((6,(b.2.2,b.2.2)),()))))) λ_=>bd (UU (G.2,e.2.2.2.2)) λO=>bd (UL (O.1,e.2)) λP=>br (Hg P) (λ_=>some (.dn ((0,((6,(b.2.2,b.2.2)),()))))) λ_=>some (.nx ((b.1,(b.2.1,SE .i64 b.2.2 1))))) λ_=>bd (Tz ((s.1,(e.1,e.2.2.1.2.2)))) λI=>bd (UK I.2) λS=>br (S1 e.2.2.2.2 0) (λ_=>some (.dn ((0,((6,(b.2.2,b.2.2)),()))))) λ_=>br (Sz e.2.2.2.2 S.1) (λ_=>some (.dn ((0,((6,(b.2.2,b.2.2)),()))))) λ_=>bd (UU (I.2,e.2.2.2.2)) λU=>bd (UL (U.1,e.2)) λW=>br (Hg W) (λ_=>some (.dn ((0,((6,(b.2.2,b.2.2)),()))))) λ_=>some (.nx ((b.1,(b.2.1,SE .i64 b.2.2 1))))) λ_=>some (.dn ((1,(b,())))))
  (s:=(0,(0,0))) () rfl (by omega) Z.symm (λ_ h=>by
   refine⟨_,by simp only;rw[re];rfl,.inl ⟨by rw[<- h];rfl,rfl⟩⟩) (λi j js _ hd hx hi h=>by
   simp only;rw[rl hi,SX,Tb,S6 hx,TF];unfold WR at h
   have c:YZ s.1 a i j=true -> ∃ r:Nat×((Int×(Int×Int))×Unit),(some (LR.dn ((0,((6,((i:Int),(i:Int))),()))):LR (Int×(Int×Int)) _))=some (.dn r)/\((T=none/\r.1=1)\/(∃ i:Nat,T=some i/\r.1=0/\r.2.1.1=6/\r.2.1.2.1=(i:Int))):=λJ=>by
    rw[if_pos J]at h;exact⟨_,rfl,.inr ⟨i,h.symm,rfl,rfl,rfl⟩⟩
   have x:YZ s.1 a i j=false -> ∃ st':Unit,(some (LR.nx ((0:Int),((0:Int),SE .i64 (i:Int) 1))):Option (LR _ (Nat×((Int×(Int×Int))×Unit))))=some (.nx ((0:Int),((0:Int),((i+1:Nat):Int))))/\WR s.1 a (i+1) js=T:=λhg=>by
    rw[if_neg (by simp[hg])]at h;exact⟨(),by rw[Tn hx (by omega)],h⟩
   by_cases y:(i:Int)>=(a.length:Int)
   ·rw[if_pos y];exact .inr (c (by unfold YZ;rw[a9 (by omega)]))
   rw[if_neg y,Tb];have w:a[i]?=some (a[i]'(by omega)):=by simp
   rw[S6 w,TJ];obtain⟨n,K,E,F,t⟩:=XX (ls:=s.1.2) (i:=0) (k:=i) (d:=a[i]'(by omega)) (by rw[<- g];exact w);rw[eo]at K
   have q:YZ s.1 a i j=(if j.1≠(a[i]'(by omega))then true else if j.2.2.1.2.2=true/\j.1≠(s.1.2.length:Int)-1 then true else if j.2.2.2.2<0\/j.2.2.2.2>((F.2.length+E.2.length:Nat):Int)then true else decide (Vq F.2 E.2 j.2.2.1.2.2 j.2.2.2.2.toNat≠j.2)):=by
    unfold YZ;rw[w];simp only;rw[K,ed,t]
   by_cases p:j.1=(a[i]'(by omega));rotate_left
   ·rw[if_neg p];exact .inr (c (by rw[q,if_pos p]))
   rw[if_pos p];rw[if_neg (by simp[p])]at q;have C:j.1=(n:Int):=by rw[p,K]
   have hv:=(v.lev n _ t).2;have v0:=(hv E (by simp)).vl;have v1:=(hv F (by simp)).vl;have L:=(a8.1 t).1;rw[C,Zq v L,Sp,Ug,Uo,ml t v0 v1,TM];rw[C]at q;by_cases m:j.2.2.1.2.2=true/\(n:Int)≠(s.1.2.length:Int)-1
   ·rw[if_pos m.1,if_pos m.2];exact .inr (c (by rw[q,if_pos m]))
   rw[if_neg m]at q
   have h4:∀ {γ:Type} (A B:γ),(if j.2.2.1.2.2=true then if ¬(n:Int)=(s.1.2.length:Int)-1 then A else B else B)=B:=by
    intro γ A B;by_cases u:j.2.2.1.2.2=true
    ·rw[if_pos u,if_neg (λz=>m ⟨u,z⟩)]
    ·rw[if_neg u]
   rw[h4];by_cases u:j.2.2.2.2<0\/j.2.2.2.2>((F.2.length+E.2.length:Nat):Int)
   ·rw[if_pos u];exact .inr (c (by rw[q,if_pos u]))
   rw[if_neg u];rw[if_neg u]at q;by_cases z:Vq F.2 E.2 j.2.2.1.2.2 j.2.2.2.2.toNat=j.2
   ·rw[if_pos z];exact .inl (x (by rw[q];simp[z]))
   ·rw[if_neg z]
    exact .inr (c (by rw[q];simp[z])))
 refine Tv q1 ?_;rw[Sq];rcases D with⟨D,q3⟩|⟨i,D,q3,q4,q5⟩
 ·rw[if_neg (show ¬ r.1=0 by omega),D,TI];simp only;by_cases Y:s.2.1.length<a.length
  ·rw[if_pos (by omega),if_pos Y]
  ·rw[if_neg (by omega),if_neg Y]
 ·rw[if_pos q3,D,q4,q5]
theorem bI(s:UB)(b:s.1.2.length<=1048576)(a:∀ rs∈s.1.2,rs.length<=1048576 /\ ∀ r∈rs,r.2.length<=9223372036854775807)(c:s.2.1.length<=1048576):VH s=some (UN s):=aU s (by omega) (λrs h=>⟨by have:=(a rs h).1;omega,(a rs h).2⟩) (by omega)
end
section
open Go Sv
def JobAt(L:Td)(n:Nat)(j:XY):Prop:=∃ a b c k,L.2[n]?=some [a,b]/\j=((n:Int),Vq b.2 a.2 c k)/\k<=b.2.length+a.2.length/\(c=true->n+1=L.2.length)/\VL a.2/\VL b.2
structure VSt (s:UB):Prop where
 lev:VLev s.1
 n1:1<=s.2.2
 n2:s.2.2<=1000001
 n3:V6 s.1.2<s.2.2
 due:s.2.1.map (·.1)=UO 0 s.1.2
 job:∀ j∈s.2.1,∃ n,JobAt s.1 n j
theorem ou(a b:List Ta)(c:Bool)(k:Nat):(Vq a b c k).2.1.2.2=c:=by
 show(Uf (s0 c) (Ts a b k)).2.2=c;rw[Ww]
theorem Zh{L:Td}(v:VLev L){i:Nat}{j:XY}:YZ L (UO 0 L.2) i j=false <-> ∃ n,(UO 0 L.2)[i]?=some j.1/\JobAt L n j:=by
 constructor
 ·intro h;unfold YZ at h;cases c:(UO 0 L.2)[i]? with
  |none=>rw[c]at h;cases h
  |some d=>
   rw[c]at h;simp only at h;by_cases f:j.1=d;rotate_left
   ·rw[if_pos f]at h;cases h
   rw[if_neg (by simp[f])]at h;by_cases g:j.2.2.1.2.2=true/\j.1≠(L.2.length:Int)-1
   ·rw[if_pos g]at h;cases h
   rw[if_neg g]at h;obtain⟨n,m,a,b,e⟩:=XX c;rw[eo]at m;rw[m,ed,e]at h;simp only at h;by_cases p:j.2.2.2.2<0\/j.2.2.2.2>((b.2.length+a.2.length:Nat):Int)
   ·rw[if_pos p]at h;cases h
   rw[if_neg p]at h;have s:Vq b.2 a.2 j.2.2.1.2.2 j.2.2.2.2.toNat=j.2:=by simpa using h
   have r:=(v.lev n _ e).2;refine⟨n,by rw[f],a,b,j.2.2.1.2.2,j.2.2.2.2.toNat,e,r7 (by rw[f,m]) s.symm,by omega,λl=> ?_,(r a (by simp)).vl,(r b (by simp)).vl⟩
   have t:j.1=(L.2.length:Int)-1:=by
    by_cases q:j.1=(L.2.length:Int)-1
    ·exact q
    ·exact absurd ⟨l,q⟩ g
   omega
 ·rintro⟨n,c,a,b,o,k,e,rfl,u,l,w,x⟩;unfold YZ;rw[c];simp only;rw[if_neg (by simp),ou,if_neg (λh:o=true/\(n:Int)≠(L.2.length:Int)-1=>h.2 (by have:=l h.1;omega)),ed,e];simp only;rw[show(Vq b.2 a.2 o k).2.2.2=(k:Int)from rfl,if_neg (by omega),ed];simp
theorem YP{L:Td}{a:List Int}:∀ {js:List XY} {i:Nat},WR L a i js=none <-> ∀ k j,js[k]?=some j->YZ L a (i+k) j=false
 |[],i=>by simp[WR]
 |j::js,i=>by
  unfold WR;by_cases h:YZ L a i j=true
  ·rw[if_pos h];simp only[reduceCtorEq,false_iff];intro b;have:=b 0 j rfl;rw[Nat.add_zero,h]at this;cases this
  ·rw[if_neg h,YP (js:=js)];constructor
   ·intro b k j' c;cases k with
    |zero=>cases c;simpa using h
    |succ k=>rw[show i+(k+1)=i+1+k by omega];exact b k j' c
   ·intro b k j' c;rw[show i+1+k=i+(k+1) by omega];exact b (k+1) j' c
theorem Xl{s:UB}:(UN s).2=0<->VSt s:=by
 unfold UN;constructor
 ·intro h;by_cases d:(Vb s.1).2.2≠0
  ·rw[if_pos d]at h;exact absurd h d
  rw[if_neg d]at h;have v:=Xm.1 (Decidable.not_not.1 d);by_cases f:s.2.2<1\/s.2.2>1000001
  ·rw[if_pos f]at h;cases h
  rw[if_neg f]at h;by_cases g:s.2.2<=V6 s.1.2
  ·rw[if_pos g]at h;cases h
  rw[if_neg g]at h;cases b:WR s.1 (UO 0 s.1.2) 0 s.2.1 with
  |some i=>rw[b]at h;cases h
  |none=>
   rw[b]at h;simp only at h;by_cases l:s.2.1.length<(UO 0 s.1.2).length
   ·rw[if_pos l]at h;cases h
   have m:=YP.1 b
   have c:∀ k j,s.2.1[k]?=some j -> ∃ n,(UO 0 s.1.2)[k]?=some j.1/\JobAt s.1 n j:=λk j a=>by
    have:=m k j a;rw[eo]at this;exact(Zh v).1 this
   refine⟨v,by omega,by omega,by omega,?_,λj o=> ?_⟩
   ·apply tk;intro k;rw[vv];cases a:s.2.1[k]? with
    |some j=>obtain⟨n,e,_⟩:=c k j a;rw[e];rfl
    |none=>
     have:=List.getElem?_eq_none_iff.1 a;rw[a9 (by omega)];rfl
   ·obtain⟨k,a⟩:=ee o;obtain⟨n,_,h⟩:=c k j a;exact⟨n,h⟩
 ·intro v;rw[if_neg (by simp[Xm.2 v.lev]),if_neg (by have:=v.n1;have:=v.n2;omega),if_neg (by have:=v.n3;omega)]
  have b:WR s.1 (UO 0 s.1.2) 0 s.2.1=none:=YP.2 λk j a=>by
   rw[eo];obtain⟨n,p⟩:=v.job j (co a);exact(Zh v.lev).2 ⟨n,by rw[<- v.due,vv,a];rfl,p⟩
  rw[b];simp only;rw[if_neg (by rw[<- v.due];simp)]
structure Sm (s:UB):Prop where
 lv:s.1.2.length<=1048576
 rs:∀ rs∈s.1.2,rs.length<=1048576 /\ ∀ r∈rs,r.2.length<=9223372036854775807
 js:s.2.1.length<=1048576
theorem t4{s:UB}(m:Sm s):Ua s=some (UN s):=bf s m.lv m.rs m.js
theorem qR{s:UB}(m:Sm s):VH s=some (UN s):=bI s m.lv m.rs m.js
theorem VSt.jlen{s:UB}(v:VSt s):s.2.1.length=(UO 0 s.1.2).length:=by rw[<- v.due];simp
theorem VSt.jsmall{s:UB}(v:VSt s):s.2.1.length<=12:=by
 have:=v.jlen;have:=WW s.1.2 0;have:=v.lev.len;omega
theorem VSt.sm{s:UB}(v:VSt s):Sm s:=⟨v.lev.small.1,v.lev.small.2,by have:=v.jsmall;omega⟩
def sY(x:Int):Nat->List Int->Option Nat
 |_,[]=>none
 |k,y::l=>if y=x then some k else sY x (k+1) l
theorem gi{x:Int}:∀ {l:List Int} {k i:Nat},sY x k l=some i->k<=i/\l[i-k]?=some x
 |[],_,_,h=>by cases h
 |y::l,k,i,h=>by
  unfold sY at h;by_cases e:y=x
  ·rw[if_pos e]at h;cases h;simp[e]
  ·rw[if_neg e]at h;obtain⟨b,a⟩:=gi h;exact⟨by omega,by rw[show i-k=(i-(k+1))+1 by omega];simpa using a⟩
end
end Go.Proofs.YtanppfoapnaeaaaGreat.Pl
