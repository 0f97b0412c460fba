/- Functions of the program and of the specification as plain functions, and laws about them. No condition. -/
import Derived.Test.YtggceepiljjadaaGreatPl0
set_option linter.all false
open List renaming append_assoc->ed, append_nil->fl, drop_eq_getElem_cons->ml, drop_length->x5, drop_zero->sw, ext_getElem?->xm, flatMap_cons->xo, flatten_cons->sa, foldl_append->xr, foldl_cons->gq, getElem?_eq_getElem->ci, getElem?_eq_none->a9, getElem?_eq_some_iff->a8, getElem?_map->tk, getElem?_of_mem->en, getElem_mem->tw, getLast?_eq_getElem?->nb, head?->s7, head?_drop->oy, length->kd, length_append->gl, length_cons->cP, length_nil->dc, length_pos_iff->eb, map_append->s5, map_cons->ns, mem_append->nm, mem_cons->ee, mem_flatten->l6, mem_map->ox, mem_map_of_mem->nn, mem_of_getElem?->co, nodup_append->sk, tail->s6, tail_drop->nP, take_add_one->iP, take_length->x9
open Nat renaming le_refl->eg, lt_of_not_le->l5, min_eq_left->ul, sub_zero->mg, zero_add->ey, zero_le->ll
open Int renaming mul_le_mul->Ds, toNat_natCast->bl, zero_add->tg
open Option renaming map_some->xw
open Bool renaming and_eq_true->x0, false_eq_true->hC, or_eq_true->yb
open UInt8 renaming lt_iff_toNat_lt->xa
open Prod renaming ext->ta
namespace Go.Proofs.YtggceepiljjadaaGreat.Pl
section
open Go Sv
abbrev V8:=List UInt8
theorem aD(a:V8):SP a []=false:=by unfold SP;cases a<;>rfl
theorem cu(b:UInt8)(y:V8):SP [] (b::y)=true:=rfl
theorem Yk(a b:UInt8)(x y:V8):SP (a::x) (b::y)=(decide (a<b)||(a == b&&SP x y)):=rfl
theorem Vk:∀ a:V8,SP a a=false
 |[]=>rfl
 |a::x=>by rw[Yk,Vk x];simp
theorem VD:∀ {a b c:V8},SP a b=true->SP b c=true->SP a c=true
 |[],b,[],e,d=>by rw[aD]at d;cases d
 |[],b,c::z,_,_=>rfl
 |a::x,[],c,e,_=>by rw[aD]at e;cases e
 |a::x,b::y,[],_,d=>by rw[aD]at d;cases d
 |a::x,b::y,c::z,e,d=>by
  rw[Yk]at e d ⊢;simp only[yb,decide_eq_true_eq,x0,beq_iff_eq]at e d ⊢;rcases e with e|⟨rfl,e⟩
  ·rcases d with d|⟨rfl,d⟩
   ·exact .inl (UInt8.lt_trans e d)
   ·exact .inl e
  ·rcases d with d|⟨rfl,d⟩
   ·exact .inl d
   ·exact .inr ⟨rfl,VD e d⟩
theorem aE:∀ a b:V8,SP a b=true\/a=b\/SP b a=true
 |[],[]=>.inr (.inl rfl)
 |[],_::_=>.inl rfl
 |_::_,[]=>.inr (.inr rfl)
 |a::x,b::y=>by
  rw[Yk,Yk];simp only[yb,decide_eq_true_eq,x0,beq_iff_eq,List.cons.injEq];rcases UInt8.lt_or_lt_of_ne (a:=a) (b:=b) |> λh=>Classical.em (a=b) |>.imp id h with h|h|h
  ·subst h;rcases aE x y with h|h|h
   ·exact .inl (.inr ⟨rfl,h⟩)
   ·exact .inr (.inl ⟨rfl,h⟩)
   ·exact .inr (.inr (.inr ⟨rfl,h⟩))
  ·exact .inl (.inl h)
  ·exact .inr (.inr (.inl h))
theorem Ur{a b:V8}(h:SP a b=true):SP b a=false:=by
 cases c:SP b a with
 |false=>rfl
 |true=>have:=VD h c;rw[Vk]at this;cases this
theorem Xk{a b:V8}(h:SP a b=true):a≠b:=λe=>by subst e;rw[Vk]at h;cases h
theorem ZA{a b:V8}(h:SP a b=false)(c:a≠b):SP b a=true:=by
 rcases aE a b with h1|h1|h1
 ·rw[h]at h1;cases h1
 ·exact absurd h1 c
 ·exact h1
theorem bW{a b c:V8}(h:SP b a=false)(d:SP b c=true):SP a c=true:=by
 rcases aE a b with h1|h1|h1
 ·exact VD h1 d
 ·subst h1;exact d
 ·rw[h]at h1;cases h1
theorem d6{a b c:V8}(h:SP a b=true)(d:SP c b=false):SP a c=true:=by
 rcases aE b c with h1|h1|h1
 ·exact VD h h1
 ·subst h1;exact h
 ·rw[d]at h1;cases h1
theorem Zc{a b:V8}:seq a b=true<->a=b:=by unfold seq;simp
theorem Zt(a b:V8):seq a b=decide (a=b):=by
 cases h:seq a b with
 |true=>rw[Zc]at h;simp[h]
 |false=>
  have:¬ a=b:=λe=>by rw[<- Zc]at e;rw[h]at e;cases e
  simp[this]
section
variable{α β σ S:Type}
theorem V2(a b:V8)(x y:Unit->Option β):br (seq a b) x y=if a=b then x ()else y ():=Jf Zc x y
theorem WP(a b:V8)(x y:Unit->Option β):br (SP a b) x y=if SP a b=true then x ()else y ():=Jf Iff.rfl x y
theorem VE(p:Prop)[Decidable p](x y:Unit->Option β):br (decide p) x y=if p then x ()else y ():=Jf (by simp) x y
theorem Ta(k:Nat)(c:Nat->Option β):Rz (k:Int) c=c k:=by rw[Se (by omega)];simp
theorem ss{l:List α}{k:Nat}{x:α}(h:l[k]?=some x):Sz (k:Int) (Kh (AS l))=true:=by
 have:=(a8.1 h).1;unfold Sz Kh AS;simp;omega
theorem qC(l:List α):Sz (l.length:Int) (Kh (AS l))=false:=by unfold Sz Kh AS;simp
theorem Ti{k:Nat}(h:k+1<=9223372036854775807):SC .i64 (k:Int) 1=((k+1:Nat):Int):=by
 rw[Sb (by omega)];omega
theorem Tn{l:List α}{k:Nat}{x:α}(h:l[k]?=some x)(a:l.length<=9223372036854775807):SC .i64 (k:Int) 1=((k+1:Nat):Int):=by
 have:=(a8.1 h).1;exact Ti (by omega)
def bE(step:Nat->α->σ->Option (LR σ β))(a:σ->Option β):List α->Nat->σ->Option β
 |[],_,s=>a s
 |x::l,k,s=>match step k x s with
  |none=>none
  |some (.nx s')=>bE step a l (k+1) s'
  |some (.dn b)=>some b
def yu(mk:σ->S):Option (LR σ β)->Option (LR S β)
 |none=>none
 |some (.nx s)=>some (.nx (mk s))
 |some (.dn b)=>some (.dn b)
def uJ:Option β->Option (LR S β)
 |none=>none
 |some b=>some (.dn b)
theorem eU{l:List α}{mk:Nat->σ->S}{f:S->Option (LR S β)}{step:Nat->α->σ->Option (LR σ β)}{c:σ->Option β}
  (hs:∀ k x a,l[k]?=some x->f (mk k a)=yu (mk (k+1)) (step k x a)) (j:∀ a,f (mk l.length a)=uJ (c a)) :
  ∀ (d n k:Nat) (a:σ),l.length-k=d->k<=l.length->d<n->IH n f (mk k a)=bE step c (l.drop k) k a:=by
 intro d
 induction d with
 |zero=>
  intro n k a g h i;have e:k=l.length:=by omega
  obtain⟨m,rfl⟩:∃ m,n=m+1:=⟨n-1,by omega⟩;subst e;unfold IH;rw[j,x5];unfold uJ bE;cases c a<;>rfl
 |succ d p=>
  intro n k a g h i;obtain⟨m,rfl⟩:∃ m,n=m+1:=⟨n-1,by omega⟩;have e:k<l.length:=by omega
  have o:l[k]?=some l[k]:=by simp[e]
  unfold IH;rw[hs k _ a o,ml e]
  show _=match step k l[k] a with
   |none=>none
   |some (.nx s')=>bE step c (l.drop (k+1)) (k+1) s'
   |some (.dn b)=>some b
  cases step k l[k] a with
  |none=>rfl
  |some r=>cases r with
   |nx s'=>exact p m (k+1) s' (by omega) (by omega) (by omega)
   |dn b=>rfl
theorem iR{l:List α}(mk:Nat->σ->S)(step:Nat->α->σ->Option (LR σ β))(b:σ->Option β){f:S->Option (LR S β)}{s:S}(a:σ)(c:s=mk 0 a)(e:l.length<=9223372036854775807)
  (hs:∀ k x a,l[k]?=some x->f (mk k a)=yu (mk (k+1)) (step k x a)) (d:∀ a,f (mk l.length a)=uJ (b a)) :
  loop f s=bE step b l 0 a:=by
 subst c;have:=eU hs d l.length 18446744073709551616 0 a (by omega) (by omega) (by omega);rw[sw]at this;exact this
theorem dX{f:α->Option (LR α β)}{x:β}:∀ {n m:Nat} {s:α},n<=m->IH n f s=some x->IH m f s=some x
 |0,_,_,_,h=>by cases h
 |n+1,0,_,hl,_=>by omega
 |n+1,m+1,s,hl,h=>by
  unfold IH at h ⊢;split at h
  ·cases h
  ·rename_i s' e;exact dX (by omega) h
  ·exact h
theorem U1{f:α->Option (LR α β)}{x:β}{n:Nat}{s:α}(a:n<=18446744073709551616)(h:IH n f s=some x):loop f s=some x:=dX a h
theorem UL{f:α->Option (LR α β)}{n:Nat}{s s':α}(h:f s=some (.nx s')):IH (n+1) f s=IH n f s':=by
 show(match f s with
  |none=>none
  |some (.nx s)=>IH n f s
  |some (.dn x)=>some x)=_
 rw[h]
theorem UT{f:α->Option (LR α β)}{n:Nat}{s:α}{x:β}(h:f s=some (.dn x)):IH (n+1) f s=some x:=by
 show(match f s with
  |none=>none
  |some (.nx s)=>IH n f s
  |some (.dn x)=>some x)=_
 rw[h]
theorem Z8{f:S -> Option (LR S β)}{r:β}(mk:Nat -> S)(n:Nat){s:S}(h0:s=mk 0)(hn:n < 18446744073709551616)(hs:∀ k,k < n -> f (mk k)=some (.nx (mk (k + 1))))(he:f (mk n)=some (.dn r)):loop f s=some r:=by
  subst h0
  have:∀ d k,k + d=n -> IH (d + 1) f (mk k)=some r:=by
    intro d
    induction d with
    | zero => intro k hk; have : k = n := by omega
              subst this;exact UT he
    |succ d ih=>intro k hk;rw[UL (hs k (by omega))];exact ih (k + 1) (by omega)
  exact U1 (n:=n + 1) (by omega) (this n 0 (by omega))
end
end
section
open Go Sv
def kE(x:TZ):Int:=if x.1.length>32\/x.2.1.length>64 then 3 else if x.2.2.1=true/\x.2.1≠[]then 6 else if x.2.2.2<1\/x.2.2.2>1000000000 then 7 else 0
def ZF:Option V8->Nat->List TZ->Int×Int
 |_,_,[]=>(0,0)
 |p,k,x::l=>if kE x≠0 then((k:Int),kE x)else match p with
  |some q=>if SP q x.1=true then ZF (some x.1) (k+1) l else((k:Int),6)
  |none=>ZF (some x.1) (k+1) l
def Vl(l:List TZ):Int×Int:=if l.length>5000 then(-1,3)else ZF none 0 l
def Asc:Option V8->List TZ->Prop
 |_,[]=>True
 |p,x::l=>(∀ q,p=some q->SP q x.1=true)/\Asc (some x.1) l
theorem Z0:∀ {p k l},(ZF p k l).2=0<->(∀ x∈l,kE x=0)/\Asc p l
 |p,k,[]=>by simp[ZF,Asc]
 |p,k,x::l=>by
  unfold ZF;by_cases h:kE x=0
  ·rw[if_neg (by simp[h])];cases p with
   |none=>
    simp only[Z0 (p:=some x.1) (l:=l),Asc,ee,forall_eq_or_imp];constructor
    ·rintro⟨a,b⟩;exact⟨⟨h,a⟩,(λq c=>by cases c),b⟩
    ·rintro⟨⟨_,a⟩,_,b⟩;exact⟨a,b⟩
   |some q=>
    simp only;by_cases c:SP q x.1=true
    ·rw[if_pos c];simp only[Z0 (p:=some x.1) (l:=l),Asc,ee,forall_eq_or_imp];constructor
     ·rintro⟨a,b⟩;exact⟨⟨h,a⟩,(λe d=>by cases d;exact c),b⟩
     ·rintro⟨⟨_,a⟩,_,b⟩;exact⟨a,b⟩
    ·rw[if_neg c];constructor
     ·intro h;cases h
     ·rintro⟨_,b⟩;exact absurd (b.1 q rfl) c
  ·rw[if_pos h];constructor
   ·intro h';exact absurd h' h
   ·rintro⟨a,_⟩;exact absurd (a x (by simp)) h
theorem aK:∀ {p k l},(ZF p k l).2=0->ZF p k l=(0,0)
 |p,k,[],_=>rfl
 |p,k,x::l,h=>by
  unfold ZF at h ⊢;by_cases a:kE x=0
  ·rw[if_neg (by simp[a])]at h ⊢;cases p with
   |none=>exact aK h
   |some q=>
    simp only at h ⊢;by_cases b:SP q x.1=true
    ·rw[if_pos b]at h ⊢;exact aK h
    ·rw[if_neg b]at h;cases h
  ·rw[if_pos a]at h;exact absurd h a
structure VL (l:List TZ):Prop where
 len:l.length<=5000
 ok:∀ x∈l,kE x=0
 asc:Asc none l
theorem YW{l:List TZ}:(Vl l).2=0<->VL l:=by
 unfold Vl;by_cases h:l.length>5000
 ·rw[if_pos h];constructor
  ·intro h;cases h
  ·intro h';have:=h'.len;omega
 ·rw[if_neg h];rw[Z0];exact⟨λ⟨a,b⟩=>⟨by omega,a,b⟩,λh=>⟨h.ok,h.asc⟩⟩
theorem ZH{l:List TZ}(h:VL l):Vl l=(0,0):=by
 have a:=YW.2 h;unfold Vl at a ⊢;rw[if_neg (by have:=h.len;omega)]at a ⊢;exact aK a
theorem Asc.lt:∀ {p:Option V8} {l:List TZ},Asc p l -> ∀ {i:Nat} {x y:TZ},l[i]?=some x->l[i+1]?=some y->SP x.1 y.1=true
 |p,x::[],_,0,_,_,_,h2=>by simp at h2
 |p,a::b::l,h,0,x,y,h1,h2=>by
  simp at h1 h2;subst h1;subst h2;exact h.2.1 _ rfl
 |p,a::l,h,i+1,x,y,h1,h2=>by
  simp at h1 h2;exact Asc.lt h.2 h1 h2
theorem VL.lt{l:List TZ}(h:VL l){i:Nat}{x y:TZ}(a:l[i]?=some x)(b:l[i+1]?=some y):SP x.1 y.1=true:=h.asc.lt a b
def kx(l:List TZ)(i:Nat):UE:=match l[i]? with
 |some x=>(x.1,false)
 |none=>([],true)
def w0(p q:UE):Bool:=if p.2≠q.2 then q.2 else if p.1≠q.1 then SP p.1 q.1 else true
def X5(a b:List TZ)(i j:Nat):Bool:=w0 (kx a i) (kx b j)
def To(a b:List TZ):Nat->Nat×Nat
 |0=>(0,0)
 |n+1=>if X5 a b (To a b n).1 (To a b n).2=true then((To a b n).1+1,(To a b n).2)else((To a b n).1,(To a b n).2+1)
def ab(a b:List TZ)(n:Nat):Option TZ:=if X5 a b (To a b n).1 (To a b n).2=true then a[(To a b n).1]? else b[(To a b n).2]?
structure Inv (a b:List TZ) (i j:Nat):Prop where
 ia:i<=a.length
 jb:j<=b.length
 pa:∀ i',i=i'+1 -> ∀ x y,a[i']?=some x->b[j]?=some y->SP y.1 x.1=false
 pb:∀ j',j=j'+1 -> ∀ x y,b[j']?=some x->a[i]?=some y->SP x.1 y.1=true
theorem bB{a b:List TZ}{i j:Nat}{x y:TZ}(c:a[i]?=some x)(d:b[j]?=some y):X5 a b i j = !SP y.1 x.1:=by
 unfold X5 w0 kx;rw[c,d];simp only[ne_eq,not_true,if_false];by_cases h:x.1=y.1
 ·rw[if_neg (by simp[h]),h,Vk];rfl
 ·rw[if_pos h];cases hs:SP x.1 y.1 with
  |true=>rw[Ur hs];rfl
  |false=>rw[ZA hs h];rfl
theorem gN{a b:List TZ}{i j:Nat}{x:TZ}(c:a[i]?=some x)(d:b[j]?=none):X5 a b i j=true:=by
 unfold X5 w0 kx;rw[c,d];rfl
theorem gO{a b:List TZ}{i j:Nat}{y:TZ}(c:a[i]?=none)(d:b[j]?=some y):X5 a b i j=false:=by
 unfold X5 w0 kx;rw[c,d];rfl
theorem dQ{a b:List TZ}{i j:Nat}(c:a[i]?=none)(d:b[j]?=none):X5 a b i j=true:=by
 unfold X5 w0 kx;rw[c,d];rfl
theorem Inv.zero(a b:List TZ):Inv a b 0 0:=⟨by omega,by omega,λ_ h=>by omega,λ_ h=>by omega⟩
theorem Inv.stepA{a b:List TZ}(va:VL a){i j:Nat}(h:Inv a b i j){x:TZ}(c:a[i]?=some x)(g:X5 a b i j=true):Inv a b (i+1) j:=by
 have hi:=(a8.1 c).1;refine⟨by omega,h.jb,λl e k y d f=> ?_,λj' e k y d f=> ?_⟩
 ·have:l=i:=by omega
  subst this;rw[c]at d;cases d;rw[bB c f]at g;simpa using g
 ·exact VD (h.pb j' e k x d c) (va.lt c f)
theorem Inv.stepB{a b:List TZ}(n:VL b){i j:Nat}(h:Inv a b i j){y:TZ}(c:b[j]?=some y)(g:X5 a b i j=false):Inv a b i (j+1):=by
 have p:=(a8.1 c).1;refine⟨h.ia,by omega,λm e k o d f=> ?_,λj' e k o d f=> ?_⟩
 ·have l:=h.pa m e k y d c;exact Ur (bW l (n.lt c f))
 ·have:j'=j:=by omega
  subst this;rw[c]at d;cases d;rw[bB f c]at g;simpa using g
theorem WX{a b:List TZ}(va:VL a)(f:VL b):∀ {n:Nat},n<=a.length+b.length->Inv a b (To a b n).1 (To a b n).2/\(To a b n).1+(To a b n).2=n
 |0,_=>⟨Inv.zero a b,rfl⟩
 |n+1,h=>by
  obtain⟨c,hs⟩:=WX va f (n:=n) (by omega);rw[show To a b (n+1)=if X5 a b (To a b n).1 (To a b n).2=true then((To a b n).1+1,(To a b n).2)else((To a b n).1,(To a b n).2+1)from rfl]
  revert c hs;generalize (To a b n).1=i;generalize (To a b n).2=j;intro c hs;cases g:X5 a b i j with
  |true=>
   have hi:i<a.length:=by
    refine l5 λh'=> ?_;have d:a[i]?=none:=a9 h';have e:j<b.length:=by have:=c.ia;omega
    rw[gO d (by simp[e]:b[j]?=some b[j])]at g;cases g
   have:=c.stepA va (by simp[hi]:a[i]?=some a[i]) g;rw[if_pos rfl];exact⟨this,by omega⟩
  |false=>
   have k:j<b.length:=by
    refine l5 λh'=> ?_;have d:b[j]?=none:=a9 h';cases e:a[i]? with
    |none=>rw[dQ e d]at g;cases g
    |some x=>rw[gN e d]at g;cases g
   have:=c.stepB f (by simp[k]:b[j]?=some b[j]) g;rw[if_neg (by simp)];exact⟨this,by omega⟩
end
section
open Go Sv
def Tt(p q:UE):V1:=([p,q],([0,if w0 p q=true then 1 else 0],if w0 p q=true then 0 else 1))
def Zu(a b:List TZ)(i j:Nat):VT:=([a,b],([(i:Int),(j:Int)],Tt (kx a i) (kx b j)))
def qf(a b:List TZ)(n:Nat):V8:=match ab a b n with
 |some x=>x.1
 |none=>[]
def fresh(a b:List TZ)(n:Nat)(x:TZ):Bool:=decide (n=0)||decide (qf a b (n-1)≠x.1)
def pz(a b:List TZ)(c:Bool):Nat->List TZ
 |0=>[]
 |n+1=>match ab a b n with
  |some x=>if(fresh a b n x && !(c&&x.2.2.1))=true then pz a b c n++[x]else pz a b c n
  |none=>pz a b c n
def shN(a b:List TZ)(c:Bool)(n:Nat):Uh:=(decide (n≠0),(if n=0 then[]else qf a b (n-1),c))
def yx(a b:List TZ)(c:Bool)(n:Nat):Xl:=(Zu a b (To a b n).1 (To a b n).2,(shN a b c n,(pz a b c n,(n:Int))))
def Tw(a b:List TZ):Nat->List TZ
 |0=>[]
 |n+1=>match ab a b n with
  |some x=>Tw a b n++[x]
  |none=>Tw a b n
section
variable{a b:List TZ}(va:VL a)(vb:VL b)
include va vb
theorem Vz{n:Nat}(h:n<a.length+b.length):∃ x,ab a b n=some x/\(x∈a\/x∈b):=by
 obtain⟨e,hs⟩:=WX va vb (n:=n) (by omega);unfold ab;revert e hs;generalize (To a b n).1=i;generalize (To a b n).2=j;intro e hs;cases g:X5 a b i j with
 |true=>
  have hi:i<a.length:=by
   refine l5 λh'=> ?_;have c:a[i]?=none:=a9 h';have d:j<b.length:=by have:=e.ia;omega
   rw[gO c (by simp[d]:b[j]?=some b[j])]at g;cases g
  exact⟨a[i],by simp[hi],.inl (tw hi)⟩
 |false=>
  have f:j<b.length:=by
   refine l5 λh'=> ?_;have c:b[j]?=none:=a9 h';cases d:a[i]? with
   |none=>rw[dQ d c]at g;cases g
   |some x=>rw[gN d c]at g;cases g
  exact⟨b[j],by simp[f],.inr (tw f)⟩
theorem kQ{n:Nat}{x:TZ}(h:ab a b n=some x):kE x=0:=by
 have:x∈a\/x∈b:=by
  unfold ab at h;split at h
  ·exact .inl (co h)
  ·exact .inr (co h)
 rcases this with h|h
 ·exact va.ok x h
 ·exact vb.ok x h
theorem gV{n:Nat}(k:n+1<a.length+b.length){x y:TZ}(d:ab a b n=some x)(c:ab a b (n+1)=some y):SP y.1 x.1=false:=by
 obtain⟨h,hs⟩:=WX va vb (n:=n) (by omega);unfold ab at d c;rw[show To a b (n+1)=if X5 a b (To a b n).1 (To a b n).2=true then((To a b n).1+1,(To a b n).2)else((To a b n).1,(To a b n).2+1)from rfl]at c
 revert h hs d c;generalize (To a b n).1=i;generalize (To a b n).2=j;intro d c h hs;cases g:X5 a b i j with
 |true=>
  rw[if_pos g]at d;simp only[g,if_true]at c;have e:=h.stepA va d g;cases f:X5 a b (i+1) j with
  |true=>rw[if_pos f]at c;exact Ur (va.lt d c)
  |false=>rw[if_neg (by simp[f])]at c;exact e.pa i rfl x y d c
 |false=>
  rw[if_neg (by simp[g])]at d;simp only[g,if_false,hC]at c;have e:=h.stepB vb d g;cases f:X5 a b i (j+1)with
  |true=>rw[if_pos f]at c;exact Ur (e.pb j rfl x y d c)
  |false=>rw[if_neg (by simp[f])]at c;exact Ur (vb.lt d c)
theorem VC:∀ {n:Nat},n<=a.length+b.length->(Tw a b n).length=n
 |0,_=>rfl
 |n+1,h=>by
  obtain⟨x,c,_⟩:=Vz va vb (n:=n) (by omega);unfold Tw;rw[c];simp[VC (n:=n) (by omega)]
theorem Yf:∀ {n k:Nat},n<=a.length+b.length->k<n->(Tw a b n)[k]?=ab a b k
 |n+1,k,h,hk=>by
  obtain⟨x,d,_⟩:=Vz va vb (n:=n) (by omega);unfold Tw;rw[d];show(Tw a b n++[x])[k]?=_;have e:=VC va vb (n:=n) (by omega);by_cases c:k<n
  ·rw[List.getElem?_append_left (by omega)];exact Yf (by omega) c
  ·have:k=n:=by omega
   subst this;rw[List.getElem?_append_right (by omega),e];simp[d]
theorem eW{n m:Nat}(d:m<=a.length+b.length)(h:n<=m):(Tw a b m).take n=Tw a b n:=by
 apply xm;intro k;rw[List.getElem?_take];by_cases c:k<n
 ·rw[if_pos c,Yf va vb d (by omega),Yf va vb (by omega) c]
 ·rw[if_neg c,a9];rw[VC va vb (by omega)];omega
end
end
section
open Go Sv
theorem Tf(n:Nat):Kh n=(n:Int):=rfl
theorem Td{α:Type}(l:List α):AS l=l.length:=rfl
theorem Y9(l:List UInt8):Mg l=l.length:=rfl
theorem YQ:He true=false:=rfl
theorem Zn:He false=true:=rfl
theorem UI{β:Type}(c:Bool)(x y:Unit->Option β):br (He c) x y=br c y x:=Sq c x y
theorem Tk{β:Type}{a b:Nat}(h:a<=b)(k:Unit->Option β):gd (CF a b) k=k ():=by rw[Ss,if_pos h]
theorem Zh(k:V8):W6 k=some (if k.length>32 then 3 else 0):=by
 unfold W6;rw[TF,Tf,Y9];by_cases h:k.length>32
 ·rw[if_pos (by omega),if_pos h]
 ·rw[if_neg (by omega),if_neg h]
theorem VO(x:TZ):UH x=some (kE x):=by
 unfold UH kE;rw[Zh,Sn,TI];by_cases e:x.1.length>32
 ·simp[e]
 rw[if_neg e,if_pos rfl,TF,Tf,Y9];by_cases f:x.2.1.length>64
 ·rw[if_pos (by omega),if_pos (.inr f)]
 rw[if_neg (by omega:¬ (x.2.1.length:Int)>64),if_neg (by omega),TL];by_cases b:x.2.2.1=true
 ·rw[if_pos b,UI,V2];by_cases c:x.2.1=[]
  ·rw[if_pos c,if_neg (by simp[c]),TH,TF];by_cases a:x.2.2.2<1
   ·simp[a]
   ·by_cases d:x.2.2.2>1000000000<;>simp[a,d]
  ·rw[if_neg c,if_pos ⟨b,c⟩]
 ·rw[if_neg b,if_neg (by simp[b]),TH,TF];by_cases a:x.2.2.2<1
  ·simp[a]
  ·by_cases d:x.2.2.2>1000000000<;>simp[a,d]
theorem WQ(l:List TZ)(q:l.length<=9223372036854775807):UU l=some (Vl l):=by
 unfold UU Vl;rw[TF,Tf,Td];by_cases h:l.length>5000
 ·rw[if_pos (by omega),if_pos h]
 rw[if_neg (by omega),if_neg h]
 have key:=iR (β:=Nat×(Int×Int×Int)×Unit) (l:=l) (λk (_:Int)=>((0:Int),((0:Int),(k:Int))))
  (λk x _=>if kE x≠0 then some (.dn (0,((kE x,((k:Int),(k:Int))),())))else if k>0 then
    (match l[k-1]? with
    |some y=>if SP y.1 x.1=true then some (.nx 0)else some (.dn (0,(((6:Int),((k:Int),(k:Int))),())))
    |none=>none)else some (.nx 0))
  (λ_=>some (1,((0,(0,(l.length:Int))),()))) (s:=(0,(0,0))) (0:Int) rfl q (f:=(λs0=>br (Sz s0.2.2 (Kh (AS l))) (λ_=>Rz s0.2.2 λB=>ix l B λz=>bd (UH z) λw=>br (Rw w 0) (λ_=>some (.dn ((0,((w,(s0.2.2,s0.2.2)),()))))) λ_=>br (Sx s0.2.2 0) (λ_=>Rz (SG .i64 s0.2.2 1) λC=>ix l C λD=>br (He (SP D.1 z.1)) (λ_=>some (.dn ((0,((6,(s0.2.2,s0.2.2)),()))))) λ_=>some (.nx ((s0.1,(s0.2.1,SC .i64 s0.2.2 1))))) λ_=>some (.nx ((s0.1,(s0.2.1,SC .i64 s0.2.2 1))))) λ_=>some (.dn ((1,(s0,()))))))
  (λk x j b=>by
   simp only;rw[ss b,SW,Ta,S4 b,VO,Sn,TI];by_cases c:kE x=0
   ·have A:k<l.length:=(a8.1 b).1;simp only[c,if_true,ne_eq,not_true,if_false];rw[TF];by_cases d:k>0
    ·rw[if_pos (by omega:(k:Int)>0),if_pos d,Sd (by omega),show((k:Int)-1)=((k-1:Nat):Int) by omega,Ta];have g:l[k-1]?=some l[k-1]:=by rw[ci (by omega)]
     rw[S4 g,g,UI,WP];simp only;by_cases a:SP l[k-1].1 x.1=true
     ·rw[if_pos a,if_pos a,Tn b q];rfl
     ·rw[if_neg a,if_neg a];rfl
    ·rw[if_neg (by omega:¬ (k:Int)>0),if_neg d,Tn b q];rfl
   ·simp only[c,if_false,ne_eq,not_false_iff,if_true];rfl)
  (λj=>by
   simp only
   rw[qC,R5];rfl)
 simp only[Tf,Td]at key;rw[key]
 have i : ∀ (m:List TZ) (k:Nat) (p:Option V8),l.drop k=m->(p=if k=0 then none else (l[k-1]?).map (·.1)) -> ∀ j,bd (bE (β:=Nat×(Int×Int×Int)×Unit) (λk x (_:Int)=>if kE x≠0 then some (.dn (0,((kE x,((k:Int),(k:Int))),()))) else if k>0 then
    (match l[k-1]? with
    |some y=>if SP y.1 x.1=true then some (.nx 0)else some (.dn (0,(((6:Int),((k:Int),(k:Int))),())))
    |none=>none)else some (.nx (0:Int))) (λ_=>some (1,((0,(0,(l.length:Int))),()))) m k j) (λr=>br (neq r.1 0) (λ_=>some (r.2.1.2.1,r.2.1.1)) λ_=>some ((0:Int),(0:Int)))=some (ZF p k m):=by
  intro m
  induction m with
  |nil=>intro k p _ _ j;rfl
  |cons x m u=>
   intro k p t n j
   have b:l[k]?=some x:=by
    have:=congrArg s7 t;rw[oy]at this;simpa using this
   have A:k<l.length:=(a8.1 b).1
   have e:l.drop (k+1)=m:=by
    have:=congrArg s6 t;rw[nP]at this;simpa using this
   unfold bE ZF;by_cases c:kE x=0
   ·simp only[c,ne_eq,not_true,if_false];by_cases d:k>0
    ·have g:l[k-1]?=some l[k-1]:=by rw[ci (by omega)]
     rw[if_pos d,g];rw[if_neg (by omega:¬ k=0),g]at n;subst n;simp only[xw];by_cases a:SP l[k-1].1 x.1=true
     ·rw[if_pos a,if_pos a];exact u (k+1) (some x.1) e (by rw[if_neg (by omega)];simp[b]) 0
     ·rw[if_neg a,if_neg a];rfl
    ·have o:k=0:=by omega
     subst o;rw[if_neg d];simp only[if_true]at n;subst n;exact u 1 (some x.1) e (by simp[b]) 0
   ·simp only[c,ne_eq,not_false_iff,if_true];rfl
 exact i l 0 none (by simp) (by simp) 0
theorem Z9{α β σ S:Type}{l:List α}(mk:Nat->σ->S)(F:List α->Nat->σ->Option β){f:S->Option (LR S β)}{s:S}(a:σ)(p:s=mk 0 a)(w:l.length<=9223372036854775807)
  (t:∀ a,f (mk l.length a)=uJ (F [] l.length a))
  (hc:∀ k x m a,l.drop k=x::m->l[k]?=some x->k<l.length->(∃ b,f (mk k a)=some (.nx (mk (k+1) b))/\F (x::m) k a=F m (k+1) b)\/f (mk k a)=uJ (F (x::m) k a)):loop f s=F l 0 a:=by
 subst p
 have e:∀ (m:List α) (k n:Nat) (a:σ),l.drop k=m->k<=l.length->m.length<n->IH n f (mk k a)=F m k a:=by
  intro m
  induction m with
  |nil=>
   intro k n a c r d;obtain⟨n,rfl⟩:∃ j,n=j+1:=⟨n-1,by omega⟩
   have h:k=l.length:=by
    have:=congrArg kd c;simp at this;omega
   subst h;unfold IH;rw[t];cases F [] l.length a<;>rfl
  |cons x m u=>
   intro k n a c r d;obtain⟨n,rfl⟩:∃ j,n=j+1:=⟨n-1,by omega⟩
   have o:l[k]?=some x:=by
    have:=congrArg s7 c;rw[oy]at this;simpa using this
   have g:k<l.length:=(a8.1 o).1
   have i:l.drop (k+1)=m:=by
    have:=congrArg s6 c;rw[nP]at this;simpa using this
   rcases hc k x m a c o g with⟨b,h1,q⟩|h1
   ·rw[UL h1,q];exact u (k+1) n b i (by omega) (by simp at d;omega)
   ·unfold IH;rw[h1];cases F (x::m) k a<;>rfl
 exact e l 0 _ a (by simp) (by omega) (by omega)
theorem rl{α:Type}{l:List α}{k:Nat}(h:k<l.length):Sz (k:Int) (l.length:Int)=true:=by unfold Sz;simp;omega
theorem re{α:Type}(l:List α):Sz (l.length:Int) (l.length:Int)=false:=by unfold Sz;simp
theorem Tv{α β:Type}{m:Option α}{x:α}{k:α->Option β}{r:Option β}(h:m=some x)(e:k x=r):bd m k=r:=by subst h;exact e
theorem aS(k:UE):WA k=some (k.2&&decide (k.1≠[])):=by
 unfold WA;rw[TL];cases h:k.2 with
 |true=>rw[if_pos rfl,Zt];simp[He]
 |false=>rw[if_neg (by simp)];rfl
def WM(k:UE):Prop:=k.2=true->k.1=[]
theorem po{k:UE}(h:WM k):WA k=some false:=by
 rw[aS];cases a:k.2 with
 |true=>simp[h a]
 |false=>rfl
theorem Ub(l:List TZ)(i:Nat):WM (kx l i):=by
 unfold kx WM;split<;>simp
theorem XR{l:List UE}(h:∀ k∈l,WM k)(b:l≠[])(e:l.length<=32):WF l=some 0:=by
 unfold WF;simp only[Tf,Td];rw[TD,TF,if_neg (by have:=eb.2 b;omega),if_neg (by omega)]
 rw[Z9 (l:=l) (σ:=Unit) (s:=(0,0)) (λk _=>((0:Int),(k:Int))) (λ_ _ _=>some (1,((0,(l.length:Int)),()))) () rfl (by omega) (λd=>by
  simp only;rw[re];rfl) (λk x m d _ a c=>.inl ⟨(),by
   simp only;rw[rl c,SW,Ta,S4 a,po (h x (co a)),Sn,R5,Tn a (by omega)],rfl⟩),Sn]
 rfl
theorem ZI{α:Type}{l:List α}(h:l.length<=1048576):(gd (CF (AS l) 1048576) λ_=>some l)=some l:=Tk h _
theorem db(p q:UE):W8 [p,q]=some (Tt p q):=by
 have g:w0 p q=(if p.2≠q.2 then q.2 else if p.1≠q.1 then SP p.1 q.1 else true):=rfl
 unfold W8;simp only[Tf,Td,cP,dc];rw[show SD .i64 2 ((0+1+1:Nat):Int)=4 from rfl,show SG .i64 4 1=3 from rfl];unfold Tq;rw[show Rz 4=λk=>k 4 from rfl];simp only[Tk (show 4<=1048576 by omega),ZI (show[p,q].length<=1048576 by simp),Sn];rw[show Rz ((0+1+1:Nat):Int)=λk=>k 2 from rfl];simp only[Tk (show 2<=1048576 by omega)];have i:∀ {w l:Int} {x:Nat×((Int×(List Int×(List UE×(List Int×Int))))×Unit)},x=(0,((0,([0,w,0,1],([p,q],([0,l],0)))),()))->(gd (KI 1 (AS x.2.1.2.1)) λ_=>ix x.2.1.2.1 1 λd=>some ((x.2.1.2.2.1,(x.2.1.2.2.2.1,d))))=some ([p,q],([0,l],w)):=λe=>by subst e;rfl
 have r:∀ {f:(Int×(List Int×(List UE×(List Int×Int))))->Option (LR (Int×(List Int×(List UE×(List Int×Int)))) (Nat×((Int×(List Int×(List UE×(List Int×Int))))×Unit)))} {w l:Int},f (3,([0,0,0,0],([p,q],([0,0],0))))=some (.nx (2,([0,0,0,1],([p,q],([0,0],0)))))->f (2,([0,0,0,1],([p,q],([0,0],0))))=some (.nx (1,([0,0,0,1],([p,q],([0,0],0))))) ->
   f (1,([0,0,0,1],([p,q],([0,0],0))))=some (.nx (0,([0,w,0,1],([p,q],([0,l],0)))))->f (0,([0,w,0,1],([p,q],([0,l],0))))=some (.dn (0,((0,([0,w,0,1],([p,q],([0,l],0)))),()))) ->
   loop f (3,([0,0,0,0],([p,q],([0,0],0))))=some (0,((0,([0,w,0,1],([p,q],([0,l],0)))),())):=λa b j m=>
  U1 (n:=4) (by omega) ((UL a).trans ((UL b).trans ((UL j).trans (UT m))))
 have o:∀ {β:Type} (A B:Option β),w0 p q=true->br (He (beq p.2 q.2)) (λ_=>br (He q.2) (λ_=>B) λ_=>A) (λ_=>br (He (seq p.1 q.1)) (λ_=>br (He (SP p.1 q.1)) (λ_=>B) λ_=>A) λ_=>A)=A:=fun {β} A B h=>by
  rw[g]at h;rw[UI (beq p.2 q.2),TL (beq p.2 q.2),UI q.2,TL q.2,UI (seq p.1 q.1),V2,UI (SP p.1 q.1),WP];by_cases a:p.2=q.2
  ·rw[if_neg (by simp[a])]at h;rw[if_pos (by simp[Sv.beq,a])];by_cases b:p.1=q.1
   ·rw[if_pos b]
   ·rw[if_neg b];rw[if_pos b]at h;rw[if_pos h]
  ·rw[if_pos a]at h;rw[if_neg (by simp[Sv.beq,a]),if_pos h]
 have c:∀ {β:Type} (A B:Option β),w0 p q≠true->br (He (beq p.2 q.2)) (λ_=>br (He q.2) (λ_=>B) λ_=>A) (λ_=>br (He (seq p.1 q.1)) (λ_=>br (He (SP p.1 q.1)) (λ_=>B) λ_=>A) λ_=>A)=B:=fun {β} A B h=>by
  rw[g]at h;rw[UI (beq p.2 q.2),TL (beq p.2 q.2),UI q.2,TL q.2,UI (seq p.1 q.1),V2,UI (SP p.1 q.1),WP];by_cases a:p.2=q.2
  ·rw[if_neg (by simp[a])]at h;rw[if_pos (by simp[Sv.beq,a])];by_cases b:p.1=q.1
   ·rw[if_neg (by simp[b])]at h;exact absurd rfl h
   ·rw[if_neg b];rw[if_pos b]at h;rw[if_neg h]
  ·rw[if_pos a]at h;rw[if_neg (by simp[Sv.beq,a]),if_neg h]
 rw[show Ra 4 (0:Int)=[0,0,0,0]from rfl,show Ra 2 (0:Int)=[0,0]from rfl];by_cases h:w0 p q=true
 ·refine Tv (x:=(0,((0,([0,0,0,1],([p,q],([0,1],0)))),()))) ?_ ?_;refine U1 (n:=4) (by omega) ?_;refine(UL (s':=(2,([0,0,0,1],([p,q],([0,0],0))))) ?_).trans ((UL (s':=(1,([0,0,0,1],([p,q],([0,0],0))))) ?_).trans ((UL (s':=(0,([0,0,0,1],([p,q],([0,1],0))))) ?_).trans (UT ?_)))
  ·rfl
  ·rfl
  ·exact o _ _ h
  ·rfl
  ·show some ([p,q],([0,1],0))=_;unfold Tt;simp[h]
 ·refine Tv (x:=(0,((0,([0,1,0,1],([p,q],([0,0],0)))),()))) ?_ ?_;refine U1 (n:=4) (by omega) ?_;refine(UL (s':=(2,([0,0,0,1],([p,q],([0,0],0))))) ?_).trans ((UL (s':=(1,([0,0,0,1],([p,q],([0,0],0))))) ?_).trans ((UL (s':=(0,([0,1,0,1],([p,q],([0,0],0))))) ?_).trans (UT ?_)))
  ·rfl
  ·rfl
  ·exact c _ _ h
  ·rfl
  ·show some ([p,q],([0,0],1))=_;unfold Tt;simp[h]
theorem aJ{p q:UE}(a:WM p)(b:WM q):VJ [p,q]=some (Tt p q,0):=by
 unfold VJ;rw[XR (by simp[a,b]) (by simp) (by simp),Sn,TI,if_pos rfl,db,Sn]
theorem eR{p q:UE}(c:WM p)(d:WM q):XW (Tt p q)=some (0,0):=by
 unfold XW;rw[show(Tt p q).1=[p,q]from rfl,XR (by simp[c,d]) (by simp) (by simp),Sn,TI,if_pos rfl,TI,if_pos (show Kh (AS (Tt p q).2.1)=Kh (AS [p,q])from rfl),db,Sn];simp only[Tf,Td]
 rw[Z9 (l:=(Tt p q).2.1) (σ:=Unit) (s:=(0,(0,0))) (λk _=>((0:Int),((k:Int),(0:Int)))) (λ_ _ _=>some (1,((0,(((Tt p q).2.1.length:Int),0)),()))) () rfl (show 2<=9223372036854775807 by omega) (λe=>by
  simp only;rw[re];rfl) (λk x m e _ a b=>.inl ⟨(),by
   simp only;rw[rl b,SW,Ta,S4 a,Ta,S4 a,TI,if_pos rfl,Tn a (show 2<=9223372036854775807 by omega)],rfl⟩),Sn]
 rw[show neq 1 0=false from rfl,R5,TI,if_pos rfl]
def wn(p q:UE):Nat:=if w0 p q=true then 0 else 1
def wk(p q:UE):UE:=if w0 p q=true then p else q
theorem eF(p q:UE):(Tt p q).2.2=(wn p q:Int):=by unfold Tt wn;split<;>rfl
theorem eE(p q:UE):(Tt p q).1[wn p q]?=some (wk p q):=by unfold Tt wn wk;split<;>rfl
theorem dZ{p q:UE}(a:WM p)(b:WM q):W7 (Tt p q)=some (if(wk p q).2=true then 12 else 0):=by
 unfold W7;rw[eR a b,Sn,TI,if_pos rfl,eF,Ta,S4 (eE p q),TL];split<;>rfl
theorem YC{p q:UE}(a:WM p)(b:WM q):VQ (Tt p q)=some (if(wk p q).2=true then(0,([],12))else((wn p q:Int),((wk p q).1,0))):=by
 unfold VQ;rw[dZ a b,Sn,TI,eF,Ta,S4 (eE p q)];by_cases h:(wk p q).2=true<;>simp[h]
def rk(p q k:UE):UE×UE:=if w0 p q=true then(k,q)else(p,k)
theorem kD(p q:UE):UZ (0,(1,([p,q],())))=some (w0 p q):=by
 unfold UZ w0;show br (He (beq p.2 q.2)) (λ_=>some q.2) (λ_=>br (He (seq p.1 q.1)) (λ_=>some (SP p.1 q.1)) λ_=>some (Sz 0 1))=_;rw[UI (beq p.2 q.2),TL (beq p.2 q.2),UI (seq p.1 q.1),V2];by_cases a:p.2=q.2
 ·rw[if_pos (show Sv.beq p.2 q.2=true by simp[Sv.beq,a]),if_neg (show ¬ p.2≠q.2 by simp[a])];by_cases b:p.1=q.1
  ·rw[if_pos b,if_neg (show ¬ p.1≠q.1 by simp[b])];rfl
  ·rw[if_neg b,if_pos b]
 ·rw[if_neg (show ¬ Sv.beq p.2 q.2=true by simp[Sv.beq,a]),if_pos a]
theorem kF(p q:UE):UZ (1,(0,([p,q],())))=some (!w0 p q):=by
 unfold UZ w0;show br (He (beq q.2 p.2)) (λ_=>some p.2) (λ_=>br (He (seq q.1 p.1)) (λ_=>some (SP q.1 p.1)) λ_=>some (Sz 1 0))=_;rw[UI (beq q.2 p.2),TL (beq q.2 p.2),UI (seq q.1 p.1),V2];by_cases b:p.2=q.2
 ·rw[if_pos (show Sv.beq q.2 p.2=true by simp[Sv.beq,b]),if_neg (show ¬ p.2≠q.2 by simp[b])];by_cases a:p.1=q.1
  ·rw[if_pos a.symm,if_neg (show ¬ p.1≠q.1 by simp[a])];rfl
  ·rw[if_neg (show ¬ q.1=p.1 from λe=>a e.symm),if_pos a];cases hs:SP p.1 q.1 with
   |true=>rw[Ur hs];rfl
   |false=>rw[ZA hs a];rfl
 ·rw[if_neg (show ¬ Sv.beq q.2 p.2=true by simp[Sv.beq,Ne.symm b]),if_pos b];cases c:p.2<;>cases d:q.2<;>simp_all
theorem YM{p q k:UE}(y:WM p)(z:WM q)(x:WM k)(A:(wk p q).2=false)(l:k.2=true\/SP k.1 (wk p q).1=false) :
  ∃ n,VF (Tt p q,k)=some (Tt (rk p q k).1 (rk p q k).2,(n,0)):=by
 have g:(Tt p q).1.length<=1048576:=by show 2<=_;omega
 have c:(Tt p q).2.1.length<=1048576:=by show 2<=_;omega
 have i:lset (Tt p q).1 (wn p q) k=[(rk p q k).1,(rk p q k).2]:=by unfold Tt wn rk;split<;>rfl
 have d:(Tt p q).2.1=[0,(1-(wn p q:Int))]:=by unfold Tt wn;split<;>rfl
 have o:wn p q=0\/wn p q=1:=by unfold wn;split<;>simp
 have up:∀ {f:(Int×(Int×(Unit×(List Int×Int))))->Option (LR (Int×(Int×(Unit×(List Int×Int)))) (Nat×((Int×(Int×(Unit×(List Int×Int))))×Unit)))},
   (f=λa=>br (OX (S0 .i64 a.2.1 2) 0) (λ_=>some (.dn ((0,((a.1,(S0 .i64 a.2.1 2,((),a.2.2.2))),()))))) λ_=>Rz (S0 .i64 a.2.1 2) λu=>gd (KI u (AS a.2.2.2.1)) λ_=>ix a.2.2.2.1 u λs=>bd (UZ ((s,(a.2.2.2.2,([(rk p q k).1,(rk p q k).2],()))))) λr=>br r (λ_=>Rz (S0 .i64 a.2.1 2) λj=>gd (KI j (AS a.2.2.2.1)) λ_=>ix a.2.2.2.1 j λt=>Rz (S0 .i64 a.2.1 2) λe=>gd (KI e (AS a.2.2.2.1)) λ_=>ix a.2.2.2.1 e λD=>some (.nx ((SC .i64 a.1 1,(S0 .i64 a.2.1 2,((),(lset a.2.2.2.1 e a.2.2.2.2,t))))))) λ_=>some (.nx ((SC .i64 a.1 1,(S0 .i64 a.2.1 2,((),a.2.2.2))))))
   -> loop f (0,((2:Int)+wn p q,((),([0,(1-(wn p q:Int))],(wn p q:Int)))))=some (0,((1,(0,((),(Tt (rk p q k).1 (rk p q k).2).2))),())):=by
  intro f w;subst w;refine U1 (n:=2) (by omega) ((UL (s':=(1,(1,((),(Tt (rk p q k).1 (rk p q k).2).2)))) ?_).trans (UT rfl));rcases o with h|h
  ·rw[h]
   have B:w0 p q=true:=by
    unfold wn at h;by_cases hh:w0 p q=true
    ·exact hh
    ·rw[if_neg hh]at h;cases h
   show bd (UZ (1,(0,([(rk p q k).1,(rk p q k).2],())))) _=_;rw[kF,Sn];unfold Tt;cases C:w0 (rk p q k).1 (rk p q k).2<;>rfl
  ·rw[h];show bd (UZ (0,(1,([(rk p q k).1,(rk p q k).2],())))) _=_;rw[kD,Sn];unfold Tt;cases C:w0 (rk p q k).1 (rk p q k).2<;>rfl
 unfold VF;simp only[dZ y z,A,Sn,TI,if_true,if_false,hC];rw[XR (by simp[x]) (by simp) (by simp),Sn];simp only[if_true,UI];rw[TL];unfold Tq Tz;simp only[eF,Ta,S4 (eE p q),Tk g,Tk c,Sn,WP,Su,Td,Tf,i];have m:wn p q<(Tt p q).1.length:=by show wn p q<2;omega
 have hi:SC .i64 (([(rk p q k).1,(rk p q k).2].length:Nat):Int) (wn p q:Int)=(2:Int)+wn p q:=by
  rw[Sb (by simp;omega)];rfl
 rw[hi,d];simp only[Td,Su]at up;have key:=up rfl;rw[if_pos m];by_cases b:k.2=true
 ·rw[if_pos b,key,Sn];exact⟨_,rfl⟩
 ·rw[if_neg b,if_neg (by rcases l with h|h;exact absurd h b;rw[h];simp),key,Sn]
  exact⟨_,rfl⟩
end
section
open Go Sv
theorem VA{S β:Type}{f:S->Option (LR S β)}{s0 s1 s2:S}{r:β}(a:f s0=some (.nx s1))(b:f s1=some (.nx s2))(c:f s2=some (.dn r)):loop f s0=some r:=
 U1 (n:=3) (by omega) ((UL a).trans ((UL b).trans (UT c)))
theorem af{α β:Type}{c:Bool}{n:Int}{l:List α}{K:Nat->α->Option β}{E:Unit->Option β}(k:Nat){x:α}(hc:c=true)(b:n=(k:Int))(d:l[k]?=some x):br c (λ_=>Rz n λa=>ix l a λe=>K a e) E=K k x:=by
 subst hc;subst b;rw[SW,Ta,S4 d]
theorem WW{α β:Type}{n:Int}{l:List α}{K:Nat->α->Option β}(k:Nat){x:α}(b:n=(k:Int))(c:l[k]?=some x):Rz n (λa=>ix l a λd=>K a d)=K k x:=by
 subst b;rw[Ta,S4 c]
theorem Xd{l:List TZ}{i:Nat}(h:i<=l.length):UV (l,(i:Int))=some (kx l i):=by
 unfold UV kx;simp only[Tf,Td];rw[TD];by_cases hi:i=l.length
 ·rw[if_pos (by omega),a9 (by omega)]
 ·have a:l[i]?=some l[i]:=by rw[ci (by omega)]
  rw[if_neg (by omega),Ta,S4 a,a]
section
variable{a b:List TZ}(va:VL a)(vb:VL b)
theorem pK{i j:Nat}(hi:i<=a.length)(c:j<=b.length):W9 ([a,b],[(i:Int),(j:Int)])=some (Tt (kx a i) (kx b j)):=by
 unfold W9;refine Tv (x:=(0,((2,[kx a i,kx b j]),()))) (VA (s1:=(1,[kx a i,([],false)])) (s2:=(2,[kx a i,kx b j])) ?_ ?_ rfl) ?_
 ·show bd (UV (a,(i:Int))) _=_;rw[Xd hi];rfl
 ·show bd (UV (b,(j:Int))) _=_;rw[Xd c];rfl
 ·show bd (VJ [kx a i,kx b j]) _=_;rw[aJ (Ub _ _) (Ub _ _)];rfl
include va vb
theorem Zz:UU a=some (0,0):=by
 rw[WQ _ (by have:=va.len;omega),ZH va]
theorem Zp:WH [a,b]=some (0,0):=by
 unfold WH;refine Tv (x:=(1,((0,(0,2)),()))) (VA (s1:=(0,(0,1))) (s2:=(0,(0,2))) ?_ ?_ rfl) rfl
 ·show bd (UU a) _=_;rw[Zz va va];rfl
 ·show bd (UU b) _=_;rw[Zz vb vb];rfl
theorem hG(c:Bool):XI ([a,b],c)=some (yx a b c 0,(0,0)):=by
 unfold XI;rw[Zp va vb,Sn,TI,if_pos rfl];refine Tv (x:=(0,((2,[kx a 0,kx b 0]),()))) (VA (s1:=(1,[kx a 0,([],false)])) (s2:=(2,[kx a 0,kx b 0])) ?_ ?_ rfl) ?_
 ·show bd (UV (a,((0:Nat):Int))) _=_;rw[Xd (by omega)];rfl
 ·show bd (UV (b,((0:Nat):Int))) _=_;rw[Xd (by omega)];rfl
 ·show bd (VJ [kx a 0,kx b 0]) _=_;rw[aJ (Ub _ _) (Ub _ _)];rfl
end
theorem YG(x:Bool):Sv.beq x x=true:=by cases x<;>rfl
theorem Y7(x:V8):seq x x=true:=by rw[Zc]
theorem eJ(l:List UE)(h:l.length<=1000):UC (l,l)=some true:=by
 unfold UC;simp only[Tf,Td]
 rw[TI,if_pos rfl,Z9 (l:=l) (σ:=Unit) (s:=(0,false)) (λk _=>((k:Int),false)) (λ_ _ _=>some (1,(((l.length:Int),false),()))) () rfl (by omega) (λc=>by
  simp only;rw[re];rfl) (λk x m c _ a b=>.inl ⟨(),by
   simp only;rw[rl b,SW,Ta,S4 a,Ta,S4 a,Y7,YG,show He (Ni true (Ni true true))=false from rfl,R5,Tn a (by omega)],rfl⟩),Sn]
 rfl
theorem eI(l:List Int)(h:l.length<=1000):Ts (l,l)=some true:=by
 unfold Ts;simp only[Tf,Td]
 rw[TI,if_pos rfl,Z9 (l:=l) (σ:=Unit) (s:=(0,false)) (λk _=>((k:Int),false)) (λ_ _ _=>some (1,(((l.length:Int),false),()))) () rfl (by omega) (λc=>by
  simp only;rw[re];rfl) (λk x m c _ a b=>.inl ⟨(),by
   simp only;rw[rl b,SW,Ta,S4 a,Ta,S4 a,TI,if_pos rfl,Tn a (by omega)],rfl⟩),Sn]
 rfl
theorem gx(t:V1)(a:t.1.length<=1000)(b:t.2.1.length<=1000):Wj (t,t)=some true:=by
 unfold Wj;rw[TD,if_pos rfl,eJ _ a,Sn,SW,eI _ b];rfl
theorem gy(p q:UE):Wj (Tt p q,Tt p q)=some true:=gx _ (show 2<=1000 by omega) (show 2<=1000 by omega)
theorem jf{a b:List TZ}{i j:Nat}(h:X5 a b i j=true):wk (kx a i) (kx b j)=kx a i/\wn (kx a i) (kx b j)=0:=by
 unfold X5 at h;unfold wk wn;rw[if_pos h,if_pos h];exact⟨rfl,rfl⟩
theorem jg{a b:List TZ}{i j:Nat}(h:X5 a b i j=false):wk (kx a i) (kx b j)=kx b j/\wn (kx a i) (kx b j)=1:=by
 unfold X5 at h;unfold wk wn;rw[if_neg (by simp[h]),if_neg (by simp[h])];exact⟨rfl,rfl⟩
theorem gI(x y:V8):VV (x,y)=some (if SP x y=true then -1 else if SP y x=true then 1 else 0):=by
 unfold VV V3;simp only[Y7,YQ,Sn,R5];rw[WP,WP];split
 ·rfl
 ·split<;>rfl
theorem gH(x y:Int):VB (x,y)=some (if x<y then -1 else if x>y then 1 else 0):=by
 unfold VB Wp;simp only[Sn,TI,if_true,TH,TF];split
 ·rfl
 ·split<;>rfl
theorem kT(x y:Int):Xn [x,y]=some (if x≠0 then x else y):=by
 unfold Xn;by_cases h:x=0
 ·rw[if_neg (by simp[h])];by_cases a:y=0
  ·refine Tv (x:=(1,((0,2),()))) (VA (s1:=(0,1)) (s2:=(0,2)) ?_ ?_ rfl) (by rw[a];rfl)
   ·refine(af 0 rfl rfl rfl).trans ?_;rw[TI,if_pos h];rfl
   ·refine(af 1 rfl rfl rfl).trans ?_;rw[TI,if_pos a];rfl
  ·refine Tv (x:=(0,((y,1),()))) (U1 (n:=2) (by omega) ((UL (s':=(0,1)) ?_).trans (UT ?_))) rfl
   ·refine(af 0 rfl rfl rfl).trans ?_;rw[TI,if_pos h];rfl
   ·refine(af 1 rfl rfl rfl).trans ?_;rw[TI,if_neg a]
 ·rw[if_pos h];refine Tv (x:=(0,((x,0),()))) (U1 (n:=1) (by omega) (UT ?_)) rfl;refine(af 0 rfl rfl rfl).trans ?_;rw[TI,if_neg h]
section
variable{a b:List TZ}(va:VL a)(vb:VL b)
include va vb
theorem Za{i j:Nat}(I:Inv a b i j):WG (Zu a b i j)=some (0,0):=by
 unfold WG;rw[show(Zu a b i j).1=[a,b]from rfl,Zp va vb,Sn,TI,if_pos rfl];rw[show(Zu a b i j).2.1=[(i:Int),(j:Int)]from rfl,TI,if_pos (show Kh (AS [(i:Int),(j:Int)])=Kh (AS [a,b])from rfl)];refine Tv (x:=(1,((0,(0,2)),()))) (VA (s1:=(0,(0,1))) (s2:=(0,(0,2))) ?_ ?_ rfl) ?_
 ·refine(af 0 rfl rfl rfl).trans ?_;rw[TH,if_neg (by omega),show Rz (((0:Int),((0:Int),(0:Int))).2.2)=λ(k:Nat->Option (LR (Int×(Int×Int)) (Nat×((Int×(Int×Int))×Unit))))=>k 0 from rfl];simp only;rw[S4 (x:=a) rfl,TF,if_neg (by have:=I.ia;simp only[Tf,Td];omega)];rfl
 ·refine(af 1 rfl rfl rfl).trans ?_;rw[TH,if_neg (by omega),show Rz (((0:Int),((0:Int),(1:Int))).2.2)=λ(k:Nat->Option (LR (Int×(Int×Int)) (Nat×((Int×(Int×Int))×Unit))))=>k 1 from rfl];simp only;rw[S4 (x:=b) rfl,TF,if_neg (by have:=I.jb;simp only[Tf,Td];omega)];rfl
 rw[show neq ((1:Nat),(((0:Int),((0:Int),(2:Int))),())).1 0=false from rfl,R5,pK I.ia I.jb,Sn,show(Zu a b i j).2.2=Tt (kx a i) (kx b j)from rfl,gy,Sn,show He true=false from rfl,R5,YC (Ub _ _) (Ub _ _),Sn];by_cases c:(wk (kx a i) (kx b j)).2=true
 ·rw[if_pos c];rfl
 rw[if_neg c,TI,if_pos rfl]
 have s:∀ {x:TZ} {f:Nat},i=f+1->a[f]?=some x -> ¬ (if(if SP x.1 (wk (kx a i) (kx b j)).1=true then(-1:Int)else if SP (wk (kx a i) (kx b j)).1 x.1=true then 1 else 0)≠0 then(if SP x.1 (wk (kx a i) (kx b j)).1=true then(-1:Int)else if SP (wk (kx a i) (kx b j)).1 x.1=true then 1 else 0)else(if(0:Int)<(wn (kx a i) (kx b j):Int)then -1 else if(0:Int)>(wn (kx a i) (kx b j):Int)then 1 else 0))>0:=by
  intro x f hi d
  have p:SP (wk (kx a i) (kx b j)).1 x.1=false:=by
   cases g:X5 a b i j with
   |true=>
    rw[(jf g).1]at c ⊢;unfold kx at c ⊢;cases e:a[i]? with
    |none=>rw[e]at c;exact absurd rfl c
    |some y=>rw[hi]at e;exact Ur (va.lt d e)
   |false=>
    rw[(jg g).1]at c ⊢;unfold kx at c ⊢;cases e:b[j]? with
    |none=>rw[e]at c;exact absurd rfl c
    |some y=>exact I.pa f hi x y d e
  rw[p];have:¬ (0:Int)>(wn (kx a i) (kx b j):Int):=by omega
  by_cases hs:SP x.1 (wk (kx a i) (kx b j)).1=true
  ·simp[hs]
  ·simp only[hs,hC,if_false,ne_eq,not_true,this];split<;>omega
 have t:∀ {y:TZ} {j':Nat},j=j'+1->b[j']?=some y -> ¬ (if(if SP y.1 (wk (kx a i) (kx b j)).1=true then(-1:Int)else if SP (wk (kx a i) (kx b j)).1 y.1=true then 1 else 0)≠0 then(if SP y.1 (wk (kx a i) (kx b j)).1=true then(-1:Int)else if SP (wk (kx a i) (kx b j)).1 y.1=true then 1 else 0)else(if(1:Int)<(wn (kx a i) (kx b j):Int)then -1 else if(1:Int)>(wn (kx a i) (kx b j):Int)then 1 else 0))>0:=by
  intro y j' r e
  have q:SP y.1 (wk (kx a i) (kx b j)).1=true:=by
   cases g:X5 a b i j with
   |true=>
    rw[(jf g).1]at c ⊢;unfold kx at c ⊢;cases d:a[i]? with
    |none=>rw[d]at c;exact absurd rfl c
    |some x=>exact I.pb j' r y x e d
   |false=>
    rw[(jg g).1]at c ⊢;unfold kx at c ⊢;cases d:b[j]? with
    |none=>rw[d]at c;exact absurd rfl c
    |some x=>rw[r]at d;exact vb.lt e d
  rw[q];simp
 refine Tv (x:=(1,((0,(0,2)),()))) (VA (s1:=(0,(0,1))) (s2:=(0,(0,2))) ?_ ?_ rfl) rfl
 ·refine(af 0 rfl rfl rfl).trans ?_;rw[TF];by_cases h:(i:Int)>0
  ·rw[if_pos h];obtain⟨f,l⟩:∃ f,i=f+1:=⟨i-1,by omega⟩;have m:f<a.length:=by have:=I.ia;omega
   have d:a[f]?=some a[f]:=by simp[m]
   refine(WW 0 rfl (x:=a) rfl).trans ((WW f ?_ d).trans ?_)
   ·rw[Sd (by have:=va.len;have:=I.ia;omega)];omega
   rw[gI,Sn];show bd (VB (0,(wn (kx a i) (kx b j):Int))) _=_;rw[gH,Sn,kT,Sn,TF,if_neg (s l d)];rfl
  ·rw[if_neg h];rfl
 ·refine(af 1 rfl rfl rfl).trans ?_;rw[TF];by_cases h:(j:Int)>0
  ·rw[if_pos h];obtain⟨j',n⟩:∃ j',j=j'+1:=⟨j-1,by omega⟩;have o:j'<b.length:=by have:=I.jb;omega
   have e:b[j']?=some b[j']:=by simp[o]
   refine(WW 1 rfl (x:=b) rfl).trans ((WW j' ?_ e).trans ?_)
   ·rw[Sd (by have:=vb.len;have:=I.jb;omega)];omega
   rw[gI,Sn];show bd (VB (1,(wn (kx a i) (kx b j):Int))) _=_;rw[gH,Sn,kT,Sn,TF,if_neg (t n e)];rfl
  ·rw[if_neg h];rfl
end
end
section
open Go Sv
theorem XL{l:List TZ}{i:Nat}{x:TZ}(h:l[i]?=some x):kx l i=(x.1,false):=by unfold kx;rw[h]
theorem Z7{l:List TZ}{i:Nat}(h:l[i]?=none):kx l i=([],true):=by unfold kx;rw[h]
theorem aj{l:List TZ}(v:VL l){i:Nat}{x:TZ}(h:l[i]?=some x):(kx l (i+1)).2=true\/SP (kx l (i+1)).1 x.1=false:=by
 cases a:l[i+1]? with
 |none=>rw[Z7 a];exact .inl rfl
 |some y=>rw[XL a];exact .inr (Ur (v.lt h a))
theorem ZQ{α β:Type}{n:Int}{l:List α}{K:Nat->α->Option β}(k:Nat){x:α}(c:n=(k:Int))(b:l[k]?=some x):Rz n (λa=>gd (KI a (AS l)) λ_=>ix l a λd=>K a d)=K k x:=by
 subst c;rw[Ta,Su,if_pos (show k<AS l from(a8.1 b).1),S4 b]
section
variable{a b:List TZ}(va:VL a)(vb:VL b)
include va vb
theorem pw{i j:Nat}(I:Inv a b i j){x:TZ}(c:a[i]?=some x)(g:X5 a b i j=true):Uy (Zu a b i j)=some (x,(0,(Zu a b (i+1) j,0))):=by
 obtain⟨f,l⟩:=jf g;have hi:=(a8.1 c).1;have n:=va.len;have e:(wk (kx a i) (kx b j)).2=false:=by rw[f,XL c]
 obtain⟨m,h⟩:=YM (p:=kx a i) (q:=kx b j) (k:=kx a (i+1)) (Ub _ _) (Ub _ _) (Ub _ _) e (by rw[f,XL c];exact aj va c)
 have d:rk (kx a i) (kx b j) (kx a (i+1))=(kx a (i+1),kx b j):=by
  unfold rk;unfold X5 at g;rw[if_pos g]
 rw[d]at h;unfold Uy;rw[Za va vb I,Sn,TI,if_pos rfl];unfold Tp Tz;refine Tv (ZI (show 2<=1048576 by omega)) (Tv (ZI (show 2<=1048576 by omega)) ?_);rw[show(Zu a b i j).2.2=Tt (kx a i) (kx b j)from rfl,YC (Ub _ _) (Ub _ _),if_neg (by simp[e]),Sn,TI,if_pos rfl,l];refine(ZQ 0 rfl (x:=a) rfl).trans ((ZQ 0 rfl (x:=(i:Int)) rfl).trans ((WW i rfl c).trans ((ZQ 0 rfl (x:=(i:Int)) rfl).trans ((ZQ 0 rfl (x:=(i:Int)) rfl).trans ((ZQ 0 rfl (x:=a) rfl).trans ((ZQ 0 rfl (x:=SC .i64 (i:Int) 1) rfl).trans ?_))))));rw[Ti (by omega),Xd (show i+1<=a.length by omega),Sn,h,Sn];rfl
theorem px{i j:Nat}(I:Inv a b i j){y:TZ}(c:b[j]?=some y)(g:X5 a b i j=false):Uy (Zu a b i j)=some (y,(1,(Zu a b i (j+1),0))):=by
 obtain⟨f,l⟩:=jg g;have hi:=(a8.1 c).1;have n:=vb.len;have e:(wk (kx a i) (kx b j)).2=false:=by rw[f,XL c]
 obtain⟨m,h⟩:=YM (p:=kx a i) (q:=kx b j) (k:=kx b (j+1)) (Ub _ _) (Ub _ _) (Ub _ _) e (by rw[f,XL c];exact aj vb c)
 have d:rk (kx a i) (kx b j) (kx b (j+1))=(kx a i,kx b (j+1)):=by
  unfold rk;unfold X5 at g;rw[if_neg (by simp[g])]
 rw[d]at h;unfold Uy;rw[Za va vb I,Sn,TI,if_pos rfl];unfold Tp Tz;refine Tv (ZI (show 2<=1048576 by omega)) (Tv (ZI (show 2<=1048576 by omega)) ?_);rw[show(Zu a b i j).2.2=Tt (kx a i) (kx b j)from rfl,YC (Ub _ _) (Ub _ _),if_neg (by simp[e]),Sn,TI,if_pos rfl,l];refine(ZQ 1 rfl (x:=b) rfl).trans ((ZQ 1 rfl (x:=(j:Int)) rfl).trans ((WW j rfl c).trans ((ZQ 1 rfl (x:=(j:Int)) rfl).trans ((ZQ 1 rfl (x:=(j:Int)) rfl).trans ((ZQ 1 rfl (x:=b) rfl).trans ((ZQ 1 rfl (x:=SC .i64 (j:Int) 1) rfl).trans ?_))))));rw[Ti (by omega),Xd (show j+1<=b.length by omega),Sn,h,Sn];rfl
def Zj(a b:List TZ)(n:Nat):VT:=Zu a b (To a b n).1 (To a b n).2
def bU(a b:List TZ)(n:Nat):Nat:=if X5 a b (To a b n).1 (To a b n).2=true then 0 else 1
theorem bG{n:Nat}{x:TZ}(h:n<a.length+b.length)(c:ab a b n=some x):Uy (Zj a b n)=some (x,((bU a b n:Int),(Zj a b (n+1),0))):=by
 obtain⟨d,hs⟩:=WX va vb (n:=n) (by omega);unfold Zj bU;rw[show To a b (n+1)=if X5 a b (To a b n).1 (To a b n).2=true then((To a b n).1+1,(To a b n).2)else((To a b n).1,(To a b n).2+1)from rfl]
 unfold ab at c;cases g:X5 a b (To a b n).1 (To a b n).2 with
 |true=>rw[if_pos g]at c;rw[pw va vb d c g];simp
 |false=>rw[if_neg (by simp[g])]at c;rw[px va vb d c g];simp
end
theorem bV{s:Uh}(b:s.2.1.length<=32)(a:s.1=false->s.2.1=[]):WU s=some 0:=by
 unfold WU;rw[Zh,Sn,if_neg (by omega),TI,if_pos rfl,UI,TL];cases h:s.1 with
 |true=>rfl
 |false=>rw[if_neg (by simp),UI,V2,if_pos (a h)]
def keep(s:Uh)(x:TZ):Bool:=!(s.1&&decide (x.1=s.2.1)) && !(s.2.2&&x.2.2.1)
theorem ic{s:Uh}{x:TZ}(e:s.2.1.length<=32)(f:s.1=false->s.2.1=[])(g:kE x=0)(a:s.1=true->SP x.1 s.2.1=false):U8 (s,x)=some (keep s x,((true,(x.1,s.2.2)),0)):=by
 unfold U8 keep;rw[bV e f,Sn,TI,if_pos rfl,VO,g,Sn,TI,if_pos rfl];obtain⟨s1,s2,c⟩:=s;obtain⟨h,i,d,j⟩:=x;simp only at a ⊢;cases s1 with
 |true=>
  have:=a rfl;simp only[SW,R5,WP,V2,this,hC,if_false];by_cases b:h=s2
  ·simp[b]
  ·simp only[b,if_false,decide_false];cases c<;>cases d<;>rfl
 |false=>
  simp only[SW,R5];cases c<;>cases d<;>rfl
def WO:Uh->List TZ->List TZ
 |_,[]=>[]
 |s,x::l=>(if keep s x=true then[x]else[])++WO (true,(x.1,s.2.2)) l
theorem YX:∀ (s:Uh) (l:List TZ),(WO s l).length<=l.length
 |_,[]=>eg _
 |s,x::l=>by
  have:=YX (true,(x.1,s.2.2)) l;unfold WO;by_cases h:keep s x=true
  ·rw[if_pos h];simp;omega
  ·rw[if_neg h];simp;omega
def aG:Uh->List TZ->Prop
 |_,[]=>True
 |s,x::l=>kE x=0/\(s.1=true->SP x.1 s.2.1=false)/\aG (true,(x.1,s.2.2)) l
theorem bD{x:TZ}(h:kE x=0):x.1.length<=32:=by
 unfold kE at h;by_cases hh:x.1.length>32\/x.2.1.length>64
 ·rw[if_pos hh]at h;cases h
 ·omega
theorem U4{α β σ S:Type}{l:List α}(mk:Nat->σ->S)(Inv:List α->Nat->σ->Prop)(F:List α->Nat->σ->β){f:S->Option (LR S β)}{s:S}(a:σ)(p:s=mk 0 a)(z:l.length<=9223372036854775807)(hi:Inv l 0 a)
  (w:∀ a,Inv [] l.length a->f (mk l.length a)=some (.dn (F [] l.length a)))
  (hc:∀ k x m a,l.drop k=x::m->l[k]?=some x->k<l.length->Inv (x::m) k a -> ∃ b,f (mk k a)=some (.nx (mk (k+1) b))/\Inv m (k+1) b/\F (x::m) k a=F m (k+1) b):loop f s=some (F l 0 a):=by
 subst p
 have e:∀ (m:List α) (k n:Nat) (a:σ),l.drop k=m->k<=l.length->m.length<n->Inv m k a->IH n f (mk k a)=some (F m k a):=by
  intro m
  induction m with
  |nil=>
   intro k n a c u d hi;obtain⟨n,rfl⟩:∃ j,n=j+1:=⟨n-1,by omega⟩
   have h:k=l.length:=by
    have:=congrArg kd c;simp at this;omega
   subst h;exact UT (w a hi)
  |cons x m y=>
   intro k n a c u d hi;obtain⟨n,rfl⟩:∃ j,n=j+1:=⟨n-1,by omega⟩
   have o:l[k]?=some x:=by
    have:=congrArg s7 c;rw[oy]at this;simpa using this
   have g:k<l.length:=(a8.1 o).1
   have i:l.drop (k+1)=m:=by
    have:=congrArg s6 c;rw[nP]at this;simpa using this
   obtain⟨b,q,r,t⟩:=hc k x m a c o g hi;rw[UL q,t];exact y (k+1) n b i (by omega) (by simp at d;omega) r
 exact e l 0 _ a (by simp) (by omega) (by omega) hi
def U5:Uh->List TZ->Uh
 |s,[]=>s
 |s,x::l=>U5 (true,(x.1,s.2.2)) l
theorem cb{β:Type}{out:List TZ}{n:Nat}(h:out.length<=n)(a:n<=20000)(x:TZ)(k:Unit->Option β):gd (CF (BF (AS out) (AS [x])) 1048576) k=k ():=Tk (by simp only[BF,AS,cP,dc];omega) k
theorem gv{l:List TZ}{b:Bool}(B:l.length<=20000)(A:aG (false,([],b)) l):Wt (l,b)=some (WO (false,([],b)) l,(0,0)):=by
 unfold Wt VS;simp only[Tf,Td];rw[TF,if_neg (by omega),Sn]
 rw[U4 (l:=l) (σ:=Uh×List TZ) (s:=(0,(0,(0,((false,([],b)),[]))))) (λk a=>((0:Int),((k:Int),((0:Int),a))))
  (λm k a=>aG a.1 m/\a.1.2.1.length<=32/\(a.1.1=false->a.1.2.1=[])/\a.2.length<=k/\k+m.length=l.length)
  (λm k a=>(1,((0,((l.length:Int),(0,(U5 a.1 m,a.2++WO a.1 m)))),()))) ((false,([],b)),[]) rfl (by omega) ⟨A,by simp,λ_=>rfl,by simp,by simp⟩ ?_ ?_,Sn]
 ·simp;rfl
 ·intro a _;simp only;rw[re,R5];simp[U5,WO]
 ·rintro k x m ⟨s,out⟩ C r z ⟨⟨d,e,g⟩,i,j,n,o⟩;simp only at d e g i j n ⊢;refine⟨((true,(x.1,s.2.2)),out++if keep s x=true then[x]else[]),?_,⟨g,bD d,(λh=>by cases h),?_,by simp at o;omega⟩,?_⟩
  ·rw[rl z,SW,Ta,S4 r,bV i j,Sn,TI,if_pos rfl,VO,d,Sn,TI,if_pos rfl];unfold keep UP;obtain⟨s1,s2,t⟩:=s;obtain⟨f,u,c,w⟩:=x;simp only[Sn,Tn r (show l.length<=9223372036854775807 by omega)]at e ⊢;have q:∀ {β:Type} (k:Unit->Option β),gd (CF (BF out.length [(f,(u,(c,w)))].length) 1048576) k=k ():=λk=>cb n (by simp at o;omega) (f,(u,(c,w))) k;cases s1 with
   |true=>
    have y:=e rfl;simp only[SW,R5,V2,y,q];by_cases p:f=s2
    ·simp[p]
    ·simp only[p,if_false,decide_false];cases t<;>cases c<;>simp[SW,R5,Ig]
   |false=>
    simp only[SW,R5,q];cases t<;>cases c<;>simp[SW,R5,Ig]
  ·split<;>simp<;>omega
  ·simp only[U5,WO,ed]
end
section
open Go Sv
theorem dH:∀ (l:List TZ) (s:Uh) (x:TZ),WO s (l++[x])=WO s l++(if keep (U5 s l) x=true then[x]else[])
 |[],s,x=>by
  show(if keep s x=true then[x]else[])++[]=[]++(if keep s x=true then[x]else[])
  rw[fl,List.nil_append]
 |y::l,s,x=>by
  show(if keep s y=true then[y]else[])++WO _ (l++[x])=((if keep s y=true then[y]else[])++WO _ l)++_
  rw[dH l,ed];rfl
theorem ZY:∀ (l:List TZ) (s:Uh) (x:TZ),U5 s (l++[x])=(true,(x.1,(U5 s l).2.2))
 |[],s,x=>rfl
 |y::l,s,x=>by simp only[List.cons_append,U5,ZY l]
theorem XM:∀ (l:List TZ) (s:Uh),(U5 s l).2.2=s.2.2
 |[],s=>rfl
 |y::l,s=>by rw[U5,XM l]
theorem dm:∀ (l:List TZ) (s:Uh) (x:TZ),aG s l->kE x=0->((U5 s l).1=true->SP x.1 (U5 s l).2.1=false)->aG s (l++[x])
 |[],s,x,_,a,b=>⟨a,b,trivial⟩
 |y::l,s,x,⟨a,b,c⟩,d,h5=>⟨a,b,dm l _ x c d h5⟩
theorem cC:∀ (l:List TZ) (s:Uh),aG s l->s.2.1.length<=32->(s.1=false->s.2.1=[])->(U5 s l).2.1.length<=32/\((U5 s l).1=false->(U5 s l).2.1=[])
 |[],s,_,h1,h2=>⟨h1,h2⟩
 |y::l,s,⟨a,_,b⟩,_,_=>cC l _ b (bD a) (λh=>by cases h)
abbrev s0(a:Bool):Uh:=(false,([],a))
def VU(a b:List TZ)(c:Bool)(n:Nat):Xl:=(Zj a b n,(U5 (s0 c) (Tw a b n),(WO (s0 c) (Tw a b n),(n:Int))))
def X7(a b:List TZ):Nat->List Int
 |0=>[]
 |n+1=>X7 a b n++[(bU a b n:Int)]
theorem aM(a b:List TZ):∀ n,(X7 a b n).length=n
 |0=>rfl
 |n+1=>by simp[X7,aM a b n]
theorem Ye{S β:Type}{f:S->Option (LR S β)}{r:β}(mk:Nat->S)(a n:Nat){s:S}(b:s=mk a)(d:a<=n)(e:n<18446744073709551616)(hs:∀ k,a<=k->k<n->f (mk k)=some (.nx (mk (k+1))))(c:f (mk n)=some (.dn r)):loop f s=some r:=by
 have h:=Z8 (f:=f) (r:=r) (λk=>mk (a+k)) (n-a) (s:=s) b (by omega) (λk d=>hs (a+k) (by omega) (by omega)) (by show f (mk (a+(n-a)))=_;rw[show a+(n-a)=n by omega];exact c);exact h
theorem ap(l:List TZ)(h:l.length<=100000):WV (l,l)=some true:=by
 unfold WV;simp only[Tf,Td]
 rw[TI,if_pos rfl,Z9 (l:=l) (σ:=Unit) (s:=(false,0)) (λk _=>(false,(k:Int))) (λ_ _ _=>some (1,((false,(l.length:Int)),()))) () rfl (by omega) (λc=>by
  simp only;rw[re];rfl) (λk x m c _ a b=>.inl ⟨(),by
   simp only;rw[rl b,SW,Ta,S4 a,Ta,S4 a,Y7,Y7,YG,show OX x.2.2.2 x.2.2.2=true by unfold OX;simp,show He (Ni true (Ni true (Ni true (Ni true true))))=false from rfl,R5,Tn a (by omega)],rfl⟩),Sn]
 rfl
section
variable{a b:List TZ}(va:VL a)(vb:VL b)
include va vb
theorem Wv{n:Nat}{x:TZ}(c:ab a b n=some x):Tw a b (n+1)=Tw a b n++[x]:=by
 show(match ab a b n with
  |some x=>Tw a b n++[x]
  |none=>Tw a b n)=_
 rw[c]
theorem XT(d:Bool):∀ {n:Nat},n<=a.length+b.length->aG (s0 d) (Tw a b n)
 |0,_=>trivial
 |n+1,h=>by
  obtain⟨x,c,_⟩:=Vz va vb (n:=n) (by omega);rw[Wv va vb c];refine dm _ _ _ (XT d (by omega)) (kQ va vb c) λ_=> ?_;cases n with
  |zero=>rename_i f;cases f
  |succ m=>
   obtain⟨y,e,_⟩:=Vz va vb (n:=m) (by omega);rw[Wv va vb e,ZY];exact gV va vb (by omega) e c
theorem eQ(c:Bool){n:Nat}(h:n<=a.length+b.length):(U5 (s0 c) (Tw a b n)).2.1.length<=32/\((U5 (s0 c) (Tw a b n)).1=false->(U5 (s0 c) (Tw a b n)).2.1=[]):=
 cC _ _ (XT va vb c h) (by simp) (λ_=>rfl)
theorem qV{n:Nat}(h:n=a.length+b.length):(wk (kx a (To a b n).1) (kx b (To a b n).2)).2=true:=by
 obtain⟨c,hs⟩:=WX va vb (n:=n) (by omega);have d:=c.ia;have e:=c.jb;rw[Z7 (a9 (by omega)),Z7 (a9 (by omega))];rfl
theorem qX{n:Nat}{x:TZ}(c:ab a b n=some x):(wk (kx a (To a b n).1) (kx b (To a b n).2)).2=false/\wn (kx a (To a b n).1) (kx b (To a b n).2)=bU a b n:=by
 unfold ab at c;unfold bU;cases g:X5 a b (To a b n).1 (To a b n).2 with
 |true=>rw[if_pos g]at c;rw[(jf g).1,(jf g).2,XL c];exact⟨rfl,rfl⟩
 |false=>rw[if_neg (by simp[g])]at c;rw[(jg g).1,(jg g).2,XL c];exact⟨rfl,rfl⟩
theorem pq:YI [a,b]=some (Tw a b (a.length+b.length),(X7 a b (a.length+b.length),0)):=by
 have u:=va.len;have w:=vb.len;unfold YI;rw[Zp va vb,Sn,TI,if_pos rfl];refine Eq.trans (b:=bd (loop _ (0,[([],false),([],false)])) _) rfl ?_;refine Tv (x:=(0,((2,[kx a 0,kx b 0]),()))) (VA (s1:=(1,[kx a 0,([],false)])) (s2:=(2,[kx a 0,kx b 0])) ?_ ?_ rfl) ?_
 ·show bd (UV (a,((0:Nat):Int))) _=_;rw[Xd (by omega)];rfl
 ·show bd (UV (b,((0:Nat):Int))) _=_;rw[Xd (by omega)];rfl
 rw[show((0:Nat),(((2:Int),[kx a 0,kx b 0]),())).2.1.2=[kx a 0,kx b 0]from rfl,aJ (Ub _ _) (Ub _ _),Sn]
 refine Tv (x:=(0,((Tw a b (a.length+b.length),(X7 a b (a.length+b.length),((),([((To a b (a.length+b.length)).1:Int),((To a b (a.length+b.length)).2:Int)],Tt (kx a (To a b (a.length+b.length)).1) (kx b (To a b (a.length+b.length)).2))))),())))
  (Ye (λk=>(Tw a b k,(X7 a b k,((),([((To a b k).1:Int),((To a b k).2:Int)],Tt (kx a (To a b k).1) (kx b (To a b k).2)))))) 0 (a.length+b.length) rfl (by omega) (by omega) (λk _ r=> ?_) ?_) rfl
 ·obtain⟨x,c,_⟩:=Vz va vb (n:=k) r;obtain⟨j,s⟩:=qX va vb c;obtain⟨t,hs⟩:=WX va vb (n:=k) (by omega);have h:(Tw a b k).length=k:=VC va vb (by omega);have i:=aM a b k;simp only;rw[YC (Ub _ _) (Ub _ _),if_neg (by simp[j]),Sn,TI,if_pos rfl,s];rw[Wv va vb c];unfold ab at c;rw[show X7 a b (k+1)=X7 a b k++[(bU a b k:Int)]from rfl];unfold bU;rw[show To a b (k+1)=if X5 a b (To a b k).1 (To a b k).2=true then((To a b k).1+1,(To a b k).2)else((To a b k).1,(To a b k).2+1)from rfl]
  have l:∀ {β:Type} (y:TZ) (q:Unit->Option β),gd (CF (BF (AS (Tw a b k)) (AS [y])) 1048576) q=q ():=λy q=>Tk (by simp only[BF,AS,h,cP,dc];omega) q;have o:∀ {β:Type} (y:Int) (q:Unit->Option β),gd (CF (BF (AS (X7 a b k)) (AS [y])) 1048576) q=q ():=λy q=>Tk (by simp only[BF,AS,i,cP,dc];omega) q;cases g:X5 a b (To a b k).1 (To a b k).2 with
  |true=>
   rw[if_pos g]at c;obtain⟨d,_⟩:=jf g;obtain⟨m,f⟩:=YM (p:=kx a (To a b k).1) (q:=kx b (To a b k).2) (k:=kx a ((To a b k).1+1)) (Ub _ _) (Ub _ _) (Ub _ _) j (by rw[d,XL c];exact aj va c)
   have e:rk (kx a (To a b k).1) (kx b (To a b k).2) (kx a ((To a b k).1+1))=(kx a ((To a b k).1+1),kx b (To a b k).2):=by
    unfold rk;unfold X5 at g;rw[if_pos g]
   rw[e]at f;have hi:=(a8.1 c).1;simp only[if_true];refine(ZQ 0 rfl (x:=a) rfl).trans ((ZQ 0 rfl (x:=((To a b k).1:Int)) rfl).trans ((WW _ rfl c).trans ?_));rw[l,o];refine(ZQ 0 rfl (x:=((To a b k).1:Int)) rfl).trans ((ZQ 0 rfl (x:=((To a b k).1:Int)) rfl).trans ((ZQ 0 rfl (x:=a) rfl).trans ((ZQ 0 rfl (x:=SC .i64 ((To a b k).1:Int) 1) rfl).trans ?_)));rw[Ti (by omega),Xd (by omega),Sn,f,Sn];rfl
  |false=>
   rw[if_neg (by simp[g])]at c;obtain⟨d,_⟩:=jg g;obtain⟨m,f⟩:=YM (p:=kx a (To a b k).1) (q:=kx b (To a b k).2) (k:=kx b ((To a b k).2+1)) (Ub _ _) (Ub _ _) (Ub _ _) j (by rw[d,XL c];exact aj vb c)
   have e:rk (kx a (To a b k).1) (kx b (To a b k).2) (kx b ((To a b k).2+1))=(kx a (To a b k).1,kx b ((To a b k).2+1)):=by
    unfold rk;unfold X5 at g;rw[if_neg (by simp[g])]
   rw[e]at f;have hi:=(a8.1 c).1;simp only[hC,if_false];refine(ZQ 1 rfl (x:=b) rfl).trans ((ZQ 1 rfl (x:=((To a b k).2:Int)) rfl).trans ((WW _ rfl c).trans ?_));rw[l,o];refine(ZQ 1 rfl (x:=((To a b k).2:Int)) rfl).trans ((ZQ 1 rfl (x:=((To a b k).2:Int)) rfl).trans ((ZQ 1 rfl (x:=b) rfl).trans ((ZQ 1 rfl (x:=SC .i64 ((To a b k).2:Int) 1) rfl).trans ?_)));rw[Ti (by omega),Xd (by omega),Sn,f,Sn];rfl
 ·simp only;rw[YC (Ub _ _) (Ub _ _),if_pos (qV va vb rfl),Sn,TI,if_neg (by decide),TI,if_neg (by decide)]
end
end
section
open Go Sv
theorem gL{β:Type}{out:List TZ}{n:Nat}(h:out.length<=n)(a:n<=20000)(x:TZ)(k:Unit->Option β):gd (CF (BF out.length [x].length) 1048576) k=k ():=cb h a x k
section
variable{a b:List TZ}(va:VL a)(vb:VL b)
include va vb
theorem Xj{n:Nat}(h:n<=a.length+b.length):(Tw a b (a.length+b.length)).take n=Tw a b n:=eW va vb (eg _) h
theorem ZN{n:Nat}{x:TZ}(c:Bool)(d:ab a b n=some x):U5 (s0 c) (Tw a b (n+1))=(true,(x.1,c)):=by
 rw[Wv va vb d,ZY,XM]
theorem eu(c:Bool){n:Nat}(h:n<=a.length+b.length):XJ (VU a b c n)=some 0:=by
 obtain⟨e,hs⟩:=WX va vb (n:=n) h;have i:=va.len;have j:=vb.len;have f:=YX (s0 c) (Tw a b n);have g:(Tw a b n).length=n:=VC va vb h;unfold XJ;rw[show(VU a b c n).1=Zu a b (To a b n).1 (To a b n).2 from rfl,Za va vb e,Sn,TI,if_pos rfl];refine Tv (x:=(0,((2,(n:Int)),()))) (VA (s1:=(1,((To a b n).1:Int))) (s2:=(2,(n:Int))) ?_ ?_ rfl) ?_
 ·refine(af 0 rfl rfl (x:=((To a b n).1:Int)) rfl).trans ?_;show some (LR.nx ((1:Int),SC .i64 0 ((To a b n).1:Int)))=_;rw[Sb (by omega),tg]
 ·refine(af 1 rfl rfl (x:=((To a b n).2:Int)) rfl).trans ?_;show some (LR.nx ((2:Int),SC .i64 ((To a b n).1:Int) ((To a b n).2:Int)))=_;rw[Sb (by omega),show((To a b n).1:Int)+((To a b n).2:Int)=(n:Int) by omega]
 simp only[Tf,Td];rw[show(VU a b c n).2.2.1=WO (s0 c) (Tw a b n)from rfl,show(VU a b c n).2.2.2=(n:Int)from rfl,show(VU a b c n).2.1=U5 (s0 c) (Tw a b n)from rfl,TF,if_neg (by omega),TF,if_neg (by omega),TI,if_pos rfl];rw[show(Zu a b (To a b n).1 (To a b n).2).1=[a,b]from rfl,pq va vb,Sn,TI,if_pos rfl,Ta];rw[Tk (by rw[VC va vb (eg _)];exact h),Tk (ll _)];rw[show Dz (Tw a b (a.length+b.length)) 0 n=Tw a b n from by unfold Dz;rw[sw,mg];exact Xj va vb h,XM];rw[show(s0 c).2.2=c from rfl,gv (by omega) (XT va vb c h),Sn,TI,if_pos rfl];unfold VS;rw[Sn,TF];cases n with
 |zero=>
  rw[if_neg (by omega),ap _ (by omega),Sn,YQ,R5];show br (He (Ni (Sv.beq false false) (Ni (seq [] []) (Ni (Sv.beq c c) true)))) _ _=_;rw[YG,YG,Y7];rfl
 |succ m=>
  obtain⟨x,d,_⟩:=Vz va vb (n:=m) (by omega);rw[if_pos (by omega),show SG .i64 ((m+1:Nat):Int) 1=(m:Int) by rw[Sd (by omega)];omega,Ta];rw[S4 (x:=x) (by rw[Yf va vb (eg _) (by omega)];exact d),ap _ (by omega),Sn,YQ,R5,ZN va vb c d];rw[YG,YG,Y7];rfl
theorem kM{n:Nat}(h:n<=a.length+b.length):Xt (Zj a b n)=some (((a.length+b.length-n:Nat):Int),0):=by
 obtain⟨c,hs⟩:=WX va vb (n:=n) h;have f:=va.len;have g:=vb.len;have d:=c.ia;have e:=c.jb;unfold Xt;rw[show Zj a b n=Zu a b (To a b n).1 (To a b n).2 from rfl,Za va vb c,Sn,TI,if_pos rfl];refine Tv (x:=(0,((2,((a.length+b.length-n:Nat):Int)),()))) (VA (s1:=(1,(a.length:Int)-((To a b n).1:Int))) (s2:=(2,((a.length+b.length-n:Nat):Int))) ?_ ?_ rfl) rfl
 ·refine(af 0 rfl rfl (x:=a) rfl).trans ((WW 0 rfl (x:=((To a b n).1:Int)) rfl).trans ?_);simp only[Tf,Td];rw[Sd (by omega)];show some (LR.nx ((1:Int),SC .i64 0 ((a.length:Int)-((To a b n).1:Int))))=_;rw[Sb (by omega),tg]
 ·refine(af 1 rfl rfl (x:=b) rfl).trans ((WW 1 rfl (x:=((To a b n).2:Int)) rfl).trans ?_);simp only[Tf,Td];rw[Sd (by omega)];show some (LR.nx ((2:Int),SC .i64 ((a.length:Int)-((To a b n).1:Int)) ((b.length:Int)-((To a b n).2:Int))))=_;rw[Sb (by omega),show(a.length:Int)-((To a b n).1:Int)+((b.length:Int)-((To a b n).2:Int))=((a.length+b.length-n:Nat):Int) by omega]
theorem aY(c:Bool){n:Nat}(h:n<=a.length+b.length):Ug (VU a b c n)=some (((a.length+b.length-n:Nat):Int),0):=by
 unfold Ug;rw[eu va vb c h,Sn,TI,if_pos rfl,show(VU a b c n).1=Zj a b n from rfl,kM va vb h];rfl
theorem an(c:Bool){n:Nat}{x:TZ}(d:ab a b n=some x):VU a b c (n+1)=(Zj a b (n+1),((true,(x.1,c)),(WO (s0 c) (Tw a b n)++(if keep (U5 (s0 c) (Tw a b n)) x=true then[x]else[]),((n+1:Nat):Int)))):=by
 unfold VU;rw[Wv va vb d,ZY,XM,dH]
theorem Y8(c:Bool){n:Nat}{x:TZ}(h:n<a.length+b.length)(e:ab a b n=some x):U8 (U5 (s0 c) (Tw a b n),x)=some (keep (U5 (s0 c) (Tw a b n)) x,((true,(x.1,c)),0)):=by
 have d:=eQ va vb c (n:=n) (by omega);rw[ic d.1 d.2 (kQ va vb e),XM];intro g;cases n with
 |zero=>cases g
 |succ m=>
  obtain⟨y,f,_⟩:=Vz va vb (n:=m) (by omega);rw[ZN va vb c f];exact gV va vb (by omega) f e
def sL(k:Int)(s:Xl):Int×(Int×(List (List TZ)×(List Int×(List UE×(List Int×(Int×(Bool×(V8×(Bool×(List TZ×Int)))))))))):=
 (k,(0,(s.1.1,(s.1.2.1,(s.1.2.2.1,(s.1.2.2.2.1,(s.1.2.2.2.2,(s.2.1.1,(s.2.1.2.1,(s.2.1.2.2,(s.2.2.1,s.2.2.2)))))))))))
theorem cQ(c:Bool){n:Nat}(h:n<=a.length+b.length){k:Nat}:Uv (VU a b c n,(k:Int))=some (VU a b c (n+min k (a.length+b.length-n)),(((min k (a.length+b.length-n):Nat):Int),0)):=by
 have w:=va.len;have z:=vb.len;have d:∀ m,m<=a.length+b.length->(WO (s0 c) (Tw a b m)).length<=m:=λm s=>by have:=YX (s0 c) (Tw a b m);have:=VC va vb s;omega
 obtain⟨u,t⟩:∃ u,u=min k (a.length+b.length-n):=⟨_,rfl⟩
 have i:TN (k:Int) ((a.length+b.length-n:Nat):Int)=(u:Int):=by
  unfold TN;split<;>omega
 rw[<- t];unfold Uv;rw[aY va vb c h,Sn,TI,if_pos rfl];simp only[i,Tf,Td];rw[TH,if_neg (by omega),show(VU a b c n).2.2.2=(n:Int)from rfl,Sb (by omega),TF,if_neg (by omega)];rw[show(VU a b c n).2.2.1=WO (s0 c) (Tw a b n)from rfl,show(VU a b c n).1=Zj a b n from rfl,Tk (by have:=d n h;omega),Tk (show(Zj a b n).2.1.length<=1048576 from(show 2<=1048576 by omega)),TH];by_cases r:u=0
 ·rw[r,if_neg (by omega)];rfl
 rw[if_pos (by omega)];obtain⟨x,o,_⟩:=Vz va vb (n:=n) (by omega);rw[bG va vb (by omega) o,Sn,TI,if_pos rfl,show(VU a b c n).2.1=U5 (s0 c) (Tw a b n)from rfl,Y8 va vb c (by omega) o,Sn,TI,if_pos rfl]
 have q:∀ j,1<=j->j<u -> ∃ y,ab a b (n+j)=some y:=λj f g=>by
  obtain⟨y,e,_⟩:=Vz va vb (n:=n+j) (by omega);exact⟨y,e⟩
 rw[TL];have hS:=an va vb c o;cases p:keep (U5 (s0 c) (Tw a b n)) x with
 |true=>
  rw[p]at hS;rw[if_pos rfl,gL (d n h) (by omega)];refine Tv (x:=(1,(sL u (VU a b c (n+u)),()))) (Ye (λj=>sL j (VU a b c (n+j))) 1 u ?_ (by omega) (by omega) (λj f g=> ?_) ?_) ?_
  ·rw[hS,show SC .i64 (n:Int) 1=((n+1:Nat):Int)from Ti (by omega)];rfl
  ·obtain⟨y,e⟩:=q j f g;show br (Sz (j:Int) (u:Int)) _ _=_;rw[TH,if_pos (by omega)];show bd (Uy (Zj a b (n+j))) _=_;rw[bG va vb (by omega) e,Sn,TI,if_pos rfl];show bd (U8 (U5 (s0 c) (Tw a b (n+j)),y)) _=_;rw[Y8 va vb c (by omega) e,Sn,TI,if_pos rfl,TL,show n+(j+1)=n+j+1 by omega,an va vb c e];cases l:keep (U5 (s0 c) (Tw a b (n+j))) y with
   |true=>
    rw[if_pos rfl,if_pos rfl];show gd (CF (BF (AS (WO (s0 c) (Tw a b (n+j)))) (AS [y])) 1048576) _=_;rw[cb (d _ (by omega)) (by omega)];show some (LR.nx (SC .i64 (j:Int) 1,_))=_;unfold sL;simp only[Ti (show j+1<=9223372036854775807 by omega),Ig];rw[show SC .i64 (VU a b c (n+j)).2.2.2 1=((n+j+1:Nat):Int)from Ti (by omega)];rfl
   |false=>
    rw[if_neg (by simp),if_neg (by simp)];show some (LR.nx (SC .i64 (j:Int) 1,_))=_;unfold sL;simp only[Ti (show j+1<=9223372036854775807 by omega)];rw[show SC .i64 (VU a b c (n+j)).2.2.2 1=((n+j+1:Nat):Int)from Ti (by omega),fl];rfl
  ·show br (Sz (u:Int) (u:Int)) _ _=_;rw[TH,if_neg (by omega)]
  ·rfl
 |false=>
  rw[p]at hS;rw[if_neg (by simp)];refine Tv (x:=(1,(sL u (VU a b c (n+u)),()))) (Ye (λj=>sL j (VU a b c (n+j))) 1 u ?_ (by omega) (by omega) (λj f g=> ?_) ?_) ?_
  ·rw[hS,show SC .i64 (n:Int) 1=((n+1:Nat):Int)from Ti (by omega),if_neg (by simp),fl];rfl
  ·obtain⟨y,e⟩:=q j f g;show br (Sz (j:Int) (u:Int)) _ _=_;rw[TH,if_pos (by omega)];show bd (Uy (Zj a b (n+j))) _=_;rw[bG va vb (by omega) e,Sn,TI,if_pos rfl];show bd (U8 (U5 (s0 c) (Tw a b (n+j)),y)) _=_;rw[Y8 va vb c (by omega) e,Sn,TI,if_pos rfl,TL,show n+(j+1)=n+j+1 by omega,an va vb c e];cases l:keep (U5 (s0 c) (Tw a b (n+j))) y with
   |true=>
    rw[if_pos rfl,if_pos rfl];show gd (CF (BF (AS (WO (s0 c) (Tw a b (n+j)))) (AS [y])) 1048576) _=_;rw[cb (d _ (by omega)) (by omega)];show some (LR.nx (SC .i64 (j:Int) 1,_))=_;unfold sL;simp only[Ti (show j+1<=9223372036854775807 by omega),Ig];rw[show SC .i64 (VU a b c (n+j)).2.2.2 1=((n+j+1:Nat):Int)from Ti (by omega)];rfl
   |false=>
    rw[if_neg (by simp),if_neg (by simp)];show some (LR.nx (SC .i64 (j:Int) 1,_))=_;unfold sL;simp only[Ti (show j+1<=9223372036854775807 by omega)];rw[show SC .i64 (VU a b c (n+j)).2.2.2 1=((n+j+1:Nat):Int)from Ti (by omega),fl];rfl
  ·show br (Sz (u:Int) (u:Int)) _ _=_;rw[TH,if_neg (by omega)]
  ·rfl
end
end
section
open Go Sv
theorem Vy{α β σ S:Type}{l:List α}(mk:Nat->σ->S)(I:List α->Nat->σ->Prop)(Q:β->Prop){f:S->Option (LR S β)}{s:S}(a:σ)(t:s=mk 0 a)(z:l.length<=9223372036854775807)(hi:I l 0 a)
  (w:∀ a,I [] l.length a -> ∃ r,f (mk l.length a)=some (.dn r)/\Q r)
  (hc:∀ k x m a,l.drop k=x::m->l[k]?=some x->k<l.length->I (x::m) k a->(∃ b,f (mk k a)=some (.nx (mk (k+1) b))/\I m (k+1) b) \/ ∃ r,f (mk k a)=some (.dn r)/\Q r):∃ r,loop f s=some r/\Q r:=by
 subst t
 have h:∀ (m:List α) (k n:Nat) (a:σ),l.drop k=m->k<=l.length->m.length<n->I m k a -> ∃ r,IH n f (mk k a)=some r/\Q r:=by
  intro m
  induction m with
  |nil=>
   intro k n a e u g hi;obtain⟨n,rfl⟩:∃ j,n=j+1:=⟨n-1,by omega⟩
   have o:k=l.length:=by
    have:=congrArg kd e;simp at this;omega
   subst o;obtain⟨r,c,d⟩:=w a hi;exact⟨r,UT c,d⟩
  |cons x m y=>
   intro k n a e u g hi;obtain⟨n,rfl⟩:∃ j,n=j+1:=⟨n-1,by omega⟩
   have q:l[k]?=some x:=by
    have:=congrArg s7 e;rw[oy]at this;simpa using this
   have i:k<l.length:=(a8.1 q).1
   have p:l.drop (k+1)=m:=by
    have:=congrArg s6 e;rw[nP]at this;simpa using this
   rcases hc k x m a e q i hi with⟨b,c,d⟩|⟨r,c,d⟩
   ·rw[UL c];exact y (k+1) n b p (by omega) (by simp at g;omega) d
   ·exact⟨r,UT c,d⟩
 exact h l 0 _ a (by simp) (by omega) (by omega) hi
theorem Yd{α:Type}(l m:List α)(i:l.length=m.length)(n:l.length<=9223372036854775806){f:(Int×Bool)->Option (LR (Int×Bool) (Nat×((Int×Bool)×Unit)))}
  (hs:∀ (k:Nat) x y,l[k]?=some x->m[k]?=some y->(x=y->f ((k:Int),false)=some (.nx (((k+1:Nat):Int),false)))/\(x≠y->f ((k:Int),false)=some (.dn (0,(((k:Int),false),())))))
  (g:f ((l.length:Int),false)=some (.dn (1,(((l.length:Int),false),())))) :
  ∃ r,loop f (0,false)=some r/\((l=m/\r.1=1)\/(l≠m/\r.1=0/\r.2.1.2=false)):=by
 refine Vy (l:=l) (σ:=Unit) (λk _=>((k:Int),false)) (λt k _=>t=l.drop k/\l.take k=m.take k) _ () rfl (by omega) ⟨by simp,by simp⟩ (λj h=> ?_) (λk x t j d b o h=> ?_)
 ·refine⟨_,g,.inl ⟨?_,rfl⟩⟩;have:=h.2;rw[x9,i,x9]at this;exact this
 ·have c:k<m.length:=by omega
  have a:m[k]?=some m[k]:=by simp[c]
  by_cases e:x=m[k]
  ·refine .inl ⟨(),(hs k x m[k] b a).1 e,?_,?_⟩
   ·have:=congrArg s6 d;rw[nP]at this;simp at this;exact this.symm
   ·rw[iP,iP,h.2,b,a,e]
  ·refine .inr ⟨_,(hs k x m[k] b a).2 e,.inr ⟨?_,rfl,rfl⟩⟩;intro e2;subst e2;rw[b]at a;exact e (Option.some.inj a)
theorem beq_eq(a b:Bool):Sv.beq a b=decide (a=b):=by cases a<;>cases b<;>rfl
theorem Vx(a b:Int):OX a b=decide (a=b):=by
 unfold OX;by_cases h:a=b<;>simp[h]
theorem Yn(p q:Prop)[Decidable p][Decidable q]:Ni (decide p) (decide q)=decide (p/\q):=by unfold Ni;simp
theorem U6(p:Prop)[Decidable p]:He (decide p)=decide (¬ p):=by unfold He;simp
theorem Zy(a:Bool):Ni a true=a:=by cases a<;>rfl
theorem iE(l m:List UE)(s:l.length<=9223372036854775806):UC (l,m)=some (decide (l=m)):=by
 unfold UC;simp only[Tf,Td];rw[TI];by_cases b:(l.length:Int)=(m.length:Int)
 ·rw[if_pos b];have c:l.length=m.length:=by omega
  obtain⟨r,p,a⟩:=Yd l m c s (f:=λs0=>br (Sz s0.1 (l.length:Int)) (λ_=>Rz s0.1 λt=>ix l t λn=>Rz s0.1 λw=>ix m w λo=>br (He (Ni (seq n.1 o.1) (Ni (Sv.beq n.2 o.2) true))) (λ_=>some (.dn ((0,((s0.1,false),()))))) λ_=>some (.nx (SC .i64 s0.1 1,s0.2))) λ_=>some (.dn ((1,(s0,()))))) (λk x y d j=>by
    have i:=(a8.1 d).1
    have g:∀ {β:Type} (u v:Unit->Option β),br (He (Ni (seq x.1 y.1) (Ni (Sv.beq x.2 y.2) true))) u v=if x=y then v ()else u ():=by
     intro β u v;rw[Zy,Zt,beq_eq,Yn,U6,VE];by_cases e:x=y
     ·subst e;simp
     ·rw[if_pos (λh=>e (ta h.1 h.2)),if_neg e]
    constructor
    ·intro e;simp only;rw[rl i,SW,Ta,S4 d,Ta,S4 j,g,if_pos e,Ti (by omega)]
    ·intro e;simp only
     rw[rl i,SW,Ta,S4 d,Ta,S4 j,g,if_neg e]) (by simp only;rw[re];rfl)
  refine Tv p ?_;rcases a with⟨e,a⟩|⟨e,a,q⟩
  ·rw[So,a];simp[e]
  ·rw[So,a];simp[e,q]
 ·rw[if_neg b];have:¬ l=m:=λe=>b (by rw[e]);simp[this]
theorem ZW(l m:List Int)(n:l.length<=9223372036854775806):Ts (l,m)=some (decide (l=m)):=by
 unfold Ts;simp only[Tf,Td];rw[TI];by_cases b:(l.length:Int)=(m.length:Int)
 ·rw[if_pos b];have c:l.length=m.length:=by omega
  obtain⟨r,i,a⟩:=Yd l m c n (f:=λs0=>br (Sz s0.1 (l.length:Int)) (λ_=>Rz s0.1 λo=>ix l o λq=>Rz s0.1 λp=>ix m p λs=>br (Rw q s) (λ_=>some (.dn ((0,((s0.1,false),()))))) λ_=>some (.nx (SC .i64 s0.1 1,s0.2))) λ_=>some (.dn ((1,(s0,()))))) (λk x y d h=>by
    have g:=(a8.1 d).1;constructor
    ·intro e;simp only;rw[rl g,SW,Ta,S4 d,Ta,S4 h,TI,if_pos e,Ti (by omega)]
    ·intro e;simp only
     rw[rl g,SW,Ta,S4 d,Ta,S4 h,TI,if_neg e]) (by simp only;rw[re];rfl)
  refine Tv i ?_;rcases a with⟨e,a⟩|⟨e,a,j⟩
  ·rw[So,a];simp[e]
  ·rw[So,a];simp[e,j]
 ·rw[if_neg b];have:¬ l=m:=λe=>b (by rw[e]);simp[this]
theorem aw{β:Type}(x y:TZ)(u v:Unit->Option β):br (He (Ni (seq x.1 y.1) (Ni (seq x.2.1 y.2.1) (Ni (Sv.beq x.2.2.1 y.2.2.1) (Ni (OX x.2.2.2 y.2.2.2) true))))) u v=if x=y then v ()else u ():=by
 rw[Zy,Zt,Zt,beq_eq,Vx,Yn,Yn,Yn,U6,VE];by_cases e:x=y
 ·subst e;simp
 ·rw[if_pos (λh=>e (ta h.1 (ta h.2.1 (ta h.2.2.1 h.2.2.2)))),if_neg e]
theorem W4(l m:List TZ)(p:l.length<=9223372036854775806):Ue (l,m)=some (decide (l=m)):=by
 unfold Ue;simp only[Tf,Td];rw[TI];by_cases d:(l.length:Int)=(m.length:Int)
 ·rw[if_pos d];have g:l.length=m.length:=by omega
  obtain⟨r,n,a⟩:=Yd l m g p (f:=λs0=>br (Sz s0.1 (l.length:Int)) (λ_=>Rz s0.1 λq=>ix l q λb=>Rz s0.1 λs=>ix m s λc=>br (He (Ni (seq b.1 c.1) (Ni (seq b.2.1 c.2.1) (Ni (Sv.beq b.2.2.1 c.2.2.1) (Ni (OX b.2.2.2 c.2.2.2) true))))) (λ_=>some (.dn ((0,((s0.1,false),()))))) λ_=>some (.nx (SC .i64 s0.1 1,s0.2))) λ_=>some (.dn ((1,(s0,()))))) (λk x y h j=>by
    have i:=(a8.1 h).1;constructor
    ·intro e;simp only;rw[rl i,SW,Ta,S4 h,Ta,S4 j,aw,if_pos e,Ti (by omega)]
    ·intro e;simp only
     rw[rl i,SW,Ta,S4 h,Ta,S4 j,aw,if_neg e]) (by simp only;rw[re];rfl)
  refine Tv n ?_;rcases a with⟨e,a⟩|⟨e,a,o⟩
  ·rw[So,a];simp[e]
  ·rw[So,a];simp[e,o]
 ·rw[if_neg d];have:¬ l=m:=λe=>d (by rw[e]);simp[this]
theorem YA(l m:List TZ)(a:l.length<=9223372036854775806):Uo (l,m)=some (decide (l=m)):=by
 unfold Uo;rw[W4 l m a];rfl
instance:DecidableEq TZ:=inferInstance
instance:DecidableEq (List TZ):=inferInstance
instance:DecidableEq (List (List TZ)):=inferInstance
instance:DecidableEq UE:=inferInstance
instance:DecidableEq V1:=inferInstance
instance:DecidableEq VT:=inferInstance
instance:DecidableEq Uh:=inferInstance
instance:DecidableEq Xl:=inferInstance
theorem dT(x y:Xl)(n:x.1.1.length<=1000)(i:∀ l∈x.1.1,l.length<=1000000)(o:x.1.2.1.length<=1000)(p:x.1.2.2.1.length<=1000)(q:x.1.2.2.2.1.length<=1000)(s:x.2.2.1.length<=1000000):V0 (x,y)=some (decide (x=y)):=by
 obtain⟨⟨a,E,F,G,M⟩,⟨xs,L,J⟩,I,K⟩:=x;obtain⟨⟨b,N,P,S,Z⟩,⟨X,Y,O⟩,W,U⟩:=y;simp only at n i o p q s;unfold V0;simp only[Tf,Td];rw[TI];by_cases g:(a.length:Int)=(b.length:Int)
 ·rw[if_pos g];have h:a.length=b.length:=by omega
  obtain⟨r,z,d⟩:=Yd a b h (by omega) (f:=λs0=>br (Sz s0.1 (a.length:Int)) (λ_=>Rz s0.1 λu=>ix a u λC=>Rz s0.1 λw=>ix b w λD=>bd (Uo (C,D)) λB=>br (He B) (λ_=>some (.dn ((0,((s0.1,false),()))))) λ_=>some (.nx (SC .i64 s0.1 1,s0.2))) λ_=>some (.dn ((1,(s0,()))))) (λk x y c m=>by
    have j:=(a8.1 c).1;have t:=i x (co c);constructor
    ·intro e;simp only;rw[rl j,SW,Ta,S4 c,Ta,S4 m,YA _ _ (by omega),Sn,U6,VE,if_neg (by simp[e]),Ti (by omega)]
    ·intro e;simp only
     rw[rl j,SW,Ta,S4 c,Ta,S4 m,YA _ _ (by omega),Sn,U6,VE,if_pos e]) (by simp only;rw[re];rfl)
  refine Tv z ?_;simp only[ZW _ _ (show E.length<=9223372036854775806 by omega),ZW _ _ (show G.length<=9223372036854775806 by omega),iE _ _ (show F.length<=9223372036854775806 by omega),YA _ _ (show I.length<=9223372036854775806 by omega),Sn,VE,Vx,Zt,beq_eq,Zy,Yn,So];rw[TL];rcases d with⟨e,d⟩|⟨e,d,A⟩
  ·rw[if_neg (show ¬ r.1=0 by omega)]
   repeat' split
   all_goals simp_all
  ·rw[if_pos d,if_neg (show ¬ r.2.1.2=true by simp[A])];simp[e]
 ·rw[if_neg g];have:¬ a=b:=λe=>g (by rw[e]);simp[this]
end
section
open Go Sv
def kR(a:List Int)(most:Int)(r:UA):Int:=
 if r.1<1\/r.1>1000000 then 7 else if(Vl r.2).2≠0 then(Vl r.2).2 else if r.2.length=0 then 4 else if(r.2.length:Int)>most then 3 else if r.1∈a then 8 else 0
def Zf(most:Int):Nat->List Int->List UA->Option (Nat×Int)
 |_,_,[]=>none
 |k,ids,r::rs=>if kR ids most r≠0 then some (k,kR ids most r)else Zf most (k+1) (ids++[r.1]) rs
def Uf(B:Int)(i:Nat):Int:=B*2 ^ i
def Ze(B:Int):Nat->List Int->List (List UA)->Option (Nat×(Nat×Int))
 |_,_,[]=>none
 |i,ids,rs::ls=>if rs.length>2 then some (i,(0,3))else match Zf (Uf B i) 0 ids rs with
  |some (k,e)=>some (i,(k,e))
  |none=>Ze B (i+1) (ids++rs.map (·.1)) ls
def V6(L:Te):Int×(Int×Int):=
 if L.1<1\/L.1>16 then(0,(0,7))else if L.2.length>12 then(0,(0,3))else match Ze L.1 0 [] L.2 with
  |some (i,(k,e))=>((i:Int),((k:Int),e))
  |none=>if L.2.getLast?=some []then(((L.2.length-1:Nat):Int),(0,6))else(0,(0,0))
theorem gj{most:Int}:∀ {rs:List UA} {k:Nat} {a:List Int} {c:Nat} {e:Int},Zf most k a rs=some (c,e)->e≠0
 |[],_,_,_,_,h=>by cases h
 |r::rs,k,a,c,e,h=>by
  unfold Zf at h;by_cases b:kR a most r≠0
  ·rw[if_pos b]at h;cases h;exact b
  ·rw[if_neg b]at h;exact gj h
theorem cg{B:Int}:∀ {ls:List (List UA)} {i:Nat} {a:List Int} {d f:Nat} {e:Int},Ze B i a ls=some (d,(f,e))->e≠0
 |[],_,_,_,_,_,h=>by cases h
 |rs::ls,i,a,d,f,e,h=>by
  unfold Ze at h;by_cases c:rs.length>2
  ·rw[if_pos c]at h;cases h;decide
  ·rw[if_neg c]at h;cases b:Zf (Uf B i) 0 a rs with
   |none=>rw[b]at h;exact cg h
   |some x=>rw[b]at h;cases h;exact gj b
def bg(a:List Int):List (Int×Bool):=a.map λi=>(i,true)
theorem kO(c:List Int)(i:Int):SK (MS (λa b=>OX a b) (bg c) i) false=decide (i∈c):=by
 induction c with
 |nil=>rfl
 |cons j c d=>
  show SK (bif OX i j then some true else MS (λa b=>OX a b) (bg c) i) false=_
  rw[Vx];by_cases h:i=j
  ·simp[h,SK]
  ·simp only[h,decide_false,cond_false,ee,false_or];exact d
theorem kP{c:List Int}{i:Int}(h:i ∉ c):IP (λa b=>OX a b) (bg c) i true=bg (c++[i]):=by
 induction c with
 |nil=>rfl
 |cons j c f=>
  show(bif OX i j then(i,true)::bg c else(j,true)::IP (λa b=>OX a b) (bg c) i true)=_
  rw[Vx];have d:¬ i=j:=λe=>h (by simp[e]);rw[f (λe=>h (by simp[e]))];simp only[d,decide_false,cond_false];rfl
theorem aC(r:UA)(b:r.2.length<=9223372036854775807):XH r=some (if r.1<1\/r.1>1000000 then(-1,7)else Vl r.2):=by
 unfold XH;rw[TH,TF,WQ _ b,Sn];by_cases h:r.1<1
 ·rw[if_pos h,if_pos (.inl h)]
 ·rw[if_neg h];by_cases a:r.1>1000000
  ·rw[if_pos a,if_pos (.inr a)]
  ·rw[if_neg a,if_neg (by omega)]
theorem cF(r:UA)(most:Int)(b:r.2.length<=9223372036854775807):Vf (r,most)=some (kR [] most r):=by
 unfold Vf kR;rw[aC r b,Sn];simp only[Tf,Td];by_cases h:r.1<1\/r.1>1000000
 ·rw[if_pos h,if_pos h];rfl
 ·rw[if_neg h,if_neg h,TI];by_cases a:(Vl r.2).2=0
  ·rw[if_pos a,if_neg (by simp[a]),TD,TF]
   repeat' split
   all_goals first|rfl|(exfalso;omega)|simp_all
  ·rw[if_neg a,if_pos a]
theorem sY(a:List Int)(most:Int)(r:UA):kR a most r=if kR [] most r=0 then(if r.1∈a then 8 else 0)else kR [] most r:=by
 unfold kR
 repeat' split
 all_goals simp_all
theorem sf(i:Nat)(h:i<=12):(2:Int) ^ i<=4096/\1<=(2:Int) ^ i:=by
 have a:(2:Nat) ^ i<=2 ^ 12:=Nat.pow_le_pow_right (by omega) h;have b:1<=(2:Nat) ^ i:=Nat.one_le_two_pow;have c:((2 ^ i:Nat):Int)=(2:Int) ^ i:=by simp
 omega
theorem dz{B:Int}{i:Nat}(a:1<=B)(b:B<=16)(hi:i<=12):1<=Uf B i/\Uf B i<=65536:=by
 obtain⟨c,d⟩:=sf i hi;unfold Uf;constructor
 ·have:=Ds a d (by omega) (by omega);omega
 ·have:=Ds b c (by omega) (by omega);omega
theorem aN{B:Int}{i:Nat}(a:1<=B)(b:B<=16)(hi:i<=12):S2 .i64 B (i:Int)=Uf B i:=by
 have c:=dz a b hi;unfold S2;rw[show min ((i:Int).toNat) IntKind.i64.bits=i by rw[bl];exact ul (Nat.le_trans hi (by decide))];unfold Uf at c ⊢;exact IntWalk.i64_in _ (by omega)
def Q1:Option (Nat×(Nat×Int))->Int->Int->Int->Prop
 |some (i,(k,e)),a,b,c=>a=(k:Int)/\b=(i:Int)/\c=e
 |none,_,_,c=>c=0
def Q2(m:List (Int×Bool)):Option (Nat×Int)->Nat->Int->Int->List (Int×Bool)->Prop
 |some (k,e),r,a,c,_=>r=0/\a=(k:Int)/\c=e
 |none,r,_,c,m'=>r=1/\c=0/\m'=m
theorem Zo(L:Te)(hb:L.2.length<=1048576)(hr:∀ rs∈L.2,rs.length<=1048576 /\ ∀ r∈rs,r.2.length<=9223372036854775807):Vs L=some (V6 L):=by
 unfold Vs V6;simp only[Tf,Td];rw[TH,TF,TF];by_cases z:L.1<1
 ·rw[if_pos z,if_pos (.inl z)]
 rw[if_neg z];by_cases A:L.1>16
 ·rw[if_pos A,if_pos (.inr A)]
 rw[if_neg A,if_neg (show ¬ (L.1<1\/L.1>16) by omega)];by_cases hl:(L.2.length:Int)>12
 ·rw[if_pos hl,if_pos (by omega)]
 rw[if_neg hl,if_neg (by omega)];have hl2:L.2.length<=12:=by omega
 obtain⟨T,I⟩:∃ T,T=Ze L.1 0 [] L.2:=⟨_,rfl⟩;rw[<- I]
 have C:∀ W:Int,W=0->T=none->(br (Rw W 0) (λ_=>(none:Option (Int×(Int×Int)))) λ_=>br (Sx (L.2.length:Int) 0) (λ_=>Rz (SG .i64 (L.2.length:Int) 1) λO=>ix L.2 O λX=>br (OX (X.length:Int) 0) (λ_=>some ((SG .i64 (L.2.length:Int) 1,(0,6)))) λ_=>some ((0,(0,0)))) λ_=>some ((0,(0,0))))=some (if L.2.getLast?=some []then(((L.2.length-1:Nat):Int),(0,6))else(0,(0,0))):=by
  intro W o _;rw[TI,if_pos o,TF];by_cases hn:L.2=[]
  ·rw[hn];rfl
  ·have hp:=eb.2 hn;rw[if_pos (by omega),show SG .i64 (L.2.length:Int) 1=((L.2.length-1:Nat):Int) by rw[Sd (by omega)];omega,Ta,nb];have n:L.2[L.2.length-1]?=some (L.2[L.2.length-1]'(by omega)):=by simp
   rw[S4 n,n,TD];by_cases N:L.2[L.2.length-1]'(by omega)=[]
   ·rw[N];simp
   ·rw[if_neg (by have:=eb.2 N;omega),if_neg (by simp[N])]
 obtain⟨r,S,b⟩:=Vy (l:=L.2) (σ:=Int×(Int×List Int)) (λi j=>(j.1,(j.2.1,((0:Int),((i:Int),bg j.2.2)))))
  (λm i j=>Ze L.1 i j.2.2 m=T) (λ(r:Nat×((Int×(Int×(Int×(Int×List (Int×Bool)))))×Unit))=>Q1 T r.2.1.1 r.2.1.2.1 r.2.1.2.2.1)
  (f:=λs0=>br (Sz s0.2.2.2.1 (L.2.length:Int)) (λ_=>Rz s0.2.2.2.1 λk1=>ix L.2 k1 λY=>br (Sx (Y.length:Int) 2) (λ_=>some (.dn ((0,((0,(s0.2.2.2.1,(3,s0.2.2.2))),()))))) λ_=>bd (loop (λa=>br (Sz a.2.1 (Y.length:Int)) (λ_=>Rz a.2.1 λP=>ix Y P λp=>gd (Rv s0.2.2.2.1 0) λ_=>bd (Vf (p,S2 .i64 L.1 s0.2.2.2.1)) λg=>br (OX g 0) (λ_=>br (SK (MS ((λJ=>(λK=>OX J K))) a.2.2.2 p.1) false) (λ_=>some (.dn ((0,((a.2.1,(a.2.1,(8,a.2.2.2))),()))))) λ_=>br (Rw g 0) (λ_=>some (.dn ((0,((a.2.1,(a.2.1,(g,a.2.2.2))),()))))) λ_=>some (.nx ((a.2.1,(SC .i64 a.2.1 1,(g,IP ((λM=>(λw=>OX M w))) a.2.2.2 p.1 true)))))) λ_=>br (Rw g 0) (λ_=>some (.dn ((0,((a.2.1,(a.2.1,(g,a.2.2.2))),()))))) λ_=>some (.nx ((a.2.1,(SC .i64 a.2.1 1,(g,IP ((λx=>(λy=>OX x y))) a.2.2.2 p.1 true)))))) λ_=>some (.dn ((1,(a,()))))) ((0,(0,(s0.2.2.1,s0.2.2.2.2))))) λd=>br (neq d.1 0) (λ_=>some (.dn ((0,((d.2.1.1,(s0.2.2.2.1,(d.2.1.2.2.1,(s0.2.2.2.1,d.2.1.2.2.2)))),()))))) λ_=>some (.nx ((d.2.1.1,(s0.2.2.2.1,(d.2.1.2.2.1,(SC .i64 s0.2.2.2.1 1,d.2.1.2.2.2))))))) λ_=>some (.dn ((0,(s0,())))))
  (s:=(0,(0,(0,(0,[]))))) (0,(0,[])) rfl (by omega) I.symm (λj h=>by
   refine⟨_,by simp only;rw[re];rfl,?_⟩;simp only at h ⊢;rw[<- h];exact rfl) (λi rs m j hd n hi h=>by
   obtain⟨s1,s2,c⟩:=j;simp only at h ⊢;obtain⟨hrs1,F⟩:=hr rs (co n);rw[rl hi,SW,Ta,S4 n,TF];unfold Ze at h;by_cases Z:rs.length>2
   ·rw[if_pos (by omega)];rw[if_pos Z]at h;refine .inr ⟨_,rfl,?_⟩;rw[<- h];exact⟨rfl,rfl,rfl⟩
   rw[if_neg (by omega)];rw[if_neg Z]at h;obtain⟨U,hU⟩:∃ U,U=Zf (Uf L.1 i) 0 c rs:=⟨_,rfl⟩;rw[<- hU]at h
   obtain⟨r,S,b⟩:=Vy (l:=rs) (σ:=Int) (λk j=>(j,((k:Int),((0:Int),bg (c++(rs.take k).map (·.1))))))
    (λm k _=>Zf (Uf L.1 i) k (c++(rs.take k).map (·.1)) m=U) (λ(r:Nat×((Int×(Int×(Int×List (Int×Bool))))×Unit))=>Q2 (bg (c++rs.map (·.1))) U r.1 r.2.1.1 r.2.1.2.2.1 r.2.1.2.2.2)
    (f:=λa=>br (Sz a.2.1 (rs.length:Int)) (λ_=>Rz a.2.1 λP=>ix rs P λp=>gd (Rv (i:Int) 0) λ_=>bd (Vf (p,S2 .i64 L.1 (i:Int))) λg=>br (OX g 0) (λ_=>br (SK (MS ((λJ=>(λK=>OX J K))) a.2.2.2 p.1) false) (λ_=>some (.dn ((0,((a.2.1,(a.2.1,(8,a.2.2.2))),()))))) λ_=>br (Rw g 0) (λ_=>some (.dn ((0,((a.2.1,(a.2.1,(g,a.2.2.2))),()))))) λ_=>some (.nx ((a.2.1,(SC .i64 a.2.1 1,(g,IP ((λM=>(λw=>OX M w))) a.2.2.2 p.1 true)))))) λ_=>br (Rw g 0) (λ_=>some (.dn ((0,((a.2.1,(a.2.1,(g,a.2.2.2))),()))))) λ_=>some (.nx ((a.2.1,(SC .i64 a.2.1 1,(g,IP ((λx=>(λy=>OX x y))) a.2.2.2 p.1 true)))))) λ_=>some (.dn ((1,(a,())))))
    (s:=(0,(0,(0,bg c)))) 0 (by simp) (by omega) (by simp[hU]) (λj h=>by
     refine⟨_,by simp only;rw[re];rfl,?_⟩;rw[<- h];exact⟨rfl,rfl,by simp⟩) (λk r m j hd n hk h=>by
     simp only at h ⊢;have hr2:=F r (co n);have G:(rs.take (k+1)).map (·.1)=(rs.take k).map (·.1)++[r.1]:=by rw[iP,n];simp
     rw[rl hk,SW,Ta,S4 n,show gd (Rv (i:Int) 0)=λ(q:Unit->Option (LR (Int×(Int×(Int×List (Int×Bool)))) (Nat×((Int×(Int×(Int×List (Int×Bool))))×Unit))))=>q ()from by unfold Rv;simp[gd];rfl,aN (by omega) (by omega) (by omega)];simp only;rw[cF _ _ (by omega),Sn,TD,kO,TI];unfold Zf at h;rw[sY]at h;by_cases o:kR [] (Uf L.1 i) r=0
     ·rw[if_pos o]at h;rw[if_pos o,if_pos o,VE];by_cases E:r.1∈c++(rs.take k).map (·.1)
      ·rw[if_pos E];rw[if_pos E,if_pos (by decide)]at h;refine .inr ⟨_,rfl,?_⟩;rw[<- h];exact⟨rfl,rfl,rfl⟩
      ·rw[if_neg E];rw[if_neg E,if_neg (by decide)]at h;refine .inl ⟨(k:Int),?_,?_⟩
       ·rw[kP E,o,Tn n (by omega),G,ed]
       ·rw[G,<- ed];exact h
     ·rw[if_neg o,if_pos o]at h;rw[if_neg o,if_neg o];refine .inr ⟨_,rfl,?_⟩;rw[<- h]
      exact⟨rfl,rfl,rfl⟩)
   rw[S,Sn,So];cases D:U with
   |some u=>
    obtain⟨k,e⟩:=u;rw[D]at b h;rw[if_pos b.1];refine .inr ⟨_,rfl,?_⟩;rw[<- h];exact⟨b.2.1,rfl,b.2.2⟩
   |none=>
    rw[D]at b h;rw[if_neg (show ¬ r.1=0 by have:=b.1;omega)];refine .inl ⟨(r.2.1.1,((i:Int),c++rs.map (·.1))),?_,h⟩
    rw[b.2.1,b.2.2,Tn n (by omega)])
 refine Tv S ?_;cases B:T with
 |some t=>
  obtain⟨i,k,e⟩:=t;rw[B]at b I;rw[TI,if_neg (by rw[b.2.2];exact cg I.symm),b.1,b.2.1,b.2.2]
 |none=>
  rw[B]at b;have h:=C _ b B;have q3:r.2.1.2.2.1=0:=b;rw[TI,if_pos q3]at h ⊢;exact h
end
section
open Go Sv
structure VR (most:Int) (r:UA):Prop where
 id1:1<=r.1
 id2:r.1<=1000000
 vl:VL r.2
 ne:r.2≠[]
 le:(r.2.length:Int)<=most
theorem gS{a:List Int}{most:Int}{r:UA}:kR a most r=0<->VR most r/\r.1 ∉ a:=by
 unfold kR;constructor
 ·intro h;by_cases f:r.1<1\/r.1>1000000
  ·rw[if_pos f]at h;cases h
  rw[if_neg f]at h;by_cases b:(Vl r.2).2≠0
  ·rw[if_pos b]at h;exact absurd h b
  rw[if_neg b]at h;by_cases c:r.2.length=0
  ·rw[if_pos c]at h;cases h
  rw[if_neg c]at h;by_cases g:(r.2.length:Int)>most
  ·rw[if_pos g]at h;cases h
  rw[if_neg g]at h;by_cases d:r.1∈a
  ·rw[if_pos d]at h;cases h
  exact⟨⟨by omega,by omega,YW.1 (by simpa using b),by intro e;rw[e]at c;exact c rfl,by omega⟩,d⟩
 ·rintro⟨h,d⟩;rw[if_neg (by have:=h.id1;have:=h.id2;omega),if_neg (by simp[YW.2 h.vl]),if_neg (by have:=eb.2 h.ne;omega),if_neg (by have:=h.le;omega),if_neg d]
def qi(r:UA):Int:=r.1
theorem aX{most:Int}:∀ {rs:List UA} {k:Nat} {a:List Int},Zf most k a rs=none<->(∀ r∈rs,VR most r/\r.1 ∉ a)/\(rs.map qi).Nodup
 |[],k,a=>by simp[Zf]
 |r::rs,k,a=>by
  unfold Zf;by_cases h:kR a most r=0
  ·rw[if_neg (by simp[h]),aX (rs:=rs)];have f:=gS.1 h;simp only[ee,forall_eq_or_imp,ns,List.nodup_cons,nm,List.not_mem_nil,or_false,ox,not_exists,not_and,not_or];constructor
   ·rintro⟨b,d⟩;exact⟨⟨f,λx c=>⟨(b x c).1,(b x c).2.1⟩⟩,λx c e=>(b x c).2.2 e,d⟩
   ·rintro⟨⟨_,b⟩,d,g⟩;exact⟨λx c=>⟨(b x c).1,(b x c).2,d x c⟩,g⟩
  ·rw[if_pos h];simp only[reduceCtorEq,false_iff,not_and];intro b;exact absurd (gS.2 (b r (by simp))) h
theorem ZZ{B:Int}:∀ {ls:List (List UA)} {i:Nat} {c:List Int},Ze B i c ls=none<->(∀ k rs,ls[k]?=some rs->rs.length<=2 /\ ∀ r∈rs,VR (Uf B (i+k)) r/\r.1 ∉ c)/\(ls.flatten.map qi).Nodup
 |[],i,c=>by simp[Ze]
 |rs::ls,i,c=>by
  unfold Ze;by_cases h:rs.length>2
  ·rw[if_pos h];simp only[reduceCtorEq,false_iff,not_and];intro j;have:=(j 0 rs rfl).1;omega
  ·rw[if_neg h];cases g:Zf (Uf B i) 0 c rs with
   |some x=>
    simp only[reduceCtorEq,false_iff,not_and];intro j l
    have m:Zf (Uf B i) 0 c rs=none:=aX.2 ⟨(j 0 rs rfl).2,by
     simp only[sa,s5]at l
     exact(sk.1 l).1⟩
    rw[g]at m;cases m
   |none=>
    have q:=aX.1 g;simp only;rw[ZZ (ls:=ls)];simp only[sa,s5,nm,not_or,ox];constructor
    ·rintro⟨j,l⟩;refine⟨λk d n=> ?_,?_⟩
     ·cases k with
      |zero=>cases n;exact⟨by omega,q.1⟩
      |succ k=>
       have m:=j k d n
       exact⟨m.1,λr g=>by
        have:=m.2 r g;rw[show i+(k+1)=i+1+k by omega]
        exact⟨this.1,this.2.1⟩⟩
     ·rw[sk];refine⟨q.2,l,?_⟩;intro a s b t e;subst e;obtain⟨r,g,e1⟩:=ox.1 s;obtain⟨p,f,e2⟩:=ox.1 t;obtain⟨d,o,f⟩:=l6.1 f;obtain⟨k,n⟩:=en o;exact((j k d n).2 p f).2.2 ⟨r,g,by unfold qi at e1 e2;omega⟩
    ·rintro⟨j,l⟩;rw[sk]at l;refine⟨λk d n=> ?_,l.2.1⟩;have m:=j (k+1) d n;refine⟨m.1,λr g=> ?_⟩;have:=m.2 r g;rw[show i+(k+1)=i+1+k by omega]at this;refine⟨this.1,this.2,?_⟩;rintro⟨p,f,e⟩;exact l.2.2 (qi p) (nn f) (qi r) (nn (l6.2 ⟨d,co n,g⟩)) e
structure VLev (L:Te):Prop where
 B1:1<=L.1
 B2:L.1<=16
 len:L.2.length<=12
 lev:∀ i rs,L.2[i]?=some rs->rs.length<=2 /\ ∀ r∈rs,VR (Uf L.1 i) r
 ids:(L.2.flatten.map qi).Nodup
 last:L.2.getLast? ≠ some []
theorem YL{L:Te}:(V6 L).2.2=0<->VLev L:=by
 unfold V6;constructor
 ·intro h;by_cases c:L.1<1\/L.1>16
  ·rw[if_pos c]at h;cases h
  rw[if_neg c]at h;by_cases d:L.2.length>12
  ·rw[if_pos d]at h;cases h
  rw[if_neg d]at h;cases a:Ze L.1 0 [] L.2 with
  |some x=>
   obtain⟨i,k,e⟩:=x;rw[a]at h;exact absurd h (cg a)
  |none=>
   rw[a]at h;simp only at h;by_cases f:L.2.getLast?=some []
   ·rw[if_pos f]at h;cases h
   ·have g:=ZZ.1 a
    exact⟨by omega,by omega,by omega,λi rs hi=>by
     have:=g.1 i rs hi;rw[ey]at this
     exact⟨this.1,λr b=>(this.2 r b).1⟩,g.2,f⟩
 ·intro h
  have a:Ze L.1 0 [] L.2=none:=ZZ.2 ⟨λk rs j=>by
   have:=h.lev k rs j;rw[ey]
   exact⟨this.1,λr b=>⟨this.2 r b,by simp⟩⟩,h.ids⟩
  rw[if_neg (by have:=h.B1;have:=h.B2;omega),if_neg (by have:=h.len;omega),a];simp only;rw[if_neg h.last]
theorem XN{L:Te}(h:VLev L):V6 L=(0,(0,0)):=by
 have a:Ze L.1 0 [] L.2=none:=ZZ.2 ⟨λk rs b=>by
  have:=h.lev k rs b;rw[ey]
  exact⟨this.1,λr c=>⟨this.2 r c,by simp⟩⟩,h.ids⟩
 unfold V6;rw[if_neg (by have:=h.B1;have:=h.B2;omega),if_neg (by have:=h.len;omega),a];simp only;rw[if_neg h.last]
def Wd(l:List (List UA)):Int:=l.foldl (λm rs=>rs.foldl (λm r=>TP m r.1) m) 0
def Tj:Nat->List (List UA)->List Int
 |_,[]=>[]
 |i,rs::ls=>(if rs.length=2 then[(i:Int)]else[])++Tj (i+1) ls
theorem dS(L:Te)(f:L.2.length<=1048576)(d:∀ rs∈L.2,rs.length<=1048576):Wq L=some (Wd L.2):=by
 unfold Wq;simp only[Tf,Td]
 rw[U4 (l:=L.2) (σ:=Int) (s:=((0:Int),(0:Int))) (λi m=>(m,(i:Int))) (λ_ _ _=>True) (λls _ m=>(0,((ls.foldl (λm rs=>rs.foldl (λm r=>TP m r.1) m) m,(L.2.length:Int)),()))) 0 rfl (by omega) trivial (λm _=>by
  simp only;rw[re];rfl) (λi rs ls m b a hi _=>by
   refine⟨rs.foldl (λm r=>TP m r.1) m,?_,trivial,rfl⟩;have e:=d rs (co a);simp only
   rw[rl hi,SW,Ta,S4 a,U4 (l:=rs) (σ:=Int) (s:=((0:Int),m)) (λi m=>((i:Int),m)) (λ_ _ _=>True) (λl _ m=>(0,(((rs.length:Int),l.foldl (λm r=>TP m r.1) m),()))) m rfl (by omega) trivial (λm _=>by
    simp only;rw[re];rfl) (λk r l m b a c _=>by
     refine⟨TP m r.1,?_,trivial,rfl⟩;simp only
     rw[rl c,SW,Ta,S4 a,Tn a (by omega)]),Sn,Tn a (by omega)]),Sn]
 rfl
def Zd(L:Te)(a:List Int)(i:Nat)(j:Job):Bool:=match a[i]? with
 |none=>true
 |some d=>if j.1≠d then true else if j.2.2.1.2.2=true/\j.1≠(L.2.length:Int)-1 then true else match L.2[d.toNat]? with
  |some [r0,r1]=>if j.2.2.2.2<0\/j.2.2.2.2>((r1.2.length+r0.2.length:Nat):Int)then true else decide (VU r1.2 r0.2 j.2.2.1.2.2 j.2.2.2.2.toNat≠j.2)
  |_=>true
def Wu(L:Te)(a:List Int):Nat->List Job->Option Nat
 |_,[]=>none
 |i,j::js=>if Zd L a i j=true then some i else Wu L a (i+1) js
def Tc(s:Tb):Int×Int:=
 if(V6 s.1).2.2≠0 then(-1,(V6 s.1).2.2)else if s.2.2<1\/s.2.2>1000001 then(-1,7)else if s.2.2<=Wd s.1.2 then(-1,6)else match Wu s.1 (Tj 0 s.1.2) 0 s.2.1 with
  |some i=>((i:Int),6)
  |none=>if s.2.1.length<(Tj 0 s.1.2).length then(-1,4)else(0,0)
theorem X3:∀ {ls:List (List UA)} {i k:Nat} {d:Int},(Tj i ls)[k]?=some d -> ∃ n:Nat,d=((i+n:Nat):Int) /\ ∃ e f,ls[n]?=some [e,f]
 |[],i,k,d,h=>by cases h
 |rs::ls,i,k,d,h=>by
  unfold Tj at h;by_cases a:rs.length=2
  ·rw[if_pos a]at h;cases k with
   |zero=>
    simp at h;refine⟨0,by simp[<- h],?_⟩
    match rs,a with
    |[e,f],_=>exact⟨e,f,rfl⟩
   |succ k=>
    simp at h;obtain⟨n,b,c⟩:=X3 h;exact⟨n+1,by rw[b];congr 1;omega,c⟩
  ·rw[if_neg a]at h;simp at h;obtain⟨n,b,c⟩:=X3 h;exact⟨n+1,by rw[b];congr 1;omega,c⟩
theorem Vn:∀ (ls:List (List UA)) (i:Nat),(Tj i ls).length<=ls.length
 |[],i=>eg _
 |rs::ls,i=>by
  have:=Vn ls (i+1);unfold Tj;split<;>simp<;>omega
theorem dD{L:Te}{n:Nat}{a b:UA}(c:Bool)(h:L.2[n]?=some [a,b])(d:VL a.2)(e:VL b.2):VH (L,((n:Int),c))=some ((n:Int),VU b.2 a.2 c 0):=by
 unfold VH;simp only;rw[Ta,S4 h,S4 (x:=b) rfl,S4 (x:=a) rfl,hG e d];rfl
theorem bm{a b:List TZ}(va:VL a)(d:VL b)(c:Bool){n:Nat}(h:n<=a.length+b.length):(VU a b c n).1.1.length<=1000/\(∀ l∈(VU a b c n).1.1,l.length<=1000000)/\(VU a b c n).1.2.1.length<=1000/\(VU a b c n).1.2.2.1.length<=1000/\(VU a b c n).1.2.2.2.1.length<=1000/\(VU a b c n).2.2.1.length<=1000000:=by
 have j:=va.len;have k:=d.len;refine⟨show 2<=1000 by omega,λl f=> ?_,show 2<=1000 by omega,show 2<=1000 by omega,show 2<=1000 by omega,?_⟩
 ·have:l=a\/l=b:=by simpa[VU,Zj,Zu]using f
  rcases this with e|e<;>subst e<;>omega
 ·have g:=YX (s0 c) (Tw a b n);have i:=VC va d h;show(WO (s0 c) (Tw a b n)).length<=_;omega
theorem sX{L:Te}{n:Nat}{a b:UA}{j:Job}(h:L.2[n]?=some [a,b])(e:VL a.2)(f:VL b.2){β:Type}(A B:Option β) :
  (bd (VH (L,((n:Int),j.2.2.1.2.2))) λc=>bd (Ug c.2) λl=>br (Sz j.2.2.2.2 0) (λ_=>A) λ_=>br (Sx j.2.2.2.2 l.1) (λ_=>A) λ_=>bd (Uv (c.2,j.2.2.2.2)) λm=>bd (V0 (m.1,j.2)) λo=>br (He o) (λ_=>A) λ_=>B)
  = if j.2.2.2.2<0\/j.2.2.2.2>((b.2.length+a.2.length:Nat):Int)then A else if VU b.2 a.2 j.2.2.1.2.2 j.2.2.2.2.toNat=j.2 then B else A:=by
 rw[dD _ h e f,Sn,aY f e _ (ll _),Sn,TH,TF,mg];by_cases g:j.2.2.2.2<0
 ·rw[if_pos g,if_pos (.inl g)]
 rw[if_neg g];by_cases i:j.2.2.2.2>((b.2.length+a.2.length:Nat):Int)
 ·rw[if_pos i,if_pos (.inr i)]
 rw[if_neg i,if_neg (show ¬ (j.2.2.2.2<0\/j.2.2.2.2>((b.2.length+a.2.length:Nat):Int)) by omega)];obtain⟨k,p⟩:∃ k:Nat,j.2.2.2.2=(k:Int):=⟨j.2.2.2.2.toNat,by omega⟩;rw[p,cQ f e _ (ll _),Sn,mg,ey,ul (by omega),bl];obtain⟨s1,s2,q,r,s,t⟩:=bm f e j.2.2.1.2.2 (n:=k) (by omega);rw[dT _ _ s1 s2 q r s t,Sn,U6,VE];by_cases d:VU b.2 a.2 j.2.2.1.2.2 k=j.2
 ·rw[if_neg (by simp[d]),if_pos d]
 ·rw[if_pos d,if_neg d]
theorem eO(s:Tb)(N:s.1.2.length<=1048576)(hr:∀ rs∈s.1.2,rs.length<=1048576 /\ ∀ r∈rs,r.2.length<=9223372036854775807)(hj:s.2.1.length<=1048576):Ui s=some (Tc s):=by
 unfold Ui Tc;simp only[Tf,Td];rw[Zo _ N hr,Sn,TI];by_cases z:(V6 s.1).2.2=0;rotate_left
 ·rw[if_neg z,if_pos z]
 rw[if_pos z,if_neg (by simp[z]),TH,TF,dS _ N (λrs h=>(hr rs h).1),Sn];have v:=YL.1 z;by_cases C:s.2.2<1
 ·rw[if_pos C,if_pos (.inl C)]
 rw[if_neg C];by_cases p:s.2.2>1000001
 ·rw[if_pos p,if_pos (.inr p)]
 rw[if_neg p,if_neg (show ¬ (s.2.2<1\/s.2.2>1000001) by omega),TG];by_cases o:s.2.2<=Wd s.1.2
 ·rw[if_pos o,if_pos o]
 rw[if_neg o,if_neg o]
 rw[U4 (l:=s.1.2) (σ:=List Int) (s:=((0:Int),([]:List Int))) (λi m=>((i:Int),m)) (λls i m=>m++Tj i ls=Tj 0 s.1.2) (λ_ _ _=>(0,(((s.1.2.length:Int),Tj 0 s.1.2),()))) [] rfl (by omega) rfl (λm h=>by
  simp only;rw[re,R5,<- h];simp[Tj]) (λi rs ls m hd E hi h=>by
   refine⟨m++(if rs.length=2 then[(i:Int)]else[]),?_,?_,rfl⟩
   ·simp only;rw[rl hi,SW,Ta,S4 E,TD]
    have hm:m.length<=1048575:=by
     have D:=congrArg kd h;have q:=Vn s.1.2 0;have u:=v.len;rw[gl]at D;omega
    by_cases D:rs.length=2
    ·rw[if_pos (by omega),if_pos D,Tk (by simp only[BF,AS,cP,dc];omega),Tn E (by omega)];rfl
    ·rw[if_neg (by omega),if_neg D,fl,Tn E (by omega)]
   ·rw[ed];exact h),Sn]
 simp only;obtain⟨a,g⟩:∃ a,a=Tj 0 s.1.2:=⟨_,rfl⟩;have hdl:a.length<=12:=by have:=Vn s.1.2 0;have:=v.len;rw[g];omega
 rw[<- g];obtain⟨T,hT⟩:∃ T,T=Wu s.1 a 0 s.2.1:=⟨_,rfl⟩;rw[<- hT]
 obtain⟨r,q1,I⟩:=Vy (l:=s.2.1) (σ:=Unit) (λi _=>((0:Int),((0:Int),(i:Int)))) (λjs i _=>Wu s.1 a i js=T) (λ(r:Nat×((Int×(Int×Int))×Unit))=>(T=none/\r.1=1)\/(∃ i:Nat,T=some i/\r.1=0/\r.2.1.1=6/\r.2.1.2.1=(i:Int)))
  (f:=λb=>br (Sz b.2.2 (s.2.1.length:Int)) (λ_=>Rz b.2.2 λk7=>ix s.2.1 k7 λe=>br (Rv b.2.2 (a.length:Int)) (λ_=>some (.dn ((0,((6,(b.2.2,b.2.2)),()))))) λ_=>Rz b.2.2 λk9=>gd (KI k9 a.length) λ_=>ix a k9 λx10=>br (Rw e.1 x10) (λ_=>some (.dn ((0,((6,(b.2.2,b.2.2)),()))))) λ_=>br e.2.2.1.2.2 (λ_=>bd (Ve (s.1,e.1)) λP=>br (He P) (λ_=>some (.dn ((0,((6,(b.2.2,b.2.2)),()))))) λ_=>bd (VH ((s.1,(e.1,e.2.2.1.2.2)))) λL=>bd (Ug L.2) λS=>br (Sz e.2.2.2.2 0) (λ_=>some (.dn ((0,((6,(b.2.2,b.2.2)),()))))) λ_=>br (Sx e.2.2.2.2 S.1) (λ_=>some (.dn ((0,((6,(b.2.2,b.2.2)),()))))) λ_=>bd (Uv (L.2,e.2.2.2.2)) λU=>bd (V0 (U.1,e.2)) λW=>br (He W) (λ_=>some (.dn ((0,((6,(b.2.2,b.2.2)),()))))) λ_=>some (.nx ((b.1,(b.2.1,SC .i64 b.2.2 1))))) λ_=>bd (VH ((s.1,(e.1,e.2.2.1.2.2)))) λM=>bd (Ug M.2) λX=>br (Sz e.2.2.2.2 0) (λ_=>some (.dn ((0,((6,(b.2.2,b.2.2)),()))))) λ_=>br (Sx e.2.2.2.2 X.1) (λ_=>some (.dn ((0,((6,(b.2.2,b.2.2)),()))))) λ_=>bd (Uv (M.2,e.2.2.2.2)) λY=>bd (V0 (Y.1,e.2)) λZ=>br (He Z) (λ_=>some (.dn ((0,((6,(b.2.2,b.2.2)),()))))) λ_=>some (.nx ((b.1,(b.2.1,SC .i64 b.2.2 1))))) λ_=>some (.dn ((1,(b,())))))
  (s:=(0,(0,0))) () rfl (by omega) hT.symm (λ_ h=>by
   refine⟨_,by simp only;rw[re];rfl,.inl ⟨by rw[<- h];rfl,rfl⟩⟩) (λi j js _ hd E hi h=>by
   simp only;rw[rl hi,SW,Ta,S4 E,TE];unfold Wu at h
   have c:Zd s.1 a i j=true -> ∃ r:Nat×((Int×(Int×Int))×Unit),(some (LR.dn ((0,((6,((i:Int),(i:Int))),()))):LR (Int×(Int×Int)) _))=some (.dn r)/\((T=none/\r.1=1)\/(∃ i:Nat,T=some i/\r.1=0/\r.2.1.1=6/\r.2.1.2.1=(i:Int))):=λN=>by
    rw[if_pos N]at h;exact⟨_,rfl,.inr ⟨i,h.symm,rfl,rfl,rfl⟩⟩
   have x:Zd s.1 a i j=false -> ∃ st':Unit,(some (LR.nx ((0:Int),((0:Int),SC .i64 (i:Int) 1))):Option (LR _ (Nat×((Int×(Int×Int))×Unit))))=some (.nx ((0:Int),((0:Int),((i+1:Nat):Int))))/\Wu s.1 a (i+1) js=T:=λhg=>by
    rw[if_neg (by simp[hg])]at h;exact⟨(),by rw[Tn E (by omega)],h⟩
   by_cases C:(i:Int)>=(a.length:Int)
   ·rw[if_pos C];exact .inr (c (by unfold Zd;rw[a9 (by omega)]))
   rw[if_neg C,Ta,Su,if_pos (by omega)];have w:a[i]?=some (a[i]'(by omega)):=by simp
   rw[S4 w,TI];obtain⟨n,O,J,K,y⟩:=X3 (ls:=s.1.2) (i:=0) (k:=i) (d:=a[i]'(by omega)) (by rw[<- g];exact w);rw[ey]at O
   have t:Zd s.1 a i j=(if j.1≠(a[i]'(by omega))then true else if j.2.2.1.2.2=true/\j.1≠(s.1.2.length:Int)-1 then true else if j.2.2.2.2<0\/j.2.2.2.2>((K.2.length+J.2.length:Nat):Int)then true else decide (VU K.2 J.2 j.2.2.1.2.2 j.2.2.2.2.toNat≠j.2)):=by
    unfold Zd;rw[w];simp only;rw[O,bl,y]
   by_cases p:j.1=(a[i]'(by omega));rotate_left
   ·rw[if_neg p];exact .inr (c (by rw[t,if_pos p]))
   rw[if_pos p];rw[if_neg (by simp[p])]at t;have F:j.1=(n:Int):=by rw[p,O]
   have hv:=(v.lev n _ y).2;have v0:=(hv J (by simp)).vl;have v1:=(hv K (by simp)).vl;have G:SG .i64 (s.1.2.length:Int) 1=(s.1.2.length:Int)-1:=Sd (by omega);unfold Ve;simp only[Tf,Td];rw[Sn,G,Vx,U6,VE,F,sX y v0 v1,TL];rw[F]at t;by_cases o:j.2.2.1.2.2=true/\(n:Int)≠(s.1.2.length:Int)-1
   ·rw[if_pos o.1,if_pos o.2];exact .inr (c (by rw[t,if_pos o]))
   rw[if_neg o]at t
   have D:∀ {γ:Type} (A B:γ),(if j.2.2.1.2.2=true then if ¬(n:Int)=(s.1.2.length:Int)-1 then A else B else B)=B:=by
    intro γ A B;by_cases q:j.2.2.1.2.2=true
    ·rw[if_pos q,if_neg (λu=>o ⟨q,u⟩)]
    ·rw[if_neg q]
   rw[D];by_cases q:j.2.2.2.2<0\/j.2.2.2.2>((K.2.length+J.2.length:Nat):Int)
   ·rw[if_pos q];exact .inr (c (by rw[t,if_pos q]))
   rw[if_neg q];rw[if_neg q]at t;by_cases u:VU K.2 J.2 j.2.2.1.2.2 j.2.2.2.2.toNat=j.2
   ·rw[if_pos u];exact .inl (x (by rw[t];simp[u]))
   ·rw[if_neg u]
    exact .inr (c (by rw[t];simp[u])))
 rw[z];refine Tv q1 ?_;rw[So];rcases I with⟨I,q3⟩|⟨i,I,q3,q4,q5⟩
 ·rw[if_neg (show ¬ r.1=0 by omega),I,TH];simp only;by_cases h7:s.2.1.length<a.length
  ·rw[if_pos (by omega),if_pos h7]
  ·rw[if_neg (by omega),if_neg h7]
 ·rw[if_pos q3,I,q4,q5]
end
section
open Go Sv
theorem Yz(x:TZ):Vg x=some (kE x):=by
 unfold Vg kE;rw[TF,Tf,Y9];by_cases e:x.1.length>32
 ·rw[if_pos (by omega),if_pos (.inl e)]
 rw[if_neg (by omega),TF,Tf,Y9];by_cases f:x.2.1.length>64
 ·rw[if_pos (by omega),if_pos (.inr f)]
 rw[if_neg (by omega:¬ (x.2.1.length:Int)>64),if_neg (by omega),TL];by_cases b:x.2.2.1=true
 ·rw[if_pos b,UI,V2];by_cases c:x.2.1=[]
  ·rw[if_pos c,if_neg (by simp[c]),TH,TF];by_cases a:x.2.2.2<1
   ·simp[a]
   ·by_cases d:x.2.2.2>1000000000<;>simp[a,d]
  ·rw[if_neg c,if_pos ⟨b,c⟩]
 ·rw[if_neg b,if_neg (by simp[b]),TH,TF];by_cases a:x.2.2.2<1
  ·simp[a]
  ·by_cases d:x.2.2.2>1000000000<;>simp[a,d]
def Vd:List UInt8->List UInt8->Nat
 |x::a,y::b=>if x=y then Vd a b+1 else 0
 |_,_=>0
theorem pL(x y:UInt8):OX (TV x) (TV y)=decide (x=y):=by
 rw[Vx];unfold TV;by_cases h:x=y
 ·simp[h]
 ·have:¬ ((x.toNat:Int)=(y.toNat:Int)):=λe=>h (UInt8.toNat_inj.1 (by omega));simp[h,this]
theorem iC(a b:List UInt8)(z:a.length<=9223372036854775806):XB (a,b)=some (Vd a b:Int):=by
 unfold XB;simp only[Tf,Y9]
 have key:∀ (m:List UInt8) (k n:Nat),a.drop k=m->k<=a.length->k<=b.length->m.length<n->IH n (λs0=>br (Sz s0 (a.length:Int)) (λ_=>br (Sz s0 (b.length:Int)) (λ_=>Rz s0 λt=>ix a t λw=>Rz s0 λu=>ix b u λy=>br (OX (TV w) (TV y)) (λ_=>some (LR.nx (SC .i64 s0 1))) λ_=>some (.dn ((0,(s0,()))))) λ_=>some (.dn ((0,(s0,()))))) λ_=>some (.dn ((0,(s0,()))))) (k:Int)=some ((0:Nat),(((k+Vd m (b.drop k):Nat):Int),())):=by
  intro m
  induction m with
  |nil=>
   intro k n f r h p;obtain⟨n,rfl⟩:∃ j,n=j+1:=⟨n-1,by omega⟩
   have i:k=a.length:=by
    have:=congrArg kd f;simp at this;omega
   subst i;refine UT ?_;rw[re];simp[R5,Vd]
  |cons x m s=>
   intro k n f r h p;obtain⟨n,rfl⟩:∃ j,n=j+1:=⟨n-1,by omega⟩
   have o:a[k]?=some x:=by
    have:=congrArg s7 f;rw[oy]at this;simpa using this
   have c:k<a.length:=(a8.1 o).1
   have l:a.drop (k+1)=m:=by
    have:=congrArg s6 f;rw[nP]at this;simpa using this
   by_cases d:k<b.length
   ·have q:b[k]?=some b[k]:=by simp[d]
    rw[ml d];unfold Vd;by_cases e:x=b[k]
    ·rw[if_pos e];refine(UL (s':=((k+1:Nat):Int)) ?_).trans ?_
     ·rw[rl c,SW,rl d,SW,Ta,S4 o,Ta,S4 q,pL,VE,if_pos e,Ti (by omega)]
     ·rw[s (k+1) n l (by omega) (by omega) (by simp at p;omega),show k+1+Vd m (b.drop (k+1))=k+(Vd m (b.drop (k+1))+1) by omega]
    ·rw[if_neg e];refine UT ?_;rw[rl c,SW,rl d,SW,Ta,S4 o,Ta,S4 q,pL,VE,if_neg e];simp
   ·have g:k=b.length:=by omega
    refine UT ?_;rw[rl c,SW,g,re,R5,x5];simp[Vd]
 refine Tv (U1 (n:=a.length+1) (by omega) (key a 0 (a.length+1) (by simp) (by omega) (by omega) (by omega))) ?_;simp
def Zq(a b:V8):Int:=if SP a b=true then -1 else if a=b then 0 else 1
theorem dG:∀ (a b:V8),(Vd a b<=a.length/\Vd a b<=b.length)/\(Vd a b=a.length->Vd a b=b.length->Zq a b=0)/\(Vd a b=a.length->Vd a b≠b.length->Zq a b = -1)/\(Vd a b≠a.length->Vd a b=b.length->Zq a b=1)/\(∀ x y,a[Vd a b]?=some x->b[Vd a b]?=some y->Zq a b=if x.toNat<y.toNat then -1 else 1)
 |[],[]=>by simp[Vd,Zq,aD]
 |[],y::b=>by simp[Vd,Zq,cu]
 |x::a,[]=>by simp[Vd,Zq,aD]
 |x::a,y::b=>by
  obtain⟨⟨o,g⟩,i,j,k,l⟩:=dG a b;by_cases e:x=y
  ·subst e
   have n:Zq (x::a) (x::b)=Zq a b:=by
    unfold Zq;rw[Yk];simp
   have hc:Vd (x::a) (x::b)=Vd a b+1:=by simp[Vd]
   rw[n,hc];refine⟨⟨by simp;omega,by simp;omega⟩,λu v=>i (by simp at u;omega) (by simp at v;omega),λu v=>j (by simp at u;omega) (by simp at v;omega),λu v=>k (by simp at u;omega) (by simp at v;omega),λp q d f=>l p q (by simpa using d) (by simpa using f)⟩
  ·have hc:Vd (x::a) (y::b)=0:=by simp[Vd,e]
   rw[hc];refine⟨⟨by omega,by omega⟩,λu=>by simp at u,λu=>by simp at u,λ_ u=>by simp at u,λp q d f=> ?_⟩;simp at d f;subst d f;unfold Zq;rw[Yk];have m:¬ (x::a=y::b):=λh=>e (by injection h);by_cases c:x.toNat<y.toNat
   ·have:x<y:=xa.2 c;simp[this,c]
   ·have:¬ x<y:=λh=>c (xa.1 h);simp[this,c,e]
theorem jo(a b:V8)(p:a.length<=1000000000)(q:b.length<=1000000000):Wk (a,b)=some (Zq a b):=by
 obtain⟨⟨o,i⟩,j,k,l,m⟩:=dG a b;unfold Wk;simp only[Tf,Y9];rw[iC a b (by omega),Sn,TD]
 have n:(if(Vd a b:Int)<(b.length:Int)then(Rz (Vd a b:Int) λc=>ix a c λe=>Rz (Vd a b:Int) λd=>ix b d λf=>br (Sz (TV e) (TV f)) (λ_=>some (-1:Int)) λ_=>some 1)else some 1)=(if Vd a b=a.length then(if(Vd a b:Int)<(b.length:Int)then(Rz (Vd a b:Int) λc=>ix a c λe=>Rz (Vd a b:Int) λd=>ix b d λf=>br (Sz (TV e) (TV f)) (λ_=>some (-1:Int)) λ_=>some 1)else some 1)else some (Zq a b)):=by
  by_cases u:Vd a b=a.length
  ·rw[if_pos u]
  ·rw[if_neg u];by_cases v:Vd a b=b.length
   ·rw[if_neg (by omega),l u v]
   ·rw[if_pos (by omega),Ta];have g:a[Vd a b]?=some (a[Vd a b]'(by omega)):=by simp
    have h:b[Vd a b]?=some (b[Vd a b]'(by omega)):=by simp
    rw[S4 g,Ta,S4 h,TH,m _ _ g h];unfold TV;by_cases w:(a[Vd a b]'(by omega)).toNat<(b[Vd a b]'(by omega)).toNat
    ·rw[if_pos (by omega),if_pos w]
    ·rw[if_neg (by omega),if_neg w]
 by_cases u:Vd a b=a.length
 ·rw[if_pos (by omega),TD];by_cases v:Vd a b=b.length
  ·rw[if_pos (by omega),j u v]
  ·rw[if_neg (by omega),TD,if_pos (by omega),k u v]
 ·rw[if_neg (by omega),TD,if_neg (by omega),TH,n,if_neg u]
theorem gX(a b:V8):Zq a b>=0<->SP a b=false:=by
 unfold Zq;cases h:SP a b with
 |true=>simp
 |false=>simp;split<;>omega
theorem XS(l:List TZ)(E:l.length<=9223372036854775807):VY l=some (Vl l):=by
 unfold VY Vl;simp only[Tf,Td];rw[TF];by_cases h:l.length>5000
 ·rw[if_pos (by omega),if_pos h]
 rw[if_neg (by omega),if_neg h];obtain⟨T,o⟩:∃ T,T=ZF none 0 l:=⟨_,rfl⟩;rw[<- o]
 obtain⟨r,w,j⟩:=Vy (l:=l) (σ:=Unit) (s:=((0:Int),((0:Int),(0:Int)))) (λk _=>((0:Int),((0:Int),(k:Int)))) (λm k _=>ZF (if k=0 then none else(l[k-1]?).map (·.1)) k m=T/\(∀ y,k≠0->l[k-1]?=some y->kE y=0)) (λ(r:Nat×((Int×(Int×Int))×Unit))=>(r.1=1/\T=(0,0))\/(r.1=0/\T=(r.2.1.2.1,r.2.1.1)))
  (f:=λs0=>br (Sz s0.2.2 (l.length:Int)) (λ_=>Rz s0.2.2 λq=>ix l q λA=>bd (Vg A) λd=>br (OX d 0) (λ_=>br (Sx s0.2.2 0) (λ_=>Rz (SG .i64 s0.2.2 1) λt=>ix l t λB=>Rz s0.2.2 λu=>ix l u λC=>bd (Wk (B.1,C.1)) λz=>br (Rv z 0) (λ_=>some (.dn ((0,((6,(s0.2.2,s0.2.2)),()))))) λ_=>br (Rw d 0) (λ_=>some (.dn ((0,((d,(s0.2.2,s0.2.2)),()))))) λ_=>some (.nx ((s0.1,(s0.2.1,SC .i64 s0.2.2 1))))) λ_=>br (Rw d 0) (λ_=>some (.dn ((0,((d,(s0.2.2,s0.2.2)),()))))) λ_=>some (.nx ((s0.1,(s0.2.1,SC .i64 s0.2.2 1))))) λ_=>br (Rw d 0) (λ_=>some (.dn ((0,((d,(s0.2.2,s0.2.2)),()))))) λ_=>some (.nx ((s0.1,(s0.2.1,SC .i64 s0.2.2 1))))) λ_=>some (.dn ((1,(s0,())))))
  () rfl (by omega) ⟨o.symm,λ_ h=>absurd rfl h⟩ (λ_ h=>by
   refine⟨_,by simp only;rw[re];rfl,.inl ⟨rfl,?_⟩⟩;rw[<- h.1];simp[ZF]) (λk x m _ D g p h=>by
   simp only;obtain⟨h,c⟩:=h;rw[rl p,SW,Ta,S4 g,Yz,Sn,TD];unfold ZF at h
   have next:kE x=0->(T=ZF (some x.1) (k+1) m)->ZF (if k+1=0 then none else(l[k+1-1]?).map (·.1)) (k+1) m=T/\(∀ y,k+1≠0->l[k+1-1]?=some y->kE y=0):=λa e=>by
    rw[if_neg (by omega),Nat.add_sub_cancel,g,e];exact⟨rfl,λy _ i=>by cases i;exact a⟩
   by_cases a:kE x=0
   ·rw[if_pos a,TF];rw[if_neg (by simp[a])]at h;by_cases b:k=0
    ·rw[if_neg (by omega),TI,if_pos a];rw[if_pos b]at h;exact .inl ⟨(),by rw[Tn g (by omega)],next a h.symm⟩
    ·have i:l[k-1]?=some (l[k-1]'(by omega)):=by rw[ci]
     rw[if_pos (by omega),show SG .i64 (k:Int) 1=((k-1:Nat):Int) by rw[Sd (by omega)];omega,Ta,S4 i,Ta,S4 g];rw[if_neg b,i]at h;simp only[xw]at h;rw[jo _ _ (by have:=bD (c _ b i);omega) (by have:=bD a;omega),Sn,TE];by_cases hs:SP (l[k-1]'(by omega)).1 x.1=true
     ·rw[if_neg (λe=>by rw[gX,hs]at e;cases e),TI,if_pos a];rw[if_pos hs]at h;exact .inl ⟨(),by rw[Tn g (by omega)],next a h.symm⟩
     ·rw[if_pos ((gX _ _).2 (by simpa using hs))];rw[if_neg hs]at h;exact .inr ⟨_,rfl,.inr ⟨rfl,h.symm⟩⟩
   ·rw[if_neg a,TI,if_neg a];rw[if_pos a]at h
    exact .inr ⟨_,rfl,.inr ⟨rfl,h.symm⟩⟩)
 refine Tv w ?_;rw[So];rcases j with⟨j,n⟩|⟨j,n⟩
 ·rw[if_neg (show ¬ r.1=0 by omega),n]
 ·rw[if_pos j,n]
theorem pM(p q:UE)(d:WM p)(e:WM q):XE ([p,q],(0,1))=some (w0 p q):=by
 unfold XE w0;refine(WW 0 rfl (x:=p) rfl).trans ((WW 1 rfl (x:=q) rfl).trans ?_);rw[beq_eq,U6,VE,UI,TL];by_cases a:p.2=q.2
 ·rw[if_neg (show ¬ ¬ p.2=q.2 by simp[a]),if_neg (show ¬ p.2≠q.2 by simp[a])];by_cases b:p.2=true
  ·rw[if_pos b,d b,e (a ▸ b)];rfl
  ·rw[if_neg b,UI,V2];by_cases c:p.1=q.1
   ·rw[if_pos c,if_neg (by simp[c])];rfl
   ·rw[if_neg c,if_pos c]
 ·rw[if_pos a,if_pos a]
theorem ac(p q:UE)(n:Nat)(k:Int)(h:2<=k)(a:k<=100):NA Tx (n+1) ([p,q],k)=some (k-2,0):=by
 show Tx (NA Tx n) ([p,q],k)=_;unfold Tx;show br (Rv k 2) (λ_=>some (SG .i64 k 2,0)) _=_;rw[TE,if_pos h,Sd (by omega)]
theorem bK(p q:UE)(a:WM p)(b:WM q):XD ([p,q],1)=some (if w0 p q=true then(0,1)else(1,0)):=by
 show Tx (NA Tx 99) ([p,q],1)=_;unfold Tx;show br (Rv (1:Int) 2) (λ_=>some (SG .i64 (1:Int) 2,0)) (λ_=>bd (NA Tx (98+1) ([p,q],2)) λc=>bd (NA Tx (98+1) ([p,q],3)) _)=_;rw[TE,if_neg (by omega),ac p q 98 2 (by omega) (by omega),Sn,ac p q 98 3 (by omega) (by omega),Sn];show bd (XE ([p,q],(0,1))) _=_;rw[pM p q a b,Sn,TL];cases h:w0 p q<;>rfl
theorem pJ(p q:UE)(a:WM p)(c:WM q):Xv [p,q]=some (Tt p q):=by
 unfold Xv;refine Eq.trans (b:=bd (loop _ (1,([p,q],([0,0],0)))) _) rfl ?_;refine Tv (x:=(0,((2,([p,q],([0,if w0 p q=true then 1 else 0],0))),()))) (U1 (n:=2) (by omega) ((UL (s':=(2,([p,q],([0,if w0 p q=true then 1 else 0],0)))) ?_).trans (UT rfl))) ?_
 ·show bd (XD ([p,q],1)) _=_;rw[bK p q a c,Sn];refine(ZQ 1 rfl (x:=(0:Int)) rfl).trans ?_;cases h:w0 p q<;>rfl
 ·rw[bK p q a c,Sn];unfold Tt;cases h:w0 p q<;>rfl
theorem iZ{l:List UE}(h:∀ k∈l,WM k)(c:l≠[])(f:l.length<=32):XY l=some 0:=by
 unfold XY;simp only[Tf,Td];rw[TD,TF,if_neg (by have:=eb.2 c;omega),if_neg (by omega)]
 rw[U4 (l:=l) (σ:=Unit) (s:=((0:Int),(0:Int))) (λk _=>((k:Int),(0:Int))) (λ_ _ _=>True) (λ_ _ _=>(1,(((l.length:Int),0),()))) () rfl (by omega) trivial (λe _=>by
  simp only;rw[re];rfl) (λk x m e _ a d _=>⟨(),by
   simp only;rw[rl d,SW,Ta,S4 a,TL,Tn a (by omega)];by_cases b:x.2=true
   ·rw[if_pos b,Ta,S4 a,UI,V2,if_pos (h x (co a) b)]
   ·rw[if_neg b],trivial,rfl⟩),Sn]
 rfl
theorem iA(p q:UE)(a:WM p)(b:WM q):Wl [p,q]=some (Tt p q,0):=by
 unfold Wl;rw[iZ (by simp[a,b]) (by simp) (by simp),Sn,TI,if_pos rfl,pJ p q a b,Sn]
end
section
open Go Sv
theorem Xf:U0=Ue:=rfl
theorem bM:Xu=Ts:=rfl
theorem ec(l m:List UE)(i:l.length<=9223372036854775806)(j:l.length=m.length):∃ r,loop (λs1=>br (Sz s1.1 (l.length:Int)) (λ_=>Rz s1.1 λn=>ix l n λf=>Rz s1.1 λo=>ix m o λg=>br (He (Ni (seq f.1 g.1) (Ni (Sv.beq f.2 g.2) true))) (λ_=>some (LR.dn ((0:Nat),((s1.1,false),())))) λ_=>some (.nx (SC .i64 s1.1 1,s1.2))) λ_=>some (.dn ((1,(s1,()))))) ((0:Int),false)=some r/\((l=m/\r.1=1)\/(l≠m/\r.1=0/\r.2.1.2=false)):=by
 refine Yd l m j i (λk x y a d=> ?_) (by simp only;rw[re];rfl);have c:=(a8.1 a).1
 have b:∀ {β:Type} (u v:Unit->Option β),br (He (Ni (seq x.1 y.1) (Ni (Sv.beq x.2 y.2) true))) u v=if x=y then v ()else u ():=by
  intro β u v;rw[Zy,Zt,beq_eq,Yn,U6,VE];by_cases e:x=y
  ·subst e;simp
  ·rw[if_pos (λh=>e (ta h.1 h.2)),if_neg e]
 constructor
 ·intro e;simp only;rw[rl c,SW,Ta,S4 a,Ta,S4 d,b,if_pos e,Ti (by omega)]
 ·intro e;simp only;rw[rl c,SW,Ta,S4 a,Ta,S4 d,b,if_neg e]
theorem bN(s t:V1)(g:s.1.length<=1000)(h:s.2.1.length<=1000):XC (s,t)=some (decide (s=t)):=by
 obtain⟨b,d,k⟩:=s;obtain⟨c,f,l⟩:=t;simp only at g h;unfold XC;simp only[Tf,Td];rw[TI];by_cases e1:(b.length:Int)=(c.length:Int);rotate_left
 ·rw[if_neg e1];have:¬ b=c:=λe=>e1 (by rw[e]);simp[this]
 rw[if_pos e1,TI];by_cases e2:k=l;rotate_left
 ·rw[if_neg e2];simp[e2]
 rw[if_pos e2,bM,ZW _ _ (by omega),Sn,U6,VE];by_cases e3:d=f;rotate_left
 ·rw[if_pos e3];simp[e3]
 rw[if_neg (show ¬ ¬ d=f by simp[e3])];obtain⟨r,i,a⟩:=ec b c (by omega) (by omega);refine Tv i ?_;rw[So];rcases a with⟨e,a⟩|⟨e,a,j⟩
 ·rw[if_neg (show ¬ r.1=0 by omega)];simp[e,e2,e3]
 ·rw[if_pos a,j];simp[e]
theorem dl(s t:VT)(u:s.1.length<=1000)(g:∀ l∈s.1,l.length<=1000000)(w:s.2.1.length<=1000)(h:s.2.2.1.length<=1000)(i:s.2.2.2.1.length<=1000):Xx (s,t)=some (decide (s=t)):=by
 obtain⟨a,n,o⟩:=s;obtain⟨d,p,q⟩:=t;simp only at u g w h i;unfold Xx;simp only[Tf,Td];rw[TI];by_cases e1:(a.length:Int)=(d.length:Int);rotate_left
 ·rw[if_neg e1];have:¬ a=d:=λe=>e1 (by rw[e]);simp[this]
 rw[if_pos e1,bM,ZW _ _ (by omega),Sn,U6,VE];by_cases e2:n=p;rotate_left
 ·rw[if_pos e2];simp[e2]
 rw[if_neg (show ¬ ¬ n=p by simp[e2]),bN _ _ h i,Sn,U6,VE];by_cases e3:o=q;rotate_left
 ·rw[if_pos e3];simp[e3]
 rw[if_neg (show ¬ ¬ o=q by simp[e3])]
 obtain⟨r,C,c⟩:=Yd a d (by omega) (by omega) (f:=λs2=>br (Sz s2.1 (a.length:Int)) (λ_=>Rz s2.1 λA=>ix a A λF=>Rz s2.1 λB=>ix d B λG=>bd (U0 (F,G)) λE=>br (He E) (λ_=>some (.dn ((0,((s2.1,false),()))))) λ_=>some (.nx (SC .i64 s2.1 1,s2.2))) λ_=>some (.dn ((1,(s2,()))))) (λk x y b m=>by
   have j:=(a8.1 b).1;have z:=g x (co b);constructor
   ·intro e;simp only;rw[rl j,SW,Ta,S4 b,Ta,S4 m,Xf,W4 _ _ (by omega),Sn,U6,VE,if_neg (by simp[e]),Ti (by omega)]
   ·intro e;simp only
    rw[rl j,SW,Ta,S4 b,Ta,S4 m,Xf,W4 _ _ (by omega),Sn,U6,VE,if_pos e]) (by simp only;rw[re];rfl)
 refine Tv C ?_;rw[So];rcases c with⟨e,c⟩|⟨e,c,D⟩
 ·rw[if_neg (show ¬ r.1=0 by omega)];simp[e,e2,e3]
 ·rw[if_pos c,D];simp[e]
theorem eh(x y:Xl)(a:x.1.1.length<=1000)(b:∀ l∈x.1.1,l.length<=1000000)(c:x.1.2.1.length<=1000)(d:x.1.2.2.1.length<=1000)(e:x.1.2.2.2.1.length<=1000)(f:x.2.2.1.length<=1000000):Uc (x,y)=some (decide (x=y)):=by
 obtain⟨i,⟨xs,k,h⟩,g,j⟩:=x;obtain⟨n,⟨q,r,m⟩,p,o⟩:=y;simp only at a b c d e f;unfold Uc;simp only[dl _ _ a b c d e,Xf,W4 _ _ (show g.length<=9223372036854775806 by omega),Sn,VE,Vx,Zt,beq_eq,Zy,Yn]
 repeat' split
 all_goals simp_all
section
variable{a b:List TZ}(va:VL a)(vb:VL b)
include va vb
theorem Zr:WK [a,b]=some (0,0):=by
 have c:=va.len;have d:=vb.len;unfold WK;refine Eq.trans (b:=bd (loop _ (0,(0,0))) _) rfl ?_;refine Tv (x:=(1,((0,(0,2)),()))) (VA (s1:=(0,(0,1))) (s2:=(0,(0,2))) ?_ ?_ rfl) rfl
 ·refine(af 0 rfl rfl (x:=a) rfl).trans ?_;rw[XS _ (by omega),ZH va,Sn];rfl
 ·refine(af 1 rfl rfl (x:=b) rfl).trans ?_;rw[XS _ (by omega),ZH vb,Sn];rfl
theorem Y5{i j:Nat}(hi:i<=a.length)(g:j<=b.length):WJ ([a,b],[(i:Int),(j:Int)])=some (if i=a.length/\j=b.length then -1 else if X5 a b i j=true then 0 else 1):=by
 have k:=va.len;have l:=vb.len;unfold WJ;simp only[Tf,Td];refine Tv (x:=(0,((if i=a.length/\j=b.length then -1 else if X5 a b i j=true then 0 else 1,2),()))) (VA (s1:=(if i=a.length then -1 else 0,1)) (s2:=(if i=a.length/\j=b.length then -1 else if X5 a b i j=true then 0 else 1,2)) ?_ ?_ rfl) rfl
 ·refine(af 0 rfl rfl (x:=(i:Int)) rfl).trans ((WW 0 rfl (x:=a) rfl).trans ?_);rw[TH];by_cases h:i=a.length
  ·rw[if_neg (by omega),if_pos h];rfl
  ·rw[if_pos (by omega),if_neg h];rfl
 ·refine(af 1 rfl rfl (x:=(j:Int)) rfl).trans ((WW 1 rfl (x:=b) rfl).trans ?_);rw[TH];by_cases h:j=b.length
  ·rw[if_neg (by omega)];by_cases c:i=a.length
   ·rw[if_pos c,if_pos ⟨c,h⟩];rfl
   ·rw[if_neg c,if_neg (λe=>c e.1)];have d:a[i]?=some (a[i]'(by omega)):=by simp
    rw[gN d (a9 (by omega))];rfl
  ·have f:b[j]?=some (b[j]'(by omega)):=by simp
   rw[if_pos (by omega),TH,if_neg (λe:i=a.length/\j=b.length=>h e.2)];by_cases c:i=a.length
   ·rw[if_pos c,if_pos (by omega),gO (a9 (by omega)) f];rfl
   ·rw[if_neg c,if_neg (by omega)];have d:a[i]?=some (a[i]'(by omega)):=by simp
    refine(WW 1 rfl (x:=b) rfl).trans ((WW 1 rfl (x:=(j:Int)) rfl).trans ((WW j rfl f).trans ((WW 0 rfl (x:=a) rfl).trans ((WW 0 rfl (x:=(i:Int)) rfl).trans ((WW i rfl d).trans ?_)))));rw[WP,bB d f];cases hs:SP (b[j]'(by omega)).1 (a[i]'(by omega)).1<;>rfl
theorem Y6{i j:Nat}(hi:i<=a.length)(e:j<=b.length):Vh ([a,b],[(i:Int),(j:Int)])=some (Zu a b i j):=by
 have f:=va.len;have g:=vb.len;unfold Vh;simp only[Tf,Td];rw[Tk (show[a,b].length<=1048576 from(show 2<=1048576 by omega)),Tk (show[(i:Int),(j:Int)].length<=1048576 from(show 2<=1048576 by omega))];refine Tv (x:=(0,((2,[kx a i,kx b j]),()))) (VA (s1:=(1,[kx a i])) (s2:=(2,[kx a i,kx b j])) ?_ ?_ rfl) ?_
 ·refine(af 0 rfl rfl (x:=(i:Int)) rfl).trans ((WW 0 rfl (x:=a) rfl).trans ?_);rw[Vx,U6,VE];by_cases h:i=a.length
  ·have c:((i:Int)=(a.length:Int)):=by omega
   rw[if_neg (show ¬ ¬ ((i:Int)=(a.length:Int)) by simp[c]),Z7 (a9 (by omega))];simp only[c,decide_true];rfl
  ·have d:a[i]?=some (a[i]'(by omega)):=by simp
   have c:¬ ((i:Int)=(a.length:Int)):=by omega
   rw[if_pos c];refine(WW 0 rfl (x:=a) rfl).trans ((WW 0 rfl (x:=(i:Int)) rfl).trans ((WW i rfl d).trans ?_));rw[XL d];simp only[c,decide_false];rfl
 ·refine(af 1 rfl rfl (x:=(j:Int)) rfl).trans ((WW 1 rfl (x:=b) rfl).trans ?_);rw[Vx,U6,VE];by_cases h:j=b.length
  ·have c:((j:Int)=(b.length:Int)):=by omega
   rw[if_neg (show ¬ ¬ ((j:Int)=(b.length:Int)) by simp[c]),Z7 (l:=b) (i:=j) (a9 (by omega))];simp only[c,decide_true];rfl
  ·have d:b[j]?=some (b[j]'(by omega)):=by simp
   have c:¬ ((j:Int)=(b.length:Int)):=by omega
   rw[if_pos c];refine(WW 1 rfl (x:=b) rfl).trans ((WW 1 rfl (x:=(j:Int)) rfl).trans ((WW j rfl d).trans ?_));rw[XL (l:=b) (i:=j) d];simp only[c,decide_false];rfl
 ·show bd (Wl [kx a i,kx b j]) _=_;rw[iA _ _ (Ub _ _) (Ub _ _)];rfl
theorem gh{i:Nat}{l:List TZ}(h:i≠0)(hi:i<=l.length):∃ x,l[i-1]?=some x:=⟨l[i-1]'(by omega),by simp⟩
theorem aW{i j:Nat}(I:Inv a b i j):WI (Zu a b i j)=some (0,0):=by
 have t:=va.len;have u:=vb.len;have hi:=I.ia;have k:=I.jb;unfold WI;rw[show(Zu a b i j).1=[a,b]from rfl,Zr va vb,Sn,TI,if_pos rfl];rw[show(Zu a b i j).2.1=[(i:Int),(j:Int)]from rfl,TI,if_pos (show Kh (AS [(i:Int),(j:Int)])=Kh (AS [a,b])from rfl)];refine Tv (x:=(1,((0,(0,2)),()))) (VA (s1:=(0,(0,1))) (s2:=(0,(0,2))) ?_ ?_ rfl) ?_
 ·refine(af 0 rfl rfl (x:=(i:Int)) rfl).trans ?_;rw[TH,if_neg (by omega)];refine(WW 0 rfl (x:=(i:Int)) rfl).trans ((WW 0 rfl (x:=a) rfl).trans ?_);rw[TF,if_neg (by simp only[Tf,Td];omega)];rfl
 ·refine(af 1 rfl rfl (x:=(j:Int)) rfl).trans ?_;rw[TH,if_neg (by omega)];refine(WW 1 rfl (x:=(j:Int)) rfl).trans ((WW 1 rfl (x:=b) rfl).trans ?_);rw[TF,if_neg (by simp only[Tf,Td];omega)];rfl
 rw[show neq ((1:Nat),(((0:Int),((0:Int),(2:Int))),())).1 0=false from rfl,R5,Y6 va vb hi k,Sn,bN (Zu a b i j).2.2 (Zu a b i j).2.2 (show 2<=1000 by omega) (show 2<=1000 by omega),Sn,U6,VE,if_neg (show ¬ ¬ (Zu a b i j).2.2=(Zu a b i j).2.2 by simp),Y5 va vb hi k,Sn];by_cases r:i=a.length/\j=b.length
 ·rw[if_pos r];refine Tv (x:=(1,((0,(0,0)),()))) (U1 (n:=1) (by omega) (UT ?_)) rfl;rfl
 rw[if_neg r];cases g:X5 a b i j with
 |true=>
  rw[if_pos rfl]
  have p:i<a.length:=by
   refine l5 λh'=> ?_;have o:j<b.length:=by omega
   rw[gO (a9 h') (show b[j]?=some (b[j]'o) by simp)]at g;cases g
  have e:a[i]?=some (a[i]'p):=by simp
  refine Tv (x:=(1,((0,(0,2)),()))) (VA (s1:=(0,(0,1))) (s2:=(0,(0,2))) ?_ ?_ rfl) rfl
  ·show br (Sz (0:Int) 2) _ _=_;rw[TH,if_pos (by omega),TE,if_pos (by omega)];refine(WW 0 rfl (x:=(i:Int)) rfl).trans ?_;rw[TD];by_cases f:i=0
   ·rw[if_pos (by omega)];rfl
   ·rw[if_neg (by omega)];obtain⟨y,d⟩:=gh va vb (l:=a) f hi;refine(WW 0 rfl (x:=a) rfl).trans ((WW 0 rfl (x:=(i:Int)) rfl).trans ?_);rw[show SG .i64 (i:Int) 1=((i-1:Nat):Int) by rw[Sd (by omega)];omega,Ta,S4 d];refine(WW 0 rfl (x:=a) rfl).trans ((WW 0 rfl (x:=(i:Int)) rfl).trans ((WW i rfl e).trans ?_));have c:=va.lt d (show a[i-1+1]?=some _ by rw[show i-1+1=i by omega];exact e);rw[WP,if_neg (by rw[Ur c];simp),V2,if_neg (Xk c)];rfl
  ·show br (Sz (1:Int) 2) _ _=_;rw[TH,if_pos (by omega),TE,if_pos (by omega)];refine(WW 1 rfl (x:=(j:Int)) rfl).trans ?_;rw[TD];by_cases f:j=0
   ·rw[if_pos (by omega)];rfl
   ·rw[if_neg (by omega)];obtain⟨y,d⟩:=gh va vb (l:=b) f k;refine(WW 1 rfl (x:=b) rfl).trans ((WW 1 rfl (x:=(j:Int)) rfl).trans ?_);rw[show SG .i64 (j:Int) 1=((j-1:Nat):Int) by rw[Sd (by omega)];omega,Ta,S4 d];refine(WW 0 rfl (x:=a) rfl).trans ((WW 0 rfl (x:=(i:Int)) rfl).trans ((WW i rfl e).trans ?_));have c:=I.pb (j-1) (by omega) y _ d e;rw[WP,if_neg (by rw[Ur c];simp),V2,if_neg (Xk c)];rfl
 |false=>
  rw[if_neg (by simp)]
  have h:j<b.length:=by
   refine l5 λh'=> ?_;have m:i<a.length:=by omega
   rw[gN (show a[i]?=some (a[i]'m) by simp) (a9 h')]at g;cases g
  have e:b[j]?=some (b[j]'h):=by simp
  refine Tv (x:=(1,((0,(0,2)),()))) (VA (s1:=(0,(0,1))) (s2:=(0,(0,2))) ?_ ?_ rfl) rfl
  ·show br (Sz (0:Int) 2) _ _=_;rw[TH,if_pos (by omega),TE,if_pos (by omega)];refine(WW 0 rfl (x:=(i:Int)) rfl).trans ?_;rw[TD];by_cases f:i=0
   ·rw[if_pos (by omega)];rfl
   ·rw[if_neg (by omega)];obtain⟨y,d⟩:=gh va vb (l:=a) f hi;refine(WW 0 rfl (x:=a) rfl).trans ((WW 0 rfl (x:=(i:Int)) rfl).trans ?_);rw[show SG .i64 (i:Int) 1=((i-1:Nat):Int) by rw[Sd (by omega)];omega,Ta,S4 d];refine(WW 1 rfl (x:=b) rfl).trans ((WW 1 rfl (x:=(j:Int)) rfl).trans ((WW j rfl e).trans ?_));have q:=I.pa (i-1) (by omega) y _ d e;rw[WP,if_neg (by rw[q];simp),V2];by_cases s:y.1=(b[j]'h).1
    ·rw[if_pos s];rfl
    ·rw[if_neg s];rfl
  ·show br (Sz (1:Int) 2) _ _=_;rw[TH,if_pos (by omega),TE,if_pos (by omega)];refine(WW 1 rfl (x:=(j:Int)) rfl).trans ?_;rw[TD];by_cases f:j=0
   ·rw[if_pos (by omega)];rfl
   ·rw[if_neg (by omega)];obtain⟨y,d⟩:=gh va vb (l:=b) f k;refine(WW 1 rfl (x:=b) rfl).trans ((WW 1 rfl (x:=(j:Int)) rfl).trans ?_);rw[show SG .i64 (j:Int) 1=((j-1:Nat):Int) by rw[Sd (by omega)];omega,Ta,S4 d];refine(WW 1 rfl (x:=b) rfl).trans ((WW 1 rfl (x:=(j:Int)) rfl).trans ((WW j rfl e).trans ?_));have c:=vb.lt d (show b[j-1+1]?=some _ by rw[show j-1+1=j by omega];exact e);rw[WP,if_neg (by rw[Ur c];simp),V2,if_neg (Xk c)];rfl
end
end
section
open Go Sv
section
variable{a b:List TZ}(va:VL a)(vb:VL b)
include va vb
theorem kY{n:Nat}{x:TZ}(h:n<a.length+b.length)(d:ab a b n=some x):Wa (Zj a b n)=some (x,((bU a b n:Int),(Zj a b (n+1),0))):=by
 obtain⟨i,hs⟩:=WX va vb (n:=n) (by omega);obtain⟨j,k⟩:=WX va vb (n:=n+1) (by omega);have l:=va.len;have m:=vb.len;have e:=i.ia;have f:=i.jb;unfold Wa;rw[show Zj a b n=Zu a b (To a b n).1 (To a b n).2 from rfl,aW va vb i,Sn,TI,if_pos rfl,show(Zu a b (To a b n).1 (To a b n).2).1=[a,b]from rfl,show(Zu a b (To a b n).1 (To a b n).2).2.1=[((To a b n).1:Int),((To a b n).2:Int)]from rfl,Y5 va vb e f,Sn,if_neg (λhh:(To a b n).1=a.length/\(To a b n).2=b.length=>by omega)];unfold ab at d;have c:To a b (n+1)=if X5 a b (To a b n).1 (To a b n).2=true then((To a b n).1+1,(To a b n).2)else((To a b n).1,(To a b n).2+1):=rfl
 unfold Zj bU;cases g:X5 a b (To a b n).1 (To a b n).2 with
 |true=>
  rw[g,if_pos rfl]at c;rw[g,if_pos rfl]at d;have hi:=(a8.1 d).1;rw[if_pos rfl,TH,if_neg (by omega),Tk (show AS [((To a b n).1:Int),((To a b n).2:Int)]<=1048576 from(show 2<=1048576 by omega))];refine(ZQ 0 rfl (x:=((To a b n).1:Int)) rfl).trans ((ZQ 0 rfl (x:=((To a b n).1:Int)) rfl).trans ((WW 0 rfl (x:=a) rfl).trans ((WW 0 rfl (x:=((To a b n).1:Int)) rfl).trans ((WW _ rfl d).trans ?_))));rw[Ti (by omega),show lset [((To a b n).1:Int),((To a b n).2:Int)] 0 (((To a b n).1+1:Nat):Int)=[(((To a b n).1+1:Nat):Int),((To a b n).2:Int)]from rfl,Y6 va vb (by omega) f,Sn,c];rfl
 |false=>
  rw[g,if_neg (by simp)]at c;rw[g,if_neg (by simp)]at d;have hi:=(a8.1 d).1;rw[if_neg (by simp),TH,if_neg (by omega),Tk (show AS [((To a b n).1:Int),((To a b n).2:Int)]<=1048576 from(show 2<=1048576 by omega))];refine(ZQ 1 rfl (x:=((To a b n).2:Int)) rfl).trans ((ZQ 1 rfl (x:=((To a b n).2:Int)) rfl).trans ((WW 1 rfl (x:=b) rfl).trans ((WW 1 rfl (x:=((To a b n).2:Int)) rfl).trans ((WW _ rfl d).trans ?_))));rw[Ti (by omega),show lset [((To a b n).1:Int),((To a b n).2:Int)] 1 (((To a b n).2+1:Nat):Int)=[((To a b n).1:Int),(((To a b n).2+1:Nat):Int)]from rfl,Y6 va vb e (by omega),Sn,c];rfl
theorem kX{n:Nat}(h:n<=a.length+b.length):Xw (Zj a b n)=some (((a.length+b.length-n:Nat):Int),0):=by
 obtain⟨c,hs⟩:=WX va vb (n:=n) h;have f:=va.len;have g:=vb.len;have d:=c.ia;have e:=c.jb;unfold Xw;rw[show Zj a b n=Zu a b (To a b n).1 (To a b n).2 from rfl,aW va vb c,Sn,TI,if_pos rfl];refine Tv (x:=(0,((2,((a.length+b.length-n:Nat):Int)),()))) (VA (s1:=(1,(a.length:Int)-((To a b n).1:Int))) (s2:=(2,((a.length+b.length-n:Nat):Int))) ?_ ?_ rfl) rfl
 ·refine(af 0 rfl rfl (x:=a) rfl).trans ((WW 0 rfl (x:=((To a b n).1:Int)) rfl).trans ?_);simp only[Tf,Td];rw[show SC .i64 (0:Int) (a.length:Int)=(a.length:Int) by rw[Sb (by omega),tg],Sd (by omega)];rfl
 ·refine(af 1 rfl rfl (x:=b) rfl).trans ((WW 1 rfl (x:=((To a b n).2:Int)) rfl).trans ?_);simp only[Tf,Td];show some (LR.nx ((2:Int),SG .i64 (SC .i64 ((a.length:Int)-((To a b n).1:Int)) (b.length:Int)) ((To a b n).2:Int)))=_;rw[Sb (by omega),Sd (by omega),show(a.length:Int)-((To a b n).1:Int)+(b.length:Int)-((To a b n).2:Int)=((a.length+b.length-n:Nat):Int) by omega]
theorem ga:Wz [a,b]=some (Tw a b (a.length+b.length),(X7 a b (a.length+b.length),0)):=by
 have l:=va.len;have m:=vb.len;unfold Wz;rw[Zr va vb,Sn,TI,if_pos rfl];refine Eq.trans (b:=bd (loop _ ([],([],([],(0,([],[0,0])))))) _) rfl ?_
 refine Tv (x:=(0,((X7 a b (a.length+b.length),(Tw a b (a.length+b.length),0)),())))
  (Ye (λk=>([],(Tw a b k,([],(0,(X7 a b k,[((To a b k).1:Int),((To a b k).2:Int)])))))) 0 (a.length+b.length) rfl (by omega) (by omega) (λk _ j=> ?_) ?_) rfl
 ·obtain⟨x,c,_⟩:=Vz va vb (n:=k) j;obtain⟨d,hs⟩:=WX va vb (n:=k) (by omega);have e:(Tw a b k).length=k:=VC va vb (by omega);have f:=aM a b k;simp only;rw[Y5 va vb d.ia d.jb,Sn,if_neg (λhh:(To a b k).1=a.length/\(To a b k).2=b.length=>by omega)];rw[Wv va vb c];unfold ab at c;rw[show X7 a b (k+1)=X7 a b k++[(bU a b k:Int)]from rfl];unfold bU;rw[show To a b (k+1)=if X5 a b (To a b k).1 (To a b k).2=true then((To a b k).1+1,(To a b k).2)else((To a b k).1,(To a b k).2+1)from rfl]
  have h:∀ {β:Type} (y:TZ) (q:Unit->Option β),gd (CF (BF (AS (Tw a b k)) (AS [y])) 1048576) q=q ():=λy q=>Tk (by simp only[BF,AS,e,cP,dc];omega) q;have i:∀ {β:Type} (y:Int) (q:Unit->Option β),gd (CF (BF (AS (X7 a b k)) (AS [y])) 1048576) q=q ():=λy q=>Tk (by simp only[BF,AS,f,cP,dc];omega) q;cases g:X5 a b (To a b k).1 (To a b k).2 with
  |true=>
   rw[g,if_pos rfl]at c;have hi:=(a8.1 c).1;simp only[if_true];rw[TH,if_neg (by omega)];refine(WW 0 rfl (x:=a) rfl).trans ((ZQ 0 rfl (x:=((To a b k).1:Int)) rfl).trans ((WW _ rfl c).trans ?_));rw[h,i];refine(ZQ 0 rfl (x:=((To a b k).1:Int)) rfl).trans ((ZQ 0 rfl (x:=((To a b k).1:Int)) rfl).trans ?_);rw[Ti (by omega)];rfl
  |false=>
   rw[g,if_neg (by simp)]at c;have hi:=(a8.1 c).1;simp only[hC,if_false];rw[TH,if_neg (by omega)];refine(WW 1 rfl (x:=b) rfl).trans ((ZQ 1 rfl (x:=((To a b k).2:Int)) rfl).trans ((WW _ rfl c).trans ?_));rw[h,i];refine(ZQ 1 rfl (x:=((To a b k).2:Int)) rfl).trans ((ZQ 1 rfl (x:=((To a b k).2:Int)) rfl).trans ?_);rw[Ti (by omega)];rfl
 ·obtain⟨d,hs⟩:=WX va vb (n:=a.length+b.length) (eg _);simp only;rw[Y5 va vb d.ia d.jb,Sn,if_pos (show(To a b (a.length+b.length)).1=a.length/\(To a b (a.length+b.length)).2=b.length by have:=d.ia;have:=d.jb;omega),TH,if_pos (by omega)]
end
theorem dv{s:Uh}(b:s.2.1.length<=32)(a:s.1=false->s.2.1=[]):XZ s=some 0:=by
 unfold XZ;rw[TF,if_neg (by simp only[Tf,Y9];omega),UI,TL];cases h:s.1 with
 |true=>rfl
 |false=>rw[if_neg (by simp),UI,V2,if_pos (a h)]
theorem ej{s:Uh}{x:TZ}(e:s.2.1.length<=32)(f:s.1=false->s.2.1=[])(g:kE x=0)(a:s.1=true->SP x.1 s.2.1=false):Xy (s,x)=some (keep s x,((true,(x.1,s.2.2)),0)):=by
 unfold Xy keep;rw[dv e f,Sn,TD,if_pos rfl,Yz,g,Sn,TD,if_pos rfl];obtain⟨s1,s2,c⟩:=s;obtain⟨h,i,d,j⟩:=x;simp only at a ⊢;cases s1 with
 |true=>
  have:=a rfl;simp only[SW,WP,this,hC,if_false,TI,if_true,UI,V2];by_cases b:h=s2
  ·simp[b,R5]
  ·simp only[b,if_false,decide_false];cases c<;>cases d<;>rfl
 |false=>
  simp only[R5,TI,if_true,UI];cases c<;>cases d<;>rfl
theorem eX{l:List TZ}{b:Bool}(t:l.length<=20000)(r:aG (false,([],b)) l):XF (l,b)=some (WO (false,([],b)) l,(0,0)):=by
 unfold XF Vi;simp only[Tf,Td];rw[TF,if_neg (by omega),Sn]
 rw[U4 (l:=l) (σ:=Uh×List TZ) (s:=(0,(0,([],([],(0,(false,([],b)))))))) (λk a=>((0:Int),((k:Int),(([]:List TZ),(a.2,((0:Int),a.1))))))
  (λm k a=>aG a.1 m/\a.1.2.1.length<=32/\(a.1.1=false->a.1.2.1=[])/\a.2.length<=k/\k+m.length=l.length)
  (λm k a=>(1,((0,((l.length:Int),([],(a.2++WO a.1 m,(0,U5 a.1 m))))),()))) ((false,([],b)),[]) rfl (by omega) ⟨r,by simp,λ_=>rfl,by simp,by simp⟩ ?_ ?_,Sn]
 ·simp;rfl
 ·intro a _;simp only;rw[re,R5];simp[U5,WO]
 ·rintro k x m ⟨s,out⟩ u d p ⟨⟨c,e,f⟩,g,i,j,n⟩;simp only at c e f g i j ⊢;refine⟨((true,(x.1,s.2.2)),out++if keep s x=true then[x]else[]),?_,⟨f,bD c,(λh=>by cases h),?_,by simp at n;omega⟩,?_⟩
  ·rw[rl p,SW,Ta,S4 d,ej g i c e,Sn,TI,if_pos rfl,TL,Ta,S4 d];have o:∀ {β:Type} (k:Unit->Option β),gd (CF (BF out.length [x].length) 1048576) k=k ():=λk=>gL j (by simp at n;omega) x k;rw[o,Tn d (show l.length<=9223372036854775807 by omega)];cases q:keep s x<;>simp[Ig]
  ·split<;>simp<;>omega
  ·simp only[U5,WO,ed]
section
variable{a b:List TZ}(va:VL a)(vb:VL b)
include va vb
theorem bp(c:Bool){n:Nat}(h:n<=a.length+b.length):Vu (Tw a b n,c)=some (WO (s0 c) (Tw a b n),U5 (s0 c) (Tw a b n)):=by
 have f:=va.len;have g:=vb.len;have d:(Tw a b n).length=n:=VC va vb h;unfold Vu;simp only[Tf,Td];rw[eX (by omega) (XT va vb c h),Sn];unfold Vi;rw[Sn,TF,d];cases n with
 |zero=>rw[if_neg (by omega)];rfl
 |succ m=>
  obtain⟨x,e,_⟩:=Vz va vb (n:=m) (by omega);rw[if_pos (by omega),show SG .i64 ((m+1:Nat):Int) 1=(m:Int) by rw[Sd (by omega)];omega,Ta,S4 (x:=x) (by rw[Yf va vb h (by omega)];exact e),ZN va vb c e]
theorem du(c:Bool){n:Nat}(h:n<=a.length+b.length):Wb (VU a b c n)=some (n:Int):=by
 obtain⟨d,hs⟩:=WX va vb (n:=n) h;have e:=va.len;have f:=vb.len;unfold Wb;refine Tv (x:=(0,(((n:Int),2),()))) (VA (s1:=(((To a b n).1:Int),1)) (s2:=((n:Int),2)) ?_ ?_ rfl) rfl
 ·refine(af 0 rfl rfl (x:=((To a b n).1:Int)) rfl).trans ?_;show some (LR.nx (SC .i64 0 ((To a b n).1:Int),(1:Int)))=_;rw[Sb (by omega),tg]
 ·refine(af 1 rfl rfl (x:=((To a b n).2:Int)) rfl).trans ?_;show some (LR.nx (SC .i64 ((To a b n).1:Int) ((To a b n).2:Int),(2:Int)))=_;rw[Sb (by omega),show((To a b n).1:Int)+((To a b n).2:Int)=(n:Int) by omega]
theorem dx(c:Bool){n:Nat}(h:n<=a.length+b.length):Xb (VU a b c n)=some 0:=by
 obtain⟨d,hs⟩:=WX va vb (n:=n) h;have g:=va.len;have i:=vb.len;have e:=YX (s0 c) (Tw a b n);have f:(Tw a b n).length=n:=VC va vb h;unfold Xb;rw[show(VU a b c n).1=Zu a b (To a b n).1 (To a b n).2 from rfl,aW va vb d,Sn,TI,if_pos rfl,du va vb c h,Sn];simp only[Tf,Td];rw[show(VU a b c n).2.2.1=WO (s0 c) (Tw a b n)from rfl,show(VU a b c n).2.2.2=(n:Int)from rfl,show(VU a b c n).2.1=U5 (s0 c) (Tw a b n)from rfl,TF,if_neg (by omega),TF,if_neg (by omega),TI,if_pos rfl];rw[show(Zu a b (To a b n).1 (To a b n).2).1=[a,b]from rfl,ga va vb,Sn,Ta];rw[Tk (by rw[VC va vb (eg _)];exact h),Tk (ll _)];rw[show Dz (Tw a b (a.length+b.length)) 0 n=Tw a b n from by unfold Dz;rw[sw,mg];exact Xj va vb h,XM];rw[show(s0 c).2.2=c from rfl,bp va vb c h,Sn,Xf,W4 _ _ (by omega),Sn,U6,VE,if_neg (by simp),XM,YG,YG,Y7];rfl
theorem Zs(c:Bool){n:Nat}(h:n<=a.length+b.length):US (VU a b c n)=some (((a.length+b.length-n:Nat):Int),0):=by
 unfold US;rw[dx va vb c h,Sn,TI,if_pos rfl,show(VU a b c n).1=Zj a b n from rfl,kX va vb h];rfl
theorem bS(c:Bool){n:Nat}(h:n<=a.length+b.length){k:Nat}:UN (VU a b c n,(k:Int))=some (VU a b c (n+min k (a.length+b.length-n)),(((min k (a.length+b.length-n):Nat):Int),0)):=by
 have i:=va.len;have l:=vb.len;obtain⟨u,e⟩:∃ u,u=min k (a.length+b.length-n):=⟨_,rfl⟩
 have d:TN (k:Int) ((a.length+b.length-n:Nat):Int)=(u:Int):=by
  unfold TN;split<;>omega
 rw[<- e];unfold UN;rw[Zs va vb c h,Sn,TD,if_pos rfl];simp only[d,Tf,Td];rw[TH,if_neg (by omega),TI,if_pos rfl,du va vb c h,Sn,Sb (by omega),TF,if_neg (by omega)]
 refine Tv (x:=(0,(((u:Int),((Zj a b (n+u)).1,((Zj a b (n+u)).2.1,((Zj a b (n+u)).2.2.1,((Zj a b (n+u)).2.2.2.1,((Zj a b (n+u)).2.2.2.2,((VU a b c n).2.1.1,((VU a b c n).2.1.2.1,((VU a b c n).2.1.2.2,(VU a b c n).2.2))))))))),())))
  (Ye (λj=>((j:Int),((Zj a b (n+j)).1,((Zj a b (n+j)).2.1,((Zj a b (n+j)).2.2.1,((Zj a b (n+j)).2.2.2.1,((Zj a b (n+j)).2.2.2.2,((VU a b c n).2.1.1,((VU a b c n).2.1.2.1,((VU a b c n).2.1.2.2,(VU a b c n).2.2)))))))))) 0 u rfl (by omega) (by omega) (λj _ g=> ?_) ?_) ?_
 ·obtain⟨y,f,_⟩:=Vz va vb (n:=n+j) (by omega);show br (Sz (j:Int) (u:Int)) _ _=_;rw[TH,if_pos (by omega)];show bd (Wa (Zj a b (n+j))) _=_;rw[kY va vb (by omega) f,Sn,Ti (by omega)];rfl
 ·show br (Sz (u:Int) (u:Int)) _ _=_;rw[TH,if_neg (by omega)]
 ·rw[show(VU a b c n).1.1=[a,b]from rfl,ga va vb,Sn,show(VU a b c n).2.2.2=(n:Int)from rfl,show SC .i64 (n:Int) (u:Int)=((n+u:Nat):Int) by rw[Sb (by omega)];omega,Ta];rw[Tk (by rw[VC va vb (eg _)];omega),Tk (ll _)];rw[show Dz (Tw a b (a.length+b.length)) 0 (n+u)=Tw a b (n+u)from by unfold Dz;rw[sw,mg];exact Xj va vb (by omega),show(VU a b c n).2.1.2.2=c from XM _ _,bp va vb c (by omega),Sn];rfl
end
end
section
open Go Sv
theorem cO(B:Int)(i:Nat):Uf B (i+1)=2*Uf B i:=by
 unfold Uf;rw[Int.pow_succ,<- Int.mul_assoc,Int.mul_comm]
theorem dw{B:Int}{i:Nat}(a:1<=B)(b:B<=16)(hi:i<=12):V5 (B,(i:Int))=some (Uf B i):=by
 unfold V5;refine Tv (x:=(0,((Uf B i,(i:Int)),()))) (Z8 (λk=>(Uf B k,(k:Int))) i (by simp[Uf]) (by omega) (λk d=> ?_) ?_) rfl
 ·have c:=dz a b (show k<=12 by omega);simp only;rw[TH,if_pos (by omega),Sc (by omega),Ti (by omega),cO]
 ·simp only;rw[TH,if_neg (by omega)]
theorem qE(r:UA)(b:r.2.length<=9223372036854775807):XX r=some (if r.1<1\/r.1>1000000 then(-1,7)else Vl r.2):=by
 unfold XX;rw[TH,TF,XS _ b,Sn];by_cases h:r.1<1
 ·rw[if_pos h,if_pos (.inl h)]
 ·rw[if_neg h];by_cases a:r.1>1000000
  ·rw[if_pos a,if_pos (.inr a)]
  ·rw[if_neg a,if_neg (by omega)]
theorem ke(r:UA)(most:Int)(a:List Int)(z:r.2.length<=9223372036854775807)(hi:a.length<=1048576):Wc (r,(most,a))=some (kR a most r):=by
 unfold Wc kR;rw[qE r (by omega),Sn];simp only[Tf,Td];by_cases h:r.1<1\/r.1>1000000
 ·rw[if_pos h,if_pos h];rfl
 rw[if_neg h,if_neg h,TI];by_cases b:(Vl r.2).2=0;rotate_left
 ·rw[if_neg b,if_pos b]
 rw[if_pos b,if_neg (show ¬ (Vl r.2).2≠0 by simp[b]),TD,TF];by_cases i:r.2.length=0
 ·rw[if_pos (by omega),if_pos i]
 rw[if_neg (by omega),if_neg i];by_cases c:(r.2.length:Int)>most
 ·rw[if_pos c,if_pos c]
 rw[if_neg c,if_neg c]
 obtain⟨q,p,d⟩:=Vy (l:=a) (σ:=Unit) (s:=((0:Int),(0:Int))) (λk _=>((k:Int),(0:Int))) (λm k _=>r.1∈a<->r.1∈m) (λ(q:Nat×((Int×Int)×Unit))=>(q.1=1/\r.1 ∉ a)\/(q.1=0/\r.1∈a/\q.2.1.2=8))
  (f:=λs1=>br (Sz s1.1 (a.length:Int)) (λ_=>Rz s1.1 λo=>ix a o λw=>br (OX w r.1) (λ_=>some (.dn ((0,((s1.1,8),()))))) λ_=>some (.nx (SC .i64 s1.1 1,s1.2))) λ_=>some (.dn ((1,(s1,())))))
  () rfl (by omega) Iff.rfl (λ_ h=>⟨_,by simp only;rw[re];rfl,.inl ⟨rfl,by simpa using h⟩⟩) (λk x m _ y j n h=>by
   simp only;rw[rl n,SW,Ta,S4 j,TD];by_cases e:x=r.1
   ·rw[if_pos e];exact .inr ⟨_,rfl,.inr ⟨rfl,by rw[h,e];simp,rfl⟩⟩
   ·rw[if_neg e];exact .inl ⟨(),by rw[Tn j (by omega)],by rw[h,ee];exact⟨λu=>u.elim (λe2=>absurd e2.symm e) id,.inr⟩⟩)
 refine Tv p ?_;rw[So];rcases d with⟨d,g⟩|⟨d,g,t⟩
 ·rw[if_neg (show ¬ q.1=0 by omega),if_neg g]
 ·rw[if_pos d,if_pos g,t]
theorem gi(L:Te)(hb:L.2.length<=9223372036854775807)(hr:∀ rs∈L.2,rs.length<=9223372036854775807 /\ ∀ r∈rs,r.2.length<=9223372036854775807):VK L=some (V6 L):=by
 unfold VK V6;simp only[Tf,Td];rw[TH,TF,TF];by_cases n:L.1<1
 ·rw[if_pos n,if_pos (.inl n)]
 rw[if_neg n];by_cases o:L.1>16
 ·rw[if_pos o,if_pos (.inr o)]
 rw[if_neg o,if_neg (show ¬ (L.1<1\/L.1>16) by omega)];by_cases S:(L.2.length:Int)>12
 ·rw[if_pos S,if_pos (by omega)]
 rw[if_neg S,if_neg (by omega)];have hl2:L.2.length<=12:=by omega
 obtain⟨T,N⟩:∃ T,T=Ze L.1 0 [] L.2:=⟨_,rfl⟩;rw[<- N]
 have p:T=none->(br (Sx (L.2.length:Int) 0) (λ_=>Rz (SG .i64 (L.2.length:Int) 1) λD=>ix L.2 D λJ=>br (OX (J.length:Int) 0) (λ_=>some ((SG .i64 (L.2.length:Int) 1,((0:Int),(6:Int))))) λ_=>some ((0,(0,0)))) λ_=>some ((0,(0,0))))=some (if L.2.getLast?=some []then(((L.2.length-1:Nat):Int),(0,6))else(0,(0,0))):=by
  intro _;rw[TF];by_cases X:L.2=[]
  ·rw[X];rfl
  ·have hp:=eb.2 X;rw[if_pos (by omega),show SG .i64 (L.2.length:Int) 1=((L.2.length-1:Nat):Int) by rw[Sd (by omega)];omega,Ta,nb];have d:L.2[L.2.length-1]?=some (L.2[L.2.length-1]'(by omega)):=by simp
   rw[S4 d,d,TD];by_cases C:L.2[L.2.length-1]'(by omega)=[]
   ·rw[C];simp
   ·rw[if_neg (by have:=eb.2 C;omega),if_neg (by simp[C])]
 obtain⟨r,G,j⟩:=Vy (l:=L.2) (σ:=List Int) (s:=((0:Int),(([]:List Int),((0:Int),((0:Int),(0:Int)))))) (λi a=>((0:Int),(a,((0:Int),((0:Int),(i:Int))))))
  (λm i a=>Ze L.1 i a m=T/\a.length<=2*i) (λ(r:Nat×((Int×(List Int×(Int×(Int×Int))))×Unit))=>(r.1=1/\T=none)\/(r.1=0/\Q1 T r.2.1.1 r.2.1.2.2.1 r.2.1.2.2.2.1/\T≠none))
  (f:=λ(s0:(Int×((List Int)×(Int×(Int×Int)))))=>br (Sz s0.2.2.2.2 (L.2.length:Int)) (λ_=>Rz s0.2.2.2.2 λk1=>ix L.2 k1 λB=>br (Sx (B.length:Int) 2) (λ_=>some (.dn ((0,((0,(s0.2.1,(s0.2.2.2.2,(3,s0.2.2.2.2)))),()))))) λ_=>bd (loop (λ(b:(Int×((List Int)×(Int×(Int×Int)))))=>br (Sz b.2.2.2.2 (B.length:Int)) (λ_=>Rz b.2.2.2.2 λE=>ix B E λK=>bd (V5 (L.1,s0.2.2.2.2)) λI=>bd (Wc ((K,(I,b.2.1)))) λy=>br (Rw y 0) (λ_=>some (.dn ((0,((b.2.2.2.2,(b.2.1,(s0.2.2.2.2,(y,b.2.2.2.2)))),()))))) λ_=>Rz b.2.2.2.2 λF=>ix B F λz=>gd (CF (BF b.2.1.length [z.1].length) 1048576) λ_=>some (.nx ((b.1,(Ig b.2.1 [z.1],(b.2.2.1,(b.2.2.2.1,SC .i64 b.2.2.2.2 1))))))) λ_=>some (.dn ((1,(b,()))))) ((s0.1,(s0.2.1,(s0.2.2.1,(s0.2.2.2.1,0)))))) λc=>br (neq c.1 0) (λ_=>some (.dn ((0,((c.2.1.1,(c.2.1.2.1,(c.2.1.2.2.1,(c.2.1.2.2.2.1,s0.2.2.2.2)))),()))))) λ_=>some (.nx ((c.2.1.1,(c.2.1.2.1,(c.2.1.2.2.1,(c.2.1.2.2.2.1,SC .i64 s0.2.2.2.2 1))))))) λ_=>some (.dn ((1,(s0,())))))
  [] rfl (by omega) ⟨N.symm,by simp⟩ (λa h=>by
   refine⟨_,by simp only;rw[re];rfl,.inl ⟨rfl,?_⟩⟩;rw[<- h.1];rfl) (λi rs m a Z d hi h=>by
   obtain⟨h,P⟩:=h;simp only;obtain⟨Y,u⟩:=hr rs (co d);rw[rl hi,SW,Ta,S4 d,TF];unfold Ze at h;by_cases M:rs.length>2
   ·rw[if_pos (by omega)];rw[if_pos M]at h;refine .inr ⟨_,rfl,.inr ⟨rfl,?_,by rw[<- h];simp⟩⟩;rw[<- h];exact⟨rfl,rfl,rfl⟩
   rw[if_neg (by omega)];rw[if_neg M]at h;obtain⟨U,O⟩:∃ U,U=Zf (Uf L.1 i) 0 a rs:=⟨_,rfl⟩;rw[<- O]at h
   obtain⟨r,G,j⟩:=Vy (l:=rs) (σ:=Unit) (s:=((0:Int),(a,((0:Int),((0:Int),(0:Int)))))) (λk _=>((0:Int),(a++(rs.take k).map (·.1),((0:Int),((0:Int),(k:Int))))))
    (λm k _=>Zf (Uf L.1 i) k (a++(rs.take k).map (·.1)) m=U) (λ(r:Nat×((Int×(List Int×(Int×(Int×Int))))×Unit))=>(r.1=1/\U=none/\r.2.1=(0,(a++rs.map (·.1),(0,(0,(rs.length:Int))))))\/(r.1=0 /\ ∃ k e,U=some (k,e)/\r.2.1.1=(k:Int)/\r.2.1.2.2.1=(i:Int)/\r.2.1.2.2.2.1=e))
    (f:=λ(b:(Int×((List Int)×(Int×(Int×Int)))))=>br (Sz b.2.2.2.2 (rs.length:Int)) (λ_=>Rz b.2.2.2.2 λE=>ix rs E λK=>bd (V5 (L.1,(i:Int))) λI=>bd (Wc ((K,(I,b.2.1)))) λy=>br (Rw y 0) (λ_=>some (.dn ((0,((b.2.2.2.2,(b.2.1,((i:Int),(y,b.2.2.2.2)))),()))))) λ_=>Rz b.2.2.2.2 λF=>ix rs F λz=>gd (CF (BF b.2.1.length [z.1].length) 1048576) λ_=>some (.nx ((b.1,(Ig b.2.1 [z.1],(b.2.2.1,(b.2.2.2.1,SC .i64 b.2.2.2.2 1))))))) λ_=>some (.dn ((1,(b,())))))
    () (by simp) (by omega) (by simp[O]) (λ_ h=>by
     refine⟨_,by simp only;rw[re];rfl,.inl ⟨rfl,by rw[<- h];rfl,by simp⟩⟩) (λk r m _ Z d hk h=>by
     simp only;have hr2:=u r (co d);have w:(rs.take (k+1)).map (·.1)=(rs.take k).map (·.1)++[r.1]:=by rw[iP,d];simp
     have W:(a++(rs.take k).map (·.1)).length<=100:=by simp;omega
     rw[rl hk,SW,Ta,S4 d,dw (by omega) (by omega) (by omega),Sn,ke _ _ _ (by omega) (by omega),Sn,TI];unfold Zf at h;by_cases A:kR (a++(rs.take k).map (·.1)) (Uf L.1 i) r=0
     ·rw[if_neg (λhh:kR (a++(rs.take k).map (·.1)) (Uf L.1 i) r≠0=>hh A)]at h;rw[if_pos A,Ta,S4 d,Tk (by simp only[BF,cP,dc];omega)];refine .inl ⟨(),?_,?_⟩
      ·rw[Tn d (by omega),w,<- ed];rfl
      ·rw[w,<- ed];exact h
     ·rw[if_pos A]at h;rw[if_neg A]
      exact .inr ⟨_,rfl,.inr ⟨rfl,_,_,h.symm,rfl,rfl,rfl⟩⟩)
   rw[G,Sn,So];rcases j with⟨j,g,x⟩|⟨j,k,e,g,x,q5,q6⟩
   ·rw[if_neg (show ¬ r.1=0 by omega),x,Tn d (by omega)];rw[g]at h;exact .inl ⟨a++rs.map (·.1),rfl,h,by simp;omega⟩
   ·rw[if_pos j];rw[g]at h;refine .inr ⟨_,rfl,.inr ⟨rfl,?_,by rw[<- h];simp⟩⟩;rw[<- h]
    exact⟨x,q5,q6⟩)
 refine Tv G ?_;rw[So];rcases j with⟨j,g⟩|⟨j,g,x⟩
 ·rw[if_neg (show ¬ r.1=0 by omega),g];exact p g
 ·rw[if_pos j];cases q:T with
  |none=>exact absurd q x
  |some t=>
   obtain⟨i,k,e⟩:=t;rw[q]at g;rw[g.1,g.2.1,g.2.2]
theorem ei(L:Te)(b:L.2.length<=1048576)(a:∀ rs∈L.2,rs.length<=1048576 /\ ∀ r∈rs,r.2.length<=9223372036854775807):VK L=some (V6 L):=gi L (by omega) λrs h=>⟨by have:=(a rs h).1;omega,(a rs h).2⟩
def UJ(ls:List (List UA)):List UA:=ls.flatMap List.reverse
theorem VLev.small{L:Te}(v:VLev L):L.2.length<=1048576 /\ ∀ rs∈L.2,rs.length<=1048576 /\ ∀ r∈rs,r.2.length<=9223372036854775807:=by
 refine⟨by have:=v.len;omega,λrs a=> ?_⟩;obtain⟨i,hi⟩:=en a;obtain⟨d,b⟩:=v.lev i rs hi;exact⟨by omega,λr c=>by have:=(b r c).vl.len;omega⟩
theorem ZP:∀ (ls:List (List UA)),(∀ rs∈ls,rs.length<=2)->(UJ ls).length<=2*ls.length
 |[],_=>by simp[UJ]
 |rs::ls,h=>by
  have a:=ZP ls λr b=>h r (by simp[b]);have c:=h rs (by simp);unfold UJ at a ⊢;rw[xo,gl,List.length_reverse,cP];omega
theorem VLev.two{L:Te}(v:VLev L):∀ rs∈L.2,rs.length<=2:=λrs a=>by
 obtain⟨i,hi⟩:=en a;exact(v.lev i rs hi).1
theorem bR{L:Te}(v:VLev L):WT L=some (UJ L.2,0):=by
 obtain⟨d,b⟩:=v.small;have f:=v.len;unfold WT;simp only[Tf,Td];rw[ei _ d b,XN v,Sn,TI,if_pos rfl]
 rw[U4 (l:=L.2) (σ:=List UA) (s:=(([]:List UA),(0:Int))) (λi m=>(m,(i:Int))) (λls i m=>(∀ rs∈ls,rs.length<=2)/\m.length<=2*i) (λls _ m=>(0,((m++UJ ls,(L.2.length:Int)),()))) [] rfl (by omega) ⟨v.two,by simp⟩ (λm _=>by
  simp only;rw[re,R5];simp[UJ]) (λi rs ls m e a hi h=>by
   refine⟨m++rs.reverse,?_,⟨λr b=>h.1 r (by simp[b]),by have:=h.1 rs (by simp);simp;omega⟩,by simp[UJ]⟩;have c:=h.1 rs (by simp);have g:m.length<=24:=by have:=h.2;omega
   simp only;rw[rl hi,SW,Ta,S4 a];have gg:∀ {β:Type} (z:List UA) (x:UA) (k:Unit->Option β),z.length<=100->gd (CF (BF z.length [x].length) 1048576) k=k ():=λz x k j=>Tk (by simp only[BF,cP,dc];omega) k
   match rs,c,a with
   |[],_,a=>
    refine Tv (x:=(0,((m,-1),()))) (U1 (n:=1) (by omega) (UT rfl)) ?_;rw[Tn a (by omega)];simp
   |[r0],_,a=>
    refine Tv (x:=(0,((m++[r0],-1),()))) (U1 (n:=2) (by omega) ((UL (s':=(m++[r0],-1)) ?_).trans (UT rfl))) ?_
    ·show br (Rv (0:Int) 0) _ _=_;rw[TE,if_pos (by omega),Ta,S4 a];refine(WW 0 rfl (x:=r0) rfl).trans ?_;rw[gg m _ _ (by omega)];rfl
    ·rw[Tn a (by omega)];simp
   |[r0,r1],_,a=>
    refine Tv (x:=(0,((m++[r1]++[r0],-1),()))) (U1 (n:=3) (by omega) ((UL (s':=(m++[r1],0)) ?_).trans ((UL (s':=(m++[r1]++[r0],-1)) ?_).trans (UT rfl)))) ?_
    ·show br (Rv (1:Int) 0) _ _=_;rw[TE,if_pos (by omega),Ta,S4 a];refine(WW 1 rfl (x:=r1) rfl).trans ?_;rw[gg m _ _ (by omega)];rfl
    ·show br (Rv (0:Int) 0) _ _=_;rw[TE,if_pos (by omega),Ta,S4 a];refine(WW 0 rfl (x:=r0) rfl).trans ?_;rw[gg (m++[r1]) _ _ (by simp;omega)];rfl
    ·rw[Tn a (by omega)];simp),Sn]
 simp
theorem XK(a b:Int):TP a b=max a b:=by unfold TP;split<;>omega
theorem Wi:∀ (l:List UA) (m:Int),0<=m->l.foldl (λm r=>TP m r.1) m=max m (l.foldl (λm r=>TP m r.1) 0)
 |[],m,h=>by simp;omega
 |r::l,m,h=>by
  have a:=Wi l (TP m r.1) (by rw[XK];omega);have b:=Wi l (TP 0 r.1) (by rw[XK];omega);simp only[gq];rw[a,b,XK,XK];omega
theorem bf(l:List UA)(m:Int)(h:0<=m):l.reverse.foldl (λm r=>TP m r.1) m=l.foldl (λm r=>TP m r.1) m:=by
 induction l generalizing m with
 |nil=>rfl
 |cons r l a=>
  rw[List.reverse_cons,xr,a m h,gq];simp only[gq,List.foldl_nil];rw[Wi l m h,Wi l (TP m r.1) (by rw[XK];omega),XK,XK];omega
theorem ca(l:List UA)(m:Int)(h:0<=m):0<=l.foldl (λm r=>TP m r.1) m:=by
 rw[Wi l m h];omega
theorem ZD:∀ (ls:List (List UA)) (m:Int),0<=m->(UJ ls).foldl (λm r=>TP m r.1) m=ls.foldl (λm rs=>rs.foldl (λm r=>TP m r.1) m) m
 |[],m,_=>rfl
 |rs::ls,m,h=>by
  have a:=ZD ls (rs.foldl (λm r=>TP m r.1) m) (ca _ _ h);unfold UJ at a ⊢;rw[xo,xr,bf rs m h,gq,a]
theorem cp{L:Te}(v:VLev L):Vw L=some (Wd L.2):=by
 have d:=v.len;have e:=ZP L.2 v.two;unfold Vw;simp only[Tf,Td];rw[bR v,Sn]
 rw[U4 (l:=UJ L.2) (σ:=Int) (s:=((0:Int),(0:Int))) (λi m=>(m,(i:Int))) (λ_ _ _=>True) (λl _ m=>(0,((l.foldl (λm r=>TP m r.1) m,((UJ L.2).length:Int)),()))) 0 rfl (by omega) trivial (λm _=>by
  simp only;rw[re,R5];rfl) (λk r l m c a b _=>⟨TP m r.1,by
   simp only
   rw[rl b,SW,Ta,S4 a,Tn a (by omega)],trivial,rfl⟩),Sn]
 rw[ZD _ _ (by omega)];rfl
theorem al{L:Te}(e:L.2.length<=1000):Uk L=some (Tj 0 L.2):=by
 unfold Uk;simp only[Tf,Td]
 rw[U4 (l:=L.2) (σ:=List Int) (s:=(([]:List Int),(0:Int))) (λi m=>(m,(i:Int))) (λls i m=>m++Tj i ls=Tj 0 L.2) (λ_ _ _=>(0,((Tj 0 L.2,(L.2.length:Int)),()))) [] rfl (by omega) rfl (λm h=>by
  simp only;rw[re,R5,<- h];simp[Tj]) (λi rs ls m d b hi h=>by
   refine⟨m++(if rs.length=2 then[(i:Int)]else[]),?_,?_,rfl⟩
   ·simp only;rw[rl hi,SW,Ta,S4 b,TD]
    have f:m.length<=1000:=by
     have a:=congrArg kd h;have c:=Vn L.2 0;rw[gl]at a;omega
    by_cases a:rs.length=2
    ·rw[if_pos (by omega),if_pos a,Tk (by simp only[BF,cP,dc];omega),Tn b (by omega)];rfl
    ·rw[if_neg (by omega),if_neg a,fl,Tn b (by omega)]
   ·rw[ed];exact h),Sn]
theorem sq{L:Te}(v:VLev L)(k:Int):Ys (L,k)=some (if k<0\/k>=12 then 7 else 0):=by
 obtain⟨c,d⟩:=v.small;unfold Ys;rw[ei _ c d,XN v,Sn,TD,if_pos rfl,TH,TE];by_cases a:k<0
 ·rw[if_pos a,if_pos (.inl a)]
 ·rw[if_neg a];by_cases b:k>=12
  ·rw[if_pos b,if_pos (.inr b)]
  ·rw[if_neg b,if_neg (by omega)]
theorem bQ{L:Te}(v:VLev L){n:Nat}(b:n<L.2.length):Ua (L,(n:Int))=some (decide ((n:Int)=(L.2.length:Int)-1)):=by
 have a:=v.len;unfold Ua YS;simp only[Tf,Td];rw[sq v,Sn,if_neg (by omega),TI,if_pos rfl,Sn,Ti (by omega)];unfold Sx;rw[U6];by_cases h:(n:Int)=(L.2.length:Int)-1
 ·simp[h]
 ·simp[h];omega
theorem eZ{a b:List TZ}(va:VL a)(d:VL b)(c:Bool):Xa ([a,b],c)=some (VU a b c 0,(0,0)):=by
 unfold Xa YR Vi;rw[Zr va d,Sn,TI,if_pos rfl];refine Eq.trans (b:=bd (bd (Vh ([a,b],[((0:Nat):Int),((0:Nat):Int)])) _) _) rfl ?_;rw[Y6 va d (ll _) (ll _)];rfl
theorem cM{L:Te}{n:Nat}{a b:UA}(c:Bool)(h:L.2[n]?=some [a,b])(d:VL a.2)(e:VL b.2):UG (L,((n:Int),c))=some ((n:Int),VU b.2 a.2 c 0):=by
 have f:=(a8.1 h).1;unfold UG;simp only[Tf,Td];rw[TE,if_neg (by omega),Ta,S4 h,S4 (x:=b) rfl,S4 (x:=a) rfl,eZ e d];rfl
theorem qB{L:Te}{n:Nat}{a b:UA}{j:Job}(h:L.2[n]?=some [a,b])(e:VL a.2)(f:VL b.2){β:Type}(A B:Option β) :
  (bd (UG (L,((n:Int),j.2.2.1.2.2))) λc=>bd (US c.2) λl=>br (Sz j.2.2.2.2 0) (λ_=>A) λ_=>br (Sx j.2.2.2.2 l.1) (λ_=>A) λ_=>bd (UN (c.2,j.2.2.2.2)) λm=>bd (Uc (m.1,j.2)) λo=>br (He o) (λ_=>A) λ_=>B)
  = if j.2.2.2.2<0\/j.2.2.2.2>((b.2.length+a.2.length:Nat):Int)then A else if VU b.2 a.2 j.2.2.1.2.2 j.2.2.2.2.toNat=j.2 then B else A:=by
 rw[cM _ h e f,Sn,Zs f e _ (ll _),Sn,TH,TF,mg];by_cases g:j.2.2.2.2<0
 ·rw[if_pos g,if_pos (.inl g)]
 rw[if_neg g];by_cases i:j.2.2.2.2>((b.2.length+a.2.length:Nat):Int)
 ·rw[if_pos i,if_pos (.inr i)]
 rw[if_neg i,if_neg (show ¬ (j.2.2.2.2<0\/j.2.2.2.2>((b.2.length+a.2.length:Nat):Int)) by omega)];obtain⟨k,p⟩:∃ k:Nat,j.2.2.2.2=(k:Int):=⟨j.2.2.2.2.toNat,by omega⟩;rw[p,bS f e _ (ll _),Sn,mg,ey,ul (by omega),bl];obtain⟨s1,s2,q,r,s,t⟩:=bm f e j.2.2.1.2.2 (n:=k) (by omega);rw[eh _ _ s1 s2 q r s t,Sn,U6,VE];by_cases d:VU b.2 a.2 j.2.2.1.2.2 k=j.2
 ·rw[if_neg (by simp[d]),if_pos d]
 ·rw[if_pos d,if_neg d]
end
section
open Go Sv
theorem cq(s:Tb)(J:s.1.2.length<=9223372036854775807)(hr:∀ rs∈s.1.2,rs.length<=9223372036854775807 /\ ∀ r∈rs,r.2.length<=9223372036854775807)(hj:s.2.1.length<=9223372036854775807):VM s=some (Tc s):=by
 unfold VM Tc;simp only[Tf,Td];rw[gi _ J hr,Sn,TD];by_cases o:(V6 s.1).2.2=0;rotate_left
 ·rw[if_neg o,if_pos o,TD,if_neg o,TI,if_neg o]
 rw[if_pos o,if_neg (show ¬ (V6 s.1).2.2≠0 by simp[o]),TH,TF];have v:=YL.1 o;by_cases y:s.2.2<1
 ·rw[if_pos y,if_pos (.inl y)]
 rw[if_neg y];by_cases p:s.2.2>1000001
 ·rw[if_pos p,if_pos (.inr p)]
 rw[if_neg p,if_neg (show ¬ (s.2.2<1\/s.2.2>1000001) by omega),TD,if_pos o,cp v,Sn,TG];by_cases m:s.2.2<=Wd s.1.2
 ·rw[if_pos m,if_pos m]
 rw[if_neg m,if_neg m,TI,if_pos o,al (by have:=v.len;omega),Sn];obtain⟨a,g⟩:∃ a,a=Tj 0 s.1.2:=⟨_,rfl⟩;have hdl:a.length<=12:=by have:=Vn s.1.2 0;have:=v.len;rw[g];omega
 rw[<- g];obtain⟨T,Z⟩:∃ T,T=Wu s.1 a 0 s.2.1:=⟨_,rfl⟩;rw[<- Z]
 obtain⟨r,q1,D⟩:=Vy (l:=s.2.1) (σ:=Unit) (λi _=>((0:Int),((0:Int),(i:Int)))) (λjs i _=>Wu s.1 a i js=T) (λ(r:Nat×((Int×(Int×Int))×Unit))=>(T=none/\r.1=1)\/(∃ i:Nat,T=some i/\r.1=0/\r.2.1.1=6/\r.2.1.2.1=(i:Int)))
  (f:=λb=>br (Sz b.2.2 (s.2.1.length:Int)) (λ_=>Rz b.2.2 λk7=>ix s.2.1 k7 λe=>br (Rv b.2.2 (a.length:Int)) (λ_=>some (.dn ((0,((6,(b.2.2,b.2.2)),()))))) λ_=>Rz b.2.2 λk9=>ix a k9 λX=>br (Rw e.1 X) (λ_=>some (.dn ((0,((6,(b.2.2,b.2.2)),()))))) λ_=>br e.2.2.1.2.2 (λ_=>bd (Ua (s.1,e.1)) λM=>br (He M) (λ_=>some (.dn ((0,((6,(b.2.2,b.2.2)),()))))) λ_=>bd (UG ((s.1,(e.1,e.2.2.1.2.2)))) λG=>bd (US G.2) λN=>br (Sz e.2.2.2.2 0) (λ_=>some (.dn ((0,((6,(b.2.2,b.2.2)),()))))) λ_=>br (Sx e.2.2.2.2 N.1) (λ_=>some (.dn ((0,((6,(b.2.2,b.2.2)),()))))) λ_=>bd (UN (G.2,e.2.2.2.2)) λO=>bd (Uc (O.1,e.2)) λP=>br (He P) (λ_=>some (.dn ((0,((6,(b.2.2,b.2.2)),()))))) λ_=>some (.nx ((b.1,(b.2.1,SC .i64 b.2.2 1))))) λ_=>bd (UG ((s.1,(e.1,e.2.2.1.2.2)))) λI=>bd (US I.2) λS=>br (Sz e.2.2.2.2 0) (λ_=>some (.dn ((0,((6,(b.2.2,b.2.2)),()))))) λ_=>br (Sx e.2.2.2.2 S.1) (λ_=>some (.dn ((0,((6,(b.2.2,b.2.2)),()))))) λ_=>bd (UN (I.2,e.2.2.2.2)) λU=>bd (Uc (U.1,e.2)) λW=>br (He W) (λ_=>some (.dn ((0,((6,(b.2.2,b.2.2)),()))))) λ_=>some (.nx ((b.1,(b.2.1,SC .i64 b.2.2 1))))) λ_=>some (.dn ((1,(b,())))))
  (s:=(0,(0,0))) () rfl (by omega) Z.symm (λ_ h=>by
   refine⟨_,by simp only;rw[re];rfl,.inl ⟨by rw[<- h];rfl,rfl⟩⟩) (λi j js _ hd hx hi h=>by
   simp only;rw[rl hi,SW,Ta,S4 hx,TE];unfold Wu at h
   have c:Zd s.1 a i j=true -> ∃ r:Nat×((Int×(Int×Int))×Unit),(some (LR.dn ((0,((6,((i:Int),(i:Int))),()))):LR (Int×(Int×Int)) _))=some (.dn r)/\((T=none/\r.1=1)\/(∃ i:Nat,T=some i/\r.1=0/\r.2.1.1=6/\r.2.1.2.1=(i:Int))):=λJ=>by
    rw[if_pos J]at h;exact⟨_,rfl,.inr ⟨i,h.symm,rfl,rfl,rfl⟩⟩
   have x:Zd s.1 a i j=false -> ∃ st':Unit,(some (LR.nx ((0:Int),((0:Int),SC .i64 (i:Int) 1))):Option (LR _ (Nat×((Int×(Int×Int))×Unit))))=some (.nx ((0:Int),((0:Int),((i+1:Nat):Int))))/\Wu s.1 a (i+1) js=T:=λhg=>by
    rw[if_neg (by simp[hg])]at h;exact⟨(),by rw[Tn hx (by omega)],h⟩
   by_cases y:(i:Int)>=(a.length:Int)
   ·rw[if_pos y];exact .inr (c (by unfold Zd;rw[a9 (by omega)]))
   rw[if_neg y,Ta];have w:a[i]?=some (a[i]'(by omega)):=by simp
   rw[S4 w,TI];obtain⟨n,K,E,F,t⟩:=X3 (ls:=s.1.2) (i:=0) (k:=i) (d:=a[i]'(by omega)) (by rw[<- g];exact w);rw[ey]at K
   have q:Zd s.1 a i j=(if j.1≠(a[i]'(by omega))then true else if j.2.2.1.2.2=true/\j.1≠(s.1.2.length:Int)-1 then true else if j.2.2.2.2<0\/j.2.2.2.2>((F.2.length+E.2.length:Nat):Int)then true else decide (VU F.2 E.2 j.2.2.1.2.2 j.2.2.2.2.toNat≠j.2)):=by
    unfold Zd;rw[w];simp only;rw[K,bl,t]
   by_cases p:j.1=(a[i]'(by omega));rotate_left
   ·rw[if_neg p];exact .inr (c (by rw[q,if_pos p]))
   rw[if_pos p];rw[if_neg (by simp[p])]at q;have C:j.1=(n:Int):=by rw[p,K]
   have hv:=(v.lev n _ t).2;have v0:=(hv E (by simp)).vl;have v1:=(hv F (by simp)).vl;have L:=(a8.1 t).1;rw[C,bQ v L,Sn,U6,VE,qB t v0 v1,TL];rw[C]at q;by_cases m:j.2.2.1.2.2=true/\(n:Int)≠(s.1.2.length:Int)-1
   ·rw[if_pos m.1,if_pos m.2];exact .inr (c (by rw[q,if_pos m]))
   rw[if_neg m]at q
   have h4:∀ {γ:Type} (A B:γ),(if j.2.2.1.2.2=true then if ¬(n:Int)=(s.1.2.length:Int)-1 then A else B else B)=B:=by
    intro γ A B;by_cases u:j.2.2.1.2.2=true
    ·rw[if_pos u,if_neg (λz=>m ⟨u,z⟩)]
    ·rw[if_neg u]
   rw[h4];by_cases u:j.2.2.2.2<0\/j.2.2.2.2>((F.2.length+E.2.length:Nat):Int)
   ·rw[if_pos u];exact .inr (c (by rw[q,if_pos u]))
   rw[if_neg u];rw[if_neg u]at q;by_cases z:VU F.2 E.2 j.2.2.1.2.2 j.2.2.2.2.toNat=j.2
   ·rw[if_pos z];exact .inl (x (by rw[q];simp[z]))
   ·rw[if_neg z]
    exact .inr (c (by rw[q];simp[z])))
 refine Tv q1 ?_;rw[So];rcases D with⟨D,q3⟩|⟨i,D,q3,q4,q5⟩
 ·rw[if_neg (show ¬ r.1=0 by omega),D,TH];simp only;by_cases Y:s.2.1.length<a.length
  ·rw[if_pos (by omega),if_pos Y]
  ·rw[if_neg (by omega),if_neg Y]
 ·rw[if_pos q3,D,q4,q5]
theorem dq(s:Tb)(b:s.1.2.length<=1048576)(a:∀ rs∈s.1.2,rs.length<=1048576 /\ ∀ r∈rs,r.2.length<=9223372036854775807)(c:s.2.1.length<=1048576):VM s=some (Tc s):=cq s (by omega) (λrs h=>⟨by have:=(a rs h).1;omega,(a rs h).2⟩) (by omega)
end
section
open Go Sv
def JobAt(L:Te)(n:Nat)(j:Job):Prop:=∃ a b c k,L.2[n]?=some [a,b]/\j=((n:Int),VU b.2 a.2 c k)/\k<=b.2.length+a.2.length/\(c=true->n+1=L.2.length)/\VL a.2/\VL b.2
structure VSt (s:Tb):Prop where
 lev:VLev s.1
 n1:1<=s.2.2
 n2:s.2.2<=1000001
 n3:Wd s.1.2<s.2.2
 due:s.2.1.map (·.1)=Tj 0 s.1.2
 job:∀ j∈s.2.1,∃ n,JobAt s.1 n j
theorem am(a b:List TZ)(c:Bool)(k:Nat):(VU a b c k).2.1.2.2=c:=by
 show(U5 (s0 c) (Tw a b k)).2.2=c;rw[XM]
theorem bC{L:Te}(v:VLev L){i:Nat}{j:Job}:Zd L (Tj 0 L.2) i j=false <-> ∃ n,(Tj 0 L.2)[i]?=some j.1/\JobAt L n j:=by
 constructor
 ·intro h;unfold Zd at h;cases c:(Tj 0 L.2)[i]? with
  |none=>rw[c]at h;cases h
  |some d=>
   rw[c]at h;simp only at h;by_cases f:j.1=d;rotate_left
   ·rw[if_pos f]at h;cases h
   rw[if_neg (by simp[f])]at h;by_cases g:j.2.2.1.2.2=true/\j.1≠(L.2.length:Int)-1
   ·rw[if_pos g]at h;cases h
   rw[if_neg g]at h;obtain⟨n,m,a,b,e⟩:=X3 c;rw[ey]at m;rw[m,bl,e]at h;simp only at h;by_cases p:j.2.2.2.2<0\/j.2.2.2.2>((b.2.length+a.2.length:Nat):Int)
   ·rw[if_pos p]at h;cases h
   rw[if_neg p]at h;have s:VU b.2 a.2 j.2.2.1.2.2 j.2.2.2.2.toNat=j.2:=by simpa using h
   have r:=(v.lev n _ e).2;refine⟨n,by rw[f],a,b,j.2.2.1.2.2,j.2.2.2.2.toNat,e,ta (by rw[f,m]) s.symm,by omega,λl=> ?_,(r a (by simp)).vl,(r b (by simp)).vl⟩
   have t:j.1=(L.2.length:Int)-1:=by
    by_cases q:j.1=(L.2.length:Int)-1
    ·exact q
    ·exact absurd ⟨l,q⟩ g
   omega
 ·rintro⟨n,c,a,b,o,k,e,rfl,u,l,w,x⟩;unfold Zd;rw[c];simp only;rw[if_neg (by simp),am,if_neg (λh:o=true/\(n:Int)≠(L.2.length:Int)-1=>h.2 (by have:=l h.1;omega)),bl,e];simp only;rw[show(VU b.2 a.2 o k).2.2.2=(k:Int)from rfl,if_neg (by omega),bl];simp
theorem ZM{L:Te}{a:List Int}:∀ {js:List Job} {i:Nat},Wu L a i js=none <-> ∀ k j,js[k]?=some j->Zd L a (i+k) j=false
 |[],i=>by simp[Wu]
 |j::js,i=>by
  unfold Wu;by_cases h:Zd L a i j=true
  ·rw[if_pos h];simp only[reduceCtorEq,false_iff];intro b;have:=b 0 j rfl;rw[Nat.add_zero,h]at this;cases this
  ·rw[if_neg h,ZM (js:=js)];constructor
   ·intro b k j' c;cases k with
    |zero=>cases c;simpa using h
    |succ k=>rw[show i+(k+1)=i+1+k by omega];exact b k j' c
   ·intro b k j' c;rw[show i+1+k=i+(k+1) by omega];exact b (k+1) j' c
theorem Tl{s:Tb}:(Tc s).2=0<->VSt s:=by
 unfold Tc;constructor
 ·intro h;by_cases d:(V6 s.1).2.2≠0
  ·rw[if_pos d]at h;exact absurd h d
  rw[if_neg d]at h;have v:=YL.1 (Decidable.not_not.1 d);by_cases f:s.2.2<1\/s.2.2>1000001
  ·rw[if_pos f]at h;cases h
  rw[if_neg f]at h;by_cases g:s.2.2<=Wd s.1.2
  ·rw[if_pos g]at h;cases h
  rw[if_neg g]at h;cases b:Wu s.1 (Tj 0 s.1.2) 0 s.2.1 with
  |some i=>rw[b]at h;cases h
  |none=>
   rw[b]at h;simp only at h;by_cases l:s.2.1.length<(Tj 0 s.1.2).length
   ·rw[if_pos l]at h;cases h
   have m:=ZM.1 b
   have c:∀ k j,s.2.1[k]?=some j -> ∃ n,(Tj 0 s.1.2)[k]?=some j.1/\JobAt s.1 n j:=λk j a=>by
    have:=m k j a;rw[ey]at this;exact(bC v).1 this
   refine⟨v,by omega,by omega,by omega,?_,λj o=> ?_⟩
   ·apply xm;intro k;rw[tk];cases a:s.2.1[k]? with
    |some j=>obtain⟨n,e,_⟩:=c k j a;rw[e];rfl
    |none=>
     have:=List.getElem?_eq_none_iff.1 a;rw[a9 (by omega)];rfl
   ·obtain⟨k,a⟩:=en o;obtain⟨n,_,h⟩:=c k j a;exact⟨n,h⟩
 ·intro v;rw[if_neg (by simp[YL.2 v.lev]),if_neg (by have:=v.n1;have:=v.n2;omega),if_neg (by have:=v.n3;omega)]
  have b:Wu s.1 (Tj 0 s.1.2) 0 s.2.1=none:=ZM.2 λk j a=>by
   rw[ey];obtain⟨n,p⟩:=v.job j (co a);exact(bC v.lev).2 ⟨n,by rw[<- v.due,tk,a];rfl,p⟩
  rw[b];simp only;rw[if_neg (by rw[<- v.due];simp)]
structure Sm (s:Tb):Prop where
 lv:s.1.2.length<=1048576
 rs:∀ rs∈s.1.2,rs.length<=1048576 /\ ∀ r∈rs,r.2.length<=9223372036854775807
 js:s.2.1.length<=1048576
theorem uI{s:Tb}(m:Sm s):Ui s=some (Tc s):=eO s m.lv m.rs m.js
theorem sj{s:Tb}(m:Sm s):VM s=some (Tc s):=dq s m.lv m.rs m.js
theorem VSt.jlen{s:Tb}(v:VSt s):s.2.1.length=(Tj 0 s.1.2).length:=by rw[<- v.due];simp
theorem VSt.jsmall{s:Tb}(v:VSt s):s.2.1.length<=12:=by
 have:=v.jlen;have:=Vn s.1.2 0;have:=v.lev.len;omega
theorem VSt.sm{s:Tb}(v:VSt s):Sm s:=⟨v.lev.small.1,v.lev.small.2,by have:=v.jsmall;omega⟩
def Z3(x:Int):Nat->List Int->Option Nat
 |_,[]=>none
 |k,y::l=>if y=x then some k else Z3 x (k+1) l
theorem eL{x:Int}:∀ {l:List Int} {k i:Nat},Z3 x k l=some i->k<=i/\l[i-k]?=some x
 |[],_,_,h=>by cases h
 |y::l,k,i,h=>by
  unfold Z3 at h;by_cases e:y=x
  ·rw[if_pos e]at h;cases h;simp[e]
  ·rw[if_neg e]at h;obtain⟨b,a⟩:=eL h;exact⟨by omega,by rw[show i-k=(i-(k+1))+1 by omega];simpa using a⟩
theorem cZ{x:Int}:∀ {l:List Int} {k:Nat},x∈l -> ∃ i,Z3 x k l=some i
 |[],_,h=>by cases h
 |y::l,k,h=>by
  unfold Z3;by_cases e:y=x
  ·rw[if_pos e];exact⟨k,rfl⟩
  ·rw[if_neg e];exact cZ (by rcases ee.1 h with h|h;exact absurd h.symm e;exact h)
def YY(s:Tb)(a:Int):Int×Int:=if(Tc s).2≠0 then(0,(Tc s).2)else match Z3 a 0 (Tj 0 s.1.2)with
 |some i=>((i:Int),0)
 |none=>(0,4)
theorem gJ{s:Tb}(m:Sm s)(a:Int):Xg (s,a)=some (YY s a):=by
 unfold Xg YY;simp only[Tf,Td];rw[uI m,Sn,TI];by_cases b:(Tc s).2=0;rotate_left
 ·rw[if_neg b,if_pos b]
 rw[if_pos b,if_neg (show ¬ (Tc s).2≠0 by simp[b])];have v:=Tl.1 b;have x:=v.jsmall;rw[<- v.due];obtain⟨T,g⟩:∃ T,T=Z3 a 0 (s.2.1.map (·.1)):=⟨_,rfl⟩;rw[<- g]
 obtain⟨r,q,c⟩:=Vy (l:=s.2.1) (σ:=Unit) (s:=((0:Int),(0:Int))) (λk _=>((0:Int),(k:Int))) (λjs k _=>Z3 a k (js.map (·.1))=T) (λ(r:Nat×((Int×Int)×Unit))=>(r.1=1/\T=none)\/(r.1=0 /\ ∃ i:Nat,T=some i/\r.2.1.1=(i:Int)))
  (f:=λs1=>br (Sz s1.2 (s.2.1.length:Int)) (λ_=>Rz s1.2 λp=>ix s.2.1 p λu=>br (OX u.1 a) (λ_=>some (.dn ((0,((s1.2,s1.2),()))))) λ_=>some (.nx (s1.1,SC .i64 s1.2 1))) λ_=>some (.dn ((1,(s1,())))))
  () rfl (by omega) g.symm (λ_ h=>⟨_,by simp only;rw[re];rfl,.inl ⟨rfl,by rw[<- h];rfl⟩⟩) (λk j js _ w n o h=>by
   simp only;rw[rl o,SW,Ta,S4 n,TD];unfold Z3 at h;simp only[ns]at h;by_cases e:j.1=a
   ·rw[if_pos e];rw[if_pos e]at h;exact .inr ⟨_,rfl,.inr ⟨rfl,k,h.symm,rfl⟩⟩
   ·rw[if_neg e];rw[if_neg e]at h
    exact .inl ⟨(),by rw[Tn n (by omega)],h⟩)
 refine Tv q ?_;rw[So];rcases c with⟨c,d⟩|⟨c,i,d,t⟩
 ·rw[if_neg (show ¬ r.1=0 by omega),d];rfl
 ·rw[if_pos c,d,t,TH,if_neg (by omega)]
theorem dt{s:Tb}(m:Sm s):Wr s=some (if(Tc s).2≠0 then([],(Tc s).2)else(Tj 0 s.1.2,0)):=by
 unfold Wr;rw[sj m,Sn,TI];by_cases a:(Tc s).2=0
 ·rw[if_pos a,if_neg (show ¬ (Tc s).2≠0 by simp[a]),al (by have:=(Tl.1 a).lev.len;omega),Sn]
 ·rw[if_neg a,if_pos a]
theorem ZT{s:Tb}(m:Sm s)(a:Int):Uz (s,a)=some (YY s a):=by
 unfold Uz YY;simp only[Tf,Td];rw[dt m,Sn,TI];by_cases c:(Tc s).2=0;rotate_left
 ·rw[if_pos c,if_neg c,if_pos c]
 rw[if_neg (show ¬ (Tc s).2≠0 by simp[c]),if_pos rfl,if_neg (show ¬ (Tc s).2≠0 by simp[c])];have v:=Tl.1 c;have A:=v.jsmall;have p:=v.jlen;obtain⟨b,d⟩:∃ b,b=Tj 0 s.1.2:=⟨_,rfl⟩;rw[<- d]at p ⊢;obtain⟨T,o⟩:∃ T,T=Z3 a 0 b:=⟨_,rfl⟩;rw[<- o];simp only
 obtain⟨r,w,g⟩:=Vy (l:=b) (σ:=Unit) (s:=((0:Int),((0:Int),(0:Int)))) (λk _=>((0:Int),((0:Int),(k:Int)))) (λjs k _=>Z3 a k js=T) (λ(r:Nat×((Int×(Int×Int))×Unit))=>(r.1=1/\T=none)\/(r.1=0 /\ ∃ i:Nat,T=some i/\r.2.1.2.1=(i:Int)/\r.2.1.1=0))
  (f:=λs1=>br (Sz s1.2.2 (b.length:Int)) (λ_=>Rz s1.2.2 λu=>ix b u λz=>br (OX z a) (λ_=>some (.dn ((0,((0,(s1.2.2,s1.2.2)),()))))) λ_=>some (.nx ((s1.1,(s1.2.1,SC .i64 s1.2.2 1))))) λ_=>some (.dn ((1,(s1,())))))
  () rfl (by omega) o.symm (λ_ h=>⟨_,by simp only;rw[re];rfl,.inl ⟨rfl,by rw[<- h];rfl⟩⟩) (λk j js _ p q t h=>by
   simp only;rw[rl t,SW,Ta,S4 q,TD];unfold Z3 at h;by_cases e:j=a
   ·rw[if_pos e];rw[if_pos e]at h;exact .inr ⟨_,rfl,.inr ⟨rfl,k,h.symm,rfl,rfl⟩⟩
   ·rw[if_neg e];rw[if_neg e]at h
    exact .inl ⟨(),by rw[Tn q (by omega)],h⟩)
 refine Tv w ?_;rw[So];rcases g with⟨g,n⟩|⟨g,i,n,x,y⟩
 ·rw[if_neg (show ¬ r.1=0 by omega),n]
 ·rw[if_pos g,n,x,y]
end
end Go.Proofs.YtggceepiljjadaaGreat.Pl
