/- Functions of the program and of the specification as plain functions, and laws about them. No condition. -/
import Derived.Test.YtanppfoapnaeaaaGreatPl2
import Derived.KernelRfl
set_option linter.all false
open List renaming drop_eq_getElem_cons->iz, drop_eq_nil_of_le->s7, length_cons->ci
open Nat renaming zero_add->eo
namespace Go.Proofs.YtanppfoapnaeaaaGreat.Pl
section
open Go Sv
def Vr:List Ta->Int
 |[]=>0
 |x::l=>if kE x≠0 then kE x else Vr l
def YJ(b:Tw)(l:List Ta):Int:=if(UF b).2≠0 then(UF b).2 else if(l.length:Int)>16 then 3 else Vr l
structure Bf (b:Tw):Prop where
 m1:1<=b.1
 m2:b.1<=16
 len:(b.2.length:Int)<=b.1
 ok:∀ x∈b.2,kE x=0
 asc:Asc none b.2
theorem nE{b:Tw}(h:(UF b).2=0):Bf b:=by
 unfold UF at h;by_cases a:b.1<1\/b.1>16
 ·rw[if_pos a]at h;cases h
 rw[if_neg a]at h;by_cases c:(b.2.length:Int)>b.1
 ·rw[if_pos c]at h;cases h
 rw[if_neg c]at h;obtain⟨d,e⟩:=ZU.1 h;exact⟨by omega,by omega,by omega,d,e⟩
theorem ac(b:Tw)(l:List Ta):Vv (b,l)=some (YJ b l):=by
 unfold Vv YJ;simp only[Te,Tc];rw[X5,Sp,TJ];by_cases a:(UF b).2=0;rotate_left
 ·rw[if_neg a,if_pos a]
 rw[if_pos a,if_neg (show ¬ (UF b).2≠0 by simp[a]),TG];by_cases c:(l.length:Int)>16
 ·rw[if_pos c,if_pos c]
 rw[if_neg c,if_neg c]
 obtain⟨r,p,e⟩:=Va (l:=l) (σ:=Unit) (s:=((0:Int),(0:Int))) (λk _=>((k:Int),(0:Int))) (λm k _=>Vr l=Vr m) (λ(r:Nat×((Int×Int)×Unit))=>(r.1=0/\r.2.1.2=Vr l)\/(r.1=1/\Vr l=0))
  (f:=λs1=>br (S1 s1.1 (l.length:Int)) (λ_=>R0 s1.1 λo=>ix l o λq=>bd (UA q) λi=>br (Rx i 0) (λ_=>some (.dn ((0,((s1.1,i),()))))) λ_=>some (.nx (SE .i64 s1.1 1,s1.2))) λ_=>some (.dn ((1,(s1,())))))
  () rfl (by omega) rfl (λ_ h=>⟨_,by simp only;rw[re];rfl,.inr ⟨rfl,h⟩⟩) (λk x m _ t n j h=>by
   simp only;have h:Vr l=if kE x≠0 then kE x else Vr m:=h
   rw[rl j,SX,Tb,S6 n,Ux,Sp,TJ,Tf (by omega)];by_cases d:kE x=0
   ·rw[if_neg (by simp[d])]at h;rw[if_pos d];exact .inl ⟨(),rfl,h⟩
   ·rw[if_pos d]at h
    rw[if_neg d];exact .inr ⟨_,rfl,.inl ⟨rfl,h.symm⟩⟩)
 refine Tv p ?_;rw[Sq];rcases e with⟨e,g⟩|⟨e,g⟩
 ·rw[if_pos e,g]
 ·rw[if_neg (by omega),g]
theorem ZJ{l:List Ta}(d:l.length<=9223372036854775807)(a:Int):∃ r,loop (β:=Nat×((Int×Int)×Unit)) (λs1=>br (S1 s1.1 (l.length:Int)) (λ_=>br (OY s1.2 0) (λ_=>R0 s1.1 λi=>ix l i λn=>bd (Tx n) λj=>some (.nx (SE .i64 s1.1 1,j))) λ_=>some (.dn ((0,(s1,()))))) λ_=>some (.dn ((0,(s1,()))))) ((0:Int),a)=some r/\r.2.1.2=if a≠0 then a else Vr l:=by
 obtain⟨T,c⟩:∃ T,T=if a≠0 then a else Vr l:=⟨_,rfl⟩
 rw[<- c]
 exact Va (l:=l) (σ:=Int) (λk e=>((k:Int),e)) (λm k e=>T=if e≠0 then e else Vr m) (λ(r:Nat×((Int×Int)×Unit))=>r.2.1.2=T) a rfl d c (λe h=>⟨(0,(((l.length:Int),e),())),by simp only;rw[re,R6],by
   rw[h];simp only;split
   ·rfl
   ·rename_i b;simp only[Vr];omega⟩) (λk x m e o f g h=>by
   simp only;rw[rl g,SX,TE];by_cases b:e=0
   ·rw[if_pos b,Tb,S6 f,Wy,Sp,Tn f d];rw[if_neg (by simp[b])]at h;exact .inl ⟨kE x,rfl,h⟩
   ·rw[if_neg b];rw[if_pos b]at h
    exact .inr ⟨_,rfl,h.symm⟩)
theorem ej(b:Tw)(l:List Ta)(f:l.length<=9223372036854775807):W7 (b,l)=some (YJ b l):=by
 unfold W7 YJ;simp only[Te,Tc];rw[ZO,Sp,TE];by_cases a:(UF b).2=0;rotate_left
 ·rw[if_neg a,if_pos a];obtain⟨r,c,d⟩:=ZJ f (UF b).2;rw[c,Sp,d,if_pos a]
 rw[if_pos a,if_neg (show ¬ (UF b).2≠0 by simp[a]),TG];by_cases e:(l.length:Int)>16
 ·rw[if_pos e,if_pos e];obtain⟨r,c,d⟩:=ZJ f 3;rw[c,Sp,d];rfl
 ·rw[if_neg e,if_neg e];obtain⟨r,c,d⟩:=ZJ f (UF b).2;rw[c,Sp,d,if_neg (by simp[a])]
def Yn:List Ta->Ta->Nat
 |[],_=>0
 |y::l,x=>(if SQ x.1 y.1=true then 1 else 0)+Yn l x
theorem Zg(y:Ta)(l:List Ta)(x:Ta):Yn (y::l) x=(if SQ x.1 y.1=true then 1 else 0)+Yn l x:=rfl
theorem aQ:∀ {l:List Ta} {x:Ta},(∀ y∈l,SQ x.1 y.1=true)->Yn l x=l.length
 |[],_,_=>rfl
 |y::l,x,h=>by
  unfold Yn;rw[if_pos (h y (by simp)),aQ λz a=>h z (by simp[a])];simp;omega
theorem gn:∀ (l:List Ta) (x:Ta),Yn l x<=l.length
 |[],_=>by simp[Yn]
 |y::l,x=>by
  have:=gn l x;unfold Yn;split<;>simp<;>omega
theorem gm{x:Ta}:∀ {l:List Ta} {p:Option XZ},Asc p l->(l.length:Int)-(Vo l x.1:Int)+1-(if X8 l x.1=true then 1 else 0)=1+(Yn l x:Int)
 |[],_,_=>by simp[Vo,Yn,X8]
 |y::l,p,⟨j,d⟩=>by
  have i:=gm (x:=x) d;rw[Z5];by_cases h:SQ y.1 x.1=true
  ·have b:Yn (y::l) x=Yn l x:=by
    rw[Zg,if_neg (by rw[Uy h];simp),eo]
   have f:Vo (y::l) x.1=Vo l x.1+1:=by conv=>lhs;unfold Vo;rw[if_pos h]
   rw[b,f,if_pos h,<- i,ci];omega
  ·have f:Vo (y::l) x.1=0:=by conv=>lhs;unfold Vo;rw[if_neg h]
   rw[f,if_neg h];by_cases a:y.1=x.1
   ·have e:Yn l x=l.length:=aQ λz g=>by rw[<- a];exact Y8 d z g
    have b:Yn (y::l) x=Yn l x:=by
     rw[Zg,if_neg (by rw[a,WU];simp),eo]
    rw[b,e,if_pos (decide_eq_true a),ci];omega
   ·have c:SQ x.1 y.1=true:=Yl (by simpa using h) a;have e:Yn l x=l.length:=aQ λz g=>U5 c (Y8 d z g)
    have b:Yn (y::l) x=1+Yn l x:=by
     rw[Zg,if_pos c]
    rw[b,e,if_neg (by simp[a]),ci];omega
theorem mq{l:List Ta}{p:Option XZ}(ha:Asc p l)(x:Ta)(hl:l.length<=1000):XF (l,x)=some (V7 l x,1+(Yn l x:Int)):=by
 unfold XF;simp only[Te,Tc,Ij];have gg:∀ {β:Type} {a b:List Ta} (h:a.length+b.length<=2000) (c:Unit->Option β),gd (CF (BF a.length b.length) 1048576) c=c ():=λh c=>UC (by unfold BF;omega) c;obtain⟨W,hW⟩:∃ W:Int,W=1+(Yn l x:Int):=⟨_,rfl⟩
 obtain⟨r,q1,q2⟩:∃ r,loop (β:=Nat×((Int×(Int×(Bool×List Ta)))×Unit)) _ ((1:Int),((0:Int),(false,([]:List Ta))))=some r/\(r.2.1.2.2.2++(if r.2.1.2.2.1=true then[]else[x])=V7 l x/\r.2.1.1=W/\r.2.1.2.2.2.length<=1500):=
  Va (l:=l) (σ:=Int×(Bool×List Ta)) (λk s=>(s.1,((k:Int),(s.2.1,s.2.2))))
  (λm k s=>(∃ q,Asc q m)/\(s.2.1=true -> ∀ y∈m,SQ x.1 y.1=true)/\s.2.2++(if s.2.1=true then m else V7 m x)=V7 l x/\s.1+(Yn m x:Int)=W/\s.2.2.length+(if s.2.1=true then 0 else 1)<=k+1/\0<=s.1/\s.1<=k+1)
  (λ(r:Nat×((Int×(Int×(Bool×List Ta)))×Unit))=>(r.2.1.2.2.2++(if r.2.1.2.2.1=true then[]else[x])=V7 l x/\r.2.1.1=W/\r.2.1.2.2.2.length<=1500))
  (f:=λ(s0:(Int×(Int×(Bool×(List Ta)))))=>br (S1 s0.2.1 (l.length:Int)) (λ_=>R0 s0.2.1 λk1=>ix l k1 λx2=>br (SQ x.1 x2.1) (λ_=>R0 s0.2.1 λk3=>ix l k3 λx4=>br (Hg (SQ x4.1 x.1)) (λ_=>br (Hg s0.2.2.1) (λ_=>gd (CF (BF s0.2.2.2.length [x].length) 1048576) λ_=>R0 s0.2.1 λk5=>ix l k5 λx6=>br (Hg (seq x6.1 x.1)) (λ_=>R0 s0.2.1 λk7=>ix l k7 λx8=>gd (CF (BF (s0.2.2.2++[x]).length [x8].length) 1048576) λ_=>some (.nx ((SE .i64 s0.1 1,(SE .i64 s0.2.1 1,(true,(s0.2.2.2++[x])++[x8])))))) λ_=>some (.nx ((SE .i64 s0.1 1,(SE .i64 s0.2.1 1,(true,s0.2.2.2++[x])))))) λ_=>R0 s0.2.1 λk9=>ix l k9 λx10=>br (Hg (seq x10.1 x.1)) (λ_=>R0 s0.2.1 λM=>ix l M λF=>gd (CF (BF s0.2.2.2.length [F].length) 1048576) λ_=>some (.nx ((SE .i64 s0.1 1,(SE .i64 s0.2.1 1,(s0.2.2.1,s0.2.2.2++[F])))))) λ_=>some (.nx ((SE .i64 s0.1 1,(SE .i64 s0.2.1 1,s0.2.2))))) λ_=>R0 s0.2.1 λN=>ix l N λx14=>br (Hg (seq x14.1 x.1)) (λ_=>R0 s0.2.1 λO=>ix l O λG=>gd (CF (BF s0.2.2.2.length [G].length) 1048576) λ_=>some (.nx ((SE .i64 s0.1 1,(SE .i64 s0.2.1 1,(s0.2.2.1,s0.2.2.2++[G])))))) λ_=>some (.nx ((SE .i64 s0.1 1,(SE .i64 s0.2.1 1,s0.2.2))))) λ_=>R0 s0.2.1 λP=>ix l P λx18=>br (Hg (SQ x18.1 x.1)) (λ_=>br (Hg s0.2.2.1) (λ_=>gd (CF (BF s0.2.2.2.length [x].length) 1048576) λ_=>R0 s0.2.1 λS=>ix l S λx20=>br (Hg (seq x20.1 x.1)) (λ_=>R0 s0.2.1 λU=>ix l U λI=>gd (CF (BF (s0.2.2.2++[x]).length [I].length) 1048576) λ_=>some (.nx ((s0.1,(SE .i64 s0.2.1 1,(true,(s0.2.2.2++[x])++[I])))))) λ_=>some (.nx ((s0.1,(SE .i64 s0.2.1 1,(true,s0.2.2.2++[x])))))) λ_=>R0 s0.2.1 λX=>ix l X λx24=>br (Hg (seq x24.1 x.1)) (λ_=>R0 s0.2.1 λY=>ix l Y λJ=>gd (CF (BF s0.2.2.2.length [J].length) 1048576) λ_=>some (.nx ((s0.1,(SE .i64 s0.2.1 1,(s0.2.2.1,s0.2.2.2++[J])))))) λ_=>some (.nx ((s0.1,(SE .i64 s0.2.1 1,s0.2.2))))) λ_=>R0 s0.2.1 λZ=>ix l Z λx28=>br (Hg (seq x28.1 x.1)) (λ_=>R0 s0.2.1 λk29=>ix l k29 λK=>gd (CF (BF s0.2.2.2.length [K].length) 1048576) λ_=>some (.nx ((s0.1,(SE .i64 s0.2.1 1,(s0.2.2.1,s0.2.2.2++[K])))))) λ_=>some (.nx ((s0.1,(SE .i64 s0.2.1 1,s0.2.2))))) λ_=>some (.dn ((0,(s0,())))))
  ((1:Int),(false,[])) rfl (by omega) ⟨⟨p,ha⟩,by simp,rfl,hW.symm,by simp,by simp,by simp⟩ (λs h=>by
   obtain⟨w,d,out⟩:=s;obtain⟨_,_,g,E,t,h6,h7⟩:=h;refine⟨(0,((w,((l.length:Int),(d,out))),())),by simp only;rw[re,R6],?_,?_,?_⟩
   ·rw[bB]at g;exact g
   ·simp only[Yn]at E ⊢;omega
   ·simp only at t ⊢;split at t<;>omega) (λk y m s hd i hk h=>by
   obtain⟨w,d,out⟩:=s;obtain⟨⟨q,hq⟩,h2,g,E,t,h6,h7⟩:=h;simp only at h2 g E t h6 h7 ⊢;obtain⟨_,j⟩:=hq;have n:∀ z∈m,SQ y.1 z.1=true:=λz D=>Y8 j z D;have c1:SE .i64 w 1=w+1:=Sb (by omega);have c2:SE .i64 (k:Int) 1=((k+1:Nat):Int):=Tn i (by omega);simp only[c1,c2];rw[rl hk,SX,Tb,S6 i,Wb];have h5':out.length<=k+1:=by split at t<;>omega
   have g1:out.length+[x].length<=2000:=by simp;omega
   have g2:∀ z:Ta,(out++[x]).length+[z].length<=2000:=λz=>by simp;omega
   have g3:∀ z:Ta,out.length+[z].length<=2000:=λz=>by simp;omega
   unfold Yn at E;rw[aH]at g
   have u:seq y.1 x.1=decide (y.1=x.1):=by
    cases C:seq y.1 x.1 with
    |true=>exact(decide_eq_true (Xo.1 C)).symm
    |false=>
     refine(decide_eq_false λe=> ?_).symm;rw[Xo.2 e]at C;cases C
   by_cases A:SQ x.1 y.1=true
   ·
    have o:SQ y.1 x.1=false:=Uy A;have B:¬ y.1=x.1:=λe=>by rw[e,WU]at A;cases A
    rw[if_pos A]at E ⊢;rw[Tb,S6 i,o,Vs,SX];cases d with
    |true=>
     rw[U3,R6,Tb,S6 i,u,decide_eq_false B,Vs,SX,Tb,S6 i,gg (g3 y)];refine .inl ⟨(w+1,(true,out++[y])),rfl,⟨_,j⟩,λ_ z D=>U5 A (n z D),?_,by simp only;omega,by simp at t ⊢;omega,by simp only;omega,by simp only;omega⟩;simp only[if_true]at g ⊢;rw[<- g];simp
    |false=>
     rw[Vs,SX,gg g1,Tb,S6 i,u,decide_eq_false B,Vs,SX,Tb,S6 i,gg (g2 y)];rw[if_neg (show ¬ false=true by decide),if_neg (by rw[o];simp),if_neg B]at g;refine .inl ⟨(w+1,(true,(out++[x])++[y])),rfl,⟨_,j⟩,λ_ z D=>U5 A (n z D),?_,by simp only;omega,?_,by simp only;omega,by simp only;omega⟩
     ·rw[<- g];simp
     ·simp at t ⊢;omega
   ·rw[if_neg A]at E ⊢
    have L:d=false:=by
     cases d with
     |false=>rfl
     |true=>exact absurd (h2 rfl y (by simp)) A
    subst L;by_cases o:SQ y.1 x.1=true
    ·have B:¬ y.1=x.1:=λe=>by rw[e,WU]at o;cases o
     rw[if_neg (show ¬ false=true by decide),if_pos o]at g;rw[Tb,S6 i,o,U3,R6,Tb,S6 i,u,decide_eq_false B,Vs,SX,Tb,S6 i,gg (g3 y)];refine .inl ⟨(w,(false,out++[y])),rfl,⟨_,j⟩,(λh=>by cases h),?_,by simp only;omega,by simp at t ⊢;omega,by simp only;omega,by simp only;omega⟩;rw[<- g];simp
    ·have B:y.1=x.1:=by
      by_cases e:y.1=x.1
      ·exact e
      ·exact absurd (Yl (by simpa using o) e) A
     have t2':SQ y.1 x.1=false:=by simpa using o
     rw[if_neg (show ¬ false=true by decide),if_neg o,if_pos B]at g;rw[Tb,S6 i,t2',Vs,SX,SX,gg g1,Tb,S6 i,u,decide_eq_true B,U3,R6];refine .inl ⟨(w,(true,out++[x])),rfl,⟨_,j⟩,λ_ z D=>by rw[<- B];exact n z D,?_,by simp only;omega,by simp at t ⊢;omega,by simp only;omega,by simp only;omega⟩
     rw[<- g];simp)
 refine Tv q1 ?_;obtain⟨q2,q3,q4⟩:=q2;rw[<- hW,<- q3,<- q2];generalize r.2.1.2.2.1=d;cases d with
 |true=>rw[U3,R6];simp
 |false=>rw[Vs,SX,gg (by simp;omega)];simp
end
section
open Go Sv
end
section
open Go Sv
end
section
open Go Sv
theorem Hm{f:Uc}(h:UE f=0):(UN f.2).2=0:=by
 unfold UE at h;by_cases a:(UF f.1).2=0
 ·rw[if_neg (show ¬ (UF f.1).2≠0 by simp[a])]at h;by_cases b:(UN f.2).2=0
  ·exact b
  ·rw[if_pos b]at h;exact absurd h b
 ·rw[if_pos a]at h;exact absurd h a
end
section
open Go Sv
def XJ:List Ta->List Ta->Int->List Ta×Int
 |l,[],w=>(l,w)
 |l,x::ls,w=>XJ (V7 l x) ls (w+(1+(Yn l x:Int)))
theorem dX:∀ (ls l:List Ta) (w:Int),l.length<=(XJ l ls w).1.length
 |[],l,w=>Nat.le_refl _
 |x::ls,l,w=>by
  have b:=dX ls (V7 l x) (w+(1+(Yn l x:Int)));have a:=Xy l x;unfold XJ;split at a<;>omega
theorem gW:∀ (ls l:List Ta) (w:Int),(XJ l ls w).1.length<=l.length+ls.length
 |[],l,w=>by simp[XJ]
 |x::ls,l,w=>by
  have b:=gW ls (V7 l x) (w+(1+(Yn l x:Int)));have a:=Xy l x;unfold XJ;simp only[ci];split at a<;>omega
theorem dW(most:Nat):∀ (ls l:List Ta) (w:Int),Asc none l->l.length<=most->(ZL most l ls w).2.2=decide ((XJ l ls w).1.length<=most)/\((ZL most l ls w).2.2=true->(ZL most l ls w).1=(XJ l ls w).1/\(ZL most l ls w).2.1=(XJ l ls w).2)
 |[],l,w,_,hl=>⟨(decide_eq_true hl).symm,λ_=>⟨rfl,rfl⟩⟩
 |x::ls,l,w,ha,hl=>by
  have d:=YU x ha (λ_ h=>by cases h);have a:=Xy l x;have b:=gm (x:=x) ha;unfold ZL XJ;by_cases hh:X8 l x.1=true
  ·rw[if_pos hh];rw[if_pos hh]at a b;rw[show w+((l.length:Int)-(Vo l x.1:Int)+1)-1=w+(1+(Yn l x:Int)) by omega];exact dW most ls (V7 l x) _ d (by omega)
  ·rw[if_neg hh];rw[if_neg hh]at a b;by_cases c:l.length=most
   ·rw[if_pos c];have:=dX ls (V7 l x) (w+(1+(Yn l x:Int)));exact⟨(decide_eq_false (by omega)).symm,λh=>by cases h⟩
   ·rw[if_neg c,show w+((l.length:Int)-(Vo l x.1:Int)+1)=w+(1+(Yn l x:Int)) by omega];exact dW most ls (V7 l x) _ d (by omega)
theorem dt{b:Tw}(h:Bf b){l:List Ta}(D:l.length<=16):WY (b,l)=some (XJ b.2 l 0):=by
 have E:=h.m2;have q:=h.len;unfold WY;simp only[Te,Tc];rw[UC (by omega)];obtain⟨T,e⟩:∃ T,T=XJ b.2 l 0:=⟨_,rfl⟩;rw[<- e]
 obtain⟨r,y,z⟩:=Va (l:=l) (σ:=Int×List Ta) (s:=((0:Int),((0:Int),b.2))) (λk s=>(s.1,((k:Int),s.2))) (λm k s=>Asc none s.2/\s.2.length<=16+k/\0<=s.1/\s.1<=100*k/\XJ s.2 m s.1=T) (λ(r:Nat×((Int×Tw)×Unit))=>(r.2.1.2.2,r.2.1.1)=T)
  (f:=λ(s0:(Int×Tw))=>br (S1 s0.2.1 (l.length:Int)) (λ_=>R0 s0.2.1 λu=>ix l u λA=>bd (XF (s0.2.2,A)) λi=>some (.nx ((SE .i64 s0.1 i.2,(SE .i64 s0.2.1 1,i.1))))) λ_=>some (.dn ((0,(s0,())))))
  (0,b.2) rfl (by omega) ⟨h.asc,by simp only;omega,by simp,by simp,e.symm⟩ (λs hs=>by
   obtain⟨w,o⟩:=s;exact⟨(0,((w,((l.length:Int),o)),())),by simp only;rw[re,R6],hs.2.2.2.2⟩) (λk x m s B g t hs=>by
   obtain⟨w,o⟩:=s;obtain⟨a,j,n,p,d⟩:=hs;simp only at a j n p d ⊢;have C:=gn o x;have c:=Xy o x;rw[rl t,SX,Tb,S6 g,mq a x (by omega),Sp,Sb (by omega),Tn g (by omega)]
   exact .inl ⟨(w+(1+(Yn o x:Int)),V7 o x),rfl,YU x a (λ_ h=>by cases h),by simp only;split at c<;>omega,by simp only;omega,by simp only;omega,d⟩)
 refine Tv y ?_;rw[<- z]
theorem WV{b:Tw}{l:List Ta}(h:YJ b l=0):Bf b/\l.length<=16/\Vr l=0:=by
 unfold YJ at h;by_cases a:(UF b).2=0;rotate_left
 ·rw[if_pos a]at h;exact absurd h a
 rw[if_neg (by simp[a])]at h;by_cases c:(l.length:Int)>16
 ·rw[if_pos c]at h;cases h
 rw[if_neg c]at h;exact⟨nE a,by omega,h⟩
def XI(b:Tw)(l:List Ta):List Ta×(Int×Bool):=ZL b.1.toNat b.2 l 0
theorem ot{b:Tw}{l:List Ta}(h:Bf b)(e:l.length<=16):VK (b,l)=some (XI b l):=by
 obtain⟨m,es⟩:=b;obtain⟨k,rfl⟩:∃ k:Nat,m=(k:Int):=⟨m.toNat,by have:=h.m1;simp only at this;omega⟩;have a:=h.m1;have c:=h.m2;have d:=h.len;simp only at a c d;have:=mU (most:=k) (by omega) (by omega) (ls:=l) h.asc (by simp only;omega) (by omega);unfold XI;simpa using this
theorem aY{b:Tw}{l:List Ta}(h:Bf b):(XI b l).2.2=decide (((XJ b.2 l 0).1.length:Int)<=b.1)/\((XI b l).2.2=true->(XI b l).1=(XJ b.2 l 0).1/\(XI b l).2.1=(XJ b.2 l 0).2):=by
 have a:=h.m1;have c:=h.len;have:=dW b.1.toNat l b.2 0 h.asc (by omega);refine⟨this.1.trans ?_,this.2⟩;exact decide_eq_decide.2 (by omega)
def ba(b:Tw)(l:List Ta):Bool×Int:=if YJ b l≠0 then(false,YJ b l)else((XI b l).2.2,0)
def Yf(b:Tw)(l:List Ta):Tw×(Int×Int):=if YJ b l≠0 then((0,[]),(0,YJ b l))else if(XI b l).2.2=true then((b.1,(XI b l).1),((XI b l).2.1,0))else((0,[]),(0,5))
theorem mW(b:Tw)(l:List Ta):Vf (b,l)=some (ba b l):=by
 unfold Vf ba;rw[ac,Sp,TJ];by_cases h:YJ b l=0
 ·obtain⟨a,c,d⟩:=WV h;rw[if_pos h,if_neg (by simp[h]),ot a c,Sp]
 ·rw[if_neg h,if_pos h]
theorem bC(b:Tw)(l:List Ta)(d:l.length<=9223372036854775807):Wm (b,l)=some (ba b l):=by
 unfold Wm ba;rw[ej b l d,Sp,TJ];by_cases h:YJ b l=0
 ·obtain⟨a,c,e⟩:=WV h;rw[if_pos h,if_neg (by simp[h]),dt a c,Sp,(aY a).1];simp only[Te,Tc];rfl
 ·rw[if_neg h,if_pos h]
theorem gS(b:Tw)(l:List Ta):VJ (b,l)=some (Yf b l):=by
 unfold VJ Yf;rw[ac,Sp,TJ];by_cases h:YJ b l=0
 ·obtain⟨a,c,d⟩:=WV h;rw[if_pos h,if_neg (by simp[h]),ot a c,Sp];cases(XI b l).2.2 with
  |true=>rw[U3,R6];rfl
  |false=>rw[Vs,SX];rfl
 ·rw[if_neg h,if_pos h]
theorem ZH(b:Tw)(l:List Ta)(e:l.length<=9223372036854775807):WI (b,l)=some (Yf b l):=by
 unfold WI Yf;rw[bC b l e,Sp];unfold ba;by_cases h:YJ b l=0
 ·obtain⟨a,c,g⟩:=WV h;rw[if_neg (by simp[h]),if_neg (by simp[h])];simp only;rw[TE,if_pos rfl];have d:=aY (l:=l) a;cases f:(XI b l).2.2 with
  |true=>
   obtain⟨e1,e2⟩:=d.2 f;rw[U3,R6,TJ,if_pos rfl,dt a c,Sp,if_pos rfl,e1,e2]
  |false=>rw[Vs,SX];rfl
 ·rw[if_pos h,if_pos h];simp only;rw[TE,if_neg h,TJ,if_neg h]
def Yx:List Ta->Bool
 |x::y::l=>decide (x.2.2.2<y.2.2.2)&&Yx (y::l)
 |_=>true
theorem aF(x y:Ta)(l:List Ta):Yx (x::y::l)=(decide (x.2.2.2<y.2.2.2)&&Yx (y::l)):=rfl
def aZ(f:Uc)(l:List Ta):Int:=if UE f≠0 then UE f else if(l.length:Int)<1\/(l.length:Int)>8\/(l.length:Int)>f.1.1 then 2 else 0
def pM(f:Uc)(l:List Ta):Int:=if aZ f l≠0 then aZ f l else Vr l
def WZ(f:Uc)(l:List Ta):Int:=if pM f l≠0 then pM f l else if Yx l=true then 0 else 6
theorem YL{f:Uc}{l:List Ta}{e:Int}(h:aZ f l=e)(a:e≠0):WZ f l=e:=by
 have b:pM f l=e:=by unfold pM;rw[h,if_pos a]
 unfold WZ;rw[b,if_pos a]
theorem dY{f:Uc}{l:List Ta}(h:aZ f l=0):WZ f l=if Vr l≠0 then Vr l else if Yx l=true then 0 else 6:=by
 have a:pM f l=Vr l:=by unfold pM;rw[h,if_neg (by simp)]
 unfold WZ;rw[a]
theorem af{l a:List Ta}{d:Ta}(e:l=d::a){k:Nat}{y:Ta}{m:List Ta}(c:a.drop k=y::m):∃ z,l[k]?=some z/\l[k+1]?=some y/\l.drop k=z::y::m/\l.drop (k+1)=y::m:=by
 subst e
 have f:k<a.length:=by
  by_cases h:k<a.length
  ·exact h
  ·rw[s7 (by omega)]at c;cases c
 have b:(d::a).drop (k+1)=y::m:=by simpa using c
 refine⟨(d::a)[k]'(by simp;omega),List.getElem?_eq_getElem (by simp;omega),?_,?_,b⟩
 ·have:=congrArg (λz=>z[0]?) b;simpa using this
 ·rw[<- b];exact iz (by simp;omega)
theorem iB{l:List Ta}(x:l.length<=1000)(j:1<=l.length):∃ r,loop (β:=Nat×(Int×Int)) (λb=>br (S1 b (SI .i64 (l.length:Int) 1)) (λ_=>R0 (SE .i64 b 1) λp=>ix l p λq=>R0 b λd=>ix l d λf=>br (S0 q.2.2.2 f.2.2.2) (λ_=>some (.dn ((0,(b,6))))) λ_=>some (.nx (SE .i64 b 1))) λ_=>some (.dn ((1,(b,0))))) (0:Int)=some r/\((r.1=0/\r.2.2=6/\Yx l=false)\/(r.1=1/\Yx l=true)):=by
 obtain⟨c,a,e⟩:∃ c a,l=c::a:=by
  cases l with
  |nil=>simp at j
  |cons c a=>exact⟨c,a,rfl⟩
 have g:l.length=a.length+1:=by rw[e];rfl
 have hs:SI .i64 (l.length:Int) 1=(a.length:Int):=by rw[Sd (by omega)];omega
 simp only[hs]
 exact Va (l:=a) (σ:=Unit) (λk _=>(k:Int)) (λm k _=>Yx l=Yx (l.drop k)) (λ(r:Nat×(Int×Int))=>(r.1=0/\r.2.2=6/\Yx l=false)\/(r.1=1/\Yx l=true)) () rfl (by omega) rfl (λ_ h=>by
   refine⟨(1,((a.length:Int),0)),by rw[re];rfl,.inr ⟨rfl,?_⟩⟩;rw[h,e]
   have:(c::a).drop a.length=[(c::a)[a.length]'(by simp)]:=by
    rw[iz (by simp)];simp
   rw[this];rfl) (λk y m _ n A o h=>by
   obtain⟨z,s,t,u,w⟩:=af e n;have hi:SE .i64 (k:Int) 1=((k+1:Nat):Int):=Tf (by omega);simp only[hi];rw[rl o,SX,Tb,S6 t,Tb,S6 s];rw[u,aF]at h;unfold S0;by_cases i:y.2.2.2<=z.2.2.2
   ·rw[decide_eq_true i,SX];exact .inr ⟨_,rfl,.inl ⟨rfl,rfl,by rw[h,decide_eq_false (by omega)];rfl⟩⟩
   ·rw[decide_eq_false i,R6]
    exact .inl ⟨(),rfl,by rw[h,decide_eq_true (by omega),w];rfl⟩)
theorem eG{l:List Ta}(i:l.length<=1000):∃ r,loop (β:=Nat×(Int×Int)) (λs2=>br (S1 s2 (l.length:Int)) (λ_=>R0 s2 λe=>ix l e λf=>bd (UA f) λb=>br (Rx b 0) (λ_=>some (.dn ((0,(s2,b))))) λ_=>some (.nx (SE .i64 s2 1))) λ_=>some (.dn ((1,(s2,0))))) (0:Int)=some r/\((r.1=0/\r.2.2=Vr l/\Vr l≠0)\/(r.1=1/\Vr l=0)):=
 Va (l:=l) (σ:=Unit) (λk _=>(k:Int)) (λm k _=>Vr l=Vr m) (λ(r:Nat×(Int×Int))=>(r.1=0/\r.2.2=Vr l/\Vr l≠0)\/(r.1=1/\Vr l=0)) () rfl (by omega) rfl (λ_ h=>⟨(1,((l.length:Int),0)),by rw[re];rfl,.inr ⟨rfl,h⟩⟩) (λk x m _ g d c h=>by
   have h:Vr l=if kE x≠0 then kE x else Vr m:=h
   rw[rl c,SX,Tb,S6 d,Ux,Sp,TJ,Tf (by omega)];by_cases a:kE x=0
   ·rw[if_neg (by simp[a])]at h;rw[if_pos a];exact .inl ⟨(),rfl,h⟩
   ·rw[if_pos a]at h
    rw[if_neg a];exact .inr ⟨_,rfl,.inl ⟨rfl,h.symm,by rw[h];exact a⟩⟩)
theorem gX{γ:Type}{f:Uc}(m:Sm f.2){l:List Ta}(u:l.length<=1000)(Z:Int->Option γ)(C:Option γ) :
  (bd (UP f.1) λx=>br (Rx x.2 0) (λ_=>Z x.2) λ_=>bd (Ua f.2) λy=>br (Rx y.2 0) (λ_=>Z y.2) λ_=>br (Rx f.1.1 f.2.1.1) (λ_=>Z 6) λ_=>br (S1 (Kh (AS l)) 1) (λ_=>Z 2) λ_=>br (Sz (Kh (AS l)) 8) (λ_=>Z 2) λ_=>br (Sz (Kh (AS l)) f.1.1) (λ_=>Z 2) λ_=>bd (loop (β:=Nat×(Int×Int)) (λs2=>br (S1 s2 (Kh (AS l))) (λ_=>R0 s2 λB=>ix l B λJ=>bd (UA J) λz=>br (Rx z 0) (λ_=>some (.dn ((0,(s2,z))))) λ_=>some (.nx (SE .i64 s2 1))) λ_=>some (.dn ((1,(s2,0))))) 0) λA=>br (neq A.1 0) (λ_=>Z A.2.2) λ_=>bd (loop (β:=Nat×(Int×Int)) (λc=>br (S1 c (SI .i64 (Kh (AS l)) 1)) (λ_=>R0 (SE .i64 c 1) λD=>ix l D λK=>R0 c λp=>ix l p λt=>br (S0 K.2.2.2 t.2.2.2) (λ_=>some (.dn ((0,(c,6))))) λ_=>some (.nx (SE .i64 c 1))) λ_=>some (.dn ((1,(c,0))))) 0) λd=>br (neq d.1 0) (λ_=>Z d.2.2) λ_=>C)=if WZ f l≠0 then Z (WZ f l)else C:=by
 simp only[Te,Tc];rw[X5,Sp,TJ];by_cases a:(UF f.1).2=0;rotate_left
 ·have e:UE f=(UF f.1).2:=by unfold UE;rw[if_pos a]
  have e2:=YL (f:=f) (l:=l) (e:=(UF f.1).2) (by unfold aZ;rw[if_pos (by rw[e];exact a),e]) a;rw[if_neg a,e2,if_pos a]
 rw[if_pos a,t4 m,Sp,TJ];by_cases b:(UN f.2).2=0;rotate_left
 ·have e:UE f=(UN f.2).2:=by unfold UE;rw[if_neg (show ¬ (UF f.1).2≠0 by simp[a]),if_pos b]
  have e2:=YL (f:=f) (l:=l) (e:=(UN f.2).2) (by unfold aZ;rw[if_pos (by rw[e];exact b),e]) b;rw[if_neg b,e2,if_pos b]
 rw[if_pos b,TJ];by_cases g:f.1.1=f.2.1.1;rotate_left
 ·have e:UE f=6:=by unfold UE;rw[if_neg (show ¬ (UF f.1).2≠0 by simp[a]),if_neg (show ¬ (UN f.2).2≠0 by simp[b]),if_pos g]
  have e2:=YL (f:=f) (l:=l) (e:=6) (by unfold aZ;rw[if_pos (by rw[e];decide),e]) (by decide);rw[if_neg g,e2,if_pos (by decide)]
 have e:UE f=0:=by unfold UE;rw[if_neg (show ¬ (UF f.1).2≠0 by simp[a]),if_neg (show ¬ (UN f.2).2≠0 by simp[b]),if_neg (show ¬ f.1.1≠f.2.1.1 by simp[g])]
 have two:((l.length:Int)<1\/(l.length:Int)>8\/(l.length:Int)>f.1.1)->WZ f l=2:=λh=>YL (by unfold aZ;rw[if_neg (by simp[e]),if_pos h]) (by decide);rw[if_pos g,TI,TG,TG];by_cases k:(l.length:Int)<1
 ·rw[if_pos k,two (.inl k),if_pos (by decide)]
 rw[if_neg k];by_cases n:(l.length:Int)>8
 ·rw[if_pos n,two (.inr (.inl n)),if_pos (by decide)]
 rw[if_neg n];by_cases o:(l.length:Int)>f.1.1
 ·rw[if_pos o,two (.inr (.inr o)),if_pos (by decide)]
 rw[if_neg o,dY (by unfold aZ;rw[if_neg (by simp[e]),if_neg (by omega)])];obtain⟨r,G,j⟩:=eG u;refine Tv G ?_;rw[Sq];rcases j with⟨j,s,w⟩|⟨j,s⟩
 ·rw[if_pos j,if_pos w,if_pos w,s]
 rw[if_neg (show ¬ r.1=0 by omega),if_neg (show ¬ Vr l≠0 by simp[s])];obtain⟨I,E,i⟩:=iB u (by omega);refine Tv E ?_;rw[Sq];rcases i with⟨i,q,F⟩|⟨i,q⟩
 ·rw[if_pos i,q,F];rfl
 ·rw[if_neg (show ¬ I.1=0 by omega),q];rfl
theorem bq{l:List Ta}(p:l.length<=1000)(b:Int):∃ r,loop (β:=Nat×((Int×Int)×Unit)) (λa=>br (S1 a.2 (l.length:Int)) (λ_=>br (OY a.1 0) (λ_=>R0 a.2 λd=>ix l d λg=>bd (Tx g) λf=>some (.nx (f,SE .i64 a.2 1))) λ_=>some (.dn ((0,(a,()))))) λ_=>some (.dn ((0,(a,()))))) (b,(0:Int))=some r/\r.2.1.1=if b≠0 then b else Vr l:=by
 obtain⟨T,i⟩:∃ T,T=if b≠0 then b else Vr l:=⟨_,rfl⟩
 rw[<- i]
 exact Va (l:=l) (σ:=Int) (λk e=>(e,(k:Int))) (λm k e=>T=if e≠0 then e else Vr m) (λ(r:Nat×((Int×Int)×Unit))=>r.2.1.1=T) b rfl (by omega) i (λe h=>⟨(0,((e,(l.length:Int)),())),by simp only;rw[re,R6],by
   rw[h];simp only;split
   ·rfl
   ·rename_i c;simp only[Vr];omega⟩) (λk x m e o n j h=>by
   simp only;rw[rl j,SX,TE];by_cases c:e=0
   ·rw[if_pos c,Tb,S6 n,Wy,Sp,Tf (by omega)];rw[if_neg (by simp[c])]at h;exact .inl ⟨kE x,rfl,h⟩
   ·rw[if_neg c];rw[if_pos c]at h
    exact .inr ⟨_,rfl,h.symm⟩)
theorem ez{l:List Ta}(C:l.length<=1000)(b:Int):∃ r,loop (β:=Nat×((Int×Int)×Unit)) (λa=>br (S1 a.1 (l.length:Int)) (λ_=>br (OY a.2 0) (λ_=>R0 a.1 λq=>ix l q λt=>R0 (SI .i64 a.1 1) λs=>ix l s λg=>br (S0 t.2.2.2 g.2.2.2) (λ_=>some (.nx (SE .i64 a.1 1,6))) λ_=>some (.nx (SE .i64 a.1 1,a.2))) λ_=>some (.dn ((0,(a,()))))) λ_=>some (.dn ((0,(a,()))))) ((1:Int),b)=some r/\r.2.1.2=if b≠0 then b else if Yx l=true then 0 else 6:=by
 obtain⟨T,f⟩:∃ T,T=if b≠0 then b else if Yx l=true then(0:Int)else 6:=⟨_,rfl⟩
 rw[<- f];cases hc:l with
 |nil=>
  subst hc;refine⟨(0,(((1:Int),b),())),Ut (n:=1) (by omega) (UJ (by simp[S1,br])),?_⟩;rw[f];simp only;split
  ·rfl
  ·rename_i h;have:b=0:=by omega
   rw[this];rfl
 |cons E d=>
  rw[<- hc];have i:l.length=d.length+1:=by rw[hc];rfl
  exact Va (l:=d) (σ:=Int) (λk e=>(((k+1:Nat):Int),e)) (λm k e=>T=if e≠0 then e else if Yx (l.drop k)=true then(0:Int)else 6) (λ(r:Nat×((Int×Int)×Unit))=>r.2.1.2=T) b rfl (by omega) f (λe h=>by
   refine⟨(0,((((d.length+1:Nat):Int),e),())),by simp only;rw[show((d.length+1:Nat):Int)=(l.length:Int) by omega,re,R6],?_⟩
   have:l.drop d.length=[l[d.length]'(by omega)]:=by
    rw[iz (by omega),s7 (by omega)]
   rw[this]at h;rw[h];simp only;split
   ·rfl
   ·rename_i c;have:e=0:=by omega
    rw[this];rfl) (λk y m e o D B h=>by
   obtain⟨z,u,w,x,A⟩:=af hc o;simp only;have hi:SE .i64 ((k+1:Nat):Int) 1=((k+1+1:Nat):Int):=Tf (by omega);have p:SI .i64 ((k+1:Nat):Int) 1=(k:Int):=by rw[Sd (by omega)];omega
   rw[hi,p,TI,if_pos (by omega),TE];by_cases c:e=0
   ·rw[if_pos c,Tb,S6 w,Tb,S6 u];rw[if_neg (by simp[c]),x,aF]at h;unfold S0;by_cases j:y.2.2.2<=z.2.2.2
    ·rw[decide_eq_true j,SX];rw[decide_eq_false (by omega)]at h;exact .inl ⟨6,rfl,by rw[h];rfl⟩
    ·rw[decide_eq_false j,R6];rw[decide_eq_true (by omega),Bool.true_and]at h;exact .inl ⟨e,rfl,by rw[if_neg (by simp[c]),A];exact h⟩
   ·rw[if_neg c];rw[if_pos c]at h
    exact .inr ⟨_,rfl,h.symm⟩)
theorem iF{f:Uc}(m:Sm f.2){l:List Ta}(q:l.length<=1000):XB (f,l)=some (WZ f l):=by
 unfold XB;simp only[Te,Tc]
 have b:∀ {e:Int},e=aZ f l->(bd (loop (β:=Nat×((Int×Int)×Unit)) (λa=>br (S1 a.2 (l.length:Int)) (λ_=>br (OY a.1 0) (λ_=>R0 a.2 λj=>ix l j λp=>bd (Tx p) λn=>some (.nx (n,SE .i64 a.2 1))) λ_=>some (.dn ((0,(a,()))))) λ_=>some (.dn ((0,(a,()))))) (e,(0:Int))) λA=>bd (loop (β:=Nat×((Int×Int)×Unit)) (λc=>br (S1 c.1 (l.length:Int)) (λ_=>br (OY c.2 0) (λ_=>R0 c.1 λt=>ix l t λB=>R0 (SI .i64 c.1 1) λu=>ix l u λo=>br (S0 B.2.2.2 o.2.2.2) (λ_=>some (.nx (SE .i64 c.1 1,6))) λ_=>some (.nx (SE .i64 c.1 1,c.2))) λ_=>some (.dn ((0,(c,()))))) λ_=>some (.dn ((0,(c,()))))) ((1:Int),A.2.1.1)) λk=>some k.2.1.2)=some (WZ f l):=by
  intro e s;obtain⟨r,y,z⟩:=bq q e;rw[y,Sp];obtain⟨C,w,x⟩:=ez q r.2.1.1;rw[w,Sp,x,z,s];rfl
 rw[ZP m,Sp,TE];by_cases d:UE f=0;rotate_left
 ·rw[if_neg d];exact b (by unfold aZ;rw[if_pos d])
 rw[if_pos d,TI,TG,TG];by_cases g:(l.length:Int)<1
 ·rw[if_pos g];exact b (by unfold aZ;rw[if_neg (by simp[d]),if_pos (.inl g)])
 rw[if_neg g];by_cases h:(l.length:Int)>8
 ·rw[if_pos h];exact b (by unfold aZ;rw[if_neg (by simp[d]),if_pos (.inr (.inl h))])
 rw[if_neg h];by_cases i:(l.length:Int)>f.1.1
 ·rw[if_pos i];exact b (by unfold aZ;rw[if_neg (by simp[d]),if_pos (.inr (.inr i))])
 rw[if_neg i];exact b (by unfold aZ;rw[if_neg (by simp[d]),if_neg (by omega),d])
end
section
open Go Sv
theorem Zz{f:Uc}{l:List Ta}(h:WZ f l=0):UE f=0/\1<=l.length/\l.length<=8/\Vr l=0:=by
 have a:aZ f l=0:=by
  by_cases b:aZ f l=0
  ·exact b
  ·rw[YL rfl b]at h;exact absurd h b
 rw[dY a]at h
 have d:Vr l=0:=by
  by_cases b:Vr l=0
  ·exact b
  ·rw[if_pos b]at h;exact absurd h b
 unfold aZ at a;by_cases c:UE f=0;rotate_left
 ·rw[if_pos c]at a;exact absurd a c
 rw[if_neg (by simp[c])]at a;by_cases e:(l.length:Int)<1\/(l.length:Int)>8\/(l.length:Int)>f.1.1
 ·rw[if_pos e]at a;cases a
 ·exact⟨c,by omega,by omega,d⟩
theorem Yq{f:Uc}(h:UE f=0):(UF f.1).2=0/\VSt f.2/\f.1.1=f.2.1.1:=by
 have c:=Hm h;unfold UE at h;by_cases a:(UF f.1).2=0;rotate_left
 ·rw[if_pos a]at h;exact absurd h a
 rw[if_neg (by simp[a]),if_neg (by simp[c])]at h;refine⟨a,Xl.1 c,?_⟩;by_cases b:f.1.1=f.2.1.1
 ·exact b
 ·rw[if_pos b]at h;cases h
theorem ZT{f:Uc}{l:List Ta}(h:WZ f l=0):YJ f.1 l=0/\VSt f.2:=by
 obtain⟨c,e,g,d⟩:=Zz h;obtain⟨a,b,_⟩:=Yq c;refine⟨?_,b⟩;unfold YJ;rw[if_neg (by simp[a]),if_neg (by omega),d]
def zF:Uc:=((0,[]),zS)
def cD(f:Uc)(l:List Ta):Bool×Int:=if WZ f l≠0 then(false,WZ f l)else(Hg (XI f.1 l).2.2,0)
theorem eh{f:Uc}(m:Sm f.2){l:List Ta}(b:l.length<=1000):W8 (f,l)=some (cD f l):=by
 unfold W8 cD;rw[iF m b,Sp,TJ];by_cases h:WZ f l=0;rotate_left
 ·rw[if_neg h,if_pos h]
 rw[if_pos h,if_neg (by simp[h])];obtain⟨a,_⟩:=ZT h;rw[bC f.1 l (by omega),Sp];unfold ba;rw[if_neg (by simp[a])]
def YE(f:Uc):Bool:=decide (2<=(Tl f.2.1.2 0).length)
theorem mZ{f:Uc}(v:VLev f.2.1):XW f=some (YE f):=by
 have a:=(v.own 0).1;unfold XW YE;simp only[Te,Tc];rw[TF];by_cases h:0<f.2.1.2.length
 ·rw[if_neg (by omega),S6 (VI h)]
  congr 1
  rw[U4];exact decide_eq_decide.2 (by omega)
 ·rw[if_pos (by omega)]
  congr 1
  have:Tl f.2.1.2 0=[]:=by unfold Tl;rw[List.getElem?_eq_none (by omega)];rfl
  rw[this];rfl
theorem d6{f:Uc}(v:VLev f.2.1):Uh (f.2.1,(0:Int))=some (Hg (YE f),0):=by
 have b:=(v.own 0).1;have h:=aA v (n:=0) (by omega);rw[if_neg (by omega)]at h;refine h.trans ?_
 congr 2
 unfold bJ YE;rw[Ug];have a:((f.2.1.2[0]?).getD []).length=(Tl f.2.1.2 0).length:=rfl;rw[a];exact decide_eq_decide.2 (by omega)
theorem ov{γ:Type}{f:Uc}(m:Sm f.2)(Z:Int->Option γ)(C:Option γ) :
  (bd (UP f.1) λd=>br (Rx d.2 0) (λ_=>Z d.2) λ_=>bd (Ua f.2) λg=>br (Rx g.2 0) (λ_=>Z g.2) λ_=>br (Rx f.1.1 f.2.1.1) (λ_=>Z 6) λ_=>C)=if UE f≠0 then Z (UE f)else C:=by
 rw[X5,Sp,TJ];by_cases a:(UF f.1).2=0;rotate_left
 ·have e:UE f=(UF f.1).2:=by unfold UE;rw[if_pos a]
  rw[if_neg a,e,if_pos a]
 rw[if_pos a,t4 m,Sp,TJ];by_cases b:(UN f.2).2=0;rotate_left
 ·have e:UE f=(UN f.2).2:=by unfold UE;rw[if_neg (show ¬ (UF f.1).2≠0 by simp[a]),if_pos b]
  rw[if_neg b,e,if_pos b]
 rw[if_pos b,TJ];by_cases c:f.1.1=f.2.1.1;rotate_left
 ·have e:UE f=6:=by unfold UE;rw[if_neg (show ¬ (UF f.1).2≠0 by simp[a]),if_neg (show ¬ (UN f.2).2≠0 by simp[b]),if_pos c]
  rw[if_neg c,e,if_pos (by decide)]
 have e:UE f=0:=by unfold UE;rw[if_neg (show ¬ (UF f.1).2≠0 by simp[a]),if_neg (show ¬ (UN f.2).2≠0 by simp[b]),if_neg (show ¬ f.1.1≠f.2.1.1 by simp[c])]
 rw[if_pos c,e,if_neg (by simp)]
theorem iK{f:Uc}(b:f.1.2.length<=1000000)(a:f.2=zS\/VSt f.2):Wp (f,f)=some true:=by
 unfold Wp X7;rw[TE,if_pos rfl,Yz f.1.2 (by omega),Sp,Sp,SX,fA a];rfl
theorem eW(f:Uc):∃ b,XO f=some b/\(b=false->Sm f.2/\f.1.2.length<=30 /\ ∀ rs∈f.2.1.2,∀ r∈rs,r.2.length<=30):=by
 unfold XO;obtain⟨b,e,d⟩:=ZF f.1.2;rw[e,Sp];cases b with
 |true=>exact⟨true,rfl,λh=>by cases h⟩
 |false=>
  obtain⟨c,e2,a⟩:=eV f.2;rw[R6,e2,Sp];exact⟨c,rfl,λh=>⟨(a h).1,d rfl,(a h).2⟩⟩
theorem mr:WC ()=some true:=by kernel_rfl
end
section
open Go Sv
def oq(f:Uc)(l:List Ta):Uc×(Int×Int):=
 if WZ f l≠0 then(zF,(0,WZ f l))
 else if(XI f.1 l).2.2=true then(((f.1.1,(XI f.1 l).1),f.2),(SE .i64 (XI f.1 l).2.1 0,0))
 else if f.1.2.length=0 then(zF,(0,5))
 else if YE f=true then(zF,(0,10))
 else if(X3 f.2 f.1.2).2≠0 then(zF,(0,(X3 f.2 f.1.2).2))
 else if(Yf (f.1.1,[]) l).2.2≠0 then(zF,(0,(Yf (f.1.1,[]) l).2.2))
 else(((Yf (f.1.1,[]) l).1,(X3 f.2 f.1.2).1),(SE .i64 (Yf (f.1.1,[]) l).2.1 (f.1.2.length:Int),0))
theorem ZZ{b:Tw}{l:List Ta}(h:YJ b l=0):Yf b l=if(XI b l).2.2=true then((b.1,(XI b l).1),((XI b l).2.1,0))else((0,[]),(0,5)):=by
 unfold Yf;rw[if_neg (by simp[h])]
theorem gV{f:Uc}(m:Sm f.2){l:List Ta}(j:l.length<=1000):UT (f,l)=some (oq f l):=by
 unfold UT oq;refine(gX m j (λe=>some (zF,(0,e))) _).trans ?_;by_cases h:WZ f l=0;rotate_left
 ·rw[if_pos h,if_pos h]
 rw[if_neg (by simp[h]),if_neg (by simp[h])];obtain⟨b,v⟩:=ZT h;obtain⟨d,_,_⟩:=WV b;have i:=d.len;have g:=d.m2;simp only[Te,Tc,mW,gS,ZZ b];unfold ba;rw[if_neg (by simp[b]),Sp];simp only;rw[TJ,if_pos rfl];cases n:(XI f.1 l).2.2 with
 |true=>
  rw[U3,R6,if_pos rfl,Sp,if_pos rfl];simp only;rw[TJ,if_pos rfl];rfl
 |false=>
  rw[Vs,SX,if_neg (show ¬ false=true by decide),if_neg (show ¬ false=true by decide),TE];by_cases c:f.1.2.length=0
  ·rw[if_pos (by omega),if_pos c,Sp];simp only;rw[TJ,if_neg (by decide)];rfl
  rw[if_neg (by omega),if_neg c,d6 v.lev,Sp];simp only;rw[TJ,if_pos rfl];cases k:YE f with
  |true=>rw[U3,Vs,SX,if_pos rfl];rfl
  |false=>
   rw[Vs,U3,R6,if_neg (show ¬ false=true by decide),Zy m (by omega),Sp,TJ];by_cases a:(X3 f.2 f.1.2).2=0;rotate_left
   ·rw[if_neg a,if_pos a];rfl
   rw[if_pos a,if_neg (by simp[a]),Sp,TJ];by_cases hc:(Yf (f.1.1,[]) l).2.2=0
   ·rw[if_pos hc,if_neg (by simp[hc])];rfl
   ·rw[if_neg hc,if_pos hc];rfl
def Y5(f:Uc):Uc×Int:=
 if UE f≠0 then(zF,UE f)
 else if f.1.2.length=0 then(f,0)
 else if YE f=true then(zF,10)
 else if(X3 f.2 f.1.2).2≠0 then(zF,(X3 f.2 f.1.2).2)
 else(((f.1.1,[]),(X3 f.2 f.1.2).1),0)
theorem gj{f:Uc}(h:UE f=0):f.1.2.length<=16:=by
 have a:=nE (Yq h).1;have:=a.len;have:=a.m2;omega
theorem mX{f:Uc}(m:Sm f.2):WN f=some (Y5 f):=by
 unfold WN Y5;refine(ov m (λe=>some (zF,e)) _).trans ?_;by_cases h:UE f=0;rotate_left
 ·rw[if_pos h,if_pos h]
 rw[if_neg (by simp[h]),if_neg (by simp[h])];have v:=(Yq h).2.1;have d:=gj h;simp only[Te,Tc];rw[TE];by_cases b:f.1.2.length=0
 ·rw[if_pos (by omega),if_pos b];rfl
 rw[if_neg (by omega),if_neg b,d6 v.lev,Sp];simp only;rw[TJ,if_pos rfl];cases c:YE f with
 |true=>rw[U3,Vs,SX,if_pos rfl];rfl
 |false=>
  rw[Vs,U3,R6,if_neg (show ¬ false=true by decide),Zy m (by omega),Sp,TJ];by_cases a:(X3 f.2 f.1.2).2=0
  ·rw[if_pos a,if_neg (by simp[a])];rfl
  ·rw[if_neg a,if_pos a];rfl
theorem bD{f:Uc}(m:Sm f.2):Wq f=some (Y5 f):=by
 unfold Wq Y5;rw[ZP m,Sp,TJ];by_cases h:UE f=0;rotate_left
 ·rw[if_neg h,if_pos h];rfl
 rw[if_pos h,if_neg (by simp[h])];have v:=(Yq h).2.1;have d:=gj h;simp only[Te,Tc];rw[TE];by_cases b:f.1.2.length=0
 ·rw[if_pos (by omega),if_pos b]
 rw[if_neg (by omega),if_neg b,mZ v.lev,Sp];cases c:YE f with
 |true=>rw[SX,if_pos rfl];rfl
 |false=>
  rw[R6,if_neg (show ¬ false=true by decide),bo m (by omega),Sp,TJ];by_cases a:(X3 f.2 f.1.2).2=0
  ·rw[if_pos a,if_neg (by simp[a])]
  ·rw[if_neg a,if_pos a];rfl
theorem ei{f:Uc}(m:Sm f.2){l:List Ta}(g:l.length<=1000):W9 (f,l)=some (oq f l):=by
 unfold W9 oq;rw[eh m g,Sp];unfold cD;by_cases h:WZ f l=0;rotate_left
 ·rw[if_pos h,if_pos h];simp only;rw[TJ,if_neg h];rfl
 rw[if_neg (by simp[h]),if_neg (by simp[h])];obtain⟨c,v⟩:=ZT h;obtain⟨i,_,_⟩:=WV c;have d:=(Zz h).1;simp only[Te,Tc];rw[TJ,if_pos rfl];cases e:(XI f.1 l).2.2 with
 |true=>
  rw[U3,R6,ZH f.1 l (by omega),ZZ c,e,if_pos rfl,Sp,if_pos rfl];simp only;rw[TJ,if_pos rfl]
 |false=>
  rw[Vs,SX,if_neg (show ¬ false=true by decide),bD m,Sp];unfold Y5;rw[if_neg (by simp[d])];by_cases b:f.1.2.length=0
  ·rw[if_pos b,if_pos b];simp only;rw[TJ,if_pos rfl,ZH f.1 l (by omega),ZZ c,e,if_neg (show ¬ false=true by decide),Sp];simp only;rw[TJ,if_neg (by decide)];rfl
  rw[if_neg b,if_neg b];cases j:YE f with
  |true=>rw[if_pos rfl,if_pos rfl];rfl
  |false=>
   rw[if_neg (show ¬ false=true by decide),if_neg (show ¬ false=true by decide)];by_cases a:(X3 f.2 f.1.2).2=0;rotate_left
   ·rw[if_pos a,if_pos a];simp only;rw[TJ,if_neg a];rfl
   rw[if_neg (by simp[a]),if_neg (by simp[a])];simp only;rw[TJ,if_pos rfl,ZH (f.1.1,[]) l (by omega),Sp,TJ];by_cases hc:(Yf (f.1.1,[]) l).2.2=0
   ·rw[if_pos hc,if_neg (by simp[hc])]
   ·rw[if_neg hc,if_pos hc];rfl
theorem mS{b:Tw}{l:List Ta}(h:Bf b)(c:(XI b l).2.2=true)(d:l.length<=1000):(XI b l).1.length<=5000:=by
 have a:=(aY (l:=l) h).2 c;have:=gW l b.2 0;have:=h.len;have:=h.m2;rw[a.1];omega
theorem mR{f:Uc}{l:List Ta}(i:l.length<=1000):(oq f l).1.1.2.length<=1000000/\((oq f l).1.2=zS\/VSt (oq f l).1.2):=by
 have z:(zF:Uc).1.2.length<=1000000/\((zF:Uc).2=zS\/VSt (zF:Uc).2):=⟨by simp[zF],.inl rfl⟩;unfold oq;by_cases h:WZ f l=0;rotate_left
 ·rw[if_pos h];exact z
 rw[if_neg (by simp[h])];obtain⟨k,v⟩:=ZT h;obtain⟨m,j,n⟩:=WV k;by_cases c:(XI f.1 l).2.2=true
 ·rw[if_pos c];have:=mS m c i;exact⟨by simp only;omega,.inr v⟩
 rw[if_neg c];by_cases d:f.1.2.length=0
 ·rw[if_pos d];exact z
 rw[if_neg d];by_cases g:YE f=true
 ·rw[if_pos g];exact z
 rw[if_neg g];by_cases e:(X3 f.2 f.1.2).2=0;rotate_left
 ·rw[if_pos e];exact z
 rw[if_neg (by simp[e])];by_cases hc:(Yf (f.1.1,[]) l).2.2=0;rotate_left
 ·rw[if_pos hc];exact z
 rw[if_neg (by simp[hc])];refine⟨?_,ab _⟩;show(Yf (f.1.1,[]) l).1.2.length<=1000000;unfold Yf;by_cases b:YJ (f.1.1,[]) l=0;rotate_left
 ·rw[if_pos b];simp
 rw[if_neg (by simp[b])];by_cases a:(XI (f.1.1,[]) l).2.2=true
 ·rw[if_pos a];have:=mS (WV b).1 a i;simp only;omega
 ·rw[if_neg a];simp
theorem cC{f:Uc}(a:f.1.2.length<=30):(Y5 f).1.1.2.length<=1000000/\((Y5 f).1.2=zS\/VSt (Y5 f).1.2):=by
 have z:(zF:Uc).1.2.length<=1000000/\((zF:Uc).2=zS\/VSt (zF:Uc).2):=⟨by simp[zF],.inl rfl⟩;unfold Y5;by_cases h:UE f=0;rotate_left
 ·rw[if_pos h];exact z
 rw[if_neg (by simp[h])];by_cases b:f.1.2.length=0
 ·rw[if_pos b];exact⟨by simp only;omega,.inr (Yq h).2.1⟩
 rw[if_neg b];by_cases a:YE f=true
 ·rw[if_pos a];exact z
 rw[if_neg a];by_cases c:(X3 f.2 f.1.2).2=0
 ·rw[if_neg (by simp[c])];exact⟨by simp,ab _⟩
 ·rw[if_pos c];exact z
theorem pressureWrites(x:Uc×List Ta):Us x=some true:=by
 obtain⟨f,l⟩:=x;unfold Us;obtain⟨c,e,hc⟩:=eW f;rw[e,Sp,mr];cases c with
 |true=>rfl
 |false=>
  obtain⟨m,d,_⟩:=hc rfl;rw[R6];obtain⟨g,e2,b⟩:=ZF l;rw[e2,Sp];cases g with
  |true=>rfl
  |false=>
   have n:=b rfl;have a:l.length<=1000:=by omega
   obtain⟨h,i⟩:=mR (f:=f) a;obtain⟨j,k⟩:=cC d;rw[R6,gV m a,Sp,ei m a,Sp,iK h i,Sp,U3,R6,TJ,if_pos rfl,TJ,if_pos rfl,mX m,Sp,bD m,Sp,iK j k,Sp,SX,mb,SX];rfl
end
end Go.Proofs.YtanppfoapnaeaaaGreat.Pl
