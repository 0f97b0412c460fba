/- Functions of the program and of the specification as plain functions, and laws about them. No condition. -/
import Derived.Test.YtggceepiljjadaaGreatPl2
import Derived.KernelRfl
set_option linter.all false
open List renaming drop_eq_getElem_cons->ml, find?_cons->iz, map_cons->ns, mem_cons->ee, mem_map_of_mem->nn, mem_of_getElem?->co, nodup_cons->oj, take_of_length_le->eo
open Nat renaming le_refl->eg, le_trans->TX, zero_add->ey
open Int renaming toNat_natCast->bl
open UInt8 renaming ofNat->FF
namespace Go.Proofs.YtggceepiljjadaaGreat.Pl
section
open Go Sv
def XO:List TZ->Int
 |[]=>0
 |x::l=>if kE x≠0 then kE x else XO l
def Zl(b:UA)(l:List TZ):Int:=if(Uj b).2≠0 then(Uj b).2 else if(l.length:Int)>16 then 3 else XO l
structure Bf (b:UA):Prop where
 m1:1<=b.1
 m2:b.1<=16
 len:(b.2.length:Int)<=b.1
 ok:∀ x∈b.2,kE x=0
 asc:Asc none b.2
theorem dE{b:UA}(h:(Uj b).2=0):Bf b:=by
 unfold Uj at h;by_cases a:b.1<1\/b.1>16
 ·rw[if_pos a]at h;cases h
 rw[if_neg a]at h;by_cases c:(b.2.length:Int)>b.1
 ·rw[if_pos c]at h;cases h
 rw[if_neg c]at h;obtain⟨d,e⟩:=Z0.1 h;exact⟨by omega,by omega,by omega,d,e⟩
theorem c0(b:UA)(l:List TZ):WR (b,l)=some (Zl b l):=by
 unfold WR Zl;simp only[Tf,Td];rw[Zm,Sn,TI];by_cases a:(Uj b).2=0;rotate_left
 ·rw[if_neg a,if_pos a]
 rw[if_pos a,if_neg (show ¬ (Uj b).2≠0 by simp[a]),TF];by_cases c:(l.length:Int)>16
 ·rw[if_pos c,if_pos c]
 rw[if_neg c,if_neg c]
 obtain⟨r,p,e⟩:=Vy (l:=l) (σ:=Unit) (s:=((0:Int),(0:Int))) (λk _=>((k:Int),(0:Int))) (λm k _=>XO l=XO m) (λ(r:Nat×((Int×Int)×Unit))=>(r.1=0/\r.2.1.2=XO l)\/(r.1=1/\XO l=0))
  (f:=λs1=>br (Sz s1.1 (l.length:Int)) (λ_=>Rz s1.1 λo=>ix l o λq=>bd (UH q) λi=>br (Rw i 0) (λ_=>some (.dn ((0,((s1.1,i),()))))) λ_=>some (.nx (SC .i64 s1.1 1,s1.2))) λ_=>some (.dn ((1,(s1,())))))
  () rfl (by omega) rfl (λ_ h=>⟨_,by simp only;rw[re];rfl,.inr ⟨rfl,h⟩⟩) (λk x m _ t n j h=>by
   simp only;have h:XO l=if kE x≠0 then kE x else XO m:=h
   rw[rl j,SW,Ta,S4 n,VO,Sn,TI,Ti (by omega)];by_cases d:kE x=0
   ·rw[if_neg (by simp[d])]at h;rw[if_pos d];exact .inl ⟨(),rfl,h⟩
   ·rw[if_pos d]at h
    rw[if_neg d];exact .inr ⟨_,rfl,.inl ⟨rfl,h.symm⟩⟩)
 refine Tv p ?_;rw[So];rcases e with⟨e,g⟩|⟨e,g⟩
 ·rw[if_pos e,g]
 ·rw[if_neg (by omega),g]
end
section
open Go Sv
end
section
open Go Sv
end
section
open Go Sv
theorem Hk{f:Ut}(h:UY f=0):(Tc f.2).2=0:=by
 unfold UY at h;by_cases a:(Uj f.1).2=0
 ·rw[if_neg (show ¬ (Uj f.1).2≠0 by simp[a])]at h;by_cases b:(Tc f.2).2=0
  ·exact b
  ·rw[if_pos b]at h;exact absurd h b
 ·rw[if_pos a]at h;exact absurd h a
end
section
open Go Sv
theorem aI{b:UA}{l:List TZ}(h:Zl b l=0):Bf b/\l.length<=16/\XO l=0:=by
 unfold Zl at h;by_cases a:(Uj b).2=0;rotate_left
 ·rw[if_pos a]at h;exact absurd h a
 rw[if_neg (by simp[a])]at h;by_cases c:(l.length:Int)>16
 ·rw[if_pos c]at h;cases h
 rw[if_neg c]at h;exact⟨dE a,by omega,h⟩
def Yl(b:UA)(l:List TZ):List TZ×(Int×Bool):=bj b.1.toNat b.2 l 0
theorem sO{b:UA}{l:List TZ}(h:Bf b)(e:l.length<=16):Vq (b,l)=some (Yl b l):=by
 obtain⟨m,es⟩:=b;obtain⟨k,rfl⟩:∃ k:Nat,m=(k:Int):=⟨m.toNat,by have:=h.m1;simp only at this;omega⟩;have a:=h.m1;have c:=h.m2;have d:=h.len;simp only at a c d;have:=pP (most:=k) (by omega) (by omega) (ls:=l) h.asc (by simp only;omega) (by omega);unfold Yl;simpa using this
def sV(b:UA)(l:List TZ):Bool×Int:=if Zl b l≠0 then(false,Zl b l)else((Yl b l).2.2,0)
def cV(b:UA)(l:List TZ):UA×(Int×Int):=if Zl b l≠0 then((0,[]),(0,Zl b l))else if(Yl b l).2.2=true then((b.1,(Yl b l).1),((Yl b l).2.1,0))else((0,[]),(0,5))
theorem pT(b:UA)(l:List TZ):WC (b,l)=some (sV b l):=by
 unfold WC sV;rw[c0,Sn,TI];by_cases h:Zl b l=0
 ·obtain⟨a,c,d⟩:=aI h;rw[if_pos h,if_neg (by simp[h]),sO a c,Sn]
 ·rw[if_neg h,if_pos h]
theorem jk(b:UA)(l:List TZ):Vp (b,l)=some (cV b l):=by
 unfold Vp cV;rw[c0,Sn,TI];by_cases h:Zl b l=0
 ·obtain⟨a,c,d⟩:=aI h;rw[if_pos h,if_neg (by simp[h]),sO a c,Sn];cases(Yl b l).2.2 with
  |true=>rw[YQ,R5];rfl
  |false=>rw[Zn,SW];rfl
 ·rw[if_neg h,if_pos h]
def bJ:List TZ->Bool
 |x::y::l=>decide (x.2.2.2<y.2.2.2)&&bJ (y::l)
 |_=>true
theorem iV(x y:TZ)(l:List TZ):bJ (x::y::l)=(decide (x.2.2.2<y.2.2.2)&&bJ (y::l)):=rfl
def jh(f:Ut)(l:List TZ):Int:=if UY f≠0 then UY f else if(l.length:Int)<1\/(l.length:Int)>8\/(l.length:Int)>f.1.1 then 2 else 0
def tU(f:Ut)(l:List TZ):Int:=if jh f l≠0 then jh f l else XO l
def YV(f:Ut)(l:List TZ):Int:=if tU f l≠0 then tU f l else if bJ l=true then 0 else 6
theorem ZG{f:Ut}{l:List TZ}{e:Int}(h:jh f l=e)(a:e≠0):YV f l=e:=by
 have b:tU f l=e:=by unfold tU;rw[h,if_pos a]
 unfold YV;rw[b,if_pos a]
theorem gG{f:Ut}{l:List TZ}(h:jh f l=0):YV f l=if XO l≠0 then XO l else if bJ l=true then 0 else 6:=by
 have a:tU f l=XO l:=by unfold tU;rw[h,if_neg (by simp)]
 unfold YV;rw[a]
theorem jz{l a:List TZ}{d:TZ}(e:l=d::a){k:Nat}{y:TZ}{m:List TZ}(c:a.drop k=y::m):∃ z,l[k]?=some z/\l[k+1]?=some y/\l.drop k=z::y::m/\l.drop (k+1)=y::m:=by
 subst e
 have f:k<a.length:=by
  by_cases h:k<a.length
  ·exact h
  ·rw[List.drop_eq_nil_of_le (by omega)]at c;cases c
 have b:(d::a).drop (k+1)=y::m:=by simpa using c
 refine⟨(d::a)[k]'(by simp;omega),List.getElem?_eq_getElem (by simp;omega),?_,?_,b⟩
 ·have:=congrArg (λz=>z[0]?) b;simpa using this
 ·rw[<- b];exact ml (by simp;omega)
theorem kU{l:List TZ}(x:l.length<=1000)(j:1<=l.length):∃ r,loop (β:=Nat×(Int×Int)) (λb=>br (Sz b (SG .i64 (l.length:Int) 1)) (λ_=>Rz (SC .i64 b 1) λp=>ix l p λq=>Rz b λd=>ix l d λf=>br (Sy q.2.2.2 f.2.2.2) (λ_=>some (.dn ((0,(b,6))))) λ_=>some (.nx (SC .i64 b 1))) λ_=>some (.dn ((1,(b,0))))) (0:Int)=some r/\((r.1=0/\r.2.2=6/\bJ l=false)\/(r.1=1/\bJ l=true)):=by
 obtain⟨c,a,e⟩:∃ c a,l=c::a:=by
  cases l with
  |nil=>simp at j
  |cons c a=>exact⟨c,a,rfl⟩
 have g:l.length=a.length+1:=by rw[e];rfl
 have hs:SG .i64 (l.length:Int) 1=(a.length:Int):=by rw[Sd (by omega)];omega
 simp only[hs]
 exact Vy (l:=a) (σ:=Unit) (λk _=>(k:Int)) (λm k _=>bJ l=bJ (l.drop k)) (λ(r:Nat×(Int×Int))=>(r.1=0/\r.2.2=6/\bJ l=false)\/(r.1=1/\bJ l=true)) () rfl (by omega) rfl (λ_ h=>by
   refine⟨(1,((a.length:Int),0)),by rw[re];rfl,.inr ⟨rfl,?_⟩⟩;rw[h,e]
   have:(c::a).drop a.length=[(c::a)[a.length]'(by simp)]:=by
    rw[ml (by simp)];simp
   rw[this];rfl) (λk y m _ n A o h=>by
   obtain⟨z,s,t,u,w⟩:=jz e n;have hi:SC .i64 (k:Int) 1=((k+1:Nat):Int):=Ti (by omega);simp only[hi];rw[rl o,SW,Ta,S4 t,Ta,S4 s];rw[u,iV]at h;unfold Sy;by_cases i:y.2.2.2<=z.2.2.2
   ·rw[decide_eq_true i,SW];exact .inr ⟨_,rfl,.inl ⟨rfl,rfl,by rw[h,decide_eq_false (by omega)];rfl⟩⟩
   ·rw[decide_eq_false i,R5]
    exact .inl ⟨(),rfl,by rw[h,decide_eq_true (by omega),w];rfl⟩)
theorem gz{l:List TZ}(i:l.length<=1000):∃ r,loop (β:=Nat×(Int×Int)) (λs2=>br (Sz s2 (l.length:Int)) (λ_=>Rz s2 λe=>ix l e λf=>bd (UH f) λb=>br (Rw b 0) (λ_=>some (.dn ((0,(s2,b))))) λ_=>some (.nx (SC .i64 s2 1))) λ_=>some (.dn ((1,(s2,0))))) (0:Int)=some r/\((r.1=0/\r.2.2=XO l/\XO l≠0)\/(r.1=1/\XO l=0)):=
 Vy (l:=l) (σ:=Unit) (λk _=>(k:Int)) (λm k _=>XO l=XO m) (λ(r:Nat×(Int×Int))=>(r.1=0/\r.2.2=XO l/\XO l≠0)\/(r.1=1/\XO l=0)) () rfl (by omega) rfl (λ_ h=>⟨(1,((l.length:Int),0)),by rw[re];rfl,.inr ⟨rfl,h⟩⟩) (λk x m _ g d c h=>by
   have h:XO l=if kE x≠0 then kE x else XO m:=h
   rw[rl c,SW,Ta,S4 d,VO,Sn,TI,Ti (by omega)];by_cases a:kE x=0
   ·rw[if_neg (by simp[a])]at h;rw[if_pos a];exact .inl ⟨(),rfl,h⟩
   ·rw[if_pos a]at h
    rw[if_neg a];exact .inr ⟨_,rfl,.inl ⟨rfl,h.symm,by rw[h];exact a⟩⟩)
theorem jq{γ:Type}{f:Ut}(m:Sm f.2){l:List TZ}(u:l.length<=1000)(Z:Int->Option γ)(C:Option γ) :
  (bd (Um f.1) λx=>br (Rw x.2 0) (λ_=>Z x.2) λ_=>bd (Ui f.2) λy=>br (Rw y.2 0) (λ_=>Z y.2) λ_=>br (Rw f.1.1 f.2.1.1) (λ_=>Z 6) λ_=>br (Sz (Kh (AS l)) 1) (λ_=>Z 2) λ_=>br (Sx (Kh (AS l)) 8) (λ_=>Z 2) λ_=>br (Sx (Kh (AS l)) f.1.1) (λ_=>Z 2) λ_=>bd (loop (β:=Nat×(Int×Int)) (λs2=>br (Sz s2 (Kh (AS l))) (λ_=>Rz s2 λB=>ix l B λJ=>bd (UH J) λz=>br (Rw z 0) (λ_=>some (.dn ((0,(s2,z))))) λ_=>some (.nx (SC .i64 s2 1))) λ_=>some (.dn ((1,(s2,0))))) 0) λA=>br (neq A.1 0) (λ_=>Z A.2.2) λ_=>bd (loop (β:=Nat×(Int×Int)) (λc=>br (Sz c (SG .i64 (Kh (AS l)) 1)) (λ_=>Rz (SC .i64 c 1) λD=>ix l D λK=>Rz c λp=>ix l p λt=>br (Sy K.2.2.2 t.2.2.2) (λ_=>some (.dn ((0,(c,6))))) λ_=>some (.nx (SC .i64 c 1))) λ_=>some (.dn ((1,(c,0))))) 0) λd=>br (neq d.1 0) (λ_=>Z d.2.2) λ_=>C)=if YV f l≠0 then Z (YV f l)else C:=by
 simp only[Tf,Td];rw[Zm,Sn,TI];by_cases a:(Uj f.1).2=0;rotate_left
 ·have e:UY f=(Uj f.1).2:=by unfold UY;rw[if_pos a]
  have e2:=ZG (f:=f) (l:=l) (e:=(Uj f.1).2) (by unfold jh;rw[if_pos (by rw[e];exact a),e]) a;rw[if_neg a,e2,if_pos a]
 rw[if_pos a,uI m,Sn,TI];by_cases b:(Tc f.2).2=0;rotate_left
 ·have e:UY f=(Tc f.2).2:=by unfold UY;rw[if_neg (show ¬ (Uj f.1).2≠0 by simp[a]),if_pos b]
  have e2:=ZG (f:=f) (l:=l) (e:=(Tc f.2).2) (by unfold jh;rw[if_pos (by rw[e];exact b),e]) b;rw[if_neg b,e2,if_pos b]
 rw[if_pos b,TI];by_cases g:f.1.1=f.2.1.1;rotate_left
 ·have e:UY f=6:=by unfold UY;rw[if_neg (show ¬ (Uj f.1).2≠0 by simp[a]),if_neg (show ¬ (Tc f.2).2≠0 by simp[b]),if_pos g]
  have e2:=ZG (f:=f) (l:=l) (e:=6) (by unfold jh;rw[if_pos (by rw[e];decide),e]) (by decide);rw[if_neg g,e2,if_pos (by decide)]
 have e:UY f=0:=by unfold UY;rw[if_neg (show ¬ (Uj f.1).2≠0 by simp[a]),if_neg (show ¬ (Tc f.2).2≠0 by simp[b]),if_neg (show ¬ f.1.1≠f.2.1.1 by simp[g])]
 have two:((l.length:Int)<1\/(l.length:Int)>8\/(l.length:Int)>f.1.1)->YV f l=2:=λh=>ZG (by unfold jh;rw[if_neg (by simp[e]),if_pos h]) (by decide);rw[if_pos g,TH,TF,TF];by_cases k:(l.length:Int)<1
 ·rw[if_pos k,two (.inl k),if_pos (by decide)]
 rw[if_neg k];by_cases n:(l.length:Int)>8
 ·rw[if_pos n,two (.inr (.inl n)),if_pos (by decide)]
 rw[if_neg n];by_cases o:(l.length:Int)>f.1.1
 ·rw[if_pos o,two (.inr (.inr o)),if_pos (by decide)]
 rw[if_neg o,gG (by unfold jh;rw[if_neg (by simp[e]),if_neg (by omega)])];obtain⟨r,G,j⟩:=gz u;refine Tv G ?_;rw[So];rcases j with⟨j,s,w⟩|⟨j,s⟩
 ·rw[if_pos j,if_pos w,if_pos w,s]
 rw[if_neg (show ¬ r.1=0 by omega),if_neg (show ¬ XO l≠0 by simp[s])];obtain⟨I,E,i⟩:=kU u (by omega);refine Tv E ?_;rw[So];rcases i with⟨i,q,F⟩|⟨i,q⟩
 ·rw[if_pos i,q,F];rfl
 ·rw[if_neg (show ¬ I.1=0 by omega),q];rfl
end
section
open Go Sv
theorem bo{f:Ut}{l:List TZ}(h:YV f l=0):UY f=0/\1<=l.length/\l.length<=8/\XO l=0:=by
 have a:jh f l=0:=by
  by_cases b:jh f l=0
  ·exact b
  ·rw[ZG rfl b]at h;exact absurd h b
 rw[gG a]at h
 have d:XO l=0:=by
  by_cases b:XO l=0
  ·exact b
  ·rw[if_pos b]at h;exact absurd h b
 unfold jh at a;by_cases c:UY f=0;rotate_left
 ·rw[if_pos c]at a;exact absurd a c
 rw[if_neg (by simp[c])]at a;by_cases e:(l.length:Int)<1\/(l.length:Int)>8\/(l.length:Int)>f.1.1
 ·rw[if_pos e]at a;cases a
 ·exact⟨c,by omega,by omega,d⟩
theorem Xm{f:Ut}(h:UY f=0):(Uj f.1).2=0/\VSt f.2/\f.1.1=f.2.1.1:=by
 have c:=Hk h;unfold UY at h;by_cases a:(Uj f.1).2=0;rotate_left
 ·rw[if_pos a]at h;exact absurd h a
 rw[if_neg (by simp[a]),if_neg (by simp[c])]at h;refine⟨a,Tl.1 c,?_⟩;by_cases b:f.1.1=f.2.1.1
 ·exact b
 ·rw[if_pos b]at h;cases h
theorem pW{f:Ut}{l:List TZ}(h:YV f l=0):Zl f.1 l=0/\VSt f.2:=by
 obtain⟨c,e,g,d⟩:=bo h;obtain⟨a,b,_⟩:=Xm c;refine⟨?_,b⟩;unfold Zl;rw[if_neg (by simp[a]),if_neg (by omega),d]
def zF:Ut:=((0,[]),zS)
def bx(f:Ut):Bool:=decide (2<=(Th f.2.1.2 0).length)
theorem qD{f:Ut}(v:VLev f.2.1):U7 (f.2.1,(0:Int))=some (He (bx f),0):=by
 have b:=(v.own 0).1;have h:=aU v (n:=0) (by omega);rw[if_neg (by omega)]at h;refine h.trans ?_
 congr 2
 unfold Yj bx;rw[U6];have a:((f.2.1.2[0]?).getD []).length=(Th f.2.1.2 0).length:=rfl;rw[a];exact decide_eq_decide.2 (by omega)
theorem iO(f:Ut):∃ b,Xr f=some b/\(b=false->Sm f.2/\f.1.2.length<=30 /\ ∀ rs∈f.2.1.2,∀ r∈rs,r.2.length<=30):=by
 unfold Xr;obtain⟨b,e,d⟩:=aR f.1.2;rw[e,Sn];cases b with
 |true=>exact⟨true,rfl,λh=>by cases h⟩
 |false=>
  obtain⟨c,e2,a⟩:=iN f.2;rw[R5,e2,Sn];exact⟨c,rfl,λh=>⟨(a h).1,d rfl,(a h).2⟩⟩
end
section
open Go Sv
def ji(f:Ut)(l:List TZ):Ut×(Int×Int):=
 if YV f l≠0 then(zF,(0,YV f l))
 else if(Yl f.1 l).2.2=true then(((f.1.1,(Yl f.1 l).1),f.2),(SC .i64 (Yl f.1 l).2.1 0,0))
 else if f.1.2.length=0 then(zF,(0,5))
 else if bx f=true then(zF,(0,10))
 else if(bc f.2 f.1.2).2≠0 then(zF,(0,(bc f.2 f.1.2).2))
 else if(cV (f.1.1,[]) l).2.2≠0 then(zF,(0,(cV (f.1.1,[]) l).2.2))
 else(((cV (f.1.1,[]) l).1,(bc f.2 f.1.2).1),(SC .i64 (cV (f.1.1,[]) l).2.1 (f.1.2.length:Int),0))
theorem dC{b:UA}{l:List TZ}(h:Zl b l=0):cV b l=if(Yl b l).2.2=true then((b.1,(Yl b l).1),((Yl b l).2.1,0))else((0,[]),(0,5)):=by
 unfold cV;rw[if_neg (by simp[h])]
theorem jp{f:Ut}(m:Sm f.2){l:List TZ}(j:l.length<=1000):UR (f,l)=some (ji f l):=by
 unfold UR ji;refine(jq m j (λe=>some (zF,(0,e))) _).trans ?_;by_cases h:YV f l=0;rotate_left
 ·rw[if_pos h,if_pos h]
 rw[if_neg (by simp[h]),if_neg (by simp[h])];obtain⟨b,v⟩:=pW h;obtain⟨d,_,_⟩:=aI b;have i:=d.len;have g:=d.m2;simp only[Tf,Td,pT,jk,dC b];unfold sV;rw[if_neg (by simp[b]),Sn];simp only;rw[TI,if_pos rfl];cases n:(Yl f.1 l).2.2 with
 |true=>
  rw[YQ,R5,if_pos rfl,Sn,if_pos rfl];simp only;rw[TI,if_pos rfl];rfl
 |false=>
  rw[Zn,SW,if_neg (show ¬ false=true by decide),if_neg (show ¬ false=true by decide),TD];by_cases c:f.1.2.length=0
  ·rw[if_pos (by omega),if_pos c,Sn];simp only;rw[TI,if_neg (by decide)];rfl
  rw[if_neg (by omega),if_neg c,qD v.lev,Sn];simp only;rw[TI,if_pos rfl];cases k:bx f with
  |true=>rw[YQ,Zn,SW,if_pos rfl];rfl
  |false=>
   rw[Zn,YQ,R5,if_neg (show ¬ false=true by decide),gu m (by omega),Sn,TI];by_cases a:(bc f.2 f.1.2).2=0;rotate_left
   ·rw[if_neg a,if_pos a];rfl
   rw[if_pos a,if_neg (by simp[a]),Sn,TI];by_cases hc:(cV (f.1.1,[]) l).2.2=0
   ·rw[if_pos hc,if_neg (by simp[hc])];rfl
   ·rw[if_neg hc,if_pos hc];rfl
theorem j9{f:Ut}(h:UY f=0):f.1.2.length<=16:=by
 have a:=dE (Xm h).1;have:=a.len;have:=a.m2;omega
end
section
open Go Sv
def kN(k:Nat):V8:=[126,110,101,119,FF (97+k / 26),FF (97+k % 26)]
def uQ(k:V8):Prop:=¬ (4<=k.length/\SQ k 0 4=[126,110,101,119])
def uK(f:Ut):Int:=f.1.1-(f.1.2.length:Int)+f.1.1*(2-((Th f.2.1.2 0).length:Int))
structure FI (n k:Nat) (f:Ut):Prop where
 fr:UY f=0
 nx:f.2.2.2<=900000+(k:Int)
 key:∀ y∈f.1.2,uQ y.1 \/ ∃ j<k,y.1=kN j
 val:(k:Int)+uK f=(n:Int)
theorem qc{b:UA}(h:Bf b):(Uj b).2=0:=by
 unfold Uj;have:=h.m1;have:=h.m2;have:=h.len;rw[if_neg (by omega),if_neg (by omega)];exact Z0.2 ⟨h.ok,h.asc⟩
theorem kA{f:Ut}(a:Bf f.1)(b:VSt f.2)(c:f.1.1=f.2.1.1):UY f=0:=by
 unfold UY;rw[if_neg (by simp[qc a]),if_neg (by simp[Tl.2 b]),if_neg (by simp[c])]
theorem de{l:List TZ}{x y:TZ}(h:y∈Ww l x):y=x\/y∈l:=by
 unfold Ww at h;rcases List.mem_append.1 h with h|h
 ·exact .inr (List.mem_of_mem_take h)
 ·rcases ee.1 h with h|h
  ·exact .inl h
  ·exact .inr (List.mem_of_mem_drop h)
theorem jv{b:UA}(h:Bf b){x:TZ}(d:kE x=0)(c:¬ YT b.2 x.1=true)(e:(b.2.length:Int)<b.1):Bf (b.1,Ww b.2 x):=by
 have a:=aA b.2 x;rw[if_neg c]at a;refine⟨h.m1,h.m2,by simp only;omega,λy hy=> ?_,ZS x h.asc (λ_ h=>by cases h)⟩;rcases de hy with rfl|hy
 ·exact d
 ·exact h.ok y hy
theorem pN{b:UA}{x:TZ}(h:Bf b)(c:¬ YT b.2 x.1=true):Yl b [x]=if(b.2.length:Int)=b.1 then(b.2,((b.2.length:Int)-(Wg b.2 x.1:Int)+1,false))else(Ww b.2 x,((b.2.length:Int)-(Wg b.2 x.1:Int)+1,true)):=by
 have:=h.m1;unfold Yl bj;rw[if_neg c,Int.zero_add];by_cases a:(b.2.length:Int)=b.1
 ·rw[if_pos a,if_pos (by omega)]
 ·rw[if_neg a,if_neg (by omega)];rfl
end
section
open Go Sv
end
section
open Go Sv
def YO(f:Nat->Nat):Nat->Nat
 |0=>0
 |m+1=>YO f m+f m
theorem cv{f g:Nat->Nat}:∀ {m:Nat},(∀ i,i<m->g i<=f i)->YO g m<=YO f m
 |0,_=>eg _
 |m+1,h=>Nat.add_le_add (cv λi hi=>h i (by omega)) (h m (by omega))
theorem bY{f g:Nat->Nat}{n:Nat}(a:g n+1<=f n):∀ {m:Nat},n<m->(∀ i,i<m->i≠n->g i<=f i)->YO g m+1<=YO f m
 |0,h,_=>absurd h (by omega)
 |m+1,h,ho=>by
  unfold YO;by_cases e:n=m
  ·subst e;have:=cv (f:=f) (g:=g) (m:=n) λi hi=>ho i (by omega) (by omega);omega
  ·have:=bY a (m:=m) (by omega) λi hi=>ho i (by omega);have:=ho m (by omega) (λh=>e h.symm);omega
theorem cR{f g:Nat->Nat}{n:Nat}(a:g n+g (n+1)+1<=f n+f (n+1)):∀ {m:Nat},n+1<m->(∀ i,i<m->i≠n->i≠n+1->g i<=f i)->YO g m+1<=YO f m
 |0,h,_=>absurd h (by omega)
 |m+1,h,ho=>by
  unfold YO;by_cases e:n+1=m
  ·subst e;have:=cv (f:=f) (g:=g) (m:=n) λi hi=>ho i (by omega) (by omega) (by omega);unfold YO;omega
  ·have:=cR a (m:=m) (by omega) λi hi=>ho i (by omega);have:=ho m (by omega) (by omega) (by omega);omega
theorem ZX:∀ {js:List Job} {j:Job},(js.map (·.1)).Nodup->j∈js->Ul js j.1=some j
 |[],_,_,h=>by cases h
 |i::js,j,hn,h=>by
  rw[ns,oj]at hn;unfold Ul;rw[iz];unfold cc;rw[Vx];rcases ee.1 h with e|h
  ·subst e;simp
  ·have a:¬ j.1=i.1:=λe=>hn.1 (by rw[<- e];exact nn h);rw[decide_eq_false a];exact ZX hn.2 h
theorem cB:∀ {js:List Job} {i:Nat} {j:Job} (w:Xl) (d:Int),(js.map (·.1)).Nodup->js[i]?=some j->Ul (js.set i (j.1,w)) d=if d=j.1 then some (j.1,w)else Ul js d
 |[],i,j,w,d,_,h=>by simp at h
 |x::js,0,j,w,d,hn,h=>by
  have e:x=j:=by simpa using h
  subst e;unfold Ul;rw[List.set_cons_zero,iz,iz];unfold cc;rw[Vx];by_cases e:d=x.1<;>simp[e]
 |x::js,i+1,j,w,d,hn,h=>by
  rw[ns,oj]at hn;have h':js[i]?=some j:=by simpa using h
  have b:=cB w d hn.2 h';unfold Ul at b ⊢;rw[List.set_cons_succ,iz,iz,b];have c:cc d x=decide (d=x.1):=Vx _ _;rw[c];by_cases e:d=x.1
  ·have a:¬ d=j.1:=λe2=>hn.1 (by rw[<- e,e2];exact nn (co h'));rw[decide_eq_true e];simp only[a,if_false]
  ·rw[decide_eq_false e]
theorem VSt.noJob{s:Tb}(v:VSt s){i:Nat}(h:(Th s.1.2 i).length≠2):Ul s.2.1 (i:Int)=none:=by
 refine Yx λa=>h ?_;rw[v.due]at a;obtain⟨n,c,d,e,b⟩:=ck a;have:i=n:=by omega
 rw[this,Xe.1 b];rfl
theorem VSt.hasJob{s:Tb}(v:VSt s){i:Nat}(h:(Th s.1.2 i).length=2):∃ j,Ul s.2.1 (i:Int)=some j:=by
 have a:=cY (i:=0) h;rw[ey,<- v.due]at a;obtain⟨j,b,e⟩:=List.mem_map.1 a;exact⟨j,by rw[<- e];exact ZX v.nodup b⟩
theorem sU{s:Tb}(v:VSt s)(d:Int):bZ s d=Ul s.2.1 d:=by
 by_cases h:d∈Tj 0 s.1.2
 ·obtain⟨j,n,a,b,c,_⟩:=v.atDue h;rw[a,b,<- c];refine(ZX v.nodup ?_).symm;unfold bZ at a;split at a
  ·exact co a
  ·cases a
 ·rw[Yx (by rw[v.due];exact h)];unfold bZ;split
  ·rename_i i hi;have:=(eL hi).2;exact absurd (co this) h
  ·rfl
def qh(j:Job):Nat:=j.2.2.2.2.toNat
theorem JobAt.rd{L:Te}{n:Nat}{j:Job}(h:JobAt L n j):∃ a b,Th L.2 n=[a,b]/\qh j<=b.2.length+a.2.length/\UD L j=b.2.length+a.2.length-qh j/\(0<UD L j->qh (j.1,ZE L j)=qh j+1):=by
 obtain⟨a,b,c,k,d,rfl,f,g,i,l⟩:=h;have e:=Xe.1 d;have e1:(VU b.2 a.2 c k).2.1.2.2=c:=am _ _ _ _;have e2:(VU b.2 a.2 c k).2.2.2.toNat=k:=by show((k:Int)).toNat=k;rw[bl]
 refine⟨a,b,e,?_,?_,λ_=> ?_⟩
 ·show(VU b.2 a.2 c k).2.2.2.toNat<=_;rw[e2];exact f
 ·unfold UD qh;simp only[bl,d]
 ·show(ZE L ((n:Int),VU b.2 a.2 c k)).2.2.2.toNat=(VU b.2 a.2 c k).2.2.2.toNat+1;unfold ZE;simp only[bl,e];rw[e1,e2];show(((k+1:Nat):Int)).toNat=_;rw[bl]
structure StepF (s:Tb) (n:Nat) (j:Job) (t:Tb) (b:Bool):Prop where
 job:Ul s.2.1 (n:Int)=some j
 read:0<UD s.1 j->b=false/\t.1=s.1/\t.2.2=s.2.2 /\ ∀ i:Nat,Ul t.2.1 (i:Int)=if i=n then some (j.1,ZE s.1 j)else Ul s.2.1 (i:Int)
 inst:UD s.1 j=0->b=true/\t.1=Vb s j/\t.2.2=YE s j/\(∀ i,(Th t.1.2 i)=if Uq j≠[]/\i=Ym s j then(if i=n then[]else Th s.1.2 i)++[(s.2.2,Uq j)]else if i=n then[]else Th s.1.2 i)/\(Ym s j=n\/Ym s j=n+1/\n+1<12/\(Uq j≠[]->(Th s.1.2 (n+1)).length<2)) /\
  ∀ i:Nat,Ul t.2.1 (i:Int)=if(Th t.1.2 i).length=2 then some ((if i=n then none else Ul s.2.1 (i:Int)).getD (Wh t.1 (i:Int)))else none
theorem ew{s0 s:Tb}(g:Gd s0 s){d:Int}(h:d∈Tj 0 s.1.2)(e:(Wo s d).2.2=0):∃ (n:Nat) (j:Job),d=(n:Int)/\n<12/\JobAt s.1 n j/\V9 s.1 j=true/\StepF s n j (Wo s d).1 (Wo s d).2.1/\Gd s0 (Wo s d).1:=by
 obtain⟨v,Z,hc⟩:=g;have X:=Z1 hc;have m:=v.sm;obtain⟨c,t,b,er,_,K,_,Y⟩:=iI ⟨v,Z,hc⟩ h;rw[cS m X]at K;have w:=Option.some.inj K;obtain⟨i,j,n,hi,U,D,u,S⟩:=gK v h;have hz:(Tc s).2=0:=Tl.2 v;have C:bZ s d=some j:=by unfold bZ;rw[hi];exact U
 have hn:n<12:=by
  have:=v.lev.len;obtain⟨_,_,_,_,W,_⟩:=S;have:=(List.getElem?_eq_some_iff.1 W).1;omega
 have F:Ul s.2.1 (n:Int)=some j:=by rw[<- D,<- sU v,C]
 have hS:Wo s d=YN s j:=by unfold Wo;rw[if_neg (by simp[hz]),C]
 have A:Gd s0 (Wo s d).1:=by rw[w];exact Y (by rw[<- e,w])
 have k:=A.1;rw[hS]at e k A ⊢;refine⟨n,j,D,hn,S,?_,⟨F,λO=> ?_,λO=> ?_⟩,A⟩
 ·unfold YN at e;by_cases a:V9 s.1 j=false
  ·rw[if_pos a]at e;cases e
  ·simpa using a
 ·unfold YN at e ⊢;have a:¬ V9 s.1 j=false:=λa=>by rw[if_pos a]at e;cases e
  rw[if_neg a,if_pos O];refine⟨rfl,rfl,rfl,λo=> ?_⟩;show Ul (aB s j).2.1 _=_;unfold aB;rw[u,<- D,hi,Option.getD_some];show Ul (s.2.1.set i (d,ZE s.1 j)) _=_;have:=cB (ZE s.1 j) (o:Int) v.nodup U;rw[u,<- D]at this;rw[this,D];by_cases p:o=n
  ·rw[if_pos (by rw[p]),if_pos p]
  ·rw[if_neg (by omega),if_neg p]
 ·unfold YN at e k ⊢;have a:¬ V9 s.1 j=false:=λa=>by rw[if_pos a]at e;cases e
  have q:V9 s.1 j=true:=by simpa using a
  have z:¬ 0<UD s.1 j:=by omega
  rw[if_neg a,if_neg z]at e k ⊢;unfold Zg at e k ⊢;rw[if_neg (λh=>h.elim z a)]at e k ⊢;by_cases P:s.2.2>1000000/\Uq j≠[]
  ·rw[if_pos P]at e;cases e
  rw[if_neg P]at e k ⊢;have B:j.1.toNat=n:=by rw[u];simp
  have I:∀ i,Th (Vb s j).2 i=_:=λi=>WB (s:=s) (j:=j) B i;refine⟨rfl,rfl,rfl,I,?_,λo=> ?_⟩
  ·unfold Ym;rw[B];by_cases hs:V7 s.1 j=true
   ·rw[if_pos hs];exact .inl rfl
   ·rw[if_neg hs]
    have hr:Yj s.1 (n+1)=true:=by
     unfold V9 at q;rw[B]at q;simpa[hs,z]using q
    have J:=of_decide_eq_true hr;exact .inr ⟨rfl,J.1,λ_=>J.2⟩
  ·have r:VSt (YP s (Vb s j) (YE s j) j.1):=k;show Ul (YP s (Vb s j) (YE s j) j.1).2.1 (o:Int)=if(Th (Vb s j).2 o).length=2 then some ((if o=n then none else Ul s.2.1 (o:Int)).getD (Wh (Vb s j) (o:Int)))else none
   have ho:(Th (YP s (Vb s j) (YE s j) j.1).1.2 o)=Th (Vb s j).2 o:=rfl;by_cases L:(Th (Vb s j).2 o).length=2
   ·rw[if_pos L];have N:=cY (i:=0) L;rw[ey]at N;have G:Wn s (Vb s j) j.1 (o:Int)∈(YP s (Vb s j) (YE s j) j.1).2.1:=nn N
    have E:(Wn s (Vb s j) j.1 (o:Int)).1=(o:Int):=by
     have M:(Tj 0 (Vb s j).2).map (λd=>(Wn s (Vb s j) j.1 d).1)=Tj 0 (Vb s j).2:=by
      have:=r.due;simpa[YP,List.map_map,Function.comp_def]using this
     have key:∀ {l:List Int} {f:Int->Int},l.map f=l -> ∀ x∈l,f x=x:=by
      intro l f
      induction l with
      |nil=>intro _ x hx;cases hx
      |cons y l ih=>
       intro h x hx;rw[ns]at h;obtain⟨k1,k2⟩:=List.cons.inj h;rcases ee.1 hx with rfl|hx
       ·exact k1
       ·exact ih k2 x hx
     exact key M _ N
    have:=ZX r.nodup G;rw[E]at this;rw[this];unfold Wn;rw[u];by_cases p:o=n
    ·rw[if_pos (by omega),if_pos p]
    ·rw[if_neg (by omega),if_neg p]
   ·rw[if_neg L];exact r.noJob (by rw[ho];exact L)
end
section
open Go Sv
def pR(s:Tb)(i:Nat):Nat:=match Ul s.2.1 (i:Int)with
 |some j=>qh j
 |none=>0
def eB(N:Nat)(s:Tb)(i:Nat):Nat:=(Th s.1.2 i).length*(N+1)-pR s i
def si(N:Nat)(s:Tb):Nat:=YO (eB N s) 12
theorem pj{L:Te}{n:Nat}{a b:UA}(h:Th L.2 n=[a,b]):a.2.length+b.2.length<=Uw L.2.flatten:=by
 obtain⟨p,q,c,_⟩:=XQ L n [];rw[c,h,U2,U2,Vm,Vm];omega
theorem VSt.rd0{s:Tb}(v:VSt s){i:Nat}(h:(Th s.1.2 i).length≠2):pR s i=0:=by
 unfold pR;rw[v.noJob h]
theorem kW{N:Nat}{s t:Tb}{n:Nat}{j:Job}{b:Bool}(v:VSt s)(A:Uw s.1.2.flatten<=N)(q:n<12)(x:JobAt s.1 n j)(F:StepF s n j t b):si N t+1<=si N s:=by
 obtain⟨D,E,l,B,C,y⟩:=x.rd;have hc:=pj l
 have hs:eB N s n=2*(N+1)-qh j:=by
  unfold eB pR;rw[F.job,l];rfl
 by_cases o:0<UD s.1 j
 ·obtain⟨_,e1,_,e2⟩:=F.read o;refine bY (n:=n) ?_ q λi _ a=> ?_
  ·have m:eB N t n=2*(N+1)-(qh j+1):=by
    unfold eB pR;rw[e2,if_pos rfl,e1,l,<- y o];rfl
   omega
  ·unfold eB pR;rw[e2,if_neg a,e1];exact eg _
 ·obtain⟨_,e1,_,e2,e3,e4⟩:=F.inst (by omega)
  have d:∀ i,i≠n -> ¬ (Uq j≠[]/\i=Ym s j)->eB N t i<=eB N s i:=λi a hit=>by
   have e:Th t.1.2 i=Th s.1.2 i:=by rw[e2,if_neg hit,if_neg a]
   have c:pR t i=pR s i:=by
    by_cases c:(Th s.1.2 i).length=2
    ·obtain⟨j',k⟩:=v.hasJob c;unfold pR;rw[e4,e,if_pos c,if_neg a,k];rfl
    ·rw[v.rd0 c];unfold pR;rw[e4,e,if_neg c]
   unfold eB;rw[e,c];exact eg _
  by_cases m:Uq j≠[]/\Ym s j≠n
  ·obtain⟨p,r⟩:=m;rcases e3 with e3|⟨e3,f,c⟩
   ·exact absurd e3 r
   have c:=c p;refine cR (n:=n) ?_ f λi _ a g=>d i a (by rw[e3];exact λh=>g h.2)
   have u:eB N t n=0:=by
    unfold eB;rw[e2,if_neg (by rw[e3];omega),if_pos rfl];simp
   have w:eB N t (n+1)<=((Th s.1.2 (n+1)).length+1)*(N+1):=by
    unfold eB;rw[e2,if_pos ⟨p,e3.symm⟩,if_neg (by omega),List.length_append];exact Nat.sub_le _ _
   have z:eB N s (n+1)=(Th s.1.2 (n+1)).length*(N+1):=by
    unfold eB;rw[v.rd0 (by omega)];rfl
   rw[Nat.add_mul]at w;omega
  ·refine bY (n:=n) ?_ q λi _ a=>d i a (λh=>m ⟨h.1,by rw[<- h.2];exact a⟩)
   have u:eB N t n<=1*(N+1):=by
    refine TX (Nat.sub_le _ _) (Nat.mul_le_mul_right _ ?_);rw[e2,if_pos rfl];split<;>simp
   omega
theorem gm(L:List (List UA)):∀ m,YO (λi=>(Th L i).length) m=(L.take m).flatten.length
 |0=>by simp[YO]
 |m+1=>by
  unfold YO;rw[gm L m];by_cases h:m<L.length
  ·have:L.take (m+1)=L.take m++[Th L m]:=by
    rw[List.take_add_one,WN h];rfl
   rw[this,List.flatten_append];simp
  ·have:Th L m=[]:=by unfold Th;rw[List.getElem?_eq_none (by omega)];rfl
   rw[this,eo (by omega),eo (by omega)];simp
theorem j7{L:Te}(v:VLev L):L.2.flatten.length<=24:=by
 have h:=gm L.2 12;have:=v.len;rw[eo (by omega)]at h;rw[<- h];exact cv (f:=λ_=>2) λi _=>(v.own i).1
end
section
open Go Sv
abbrev eG:=(Int×(Int×(Int×jj)))
def zE(a:jj)(k l:Nat):jj:=
 (TK (neq l 0) (SC .i64 (Ob [a.1,a.2.1,a.2.2.1,a.2.2.2.1,a.2.2.2.2.1,a.2.2.2.2.2.1,a.2.2.2.2.2.2.1,a.2.2.2.2.2.2.2.1,a.2.2.2.2.2.2.2.2.1,a.2.2.2.2.2.2.2.2.2.1,a.2.2.2.2.2.2.2.2.2.2.1,a.2.2.2.2.2.2.2.2.2.2.2] k) 1) a.1,(TK (neq l 1) (SC .i64 (Ob [a.1,a.2.1,a.2.2.1,a.2.2.2.1,a.2.2.2.2.1,a.2.2.2.2.2.1,a.2.2.2.2.2.2.1,a.2.2.2.2.2.2.2.1,a.2.2.2.2.2.2.2.2.1,a.2.2.2.2.2.2.2.2.2.1,a.2.2.2.2.2.2.2.2.2.2.1,a.2.2.2.2.2.2.2.2.2.2.2] k) 1) a.2.1,(TK (neq l 2) (SC .i64 (Ob [a.1,a.2.1,a.2.2.1,a.2.2.2.1,a.2.2.2.2.1,a.2.2.2.2.2.1,a.2.2.2.2.2.2.1,a.2.2.2.2.2.2.2.1,a.2.2.2.2.2.2.2.2.1,a.2.2.2.2.2.2.2.2.2.1,a.2.2.2.2.2.2.2.2.2.2.1,a.2.2.2.2.2.2.2.2.2.2.2] k) 1) a.2.2.1,(TK (neq l 3) (SC .i64 (Ob [a.1,a.2.1,a.2.2.1,a.2.2.2.1,a.2.2.2.2.1,a.2.2.2.2.2.1,a.2.2.2.2.2.2.1,a.2.2.2.2.2.2.2.1,a.2.2.2.2.2.2.2.2.1,a.2.2.2.2.2.2.2.2.2.1,a.2.2.2.2.2.2.2.2.2.2.1,a.2.2.2.2.2.2.2.2.2.2.2] k) 1) a.2.2.2.1,(TK (neq l 4) (SC .i64 (Ob [a.1,a.2.1,a.2.2.1,a.2.2.2.1,a.2.2.2.2.1,a.2.2.2.2.2.1,a.2.2.2.2.2.2.1,a.2.2.2.2.2.2.2.1,a.2.2.2.2.2.2.2.2.1,a.2.2.2.2.2.2.2.2.2.1,a.2.2.2.2.2.2.2.2.2.2.1,a.2.2.2.2.2.2.2.2.2.2.2] k) 1) a.2.2.2.2.1,(TK (neq l 5) (SC .i64 (Ob [a.1,a.2.1,a.2.2.1,a.2.2.2.1,a.2.2.2.2.1,a.2.2.2.2.2.1,a.2.2.2.2.2.2.1,a.2.2.2.2.2.2.2.1,a.2.2.2.2.2.2.2.2.1,a.2.2.2.2.2.2.2.2.2.1,a.2.2.2.2.2.2.2.2.2.2.1,a.2.2.2.2.2.2.2.2.2.2.2] k) 1) a.2.2.2.2.2.1,(TK (neq l 6) (SC .i64 (Ob [a.1,a.2.1,a.2.2.1,a.2.2.2.1,a.2.2.2.2.1,a.2.2.2.2.2.1,a.2.2.2.2.2.2.1,a.2.2.2.2.2.2.2.1,a.2.2.2.2.2.2.2.2.1,a.2.2.2.2.2.2.2.2.2.1,a.2.2.2.2.2.2.2.2.2.2.1,a.2.2.2.2.2.2.2.2.2.2.2] k) 1) a.2.2.2.2.2.2.1,(TK (neq l 7) (SC .i64 (Ob [a.1,a.2.1,a.2.2.1,a.2.2.2.1,a.2.2.2.2.1,a.2.2.2.2.2.1,a.2.2.2.2.2.2.1,a.2.2.2.2.2.2.2.1,a.2.2.2.2.2.2.2.2.1,a.2.2.2.2.2.2.2.2.2.1,a.2.2.2.2.2.2.2.2.2.2.1,a.2.2.2.2.2.2.2.2.2.2.2] k) 1) a.2.2.2.2.2.2.2.1,(TK (neq l 8) (SC .i64 (Ob [a.1,a.2.1,a.2.2.1,a.2.2.2.1,a.2.2.2.2.1,a.2.2.2.2.2.1,a.2.2.2.2.2.2.1,a.2.2.2.2.2.2.2.1,a.2.2.2.2.2.2.2.2.1,a.2.2.2.2.2.2.2.2.2.1,a.2.2.2.2.2.2.2.2.2.2.1,a.2.2.2.2.2.2.2.2.2.2.2] k) 1) a.2.2.2.2.2.2.2.2.1,(TK (neq l 9) (SC .i64 (Ob [a.1,a.2.1,a.2.2.1,a.2.2.2.1,a.2.2.2.2.1,a.2.2.2.2.2.1,a.2.2.2.2.2.2.1,a.2.2.2.2.2.2.2.1,a.2.2.2.2.2.2.2.2.1,a.2.2.2.2.2.2.2.2.2.1,a.2.2.2.2.2.2.2.2.2.2.1,a.2.2.2.2.2.2.2.2.2.2.2] k) 1) a.2.2.2.2.2.2.2.2.2.1,(TK (neq l 10) (SC .i64 (Ob [a.1,a.2.1,a.2.2.1,a.2.2.2.1,a.2.2.2.2.1,a.2.2.2.2.2.1,a.2.2.2.2.2.2.1,a.2.2.2.2.2.2.2.1,a.2.2.2.2.2.2.2.2.1,a.2.2.2.2.2.2.2.2.2.1,a.2.2.2.2.2.2.2.2.2.2.1,a.2.2.2.2.2.2.2.2.2.2.2] k) 1) a.2.2.2.2.2.2.2.2.2.2.1,TK (neq l 11) (SC .i64 (Ob [a.1,a.2.1,a.2.2.1,a.2.2.2.1,a.2.2.2.2.1,a.2.2.2.2.2.1,a.2.2.2.2.2.2.1,a.2.2.2.2.2.2.2.1,a.2.2.2.2.2.2.2.2.1,a.2.2.2.2.2.2.2.2.2.1,a.2.2.2.2.2.2.2.2.2.2.1,a.2.2.2.2.2.2.2.2.2.2.2] k) 1) a.2.2.2.2.2.2.2.2.2.2.2)))))))))))
end
section
open Go Sv
def YU(s:Tb):Int:=if(Vc s).2≠0 then(Vc s).2 else(Wo s (Vc s).1).2.2
def YF(s:Tb):Tb:=(Wo s (Vc s).1).1
def bh(s:Tb):Int×Bool:=((Vc s).1,(Wo s (Vc s).1).2.1)
def bT:Nat->Tb->Tb×(List (Int×Bool)×Int)
 |0,s=>(s,([],0))
 |n+1,s=>if YU s=4 then(s,([],0))else if YU s≠0 then(s,([],YU s))else((bT n (YF s)).1,(bh s::(bT n (YF s)).2.1,(bT n (YF s)).2.2))
theorem Yq{s:Tb}:∀ {l:List Int} {d:Int},Vo s l=some d -> ∃ p q,l=p++d::q/\(W3 false (λs j=>(V9 s.1 j,0)) s d).1=true /\ ∀ x∈p,¬ (W3 false (λs j=>(V9 s.1 j,0)) s x).1=true
 |[],_,h=>by cases h
 |x::l,d,h=>by
  unfold Vo at h;split at h
  ·rename_i a;cases h;exact⟨[],l,rfl,a,λ_ h=>by cases h⟩
  ·rename_i a;obtain⟨p,q,rfl,b,c⟩:=Yq h
   exact⟨x::p,q,rfl,b,λy hy=>by
    rcases ee.1 hy with rfl|hy
    ·exact a
    ·exact c y hy⟩
theorem bI{s:Tb}(v:VSt s):((Vc s).2=4/\s.2.1=[])\/(Vc s).2=9\/((Vc s).2=0/\(Vc s).1∈Tj 0 s.1.2):=by
 have a:(Tc s).2=0:=Tl.2 v;unfold Vc;rw[if_neg (by simp[a])];by_cases h:Tj 0 s.1.2=[]
 ·rw[if_pos h];refine .inl ⟨rfl,?_⟩;have:=v.due;rw[h]at this;simpa using this
 ·rw[if_neg h];cases hc:Vo s (Tj 0 s.1.2)with
  |none=>exact .inr (.inl rfl)
  |some d=>
   obtain⟨p,q,e,_⟩:=Yq hc;exact .inr (.inr ⟨rfl,by rw[e];simp⟩)
theorem iU{s0 s:Tb}(g:Gd s0 s):VP s=some (Vc s)/\Yt s=some (Vc s):=⟨pU g.1.sm,iW g.1.sm⟩
theorem ko{s0 s:Tb}(g:Gd s0 s)(d:Int):Ux (s,d)=some (Wo s d)/\Yu (s,d)=some (Wo s d):=
 ⟨cS g.1.sm (Z1 g.2.2) d,iX g.1.sm (Z1 g.2.2) d⟩
theorem kS{s0 s:Tb}(g:Gd s0 s)(e:YU s=0):(Vc s).2=0/\(Vc s).1∈Tj 0 s.1.2/\(Wo s (Vc s).1).2.2=0:=by
 unfold YU at e;rcases bI g.1 with h|h|h
 ·rw[if_pos (by rw[h.1];decide),h.1]at e;cases e
 ·rw[if_pos (by rw[h];decide),h]at e;cases e
 ·rw[if_neg (by simp[h.1])]at e;exact⟨h.1,h.2,e⟩
theorem Yh{s0 s:Tb}(g:Gd s0 s)(e:YU s=0):∃ (n:Nat) (j:Job),(bh s).1=(n:Int)/\n<12/\JobAt s.1 n j/\V9 s.1 j=true/\StepF s n j (YF s) (bh s).2/\Gd s0 (YF s):=by
 obtain⟨_,a,b⟩:=kS g e;exact ew g a b
theorem gW{s0 s:Tb}{N:Nat}(g:Gd s0 s)(a:Uw s.1.2.flatten<=N)(e:YU s=0):si N (YF s)+1<=si N s/\Uw (YF s).1.2.flatten<=N:=by
 obtain⟨n,j,_,d,c,_,F,_⟩:=Yh g e;refine⟨kW g.1 a d c F,?_⟩;by_cases b:0<UD s.1 j
 ·rw[(F.read b).2.1];exact a
 ·rw[(F.inst (by omega)).2.1];exact TX (dF g.1 (Z1 g.2.2) c b) a
def tQ(u:eG)(x:Int×Bool):eG:=(SC .i64 u.1 1,(u.2.1,(if x.2=true then SC .i64 u.2.2.1 1 else u.2.2.1,zE u.2.2.2 x.1.toNat x.1.toNat)))
def qU(u:eG)(l:List (Int×Bool)):eG:=l.foldl tQ u
end
section
open Go Sv
theorem pX{α β γ:Type}{f:α->Option (LR α β)}{K:β->Option γ}{R:Option γ}(Inv:α->Prop)(Q:β->Prop)(m:α->Nat){s:α}(hs:Inv s)(b:m s<18446744073709551616)
  (step:∀ s,Inv s->(∃ s',f s=some (.nx s')/\Inv s'/\m s'<m s)\/(∃ x,f s=some (.dn x)/\Q x)) (a:∀ x,Q x->K x=R):bd (loop f s) K=R:=by
 obtain⟨x,e,q⟩:=SI Inv Q m hs b step;rw[e];exact a x q
theorem pY{β:Type}(n:Nat)(x y:Unit->Option β):br (neq n 0) x y=if n=0 then x ()else y ():=by
 rw[So]
theorem yf{u:eG}{x:Int×Bool}(h:0<=u.1/\u.1<=1000000):(tQ u x).1=u.1+1:=by
 show SC .i64 u.1 1=_;exact Sb (by omega)
def At(s0:Tb)(g:Int)(T:Tb×((List Int×eG)×Int))(k:Nat)(s:Tb)(l:List Int)(u:eG):Prop:=Gd s0 s/\0<=u.1/\u.1+k=g/\g<=1000000/\(l.length:Int)=u.1/\T=((bT k s).1,((l++(bT k s).2.1.map (·.1),qU u (bT k s).2.1),(bT k s).2.2))
theorem At.step{s0 s:Tb}{g:Int}{T:Tb×((List Int×eG)×Int)}{k:Nat}{l:List Int}{u:eG}(a:At s0 g T (k+1) s l u)(e:YU s=0):At s0 g T k (YF s) (l++[(bh s).1]) (tQ u (bh s)):=by
 obtain⟨c,h,i,d,j,f⟩:=a;obtain⟨_,_,_,_,_,_,_,b⟩:=Yh c e;have m:=yf (x:=bh s) (show 0<=u.1/\u.1<=1000000 by omega);refine⟨b,by omega,by omega,d,by simp;omega,?_⟩;rw[f];simp only[bT,e,ne_eq,not_true_eq_false,if_false,ns,List.append_assoc,List.cons_append,List.nil_append];rfl
theorem At.none{s0 s:Tb}{g:Int}{T:Tb×((List Int×eG)×Int)}{k:Nat}{l:List Int}{u:eG}(a:At s0 g T k s l u)(e:YU s=4):T=(s,((l,u),0)):=by
 rw[a.2.2.2.2.2];cases k<;>simp[bT,e,qU]
theorem At.fail{s0 s:Tb}{g:Int}{T:Tb×((List Int×eG)×Int)}{k:Nat}{l:List Int}{u:eG}(a:At s0 g T (k+1) s l u)(c:YU s≠4)(b:YU s≠0):T=(s,((l,u),YU s)):=by
 rw[a.2.2.2.2.2];simp[bT,c,b,qU]
theorem At.last{s0 s:Tb}{g:Int}{T:Tb×((List Int×eG)×Int)}{l:List Int}{u:eG}(a:At s0 g T 0 s l u):T=(s,((l,u),0)):=by
 rw[a.2.2.2.2.2];simp[bT,qU]
theorem az{β:Type}{a b:Nat}(h:a<b)(k:Unit->Option β):gd (KI a b) k=k ():=by
 have:KI a b=true:=by unfold KI;simpa using h
 rw[this];rfl
end
section
open Go Sv
end
section
open Go Sv
theorem uL{s t:Tb}{n:Nat}{j:Job}{b:Bool}(v:VSt s)(F:StepF s n j t b){i:Nat}(a:i≠n)(f:(Th s.1.2 i).length=2):Th t.1.2 i=Th s.1.2 i/\Ul t.2.1 (i:Int)=Ul s.2.1 (i:Int):=by
 by_cases g:0<UD s.1 j
 ·obtain⟨_,e1,_,e2⟩:=F.read g;exact⟨by rw[e1],by rw[e2,if_neg a]⟩
 ·obtain⟨_,e1,_,e2,e3,e4⟩:=F.inst (by omega)
  have e:¬ (Uq j≠[]/\i=Ym s j):=λ⟨c,hi⟩=>by
   rcases e3 with e3|⟨e3,_,e5⟩
   ·exact a (by rw[hi,e3])
   ·have:=e5 c;rw[<- e3,<- hi]at this;omega
  have c:Th t.1.2 i=Th s.1.2 i:=by rw[e2,if_neg e,if_neg a]
  refine⟨c,?_⟩;obtain⟨j',d⟩:=v.hasJob f;rw[e4,c,if_pos f,if_neg a,d];rfl
theorem uM{s0 s:Tb}(g:Gd s0 s)(e:YU s=0){i:Nat}(b:(Th s.1.2 i).length=2)(f:bh s≠((i:Int),true)):(Th (YF s).1.2 i).length=2:=by
 obtain⟨n,j,d,k,h,hc,F,_⟩:=Yh g e;by_cases a:i=n
 ·subst a;by_cases c:0<UD s.1 j
  ·rw[(F.read c).2.1];exact b
  ·exact absurd (Prod.ext d (F.inst (by omega)).1) f
 ·rw[(uL g.1 F a b).1];exact b
def dY(a:Int):Nat->Nat->Tb->Int×Int
 |0,_,_=>(0,0)
 |k+1,n,s=>if YU s≠0 then(0,YU s)else if bh s=(a,true)then(((n+1:Nat):Int),0)else dY a k (n+1) (YF s)
def NAt(s0:Tb)(a:Int)(T:Int×Int)(k n:Nat)(s:Tb):Prop:=Gd s0 s/\si 2000 s<k/\n+k<=60000/\T=dY a k n s /\ ∃ i:Nat,a=(i:Int)/\(Th s.1.2 i).length=2
theorem NAt.fail{s0 s:Tb}{d:Int}{T:Int×Int}{k n:Nat}(a:NAt s0 d T k n s)(e:YU s≠0):T=(0,YU s):=by
 obtain⟨_,f,_,c,_⟩:=a;obtain⟨b,rfl⟩:∃ b,k=b+1:=⟨k-1,by omega⟩;rw[c];simp[dY,e]
theorem NAt.hit{s0 s:Tb}{c:Int}{T:Int×Int}{k n:Nat}(a:NAt s0 c T k n s)(e:YU s=0)(h:bh s=(c,true)):T=(((n+1:Nat):Int),0):=by
 obtain⟨_,f,_,d,_⟩:=a;obtain⟨b,rfl⟩:∃ b,k=b+1:=⟨k-1,by omega⟩;rw[d];simp[dY,e,h]
theorem NAt.next{s0 s:Tb}{d:Int}{T:Int×Int}{k n:Nat}(a:NAt s0 d T k n s)(e:YU s=0)(h:bh s≠(d,true)):∃ b,k=b+1/\NAt s0 d T b (n+1) (YF s)/\si 2000 (YF s)<si 2000 s:=by
 obtain⟨c,m,o,j,i,f,l⟩:=a;obtain⟨b,rfl⟩:∃ b,k=b+1:=⟨k-1,by omega⟩;obtain⟨_,_,_,_,_,_,_,g⟩:=Yh c e;have p:=(gW c c.2.2 e).1;refine⟨b,rfl,⟨g,by omega,by omega,?_,i,f,uM c e l (by rw[<- f];exact h)⟩,by omega⟩;rw[j];simp[dY,e,h]
end
section
open Go Sv
set_option maxRecDepth 1000000
end
end Go.Proofs.YtggceepiljjadaaGreat.Pl
