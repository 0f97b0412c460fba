/- Functions of the program and of the specification as plain functions, and laws about them. No condition. -/
import Derived.Test.YtfipnhjfbebeiabGreatDoorPl2
import Derived.KernelRfl
set_option linter.all false
open List renaming all_eq_false->xr, flatten_cons->li, getElem?_eq_some_iff->a8, getElem?_of_mem->eo, length_cons->ci, length_nil->co, map_append->oj, mem_of_getElem?->bo, mem_of_mem_take->nn, sum_append->zr, take_add_one->gM
open Nat renaming le_refl->dc, zero_add->ee
open Int renaming mul_comm->aac, mul_left_comm->yb, pow_pos->aaf, pow_succ->aad
open Bool renaming true_and->Te
namespace Go.Proofs.YtfipnhjfbebeiabGreatDoor.Pl
section
open Go Sv
theorem ug {s t:Th} {n:Nat} {j:Job} {b:Bool} (v:VSt s) (F:StepF s n j t b) {i:Nat} (a:i≠n) (f:(To s.1.2 i).length=2):To t.1.2 i=To s.1.2 i/\Uj t.2.1 (i:Int)=Uj s.2.1 (i:Int):=by
 by_cases g:0<UA s.1 j
 ·obtain ⟨_,e1,_,e2⟩:=F.read g;exact ⟨by rw [e1],by rw [e2,if_neg a]⟩
 ·obtain ⟨_,e1,_,e2,e3,e4⟩:=F.inst (by omega)
  have e : ¬ (Ur j≠[]/\i=Ya s j):=λ⟨c,hi⟩=>by
   rcases e3 with e3 | ⟨e3,_,e5⟩
   ·exact a (by rw [hi,e3])
   ·have:=e5 c;rw [<- e3,<- hi] at this;omega
  have c:To t.1.2 i=To s.1.2 i:=by rw [e2,if_neg e,if_neg a]
  refine ⟨c,?_⟩;obtain ⟨j',d⟩:=v.hasJob f;rw [e4,c,if_pos f,if_neg a,d];rfl
theorem uh {s0 s:Th} (g:Gd s0 s) (e:Vd s=0) {i:Nat} (b:(To s.1.2 i).length=2) (f:bJ s≠((i:Int),true)):(To (YM s).1.2 i).length=2:=by
 obtain ⟨n,j,d,k,h,hc,F,_⟩:=Wb g e;by_cases a:i=n
 ·subst a;by_cases c:0<UA s.1 j
  ·rw [(F.read c).2.1];exact b
  ·exact absurd (Prod.ext d (F.inst (by omega)).1) f
 ·rw [(ug g.1 F a b).1];exact b
def dJ (a:Int):Nat->Nat->Th->Int×Int
 | 0,_,_=>(0,0)
 | k+1,n,s=>if Vd s≠0 then (0,Vd s) else if bJ s=(a,true) then (((n+1:Nat):Int),0) else dJ a k (n+1) (YM s)
theorem aC {s:Th} (v:VSt s):Yb 2000 s<=48024:=by
 have b:=kG 2000 v;have a:=cz v.lev;have:=Nat.mul_le_mul_right 2001 a;omega
def NAt (s0:Th) (a:Int) (T:Int×Int) (k n:Nat) (s:Th):Prop:=Gd s0 s/\Yb 2000 s<k/\n+k<=60000/\T=dJ a k n s /\ ∃ i:Nat,a=(i:Int)/\(To s.1.2 i).length=2
theorem NAt.fail {s0 s:Th} {d:Int} {T:Int×Int} {k n:Nat} (a:NAt s0 d T k n s) (e:Vd s≠0):T=(0,Vd s):=by
 obtain ⟨_,f,_,c,_⟩:=a;obtain ⟨b,rfl⟩ : ∃ b,k=b+1:=⟨k-1,by omega⟩;rw [c];simp [dJ,e]
theorem NAt.hit {s0 s:Th} {c:Int} {T:Int×Int} {k n:Nat} (a:NAt s0 c T k n s) (e:Vd s=0) (h:bJ s=(c,true)):T=(((n+1:Nat):Int),0):=by
 obtain ⟨_,f,_,d,_⟩:=a;obtain ⟨b,rfl⟩ : ∃ b,k=b+1:=⟨k-1,by omega⟩;rw [d];simp [dJ,e,h]
theorem NAt.next {s0 s:Th} {d:Int} {T:Int×Int} {k n:Nat} (a:NAt s0 d T k n s) (e:Vd s=0) (h:bJ s≠(d,true)) : ∃ b,k=b+1/\NAt s0 d T b (n+1) (YM s)/\Yb 2000 (YM s)<Yb 2000 s:=by
 obtain ⟨c,m,o,j,i,f,l⟩:=a;obtain ⟨b,rfl⟩ : ∃ b,k=b+1:=⟨k-1,by omega⟩;obtain ⟨_,_,_,_,_,_,_,g⟩:=Wb c e;have p:=(aR c c.2.2 e).1;refine ⟨b,rfl,⟨g,by omega,by omega,?_,i,f,uh c e l (by rw [<- f];exact h)⟩,by omega⟩;rw [j];simp [dJ,e,h]
end
section
open Go Sv
theorem gD {b:Int} (a:1<=b/\b<=16) {k:Nat} (c:k<=11):1<=b*2 ^ k/\b*2 ^ k<=32768:=by
 have:k=0\/k=1\/k=2\/k=3\/k=4\/k=5\/k=6\/k=7\/k=8\/k=9\/k=10\/k=11:=by omega
 rcases this with rfl | rfl | rfl | rfl | rfl | rfl | rfl | rfl | rfl | rfl | rfl | rfl<;>simp<;>omega
def cD (n:Int):Bool:=decide (0<=n)&&decide (n<=1000000000)
theorem kU (b:Int) (l:List Int) (u:l.length<1000):Vs (b,l)=some (decide (1<=b)&&decide (b<=16)&&l.all cD):=by
 unfold Vs;simp only [TP,TM];by_cases j:b<1
 ·rw [if_pos j];simp [show ¬ (1:Int)<=b by omega]
 rw [if_neg j];by_cases m:b>16
 ·rw [if_pos m];simp [show ¬ b<=16 by omega]
 rw [if_neg m];simp only [show (1:Int)<=b by omega,show b<=16 by omega,decide_true,Te]
 obtain ⟨x,e,q⟩:=SM (β:=Nat×(Int×Bool)×Unit) (λs:Int×Bool=>s.2=false /\ ∃ k:Nat,s.1=k/\k<=l.length/\(l.take k).all cD=true)
  (λx=>(x.1=0/\l.all cD=false/\x.2.1.2=false)\/(x.1=1/\l.all cD=true)) (λs=>(l.length-s.1.toNat)) (s:=(0,false))
  (f:=(λs0=>if s0.1<(Ki (AS l)) then (R1 s0.1 λr=>ix l r λo=>if o<0 then (some (.dn ((0,((s0.1,false),()))))) else if o>1000000000 then (some (.dn ((0,((s0.1,false),()))))) else some (.nx (SF .i64 s0.1 1,s0.2))) else some (.dn ((1,(s0,())))))) ⟨rfl,0,rfl,by omega,rfl⟩ (by omega) (by
   rintro ⟨i,c⟩ ⟨hc,k,hi,t,n⟩;simp only at hc hi;subst hc;subst hi;simp only [Ki,AS];by_cases h:(k:Int)<(l.length:Int)
   ·rw [if_pos h,Sk (by omega)];have g:k<l.length:=by omega
    rw [TC (x:=l[k]) (by simp [g])];by_cases d:l[k]<0
    ·rw [if_pos d];refine .inr ⟨_,rfl,.inl ⟨rfl,?_,rfl⟩⟩;rw [xr];exact ⟨l[k],by simp,by simp [cD];omega⟩
    rw [if_neg d];by_cases a:l[k]>1000000000
    ·rw [if_pos a];refine .inr ⟨_,rfl,.inl ⟨rfl,?_,rfl⟩⟩;rw [xr];exact ⟨l[k],by simp,by simp [cD];omega⟩
    rw [if_neg a];refine .inl ⟨_,rfl,⟨rfl,k+1,?_,by omega,?_⟩,?_⟩
    ·show SF .i64 (k:Int) 1=_;rw [Sh (by omega)];simp
    ·rw [gM,List.all_append,n];simp [g,cD];omega
    ·show l.length-(SF .i64 (k:Int) 1).toNat<_;rw [Sh (by omega)];omega
   ·rw [if_neg h];refine .inr ⟨_,rfl,.inr ⟨rfl,?_⟩⟩;have:k=l.length:=by omega
    subst this
    simpa using n)
 rw [e,Sx,Sy];rcases q with ⟨d,a,p⟩ | ⟨d,a⟩
 ·rw [if_pos d,a,p]
 ·rw [if_neg (by omega),a]
def jU (b w:Int):Nat->Nat
 | 0=>0
 | k+1=>jU b w k+if b*2 ^ k<w then 1 else 0
theorem si (b w:Int) : ∀ k,jU b w k<=k
 | 0=>dc _
 | k+1=>by have:=si b w k;unfold jU;split<;>omega
theorem cm {b w:Int} (f:1<=b) {k:Nat} (h : ¬ b*2 ^ k<w) : ∀ d,jU b w (k+d)=jU b w k
 | 0=>rfl
 | d+1=>by
  have g:=cm f h d;show jU b w (k+d)+(if b*2 ^ (k+d)<w then 1 else 0)=_
  have : ¬ b*2 ^ (k+d)<w:=by
   have a:(2:Int) ^ (k+d)=2 ^ k*2 ^ d:=Int.pow_add ..
   have c:(1:Int)<=2 ^ d:=by
    have:=aaf (n:=2) (m:=d) (by omega);omega
   have e:0<b*2 ^ k:=Int.mul_pos (by omega) (aaf (by omega));rw [a,<- Int.mul_assoc];have:=Int.mul_le_mul_of_nonneg_left c (Int.le_of_lt e);rw [Int.mul_one] at this;omega
  rw [if_neg this];omega
theorem uq {b n:Int} (d:1<=b/\b<=16) (j:0<=n/\n<=11):ZR (b,n)=some (b*2 ^ n.toNat):=by
 unfold ZR;simp only [TP]
 obtain ⟨x,e,g⟩:=SM (β:=Nat×(Int×Int)×Unit) (λs:Int×Int => ∃ k:Nat,s.2=k/\(k:Int)<=n/\s.1=b*2 ^ k)
  (λx=>x.2.1.1=b*2 ^ n.toNat) (λs=>(n-s.2).toNat) (s:=(b,0))
  (f:=(λs0=>if s0.2<n then (some (.nx (SG .i64 2 s0.1,SF .i64 s0.2 1))) else some (.dn ((0,(s0,())))))) ⟨0,rfl,by omega,by simp⟩ (by simp only;omega) (by
   rintro ⟨v,i⟩ ⟨k,hi,h,c⟩;simp only at hi c ⊢;subst hi;by_cases a:(k:Int)<n
   ·rw [if_pos a];have:=gD d (k:=k) (by omega);refine .inl ⟨_,rfl,⟨k+1,?_,by omega,?_⟩,?_⟩
    ·show SF .i64 (k:Int) 1=_;rw [Sh (by omega)];simp
    ·show SG .i64 2 v=_;rw [Si (by omega),c,aad];generalize (2:Int) ^ k=p;rw [yb,aac 2 p]
    ·show (n-SF .i64 (k:Int) 1).toNat<(n-k).toNat;rw [Sh (by omega)];omega
   ·rw [if_neg a];refine .inr ⟨_,rfl,?_⟩;have:n.toNat=k:=by omega
    rw [this];exact c)
 rw [e,Sx,g]
theorem g9 {b w:Int} (j:1<=b/\b<=16) (o:0<=w/\w<=1000000000):Ve (b,w)=some (if w=0 then 0 else (jU b w 11:Int)+1,0):=by
 unfold Ve;simp only [kU b [w] (by simp),Sx,S0,TP,TK];have:(decide (1<=b)&&decide (b<=16)&&[w].all cD)=true:=by simp [cD];omega
 rw [this,Sc];by_cases d:w=0
 ·rw [if_pos d,if_pos d]
 rw [if_neg d,if_neg d]
 obtain ⟨x,e,m⟩:=SM (β:=Nat×(Int×Int)×Unit) (λs:Int×Int => ∃ k:Nat,k<=11/\s.2=k+1/\s.1=b*2 ^ k/\jU b w k=k)
  (λx=>x.2.1.2=(jU b w 11:Int)+1) (λs=>(12-s.2).toNat) (s:=(b,1))
  (f:=(λs1=>if s1.1<w then (if s1.2<12 then some (.nx (Rb .i64 s1.1 1,SF .i64 s1.2 1)) else some (.dn ((0,(s1,()))))) else some (.dn ((0,(s1,())))))) ⟨0,by omega,by simp,by simp,rfl⟩ (by simp only;omega) (by
   rintro ⟨v,i⟩ ⟨k,l,hi,g,hc⟩;simp only at hi g ⊢;subst hi;have n:=gD j l;by_cases a:v<w
   ·rw [if_pos a]
    have h:jU b w (k+1)=k+1:=by
     show jU b w k+_=_;rw [if_pos (by rw [<- g];exact a),hc]
    by_cases c:((k:Int)+1)<12
    ·rw [if_pos c];refine .inl ⟨_,rfl,⟨k+1,by omega,?_,?_,h⟩,?_⟩
     ·show SF .i64 ((k:Int)+1) 1=_;rw [Sh (by omega)];simp
     ·show Rb .i64 v 1=_;rw [SJ (by omega),g,aad];generalize (2:Int) ^ k=p;rw [yb,aac 2 p]
     ·show (12-SF .i64 ((k:Int)+1) 1).toNat<_;rw [Sh (by omega)];omega
    ·rw [if_neg c];refine .inr ⟨_,rfl,?_⟩;have:k=11:=by omega
     subst this;show ((11:Nat):Int)+1=_;rw [hc]
   ·rw [if_neg a];refine .inr ⟨_,rfl,?_⟩;have:=cm (w:=w) j.1 (k:=k) (by rw [<- g];exact a) (11-k);rw [show k+(11-k)=11 by omega] at this;show (k:Int)+1=_
    rw [this,hc])
 rw [e,Sx,m]
def jd (out:List Int) (k:Bool) (i:Nat):List Int:=if k=true then out else out++[((i+1:Nat):Int)]
def Ze (ks:Nat->Bool):Nat->List Int
 | 0=>[]
 | k+1=>jd (Ze ks k) (ks k) k
theorem dN (ks:Nat->Bool) : ∀ k,(Ze ks k).length<=k
 | 0=>dc _
 | k+1=>by
  have:=dN ks k;unfold Ze jd;split
  ·omega
  ·simp;omega
theorem aX {β:Type} {ks:Nat->Bool} {k:Nat} (a:k<5) (c:Bool) (hc:c=ks k):br (Hg c) (λ_=>gd (CF (BF (AS (Ze ks k)) (AS ([SF .i64 (k:Int) 1]))) 1048576) λ_=>some (LR.nx (β:=β) ((Il (Ze ks k) ([SF .i64 (k:Int) 1]),SF .i64 (k:Int) 1)))) (λ_=>some (.nx (Ze ks k,SF .i64 (k:Int) 1)))=some (.nx (Ze ks (k+1),((k+1:Nat):Int))):=by
 have:=dN ks k;rw [Tu (by omega),Ua (by simp only [BF,AS,ci,co];omega),US,TV,hc];have e:Ze ks (k+1)=jd (Ze ks k) (ks k) k:=rfl;rw [e];unfold jd;by_cases h:ks k=true
 ·rw [if_pos h,if_pos h]
 ·rw [if_neg h,if_neg h];rfl
def YN (B:Int) (i:Nat) (r:UN):Bool:=decide ((r.2.length:Int)<=Uo B (i-1))
def cf (B:Int) (i:Nat) (rs:List UN):Bool:=decide (i≠0/\rs.length=2)&&rs.all (YN B i)
def ZD (B:Int):Nat->List (List UN)->Bool
 | _,[]=>true
 | i,rs::ls => !cf B i rs&&ZD B (i+1) ls
theorem bc {L:Tl} (v:VLev L):(loop (λa=>br (S8 a.2 (Ki (AS L.2))) (λ_=>R1 a.2 λo=>ix L.2 o λd=>br (Oa a.2 0) (λ_=>some (.nx (a.1,SF .i64 a.2 1))) λ_=>br (S8 (Ki (AS d)) 2) (λ_=>some (.nx (a.1,SF .i64 a.2 1))) λ_=>bd (loop (λb=>br (S8 b (Ki (AS d))) (λ_=>R1 b λc=>ix d c λe=>gd (Rx (SK .i64 a.2 1) 0) λ_=>br (S6 (Ki (AS e.2)) (Rb .i64 L.1 (SK .i64 a.2 1))) (λ_=>some (.dn (((0:Nat),(b,()))))) λ_=>some (.nx (SF .i64 b 1))) λ_=>some (.dn ((1,(b,()))))) 0) λq=>br (neq q.1 0) (λ_=>some (.nx (a.1,SF .i64 a.2 1))) λ_=>some (.nx (false,SF .i64 a.2 1))) λ_=>some (.dn (((0:Nat),(a,()))))) (true,0))=some (0,((ZD L.1 0 L.2,(L.2.length:Int)),())):=by
 have D:=v.len;simp only [Tq,Tn]
 refine Ut (l:=L.2) (σ:=Bool) (s:=(true,(0:Int))) (λi g=>(g,(i:Int))) (λls i g=>(g&&ZD L.1 i ls)=ZD L.1 0 L.2) (λ_ _ _=>(0,((ZD L.1 0 L.2,(L.2.length:Int)),()))) true rfl (by omega) rfl (λg h=>by
  simp only;rw [re,R7,<- h];simp [ZD]) (λi rs ls g hd hi n h => ?_)
 have C:=v.two rs (bo hi);have E:=(v.lev i rs hi).2;refine ⟨g && !cf L.1 i rs,?_,by rw [<- h];simp [ZD,Bool.and_assoc],rfl⟩;simp only;rw [rl n,Sc,Ti,TC hi,TK,Tv hi (by omega)];by_cases t:i=0
 ·rw [if_pos (by omega)];have:cf L.1 i rs=false:=by unfold cf;simp [t]
  rw [this];simp
 rw [if_neg (by omega),TP];by_cases u:rs.length=2;rotate_left
 ·rw [if_pos (by omega)];have:cf L.1 i rs=false:=by unfold cf;simp [u]
  rw [this];simp
 rw [if_neg (by omega)]
 have hs:Rb .i64 L.1 (SK .i64 (i:Int) 1)=Uo L.1 (i-1):=by
  rw [Sj (by omega),show (i:Int)-1=((i-1:Nat):Int) by omega];exact ZI v.B1 v.B2 (by omega)
 have y:Rx (SK .i64 (i:Int) 1) 0=true:=by rw [Sj (by omega)];unfold Rx;simp;omega
 simp only [hs,y];have w:cf L.1 i rs=rs.all (YN L.1 i):=by unfold cf;simp [t,u]
 rw [w]
 obtain ⟨r,B,j⟩:=Wg (l:=rs) (σ:=Unit) (s:=(0:Int)) (λk _=>(k:Int)) (λm _ _=>m.all (YN L.1 i)=rs.all (YN L.1 i)) (λ(r:Nat×(Int×Unit))=>(r.1=0/\rs.all (YN L.1 i)=false)\/(r.1=1/\rs.all (YN L.1 i)=true))
  (f:=λb=>br (S8 b (rs.length:Int)) (λ_=>R1 b λc=>ix rs c λe=>gd true λ_=>br (S6 (e.2.length:Int) (Uo L.1 (i-1))) (λ_=>some (.dn ((0,(b,()))))) λ_=>some (.nx (SF .i64 b 1))) λ_=>some (.dn ((1,(b,())))))
  () rfl (by omega) rfl (λ_ h=>⟨_,by rw [re];rfl,.inr ⟨rfl,by rw [<- h];rfl⟩⟩) (λk x m _ hd A z h=>by
   rw [rl z,Sc,Ti,TC A,gO,TM,Tu (by omega)];rw [List.all_cons] at h;by_cases hs:(x.2.length:Int)>Uo L.1 (i-1)
   ·rw [if_pos hs];have:YN L.1 i x=false:=by unfold YN;simp;omega
    rw [this] at h;exact .inr ⟨_,rfl,.inl ⟨rfl,by rw [<- h];rfl⟩⟩
   ·rw [if_neg hs];have:YN L.1 i x=true:=by unfold YN;simp;omega
    rw [this,Te] at h
    exact .inl ⟨(),rfl,h⟩)
 refine UI B ?_;rw [Sy];rcases j with ⟨j,p⟩ | ⟨j,p⟩
 ·rw [if_pos j,p];simp
 ·rw [if_neg (by omega),p];simp
end
section
open Go Sv
theorem f9 (l:List Tj) (b:Bool) (m:b=false) : ∃ r,loop (β:=Nat×((Int×Bool)×Unit)) (λa=>br (S8 a.1 (l.length:Int)) (λ_=>br (S8 a.1 50) (λ_=>R1 a.1 λn=>ix l n λi=>br (S6 (Mj i.1:Int) 100) (λ_=>some (.dn ((0,((a.1,true),()))))) λ_=>R1 a.1 λg=>ix l g λj=>br (S6 (Mj j.2.1:Int) 100) (λ_=>some (.dn ((0,((a.1,true),()))))) λ_=>some (.nx (SF .i64 a.1 1,a.2))) λ_=>some (.dn ((1,(a,()))))) λ_=>some (.dn ((1,(a,()))))) ((0:Int),b)=some r/\((r.1=1/\r.2.1.2=false)\/(r.1=0/\r.2.1.2=true)):=by
 subst m
 exact Y7 (l:=l) (σ:=Unit) 50 (by omega) (λk _=>((k:Int),false)) (λ_ _=>True) (λ(r:Nat×((Int×Bool)×Unit))=>(r.1=1/\r.2.1.2=false)\/(r.1=0/\r.2.1.2=true)) () rfl trivial (λk _ h d _=>⟨_,(jk (c:=50) h d _ _ _ rfl),.inl ⟨rfl,rfl⟩⟩) (λk x _ f d _=>by
  simp only;have e:=(a8.1 f).1;rw [rl e,Sc,show S8 (k:Int) 50=true from dE d,Sc,Ti,TC f,TM,Ti,TC f,TM,Tu (by omega)]
  repeat' split
  all_goals first | exact .inr ⟨_,rfl,.inr ⟨rfl,rfl⟩⟩ | exact .inl ⟨(),rfl,trivial⟩)
def wP (n:Int) (rs:List UN):Prop:=0<=n/\n<=1000000000 /\ ∀ r∈rs,r.2.length<=5000
theorem cp {rs:List UN} {k:Nat} (h : ∀ r∈rs,r.2.length<=5000) (d:k<=20):UH (rs.take k)<=100000:=by
 have b:=bx (l:=rs.take k) λr a=>h r (nn a);have c:(rs.take k).length<=k:=by rw [List.length_take];omega
 omega
theorem iN {L:List (List UN)} {i:Nat} {rs:List UN} (hi:L[i]? = some rs) (n:Int) (b:Bool) (B:b=false) : ∃ r,loop (β:=Nat×((Int×(Int×Bool))×Unit)) (λs1=>R1 (i:Int) λC=>ix L C λI=>br (S8 s1.2.1 (I.length:Int)) (λ_=>br (S8 s1.2.1 9) (λ_=>R1 (i:Int) λD=>ix L D λJ=>R1 s1.2.1 λE=>ix J E λf=>bd (loop (λa=>br (S8 a.1 (f.2.length:Int)) (λ_=>br (S8 a.1 50) (λ_=>R1 a.1 λF=>ix f.2 F λw=>br (S6 (Mj w.1:Int) 100) (λ_=>some (.dn (((0:Nat),((a.1,true),()))))) λ_=>R1 a.1 λt=>ix f.2 t λy=>br (S6 (Mj y.2.1:Int) 100) (λ_=>some (.dn ((0,((a.1,true),()))))) λ_=>some (.nx (SF .i64 a.1 1,a.2))) λ_=>some (.dn ((1,(a,()))))) λ_=>some (.dn ((1,(a,()))))) ((0:Int),s1.2.2)) λe=>br (neq e.1 0) (λ_=>some (.dn ((1,((SF .i64 s1.1 (f.2.length:Int),(s1.2.1,e.2.1.2)),()))))) λ_=>some (.nx ((SF .i64 s1.1 (f.2.length:Int),(SF .i64 s1.2.1 1,e.2.1.2))))) λ_=>some (.dn ((0,(s1,()))))) λ_=>some (.dn ((0,(s1,()))))) (n,((0:Int),b))=some r/\((r.1=0/\r.2.1.2.2=false/\(rs.length<=8->wP n rs->r.2.1.1=n+(UH rs:Int)))\/(r.1=1/\r.2.1.2.2=true)):=by
 subst B
 exact Y7 (l:=rs) (σ:=Int) 9 (by omega) (λk m=>(m,((k:Int),false))) (λk m=>wP n rs->m=n+(UH (rs.take k):Int)) (λ(r:Nat×((Int×(Int×Bool))×Unit))=>(r.1=0/\r.2.1.2.2=false/\(rs.length<=8->wP n rs->r.2.1.1=n+(UH rs:Int)))\/(r.1=1/\r.2.1.2.2=true)) n rfl (λ_=>by simp [UH]) (λk m h p o=>⟨_,by
  rw [Ti,TC hi];exact (jk (c:=9) h p _ _ _ rfl),.inl ⟨rfl,rfl,λP d=>by
   have q:k=rs.length:=by omega
   subst q;have:=o d;rw [List.take_length] at this
   exact this⟩⟩) (λk x m g p o=>by
  simp only;have s:=(a8.1 g).1;obtain ⟨r,G,j⟩:=f9 x.2 false rfl;rw [Ti,TC hi,rl s,Sc,show S8 (k:Int) 9=true from dE p,Sc,Ti,TC hi,Ti,TC g,G,Sx,Sy,Tu (by omega)];rcases j with ⟨j,u⟩ | ⟨j,u⟩
  ·rw [if_neg (by omega),u];refine .inl ⟨_,rfl,λd => ?_⟩;have z:=o d
   have A:UH (rs.take (k+1))=UH (rs.take k)+x.2.length:=by
    rw [gM,g,U4];simp [UH]
   have K:=d.2.2 x (bo g);have M:=cp (k:=k) d.2.2 (by omega);have N:=d.1;have O:=d.2.1;show SF .i64 m (x.2.length:Int)=_;rw [Sh (by omega),z,A];omega
  ·rw [if_pos j,u];exact .inr ⟨_,rfl,.inr ⟨rfl,rfl⟩⟩)
theorem jo (s:Th) (o : ∀ rs∈s.1.2,∀ r∈rs,r.2.length<=9223372036854775807) : ∃ b,YB s=some b/\(b=false->Sm s/\(VLev s.1->UH s.1.2.flatten<=40)):=by
 unfold YB;simp only [Tq,Tn]
 obtain ⟨r,Z,u⟩:=Y7 (l:=s.1.2) (σ:=Int) (s:=((0:Int),(false,(0:Int)))) 20 (by omega) (λk n=>(n,(false,(k:Int)))) (λk n=>(∀ i rs,i<k->s.1.2[i]? = some rs->rs.length<=8)/\(VLev s.1->n=(UH (s.1.2.take k).flatten:Int))) (λ(r:Nat×((Int×(Bool×Int))×Unit))=>(r.1=0/\r.2.1.2.1=false/\(∀ i rs,i<20->s.1.2[i]? = some rs->rs.length<=8)/\(VLev s.1->s.1.2.length<=15->r.2.1.1=(UH s.1.2.flatten:Int)))\/(r.1=1/\r.2.1.2.1=true))
  (f:=λs0=>br (S8 s0.2.2 (s.1.2.length:Int)) (λ_=>br (S8 s0.2.2 20) (λ_=>bd (loop (λs1=>R1 s0.2.2 λk2=>ix s.1.2 k2 λx3=>br (S8 s1.2.1 (x3.length:Int)) (λ_=>br (S8 s1.2.1 9) (λ_=>R1 s0.2.2 λk4=>ix s.1.2 k4 λx5=>R1 s1.2.1 λk6=>ix x5 k6 λL=>bd (loop (λq=>br (S8 q.1 (L.2.length:Int)) (λ_=>br (S8 q.1 50) (λ_=>R1 q.1 λk9=>ix L.2 k9 λx10=>br (S6 (Mj x10.1:Int) 100) (λ_=>some (.dn (((0:Nat),((q.1,true),()))))) λ_=>R1 q.1 λW=>ix L.2 W λx12=>br (S6 (Mj x12.2.1:Int) 100) (λ_=>some (.dn ((0,((q.1,true),()))))) λ_=>some (.nx (SF .i64 q.1 1,q.2))) λ_=>some (.dn ((1,(q,()))))) λ_=>some (.dn ((1,(q,()))))) ((0:Int),s1.2.2)) λF=>br (neq F.1 0) (λ_=>some (.dn (((1:Nat),((SF .i64 s1.1 (L.2.length:Int),(s1.2.1,F.2.1.2)),()))))) λ_=>some (.nx ((SF .i64 s1.1 (L.2.length:Int),(SF .i64 s1.2.1 1,F.2.1.2))))) λ_=>some (.dn ((0,(s1,()))))) λ_=>some (.dn ((0,(s1,()))))) ((s0.1,((0:Int),s0.2.1)))) λp=>br (neq p.1 0) (λ_=>R1 s0.2.2 λX=>ix s.1.2 X λx16=>br (S6 (x16.length:Int) 8) (λ_=>some (.dn (((1:Nat),((p.2.1.1,(true,s0.2.2)),()))))) λ_=>some (.nx ((p.2.1.1,(p.2.1.2.2,SF .i64 s0.2.2 1))))) λ_=>some (.dn ((1,((p.2.1.1,(p.2.1.2.2,s0.2.2)),()))))) λ_=>some (.dn ((0,(s0,()))))) λ_=>some (.dn ((0,(s0,())))))
  0 rfl ⟨λi rs h=>by omega,λ_=>by simp [UH]⟩ (λk n h t I=>⟨_,(jk (c:=20) h t _ _ _ rfl),.inl ⟨rfl,rfl,λi rs hi o=>I.1 i rs (by have:=(a8.1 o).1;omega) o,λB h15=>by
   have:=I.2 B;rw [List.take_of_length_le (by omega)] at this
   exact this⟩⟩) (λk rs n o t I=>by
   simp only;have z:=(a8.1 o).1;obtain ⟨r,Z,u⟩:=iN o n false rfl;rw [rl z,Sc,show S8 (k:Int) 20=true from dE t,Sc,Z,Sx,Sy,Ti,TC o,TM,Tu (by omega)];rcases u with ⟨u,E,q4⟩ | ⟨u,E⟩
   ·rw [if_pos u];by_cases P:(rs.length:Int)>8
    ·rw [if_pos P];exact .inr ⟨_,rfl,.inr ⟨rfl,rfl⟩⟩
    ·rw [if_neg P,E];refine .inl ⟨_,rfl,λi rs' hi C => ?_,λB => ?_⟩
     ·by_cases h:i=k
      ·subst h;rw [o] at C;cases C;omega
      ·exact I.1 i rs' (by omega) C
     ·have w:=I.2 B
      have A : ∀ l:List (List UN),(∀ rs∈l,rs∈s.1.2) -> ∀ r∈l.flatten,r.2.length<=5000:=λl hl r S=>by
       obtain ⟨rs1,h3,h4⟩:=List.mem_flatten.1 S;obtain ⟨i,hi⟩:=eo (hl rs1 h3);have N:r∈To s.1.2 i:=by unfold To;rw [hi];exact h4
       exact ((B.own i).2 r N).vl.len
      have M:UH (s.1.2.take (k+1)).flatten=UH (s.1.2.take k).flatten+UH rs:=by
       rw [gM,o,List.flatten_append,U4];simp
      have h3:=cp (k:=20) (rs:=(s.1.2.take k).flatten) (A _ λrs h=>nn h)
      have h4:(s.1.2.take k).flatten.length<=1000:=by
       have N : ∀ l:List (List UN),(∀ rs∈l,rs.length<=2)->l.flatten.length<=2*l.length:=by
        intro l
        induction l with
        | nil=>intro _;simp
        | cons x l ih =>
         intro h;have h6:=h x (by simp);have h7:=ih λy C=>h y (by simp [C]);simp only [li,List.length_append,ci];omega
       have:=N (s.1.2.take k) λrs h=>B.two rs (nn h);have P:(s.1.2.take k).length<=20:=by simp;omega
       omega
      have N:=bx (A (s.1.2.take k) λrs h=>nn h);have h6:wP n rs:=⟨by omega,by omega,λr S=>A [rs] (λx U=>by rw [List.mem_singleton.1 U];exact bo o) r (by simpa using S)⟩;show r.2.1.1=_;rw [q4 (by omega) h6,w,M];omega
   ·rw [if_neg (by omega),E];exact .inr ⟨_,rfl,.inr ⟨rfl,rfl⟩⟩)
 refine (λh=>h) ?_;have fin : ∀ {K:(Nat×((Int×(Bool×Int))×Unit))->Option Bool},(∃ b,K r=some b/\(b=false->Sm s/\(VLev s.1->UH s.1.2.flatten<=40))) -> ∀ {m:Option (Nat×((Int×(Bool×Int))×Unit))},m=some r -> ∃ b,bd m K=some b/\(b=false->Sm s/\(VLev s.1->UH s.1.2.flatten<=40)):=λh _ e=>by subst e;exact h
 refine fin ?_ Z;rw [Sy];rcases u with ⟨u,E,q4,q5⟩ | ⟨u,E⟩
 rotate_left
 ·rw [if_neg (by omega),E];exact ⟨_,rfl,λh=>by cases h⟩
 rw [if_pos u,E]
 obtain ⟨r2,p1,O⟩:=Y7 (l:=s.2.1) (σ:=Unit) (s:=(false,(0:Int))) 20 (by omega) (λk _=>(false,(k:Int))) (λ_ _=>True) (λ(r:Nat×((Bool×Int)×Unit))=>r.1=1\/(r.1=0/\r.2.1.1=true))
  (f:=λa=>br (S8 a.2 (s.2.1.length:Int)) (λ_=>br (S8 a.2 20) (λ_=>R1 a.2 λY=>ix s.2.1 Y λg=>br (S6 (g.2.1.1.length:Int) 20) (λ_=>some (.dn ((0,((true,a.2),()))))) λ_=>br (S6 (g.2.1.2.1.length:Int) 100) (λ_=>some (.dn ((0,((true,a.2),()))))) λ_=>br (S6 (g.2.1.2.2.1.length:Int) 100) (λ_=>some (.dn ((0,((true,a.2),()))))) λ_=>br (S6 (g.2.1.2.2.2.1.length:Int) 100) (λ_=>some (.dn ((0,((true,a.2),()))))) λ_=>bd (loop (λd=>br (S8 d.1 (g.2.1.1.length:Int)) (λ_=>R1 d.1 λD=>ix g.2.1.1 D λG=>some (.nx ((SF .i64 d.1 1,SF .i64 d.2 (G.length:Int))))) λ_=>some (.dn (((0:Nat),(d,()))))) (((0:Int),(g.2.2.2.1.length:Int)))) λr24=>br (S6 r24.2.1.2 200) (λ_=>some (.dn ((0,((true,a.2),()))))) λ_=>some (.nx (a.1,SF .i64 a.2 1))) λ_=>some (.dn ((1,(a,()))))) λ_=>some (.dn ((1,(a,())))))
  () rfl trivial (λk _ h t _=>⟨_,(jk (c:=20) h t _ _ _ rfl),.inl rfl⟩) (λk j _ o t _=>by
   simp only;have z:=(a8.1 o).1;rw [rl z,Sc,show S8 (k:Int) 20=true from dE t,Sc,Ti,TC o,TM];by_cases w:(j.2.1.1.length:Int)>20
   ·rw [if_pos w];exact .inr ⟨_,rfl,.inr ⟨rfl,rfl⟩⟩
   rw [if_neg w]
   obtain ⟨r3,t1,_⟩:=Wg (l:=j.2.1.1) (σ:=Int) (s:=((0:Int),(j.2.2.2.1.length:Int))) (λk n=>((k:Int),n)) (λ_ _ _=>True) (λ(_:Nat×((Int×Int)×Unit))=>True)
    (f:=λd=>br (S8 d.1 (j.2.1.1.length:Int)) (λ_=>R1 d.1 λD=>ix j.2.1.1 D λG=>some (.nx ((SF .i64 d.1 1,SF .i64 d.2 (G.length:Int))))) λ_=>some (.dn (((0:Nat),(d,())))))
    (j.2.2.2.1.length:Int) rfl (by omega) trivial (λn _=>⟨_,by rw [re];rfl,trivial⟩) (λk y m n hd C t _ => .inl ⟨SF .i64 n (y.length:Int),by rw [rl t,Sc,Ti,TC C,Tu (by omega)],trivial⟩)
   rw [t1,Sx,TM,TM,TM,TM,Tu (by omega)]
   repeat' split
   all_goals first | exact .inr ⟨_,rfl,.inr ⟨rfl,rfl⟩⟩ | exact .inl ⟨(),rfl,trivial⟩)
 rw [p1,Sx,Sy];rcases O with O | ⟨O,p3⟩
 rotate_left
 ·rw [if_pos O,p3];exact ⟨_,rfl,λh=>by cases h⟩
 rw [if_neg (by omega),TM,TM];by_cases w:r.2.1.1>40
 ·rw [if_pos w];exact ⟨_,rfl,λh=>by cases h⟩
 rw [if_neg w];by_cases M:(s.1.2.length:Int)>15
 ·rw [if_pos M];exact ⟨_,rfl,λh=>by cases h⟩
 rw [if_neg M];refine ⟨_,rfl,λh=>⟨⟨by omega,λrs J=>⟨?_,o rs J⟩,?_⟩,λB=>by have:=q5 B (by omega);omega⟩⟩
 ·obtain ⟨i,hi⟩:=eo J;have:=q4 i rs (by have:=(a8.1 hi).1;omega) hi;omega
 ·unfold S6 at h;simp at h;omega
end
section
open Go Sv
set_option maxRecDepth 1000000
end
section
open Go Sv
end
section
open Go Sv
end
section
open Go Sv
set_option maxRecDepth 100000
end
section
open Go Sv
end
section
open Go Sv
set_option maxRecDepth 100000
end
section
open Go Sv
set_option maxRecDepth 100000
end
section
open Go Sv
@[reducible] def tE:Ty:=.pair .str (.pair .str (.pair .bool (.int .i64)))
@[reducible] def zZ:Ty:=.pair (.pair (.int .i64) (.sl true (.sl true (.pair (.int .i64) (.sl true tE))))) (.pair (.sl true (.pair (.int .i64) (.pair (.pair (.sl false (.sl true tE)) (.pair (.sl false (.int .i64)) (.pair (.sl true (.pair .str .bool)) (.pair (.sl false (.int .i64)) (.int .i64))))) (.pair (.pair .bool (.pair .str .bool)) (.pair (.sl true tE) (.int .i64)))))) (.int .i64))
theorem uf {s:Th} (h:RG zZ s) : ∀ rs∈s.1.2,∀ r∈rs,r.2.length<=9223372036854775807:=by
 obtain ⟨⟨_,d,c⟩,_⟩:=h;exact λrs b r a=>((c rs b).2 r a).2.1
end
section
open Go Sv
set_option maxRecDepth 100000
end
section
open Go Sv
end
section
open Go Sv
theorem gh {f:Nat->Nat} {n:Nat} : ∀ {m:Nat},n<m->f n<=U2 f m
 | m+1,h=>by
  show f n<=U2 f m+f m;by_cases e:n=m
  ·rw [e];omega
  ·have:=gh (f:=f) (n:=n) (m:=m) (by omega);omega
theorem kI {s:Th} {N:Nat} (v:VSt s) (q:UH s.1.2.flatten<=N) (h:Yb N s=0):s.2.1=[]:=by
 have hd:Tp 0 s.1.2=[]:=by
  cases e:Tp 0 s.1.2 with
  | nil=>rfl
  | cons d l =>
   have p:d∈Tp 0 s.1.2:=by rw [e];simp
   obtain ⟨j,n,c,g,o,k,r⟩:=v.atDue p;have b:n<12:=by have:=v.lev.len;omega
   obtain ⟨u,w,i,t,_⟩:=k.rd;have hc:=gG i
   have a:cQ N s n<=Yb N s:=by
    unfold Yb;exact gh (f:=cQ N s) b
   have m:Uj s.2.1 (n:Int)=some j:=by rw [<- g,<- du v,c]
   unfold cQ kO at a;rw [m,i] at a;simp only [ci,co] at a;omega
 have:=v.due;rw [hd] at this;exact List.map_eq_nil_iff.1 this
theorem pw {s:Th} (v:VSt s) (h:s.2.1=[]):Vd s=4:=by
 have a:(Tk s).2=0:=Ts.2 v;have hd:Tp 0 s.1.2=[]:=by rw [<- v.due,h];rfl
 have e:VG s=(0,4):=by
  unfold VG;rw [if_neg (by simp [a]),if_pos hd]
 unfold Vd;rw [e,if_pos (by decide)]
theorem kc {s:Th} (v:VSt s) (h:s.2.1=[]) : ∀ n,U5 n s=(s,([],0))
 | 0=>rfl
 | n+1=>by unfold U5;rw [if_pos (pw v h)]
theorem iM {s0 s:Th} {N R:Nat} (g:Gd s0 s) (a:UH s.1.2.flatten<=N) (f:Yb N s<=R) (h:(U5 R s).2.2=0):(U5 R s).1.2.1=[]:=by
 obtain ⟨i,j,c,d,e⟩:=ZE (n:=R) g a;by_cases b:(U5 R s).2.1.length<R
 ·exact e h b
 ·exact kI c.1 d (by omega)
end
section
open Go Sv
theorem bn (f:Nat->Nat) : ∀ m,U2 f (m+1)=f 0+U2 (λi=>f (i+1)) m
 | 0=>by simp [U2]
 | m+1=>by
  show U2 f (m+1)+f (m+1)=f 0+(U2 (λi=>f (i+1)) m+f (m+1));rw [bn f m];omega
theorem di {f:Nat->Nat} : ∀ {m:Nat},(∀ i,i<m->f i=0)->U2 f m=0
 | 0,_=>rfl
 | m+1,h=>by
  show U2 f m+f m=0;rw [di λi hi=>h i (by omega),h m (by omega)]
theorem eZ {f g:Nat->Nat} : ∀ {m:Nat},(∀ i,i<m->g i=f i)->U2 g m=U2 f m
 | 0,_=>rfl
 | m+1,h=>by
  show U2 g m+g m=U2 f m+f m;rw [eZ λi hi=>h i (by omega),h m (by omega)]
theorem gK (f:Int->Nat) : ∀ (ls:List (List UN)) (i m:Nat),ls.length<=m->((Tp i ls).map f).sum=U2 (λn=>if (To ls n).length=2 then f ((i+n:Nat):Int) else 0) m
 | [],i,m,_=>(di λn _=>by simp [To]).symm
 | rs::ls,i,0,h=>by simp at h
 | rs::ls,i,m+1,h=>by
  rw [XK,oj,zr,gK f ls (i+1) m (by simpa using h),bn];refine congr (congrArg HAdd.hAdd ?_) (eZ λn _ => ?_)
  ·show _=if rs.length=2 then _ else 0
   by_cases a:rs.length=2
   ·rw [if_pos a,if_pos a];simp
   ·rw [if_neg a,if_neg a];rfl
  ·rw [show i+1+n=i+(n+1) by omega];rfl
def dA (s:Th) (i:Nat):Nat:=match Uj s.2.1 (i:Int) with
 | some j=>UH (To s.1.2 i)-pN j+1
 | none=>0
theorem jl {s:Th} (v:VSt s) (i:Nat):dA s i=if (To s.1.2 i).length=2 then X7 s (i:Int) else 0:=by
 unfold dA X7;rw [du v];by_cases h:(To s.1.2 i).length=2
 ·rw [if_pos h];obtain ⟨j,a⟩:=v.hasJob h;rw [a];obtain ⟨d,e,c,_,b,_⟩:=(v.jobAt a).rd;show UH (To s.1.2 i)-pN j+1=UA s.1 j+1;rw [b,c,VS,VS];simp only [UH,List.map_nil,List.sum_nil];omega
 ·rw [if_neg h,v.noJob h]
theorem cr {s:Th} (v:VSt s):Vr s=U2 (dA s) 12:=by
 unfold Vr;rw [gK _ _ 0 12 v.lev.len];refine eZ λi _ => ?_;rw [jl v,ee]
theorem dz {s:Th} (v:VSt s):Vr s<=UH s.1.2.flatten+s.1.2.length:=by
 unfold Vr
 have e : ∀ (ls:List (List UN)) (i:Nat) (f:Int->Nat),(∀ n,(To ls n).length=2->f ((i+n:Nat):Int)<=UH (To ls n)+1)->((Tp i ls).map f).sum<=UH ls.flatten+ls.length:=by
  intro ls
  induction ls with
  | nil=>intro i f _;simp [Tp]
  | cons rs ls g =>
   intro i f h;have j:=g (i+1) f λn c=>by rw [show i+1+n=i+(n+1) by omega];exact h (n+1) c
   rw [XK,oj,zr,li,U4,ci]
   have k:(((if rs.length=2 then [(i:Int)] else []):List Int).map f).sum<=UH rs+1:=by
    by_cases b:rs.length=2
    ·rw [if_pos b];have d:=h 0 b;have a:f (i:Int)<=UH rs+1:=d;simpa using a
    ·rw [if_neg b];simp
   omega
 refine e _ _ _ λn c => ?_;rw [ee];have:=jl v n;rw [if_pos c] at this;rw [<- this];unfold dA;split
 ·omega
 ·omega
end
section
open Go Sv
end
section
open Go Sv
end
section
open Go Sv
end
section
open Go Sv
end
section
open Go Sv
def Xy (x:(qS×Int)):Option (qS×(Int×Int)) :=
 br (Oa x.2 0) (λ_=>some ((x.1,(0,0)))) λ_=>bd (loop (λ(s0:(qL×((Int×Int)×(Int×(qL×Int)))))=>bd (VA (((s0.1.1,s0.1.2.1),s0.1.2.2))) λc=>br (Oa c.2 4) (λ_=>some (.dn ((0,((s0.1,((1,0),s0.2.2)),()))))) λ_=>br (Oa c.2 0) (λ_=>bd (Uy ((((s0.1.1,s0.1.2.1),s0.1.2.2),c.1))) λb=>br (Ry b.2.2 0) (λ_=>some (.dn ((0,(((0,([],([],0))),((2,b.2.2),s0.2.2)),()))))) λ_=>br (Oa (SK .i64 s0.2.2.2.2 1) 0) (λ_=>some (.dn ((1,(((b.1.1.1,(b.1.1.2,b.1.2)),((0,0),(SF .i64 s0.2.2.1 1,((b.1.1.1,(b.1.1.2,b.1.2)),SK .i64 s0.2.2.2.2 1)))),()))))) λ_=>some (.nx (((b.1.1.1,(b.1.1.2,b.1.2)),((0,0),(SF .i64 s0.2.2.1 1,((b.1.1.1,(b.1.1.2,b.1.2)),SK .i64 s0.2.2.2.2 1))))))) λ_=>br (Ry c.2 0) (λ_=>some (.dn ((0,(((0,([],([],0))),((2,c.2),s0.2.2)),()))))) λ_=>br (Oa (SK .i64 s0.2.2.2.2 1) 0) (λ_=>some (.dn ((1,((s0.1,((0,0),(SF .i64 s0.2.2.1 1,(s0.1,SK .i64 s0.2.2.2.2 1)))),()))))) λ_=>some (.nx ((s0.1,((0,0),(SF .i64 s0.2.2.1 1,(s0.1,SK .i64 s0.2.2.2.2 1))))))) (((x.1.1.1,(x.1.1.2,x.1.2)),((0,0),(0,((x.1.1.1,(x.1.1.2,x.1.2)),x.2)))))) λa=>br (neq a.1 0) (λ_=>br (Oa a.2.1.2.1.1 0) (λ_=>some ((((a.2.1.2.2.2.1.1,a.2.1.2.2.2.1.2.1),a.2.1.2.2.2.1.2.2),(a.2.1.2.2.1,0)))) λ_=>br (Oa a.2.1.2.1.1 1) (λ_=>some ((((a.2.1.2.2.2.1.1,a.2.1.2.2.2.1.2.1),a.2.1.2.2.2.1.2.2),(a.2.1.2.2.1,0)))) λ_=>some ((((0,[]),([],0)),(0,a.2.1.2.1.2)))) λ_=>br (Oa a.2.1.2.1.1 0) (λ_=>some ((((a.2.1.2.2.2.1.1,a.2.1.2.2.2.1.2.1),a.2.1.2.2.2.1.2.2),(a.2.1.2.2.1,0)))) λ_=>br (Oa a.2.1.2.1.1 1) (λ_=>some ((((a.2.1.2.2.2.1.1,a.2.1.2.2.2.1.2.1),a.2.1.2.2.2.1.2.2),(a.2.1.2.2.1,0)))) λ_=>some ((((0,[]),([],0)),(0,a.2.1.2.1.2)))
def XQ (x:qS):Option (qS×(Int×Int)) :=
 bd (VM x) λa=>br (Ry a.2 0) (λ_=>some ((((0,[]),([],0)),(0,a.2)))) λ_=>bd (Xy ((x,(-1)))) λb=>some b
def Vv (x:qF):Option (qF×(Int×Int)) :=
 bd (VT x) λb=>br (Ry b 0) (λ_=>some ((((0,[]),((0,[]),([],0))),(0,b)))) λ_=>bd (XQ x.2) λa=>br (Oa a.2.2 0) (λ_=>br (Oa a.2.2 0) (λ_=>br (Ry a.2.2 0) (λ_=>some ((((0,[]),((0,[]),([],0))),(0,a.2.2)))) λ_=>some (((x.1,a.1),(SF .i64 0 a.2.1,0)))) λ_=>br (Ry a.2.2 0) (λ_=>some ((((0,[]),((0,[]),([],0))),(0,a.2.2)))) λ_=>some (((x.1,a.1),(SF .i64 0 a.2.1,0)))) λ_=>br (Oa a.2.2 0) (λ_=>br (Ry a.2.2 0) (λ_=>some ((((0,[]),((0,[]),([],0))),(0,a.2.2)))) λ_=>some ((x,(0,0)))) λ_=>br (Ry a.2.2 0) (λ_=>some ((((0,[]),((0,[]),([],0))),(0,a.2.2)))) λ_=>some ((x,(0,0)))
def VV (x:qF):Option Bool :=
 bd (YC x) λn=>br n (λ_=>bd (Uv ()) λo=>some o) λ_=>bd (VP x) λa=>br (Ry a.2.2 0) (λ_=>br (Oa a.1 0) (λ_=>br (Oa a.2.1 0) (λ_=>bd (Uv ()) λp=>some p) λ_=>some false) λ_=>some false) λ_=>bd (Xa x.2.1) λc=>bd (YE x.2) λm=>bd (WO (x,1000000000)) λl=>br (Ry c.2.2 0) (λ_=>some false) λ_=>br (Ry m.2 0) (λ_=>some false) λ_=>br (Ry l.2 0) (λ_=>some false) λ_=>br (Ry a.1 m.1) (λ_=>some false) λ_=>br (S6 a.1 a.2.1) (λ_=>some false) λ_=>br (Ry a.2.1 (SF .i64 c.1 (Ki (AS x.2.1.2)))) (λ_=>some false) λ_=>br (S6 (Ki (AS l.1)) 0) (λ_=>ix l.1 0 λr=>br (S7 r 2) (λ_=>some false) λ_=>bd (Vv x) λf=>br (Ry f.2.2 0) (λ_=>bd (Uv ()) λq=>some q) λ_=>bd (VP f.1) λd=>br (Oa d.2.2 0) (λ_=>br (Oa d.1 0) (λ_=>br (S7 f.2.1 (SG .i64 c.2.1 (SF .i64 c.1 1))) (λ_=>br (Oa a.1 0) (λ_=>bd (Uv ()) λg=>some g) λ_=>br (Rx f.2.1 a.1) (λ_=>bd (Uv ()) λh=>some h) λ_=>some false) λ_=>some false) λ_=>some false) λ_=>some false) λ_=>bd (Vv x) λb=>br (Ry b.2.2 0) (λ_=>bd (Uv ()) λi=>some i) λ_=>bd (VP b.1) λe=>br (Oa e.2.2 0) (λ_=>br (Oa e.1 0) (λ_=>br (S7 b.2.1 (SG .i64 c.2.1 (SF .i64 c.1 1))) (λ_=>br (Oa a.1 0) (λ_=>bd (Uv ()) λj=>some j) λ_=>br (Rx b.2.1 a.1) (λ_=>bd (Uv ()) λk=>some k) λ_=>some false) λ_=>some false) λ_=>some false) λ_=>some false
end
end Go.Proofs.YtfipnhjfbebeiabGreatDoor.Pl
