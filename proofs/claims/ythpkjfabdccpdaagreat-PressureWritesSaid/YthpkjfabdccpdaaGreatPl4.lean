/- Functions of the program and of the specification as plain functions, and laws about them. No condition. -/
import Derived.Test.YthpkjfabdccpdaaGreatPl3
set_option linter.all false
namespace Go.Proofs.YthpkjfabdccpdaaGreat.Pl
open Go Go.Proofs.YthpkjfabdccpdaaGreat.Sv
def Ef:List AB->H1->Nat
 | [],_=>0
 | y::l,k=>if B3 y.1 k=true then Ef l k+1 else 0
def Jh (l:List AB) (k:H1):Bool:=match l[Ef l k]? with
 | some y=>decide (y.1=k)
 | none=>false
theorem Nl : ∀ (l:List AB) (k:H1),Ef l k<=l.length
 | [],_=>by simp [Ef]
 | y::l,k=>by
  have:=Nl l k;unfold Ef;split<;>simp<;>omega
theorem cN : ∀ {l:List AB} {k:H1} {i:Nat} {y:AB},l[i]? = some y->i<Ef l k->B3 y.1 k=true
 | [],_,_,_,h,_=>by simp at h
 | x::l,k,0,y,h,hi=>by
  cases h;unfold Ef at hi;split at hi
  ·assumption
  ·omega
 | x::l,k,i+1,y,h,hi=>by
  unfold Ef at hi;split at hi
  ·exact cN (l:=l) (by simpa using h) (by omega)
  ·omega
theorem cO : ∀ {l:List AB} {p:Option H1},Asc p l -> ∀ {k:H1} {i:Nat} {y:AB},l[i]? = some y->Ef l k<=i->B3 y.1 k=false
 | [],_,_,_,_,_,h,_=>by simp at h
 | x::l,p,⟨h1,h2⟩,k,i,y,h,hi=>by
  unfold Ef at hi;cases i with
  | zero =>
   cases h;split at hi
   ·omega
   ·rename_i hs;simpa using hs
  | succ i =>
   have hy:l[i]? = some y:=by simpa using h
   split at hi
   ·exact cO h2 hy (by omega)
   ·rename_i hs;have hs:B3 x.1 k=false:=by simpa using hs
    have:=Nk h2 y (List.mem_of_getElem? hy);cases hq:B3 y.1 k with
    | false=>rfl
    | true=>rw [DS this hq] at hs;cases hs
theorem kw {l:List AB} {p:Option H1} (ha:Asc p l) {k:H1} {i:Nat} (h1:i<=l.length) (h2 : ∀ j y,j<i->l[j]? = some y->B3 y.1 k=true) (h3 : ∀ j y,i<=j->l[j]? = some y->B3 y.1 k=false):i=Ef l k:=by
 have hle:=Nl l k;rcases Nat.lt_trichotomy i (Ef l k) with h | h | h
 ·have hy:l[i]? = some l[i]:=List.getElem?_eq_getElem (by omega);have a:=cN hy h;rw [h3 i _ (Nat.le_refl _) hy] at a;cases a
 ·exact h
 ·have hy:l[Ef l k]? = some l[Ef l k]:=List.getElem?_eq_getElem (by omega);have a:=cO ha hy (Nat.le_refl _);rw [h2 _ _ h hy] at a;cases a
theorem Xm {a b:Nat} (h:a+b<=1000000):ST .i64 (Rg .u64 (ST .u64 (AH .i64 (a:Int) (b:Int))) 1)=(((a+b) / 2:Nat):Int):=by
 rw [CV (by omega)]
 have e1:ST .u64 ((a:Int)+(b:Int))=((a+b:Nat):Int):=by
  show (let m:=((a:Int)+(b:Int)) % (2 ^ 64:Int);if false&&decide (m>=(2 ^ 63:Int)) then m-(2 ^ 64:Int) else m)=_
  simp;omega
 rw [e1]
 have e2:Rg .u64 ((a+b:Nat):Int) 1=(((a+b) / 2:Nat):Int):=by
  show Int.fdiv ((a+b:Nat):Int) (2 ^ 1)=_;rw [Int.fdiv_eq_ediv_of_nonneg _ (by decide)];omega
 rw [e2];exact ku (by omega)
theorem Vq : ∀ {l:List AB} {p:Option H1},Asc p l -> ∀ {a b:Nat} {x y:AB},a<b->l[a]? = some x->l[b]? = some y->B3 x.1 y.1=true
 | [],_,_,_,_,_,_,_,h,_=>by simp at h
 | z::l,p,⟨_,hA2⟩,a,b,x,y,hab,h1,h2=>by
  cases b with
  | zero=>omega
  | succ b =>
   have h2':l[b]? = some y:=by simpa using h2
   cases a with
   | zero=>cases h1;exact Nk hA2 y (List.mem_of_getElem? h2')
   | succ a=>exact Vq hA2 (a:=a) (b:=b) (by omega) (by simpa using h1) h2'
theorem Nm {l:List AB} {p:Option H1} (ha:Asc p l) (k:H1) (hl:l.length<=100000) : ∀ (n i j:Nat),i<=j->j<=l.length->j-i<n->(∀ q y,q<i->l[q]? = some y->B3 y.1 k=true)->(∀ q y,j<=q->l[q]? = some y->B3 y.1 k=false) ->
  Dp n (λs0=>br (Ae s0.1 s0.2) (λ_=>AP (ST .i64 (Rg .u64 (ST .u64 (AH .i64 s0.1 s0.2)) 1)) λk1=>ix l k1 λx2=>br (AY (AY (B3 x2.1 k))) (λ_=>some (.nx ((AH .i64 (ST .i64 (Rg .u64 (ST .u64 (AH .i64 s0.1 s0.2)) 1)) 1,s0.2)))) λ_=>some (.nx ((s0.1,ST .i64 (Rg .u64 (ST .u64 (AH .i64 s0.1 s0.2)) 1))))) λ_=>some (.dn (((0:Nat),(s0,()))))) ((i:Int),(j:Int))=some (0,(((Ef l k:Int),(Ef l k:Int)),()))
 | 0,_,_,_,_,h,_,_=>by omega
 | n+1,i,j,hij,hj,hn,h1,h2=>by
  by_cases h:i<j
  ·have hm:(i+j) / 2<l.length:=by omega
   have hx:l[(i+j) / 2]? = some l[(i+j) / 2]:=List.getElem?_eq_getElem hm;cases hs:B3 l[(i+j) / 2].1 k with
   | true =>
    rw [BS (s':=((((i+j) / 2+1:Nat):Int),(j:Int))) (by
     simp only
     rw [BD,if_pos (by omega),Xm (by omega),AE,AI hx,hs,DM,Ey,AM,AZ (by omega)])]
    refine Nm ha k hl n _ j (by omega) hj (by omega) (λq y hq hy => ?_) h2;by_cases hqe:q=(i+j) / 2
    ·subst hqe;rw [hx] at hy;cases hy;exact hs
    ·have hq2:q<(i+j) / 2:=by omega
     have hyq:B3 y.1 l[(i+j) / 2].1=true:=Vq ha hq2 hy hx;exact DS hyq hs
   | false =>
    rw [BS (s':=((i:Int),(((i+j) / 2:Nat):Int))) (by
     simp only
     rw [BD,if_pos (by omega),Xm (by omega),AE,AI hx,hs,Ey,DM,AV])]
    refine Nm ha k hl n i _ (by omega) (by omega) (by omega) h1 (λq y hq hy => ?_);cases hq2:B3 y.1 k with
    | false=>rfl
    | true =>
     by_cases hqe:q=(i+j) / 2
     ·subst hqe;rw [hx] at hy;cases hy;rw [hs] at hq2;cases hq2
     ·have:=Vq ha (show (i+j) / 2<q by omega) hx hy;rw [DS this hq2] at hs;cases hs
  ·have:i=j:=by omega
   subst this;have:=kw ha hj h1 h2
   rw [BX (x:=(0,(((Ef l k:Int),(Ef l k:Int)),()))) (by
    simp only
    rw [BD,if_neg (by omega),this])]
theorem cQ {l:List AB} {p:Option H1} (ha:Asc p l) (k:H1) (hl:l.length<=100000):Dn (l,k)=some ((Ef l k:Int),Jh l k):=by
 unfold Dn;simp only [AU,AO];have h:=Nm ha k hl (l.length+1) 0 l.length (by omega) (Nat.le_refl _) (by omega) (λq y h=>by omega) (λq y h hy=>by rw [List.getElem?_eq_none h] at hy;cases hy);refine A7 (Cq (by omega) h) ?_;dsimp only;have hle:=Nl l k;unfold Jh;rw [BD];by_cases h2:Ef l k<l.length
 ·have hx:l[Ef l k]? = some l[Ef l k]:=List.getElem?_eq_getElem h2;rw [if_pos (by omega),AE,AI hx,hx];simp only
  congr 2
  cases hq:seq l[Ef l k].1 k with
  | true=>exact (decide_eq_true (IS.1 hq)).symm
  | false =>
   refine (decide_eq_false λe => ?_).symm;rw [IS.2 e] at hq;cases hq
 ·rw [if_neg (by omega),List.getElem?_eq_none (by omega)]
end Go.Proofs.YthpkjfabdccpdaaGreat.Pl
namespace Go.Proofs.YthpkjfabdccpdaaGreat.Pl
open Go Go.Proofs.YthpkjfabdccpdaaGreat.Sv
abbrev nq:=(Int×(((List AB)×Nat)×(Int×Bool)))
def j7 (most:Int) (ls:List AB):nq->Option (LR nq (Nat×(nq×Unit))) :=
 (λ(s1:(Int×(((List AB)×Nat)×(Int×Bool))))=>br (Ae s1.2.2.1 (AW (AA ls))) (λ_=>AP s1.2.2.1 λk2=>ix ls k2 λx3=>gd (Aj (AK 0 s1.2.1.2) (AA s1.2.1.1)) λ_=>bd (Dn ((B0 s1.2.1.1 0 (AK 0 s1.2.1.2),x3.1))) λr4=>br r4.2 (λ_=>AP r4.1 λk5=>gd (CD k5 s1.2.1.2) λ_=>gd (CD (AK 0 k5) (AA s1.2.1.1)) λ_=>ix s1.2.1.1 (AK 0 k5) λx6=>some (.nx ((BF .i64 (AH .i64 s1.1 (AH .i64 (BF .i64 (AW s1.2.1.2) r4.1) 1)) 1,((lset s1.2.1.1 (AK 0 k5) x3,s1.2.1.2),(AH .i64 s1.2.2.1 1,s1.2.2.2)))))) λ_=>br (BJ (AW s1.2.1.2) most) (λ_=>some (.dn ((0,((AH .i64 s1.1 (AH .i64 (BF .i64 (AW s1.2.1.2) r4.1) 1),(s1.2.1,(s1.2.2.1,false))),()))))) λ_=>AP (AH .i64 (AW s1.2.1.2) 1) λk7=>AP (AW (CL (AA s1.2.1.1) 0)) λk8=>gd (Aj k7 k8) λ_=>gd (neq (AK 0 k8) (AA s1.2.1.1)) λ_=>gd (CD 0 (AA s1.2.1.1)) λ_=>AP (AH .i64 r4.1 1) λk9=>gd (Aj (AK 0 k7) (AA s1.2.1.1)) λ_=>gd (Aj k9 k7) λ_=>br (CD (AK 0 k9) (AA s1.2.1.1)) (λ_=>AP r4.1 λk10=>gd (Aj (AK 0 k7) (AA s1.2.1.1)) λ_=>gd (Aj k10 k7) λ_=>br (CD (AK 0 k10) (AA s1.2.1.1)) (λ_=>gd (Aj (AK (AK 0 k10) (CL k7 k10)) (AA s1.2.1.1)) λ_=>gd (Aj (AK (AK 0 k9) (CL k7 k9)) (AA s1.2.1.1)) λ_=>AP r4.1 λk11=>gd (CD k11 k7) λ_=>gd (CD (AK 0 k11) (AA (DJ s1.2.1.1 (AK 0 k9) (B0 s1.2.1.1 (AK 0 k10) (AK (AK 0 k10) (CL k7 k10))) (CL k7 k9)))) λ_=>ix (DJ s1.2.1.1 (AK 0 k9) (B0 s1.2.1.1 (AK 0 k10) (AK (AK 0 k10) (CL k7 k10))) (CL k7 k9)) (AK 0 k11) λx12=>some (.nx ((AH .i64 s1.1 (AH .i64 (BF .i64 (AW s1.2.1.2) r4.1) 1),((lset (DJ s1.2.1.1 (AK 0 k9) (B0 s1.2.1.1 (AK 0 k10) (AK (AK 0 k10) (CL k7 k10))) (CL k7 k9)) (AK 0 k11) x3,k7),(AH .i64 s1.2.2.1 1,s1.2.2.2)))))) λ_=>gd (Aj (AK (AK 0 k9) (CL k7 k9)) (AA s1.2.1.1)) λ_=>AP r4.1 λk13=>gd (CD k13 k7) λ_=>gd (CD (AK 0 k13) (AA (DJ s1.2.1.1 (AK 0 k9) [] (CL k7 k9)))) λ_=>ix (DJ s1.2.1.1 (AK 0 k9) [] (CL k7 k9)) (AK 0 k13) λx14=>some (.nx ((AH .i64 s1.1 (AH .i64 (BF .i64 (AW s1.2.1.2) r4.1) 1),((lset (DJ s1.2.1.1 (AK 0 k9) [] (CL k7 k9)) (AK 0 k13) x3,k7),(AH .i64 s1.2.2.1 1,s1.2.2.2)))))) λ_=>AP r4.1 λk15=>gd (Aj (AK 0 k7) (AA s1.2.1.1)) λ_=>gd (Aj k15 k7) λ_=>br (CD (AK 0 k15) (AA s1.2.1.1)) (λ_=>gd (Aj (AK (AK 0 k15) (CL k7 k15)) (AA s1.2.1.1)) λ_=>none) λ_=>none) λ_=>some (.dn ((0,(s1,())))))
theorem cR (x:Ao×List AB):DE x =
 (AP (AH .i64 x.1.1 1) λk0=>gd (Aj 0 k0) λ_=>gd (Aj k0 1048576) λ_=>gd (Aj (AK 0 (AA x.1.2)) 1048576) λ_=>gd (Aj (AK 0 0) (AA (CO k0 ((([],([],(false,0))):AB))))) λ_=>br (neq (AA x.1.2) 0) (λ_=>bd (loop (j7 x.1.1 x.2) ((0,((CO k0 ((([],([],(false,0))):AB)),0),(0,true))))) λr16=>gd (Aj (AK 0 r16.2.1.2.1.2) (AA r16.2.1.2.1.1)) λ_=>some ((B0 r16.2.1.2.1.1 0 (AK 0 r16.2.1.2.1.2),(r16.2.1.1,r16.2.1.2.2.2)))) λ_=>br (Aj (AK (AK 0 0) (AA x.1.2)) (AA (CO k0 ((([],([],(false,0))):AB))))) (λ_=>bd (loop (j7 x.1.1 x.2) ((0,((DJ (CO k0 ((([],([],(false,0))):AB))) (AK 0 0) x.1.2 (AA x.1.2),AK 0 (AA x.1.2)),(0,true))))) λr32=>gd (Aj (AK 0 r32.2.1.2.1.2) (AA r32.2.1.2.1.1)) λ_=>some ((B0 r32.2.1.2.1.1 0 (AK 0 r32.2.1.2.1.2),(r32.2.1.1,r32.2.1.2.2.2)))) λ_=>none):=rfl
theorem j8 (n:Nat):AK 0 n=n:=by unfold AK;omega
theorem l9 (n:Nat):CL n 0=n:=rfl
def FU (l:List AB) (x:AB):List AB:=l.take (Ef l x.1)++x::l.drop (Ef l x.1+if Jh l x.1=true then 1 else 0)
theorem RG (y:AB) (l:List AB) (k:H1):Jh (y::l) k=if B3 y.1 k=true then Jh l k else decide (y.1=k):=by
 unfold Jh;by_cases h:B3 y.1 k=true
 ·rw [if_pos h];have:Ef (y::l) k=Ef l k+1:=by conv=>lhs;unfold Ef;rw [if_pos h]
  rw [this];rfl
 ·rw [if_neg h];have:Ef (y::l) k=0:=by conv=>lhs;unfold Ef;rw [if_neg h]
  rw [this];rfl
theorem RI (y:AB) (l:List AB) (x:AB):FU (y::l) x=if B3 y.1 x.1=true then y::FU l x else if y.1=x.1 then x::l else x::y::l:=by
 unfold FU;rw [RG];by_cases h:B3 y.1 x.1=true
 ·rw [if_pos h,if_pos h];have:Ef (y::l) x.1=Ef l x.1+1:=by conv=>lhs;unfold Ef;rw [if_pos h]
  rw [this,Nat.add_right_comm,List.take_succ_cons,List.drop_succ_cons];rfl
 ·rw [if_neg h,if_neg h];have:Ef (y::l) x.1=0:=by conv=>lhs;unfold Ef;rw [if_neg h]
  rw [this];by_cases h2:y.1=x.1
  ·rw [if_pos h2,if_pos (decide_eq_true h2)];rfl
  ·rw [if_neg h2,if_neg (by simp [h2])];rfl
theorem UU (x:AB):FU [] x=[x]:=by unfold FU;simp [Ef]
theorem KX (x:AB) : ∀ {l:List AB} {p:Option H1},Asc p l->(∀ q,p=some q->B3 q x.1=true)->Asc p (FU l x)
 | [],p,_,hp=>by rw [UU];exact ⟨hp,trivial⟩
 | y::l,p,⟨h1,h2⟩,hp=>by
  rw [RI];by_cases h:B3 y.1 x.1=true
  ·rw [if_pos h];exact ⟨h1,KX x h2 λq hq=>by cases hq;exact h⟩
  ·rw [if_neg h];by_cases he:y.1=x.1
   ·rw [if_pos he];exact ⟨hp,by rw [<- he];exact h2⟩
   ·rw [if_neg he];exact ⟨hp,λq hq=>by cases hq;exact Lp (by simpa using h) he,h2⟩
theorem JA (l:List AB) (x:AB):(FU l x).length=l.length+if Jh l x.1=true then 0 else 1:=by
 have hle:=Nl l x.1;unfold FU;by_cases h:Jh l x.1=true
 ·have:Ef l x.1<l.length:=by
   by_cases h2:Ef l x.1<l.length
   ·exact h2
   ·unfold Jh at h;rw [List.getElem?_eq_none (by omega)] at h;cases h
  rw [if_pos h,if_pos h];simp;omega
 ·rw [if_neg h,if_neg h];simp;omega
def Nn (most:Nat):List AB->List AB->Int->List AB×(Int×Bool)
 | l,[],w=>(l,(w,true))
 | l,x::ls,w=>if Jh l x.1=true then Nn most (FU l x) ls (w+((l.length:Int)-(Ef l x.1:Int)+1)-1)
  else if l.length=most then (l,(w+((l.length:Int)-(Ef l x.1:Int)+1),false)) else Nn most (FU l x) ls (w+((l.length:Int)-(Ef l x.1:Int)+1))
theorem jT {a b t:List AB} {z x:AB}:lset (DJ (a++(b++z::t)) (a.length+1) (B0 (a++(b++z::t)) a.length (a.length+(a.length+b.length+1-a.length))) (a.length+b.length+1-(a.length+1))) a.length x=a++x::(b++t):=by
 obtain ⟨y,r,hr⟩ : ∃ y r,b++z::t=y::r:=by cases b<;>exact ⟨_,_,rfl⟩
 have e1:(a++(b++z::t)).take (a.length+1)=a++[y]:=by rw [hr,List.take_append,List.take_of_length_le (by omega),Nat.add_sub_cancel_left];rfl
 have e2:B0 (a++(b++z::t)) a.length (a.length+(a.length+b.length+1-a.length))=b++[z]:=by
  unfold B0;rw [List.drop_left,show a.length+(a.length+b.length+1-a.length)-a.length=b.length+1 by omega,List.take_append,List.take_of_length_le (by omega),Nat.add_sub_cancel_left];rfl
 have e3:(b++[z]).take (a.length+b.length+1-(a.length+1))=b:=by
  rw [show a.length+b.length+1-(a.length+1)=b.length by omega,List.take_left]
 have e4:(a++(b++z::t)).drop (a.length+1+b.length)=t:=by
  rw [show a++(b++z::t)=(a++b++[z])++t by simp,List.drop_left' (by simp;omega)]
 unfold lset DJ;rw [e2,e3,e1,e4,List.append_assoc,List.set_append_right _ _ (Nat.le_refl _),Nat.sub_self];rfl
structure WrI (most:Nat) (l:List AB) (R:List AB):Prop where
 asc:Asc none l
 le:l.length<=most
 len:R.length=most+1
 row:R.take l.length=l
theorem WrI.sub {most:Nat} {l R:List AB} (h:WrI most l R):B0 R 0 l.length=l:=by rw [Y5];exact h.row
theorem jU {most:Nat} (hm:most<=16) {ls l R:List AB} (I:WrI most l R) {k:Nat} {x:AB} (hx:ls[k]? = some x) (hk:ls.length<=1000) {w:Int} (hw:0<=w/\w<=1000000) :
  (Jh l x.1=true /\ ∃ R',WrI most (FU l x) R'/\j7 most ls (w,((R,l.length),((k:Int),true)))=some (.nx (w+((l.length:Int)-(Ef l x.1:Int)+1)-1,((R',(FU l x).length),(((k+1:Nat):Int),true))))) \/
  (¬ Jh l x.1=true/\l.length=most/\j7 most ls (w,((R,l.length),((k:Int),true)))=some (.dn (0,((w+((l.length:Int)-(Ef l x.1:Int)+1),((R,l.length),((k:Int),false))),())))) \/
  (¬ Jh l x.1=true/\l.length≠most /\ ∃ R',WrI most (FU l x) R'/\j7 most ls (w,((R,l.length),((k:Int),true)))=some (.nx (w+((l.length:Int)-(Ef l x.1:Int)+1),((R',(FU l x).length),(((k+1:Nat):Int),true))))):=by
 have hkl:=(List.getElem?_eq_some_iff.1 hx).1;have hle:=Nl l x.1;have hlm:=I.le;have hRl:=I.len;have hRs:=I.row;obtain ⟨t,hR⟩ : ∃ t,R=l++t:=⟨R.drop l.length,by conv=>lhs;rw [<- List.take_append_drop l.length R,hRs]⟩
 have htl:t.length=most+1-l.length:=by
  have:=congrArg List.length hR;simp at this;omega
 obtain ⟨z,t',rfl⟩ : ∃ z t',t=z::t':=by
  cases t with
  | nil=>simp at htl;omega
  | cons z t'=>exact ⟨z,t',rfl⟩
 unfold j7;simp only [AU,AO,j8,l9];rw [rl hkl,AM,AE,AI hx,BE (by omega),I.sub,cQ I.asc x.1 (by omega),AC];dsimp only;have q1:BF .i64 (l.length:Int) (Ef l x.1:Int)=(l.length:Int)-(Ef l x.1:Int):=Bu (by omega);have q2:AH .i64 ((l.length:Int)-(Ef l x.1:Int)) 1=(l.length:Int)-(Ef l x.1:Int)+1:=CV (by omega);have q3:AH .i64 w ((l.length:Int)-(Ef l x.1:Int)+1)=w+((l.length:Int)-(Ef l x.1:Int)+1):=CV (by omega);have q4:BF .i64 (w+((l.length:Int)-(Ef l x.1:Int)+1)) 1=w+((l.length:Int)-(Ef l x.1:Int)+1)-1:=Bu (by omega);have q5:AH .i64 (k:Int) 1=((k+1:Nat):Int):=AZ (by omega);have q6:AH .i64 (l.length:Int) 1=((l.length+1:Nat):Int):=AZ (by omega);have q7:AH .i64 (Ef l x.1:Int) 1=((Ef l x.1+1:Nat):Int):=AZ (by omega);simp only [q1,q2,q3,q4,q5,q6,q7];by_cases hh:Jh l x.1=true
 ·refine .inl ⟨hh,?_⟩
  have hil:Ef l x.1<l.length:=by
   by_cases h2:Ef l x.1<l.length
   ·exact h2
   ·unfold Jh at hh;rw [List.getElem?_eq_none (by omega)] at hh;cases hh
  have hpl:(FU l x).length=l.length:=by rw [JA,if_pos hh];rfl
  have hpe:FU l x=l.set (Ef l x.1) x:=by
   unfold FU;rw [if_pos hh,List.set_eq_take_append_cons_drop,if_pos hil]
  refine ⟨lset R (Ef l x.1) x,⟨KX x I.asc (λ_ h=>by cases h),by omega,by unfold lset;simp;exact hRl,?_⟩,?_⟩
  ·rw [hpl,hpe,hR];unfold lset;rw [List.set_append_left _ _ hil,List.take_left' (by simp)]
  ·rw [hh,AM,AE]
   have g1 : ∀ {β:Type} (c:Unit->Option β),gd (CD (Ef l x.1) l.length) c=c ():=λc=>by
    unfold CD;rw [show Nat.blt (Ef l x.1) l.length=true by simpa using hil];rfl
   have g2 : ∀ {β:Type} (c:Unit->Option β),gd (CD (Ef l x.1) R.length) c=c ():=λc=>by
    unfold CD;rw [show Nat.blt (Ef l x.1) R.length=true by simp;omega];rfl
   rw [g1,g2,AI (List.getElem?_eq_getElem (by omega:Ef l x.1<R.length)),hpl]
 ·refine .inr ?_;have hf:Jh l x.1=false:=by simpa using hh
  rw [hf,AV,BI];by_cases hmo:l.length=most
  ·exact .inl ⟨by simp,hmo,by rw [if_pos (by omega)]⟩
  ·refine .inr ⟨by simp,hmo,?_⟩;rw [if_neg (by omega),AE,AE]
   have gl : ∀ {β:Type} {a b:Nat} (h:a<b) (c:Unit->Option β),gd (CD a b) c=c ():=λh c=>by
    unfold CD;rw [show Nat.blt _ _=true by simpa using h];rfl
   have bl : ∀ {β:Type} {a b:Nat} (h:a<b) (c d:Unit->Option β),br (CD a b) c d=c ():=λh c d=>by
    unfold CD;rw [show Nat.blt _ _=true by simpa using h];rfl
   have gq : ∀ {β:Type} {a:Nat} (c:Unit->Option β),gd (neq a a) c=c ():=λc=>by
    unfold neq;rw [show Nat.beq _ _=true by simp];rfl
   have hpl:(FU l x).length=l.length+1:=by rw [JA,if_neg hh]
   have hpe:FU l x=l.take (Ef l x.1)++x::l.drop (Ef l x.1):=by unfold FU;rw [if_neg hh];rfl
   obtain ⟨i,hi⟩ : ∃ i,i=Ef l x.1:=⟨_,rfl⟩;rw [<- hi] at hpe hle ⊢;have hla:(l.take i).length=i:=by simp;omega
   have hRR:R=l.take i++(l.drop i++z::t'):=by rw [<- List.append_assoc,List.take_append_drop];exact hR
   have hrow:lset (DJ R (i+1) (B0 R i (AK i (CL (l.length+1) i))) (CL (l.length+1) (i+1))) i x=l.take i++x::(l.drop i++t'):=by
    have:=jT (a:=l.take i) (b:=l.drop i) (t:=t') (z:=z) (x:=x);rw [<- hRR,hla,show i+(l.drop i).length=l.length by simp;omega] at this;exact this
   have hcl:(DJ R (i+1) (B0 R i (AK i (CL (l.length+1) i))) (CL (l.length+1) (i+1))).length=most+1:=by
    have:=congrArg List.length hrow;unfold lset at this;rw [List.length_set] at this;rw [this];simp only [List.length_append,List.length_cons,List.length_drop,List.length_take];simp at htl;omega
   refine ⟨l.take i++x::(l.drop i++t'),⟨KX x I.asc (λ_ h=>by cases h),by omega,?_,?_⟩,?_⟩
   ·rw [<- hrow];unfold lset;rw [List.length_set];exact hcl
   ·rw [hpl,hpe,show l.take i++x::(l.drop i++t')=(l.take i++x::l.drop i)++t' by simp,List.take_left' (by simp;omega)]
   ·rw [BE (by omega),gq,gl (by omega),AE,BE (by omega),BE (by omega),bl (by omega),AE,BE (by omega),BE (by omega),bl (by omega),BE (by unfold AK CL;omega),BE (by unfold AK CL;omega),AE,gl (by omega),gl (by rw [hcl];omega),AI (List.getElem?_eq_getElem (by rw [hcl];omega)),hrow,hpl]
theorem Xn {most:Nat} (hm:most<=16) {ls l R:List AB} (I:WrI most l R) (hk:ls.length<=1000) : ∃ r,loop (j7 most ls) (0,((R,l.length),((0:Int),true)))=some r/\r.2.1.2.1.2<=r.2.1.2.1.1.length/\(B0 r.2.1.2.1.1 0 r.2.1.2.1.2,(r.2.1.1,r.2.1.2.2.2))=Nn most l ls 0:=by
 obtain ⟨T,hT⟩ : ∃ T,T=Nn most l ls 0:=⟨_,rfl⟩;rw [<- hT];refine EF (l:=ls) (σ:=(List AB×List AB)×Int) (λk s=>(s.2,((s.1.1,s.1.2.length),((k:Int),true)))) (λm k s=>WrI most s.1.2 s.1.1/\Nn most s.1.2 m s.2=T/\0<=s.2/\s.2<=20*k) _ ((R,l),0) rfl (by omega) ⟨I,hT.symm,by simp,by simp⟩ (λs h => ?_) (λk x m s hd hx hi h => ?_)
 ·obtain ⟨⟨R',l'⟩,w⟩:=s;obtain ⟨I',h2,_⟩:=h;refine ⟨(0,((w,((R',l'.length),((ls.length:Int),true))),())),?_,?_,?_⟩
  ·unfold j7;simp only [AU,AO];rw [re,AV]
  ·have h5:R'.length=most+1:=I'.len;have h6:l'.length<=most:=I'.le;show l'.length<=R'.length;omega
  ·simp only at h2 ⊢;have h7:B0 R' 0 l'.length=l':=I'.sub;rw [h7,<- h2];rfl
 ·obtain ⟨⟨R',l'⟩,w⟩:=s;obtain ⟨I',h2,h3,h4⟩:=h;simp only at h2 h3 h4 I' ⊢;have hle:=Nl l' x.1;have hlm:=I'.le;unfold Nn at h2;rcases jU hm I' hx hk (w:=w) ⟨h3,by omega⟩ with ⟨c1,R2,I2,e⟩ | ⟨c1,c2,e⟩ | ⟨c1,c2,R2,I2,e⟩
  ·rw [if_pos c1] at h2;exact .inl ⟨((R2,FU l' x),_),e,I2,h2,by simp only;omega,by simp only;omega⟩
  ·rw [if_neg c1,if_pos c2] at h2;refine .inr ⟨_,e,?_,?_⟩
   ·have h5:R'.length=most+1:=I'.len;show l'.length<=R'.length;omega
   ·simp only;rw [I'.sub,<- h2]
  ·rw [if_neg c1,if_neg c2] at h2;exact .inl ⟨((R2,FU l' x),_),e,I2,h2,by simp only;omega,by simp only;omega⟩
theorem cS {most:Nat} (h1:1<=most) (hm:most<=16) {es ls:List AB} (ha:Asc none es) (hl:es.length<=most) (hk:ls.length<=1000):DE ((((most:Nat):Int),es),ls)=some (Nn most es ls 0):=by
 rw [cR];simp only [AU,AO,j8];rw [AZ (by omega),AE,BE (by omega),BE (by omega),BE (by omega),BE (by omega)];have hrep:(CO (most+1) ((([],([],(false,0))):AB))).length=most+1:=by unfold CO;simp
 by_cases h0:es=[]
 ·subst h0;have hb : ∀ {β:Type} (c d:Unit->Option β),br (neq ([]:List AB).length 0) c d=c ():=λc d=>rfl;rw [hb];obtain ⟨r,q1,q2,q3⟩:=Xn hm (ls:=ls) (l:=[]) (R:=CO (most+1) ((([],([],(false,0))):AB))) ⟨trivial,by simp,hrep,rfl⟩ hk;rw [<- q3];refine A7 q1 ?_;rw [BE q2]
 ·have hp:=List.length_pos_iff.2 h0
  have hb : ∀ {β:Type} (c d:Unit->Option β),br (neq es.length 0) c d=d ():=λc d=>by
   unfold neq
   rw [show Nat.beq es.length 0=false by
    cases hq:Nat.beq es.length 0 with
    | false=>rfl
    | true=>have:=Nat.eq_of_beq_eq_true hq;omega];rfl
  have hb2 : ∀ {β:Type} (c d:Unit->Option β),br (Aj es.length (CO (most+1) ((([],([],(false,0))):AB))).length) c d=c ():=λc d=>by
   rw [hrep];unfold Aj;rw [show Nat.ble es.length (most+1)=true by simp;omega];rfl
  rw [hb,hb2]
  have hR:DJ (CO (most+1) ((([],([],(false,0))):AB))) 0 es es.length=es++(CO (most+1) ((([],([],(false,0))):AB))).drop es.length:=by
   unfold DJ;simp
  obtain ⟨r,q1,q2,q3⟩:=Xn hm (ls:=ls) (l:=es) (R:=DJ (CO (most+1) ((([],([],(false,0))):AB))) 0 es es.length) ⟨ha,hl,by rw [hR,List.length_append,List.length_drop,hrep];omega,by rw [hR,List.take_left]⟩ hk;rw [<- q3];refine A7 q1 ?_;rw [BE q2]
end Go.Proofs.YthpkjfabdccpdaaGreat.Pl
namespace Go.Proofs.YthpkjfabdccpdaaGreat.Pl
open Go Go.Proofs.YthpkjfabdccpdaaGreat.Sv
def E8:List AB->Int
 | []=>0
 | x::l=>if kE x≠0 then kE x else E8 l
def Ju (b:Ao) (l:List AB):Int:=if (BP b).2≠0 then (BP b).2 else if (l.length:Int)>16 then 3 else E8 l
structure Bf (b:Ao):Prop where
 m1:1<=b.1
 m2:b.1<=16
 len:(b.2.length:Int)<=b.1
 ok : ∀ x∈b.2,kE x=0
 asc:Asc none b.2
theorem j9 {b:Ao} (h:(BP b).2=0):Bf b:=by
 unfold BP at h;by_cases h1:b.1<1\/b.1>16
 ·rw [if_pos h1] at h;cases h
 rw [if_neg h1] at h;by_cases h2:(b.2.length:Int)>b.1
 ·rw [if_pos h2] at h;cases h
 rw [if_neg h2] at h;obtain ⟨h3,h4⟩:=OY.1 h;exact ⟨by omega,by omega,by omega,h3,h4⟩
theorem UV (b:Ao) (l:List AB):D6 (b,l)=some (Ju b l):=by
 unfold D6 Ju;simp only [AU,AO];rw [Jg,AC,AN];by_cases h1:(BP b).2=0;rotate_left
 ·rw [if_neg h1,if_pos h1]
 rw [if_pos h1,if_neg (show ¬ (BP b).2≠0 by simp [h1]),Av];by_cases h2:(l.length:Int)>16
 ·rw [if_pos h2,if_pos h2]
 rw [if_neg h2,if_neg h2]
 obtain ⟨r,q1,q2⟩:=EF (l:=l) (σ:=Unit) (s:=((0:Int),(0:Int))) (λk _=>((k:Int),(0:Int))) (λm k _=>E8 l=E8 m) (λ(r:Nat×((Int×Int)×Unit))=>(r.1=0/\r.2.1.2=E8 l)\/(r.1=1/\E8 l=0))
  (f:=λs1=>br (Ae s1.1 (l.length:Int)) (λ_=>AP s1.1 λk2=>ix l k2 λx3=>bd (Aw x3) λr4=>br (Ai r4 0) (λ_=>some (.dn ((0,((s1.1,r4),()))))) λ_=>some (.nx (AH .i64 s1.1 1,s1.2))) λ_=>some (.dn ((1,(s1,())))))
  () rfl (by omega) rfl (λ_ h=>⟨_,by simp only;rw [re];rfl,.inr ⟨rfl,h⟩⟩) (λk x m _ hd hx hk h=>by
   simp only;have h:E8 l=if kE x≠0 then kE x else E8 m:=h
   rw [rl hk,AM,AE,AI hx,C2,AC,AN,AZ (by omega)];by_cases h3:kE x=0
   ·rw [if_neg (by simp [h3])] at h;rw [if_pos h3];exact .inl ⟨(),rfl,h⟩
   ·rw [if_pos h3] at h
    rw [if_neg h3];exact .inr ⟨_,rfl,.inl ⟨rfl,h.symm⟩⟩)
 refine A7 q1 ?_;rw [CS];rcases q2 with ⟨q2,q3⟩ | ⟨q2,q3⟩
 ·rw [if_pos q2,q3]
 ·rw [if_neg (by omega),q3]
theorem Np {l:List AB} (hl:l.length<=9223372036854775807) (e0:Int) : ∃ r,loop (β:=Nat×((Int×Int)×Unit)) (λs1=>br (Ae s1.1 (l.length:Int)) (λ_=>br (BJ s1.2 0) (λ_=>AP s1.1 λk2=>ix l k2 λx3=>bd (A1 x3) λr4=>some (.nx (AH .i64 s1.1 1,r4))) λ_=>some (.dn ((0,(s1,()))))) λ_=>some (.dn ((0,(s1,()))))) ((0:Int),e0)=some r/\r.2.1.2=if e0≠0 then e0 else E8 l:=by
 obtain ⟨T,hT⟩ : ∃ T,T=if e0≠0 then e0 else E8 l:=⟨_,rfl⟩
 rw [<- hT]
 exact EF (l:=l) (σ:=Int) (λk e=>((k:Int),e)) (λm k e=>T=if e≠0 then e else E8 m) (λ(r:Nat×((Int×Int)×Unit))=>r.2.1.2=T) e0 rfl hl hT (λe h=>⟨(0,(((l.length:Int),e),())),by simp only;rw [re,AV],by
   rw [h];simp only;split
   ·rfl
   ·rename_i h2;simp only [E8];omega⟩) (λk x m e hd hx hk h=>by
   simp only;rw [rl hk,AM,BI];by_cases h2:e=0
   ·rw [if_pos h2,AE,AI hx,Gh,AC,As hx hl];rw [if_neg (by simp [h2])] at h;exact .inl ⟨kE x,rfl,h⟩
   ·rw [if_neg h2];rw [if_pos h2] at h
    exact .inr ⟨_,rfl,h.symm⟩)
theorem Y6 (b:Ao) (l:List AB) (hl:l.length<=9223372036854775807):Fm (b,l)=some (Ju b l):=by
 unfold Fm Ju;simp only [AU,AO];rw [OH,AC,BI];by_cases h1:(BP b).2=0;rotate_left
 ·rw [if_neg h1,if_pos h1];obtain ⟨r,q1,q2⟩:=Np hl (BP b).2;rw [q1,AC,q2,if_pos h1]
 rw [if_pos h1,if_neg (show ¬ (BP b).2≠0 by simp [h1]),Av];by_cases h2:(l.length:Int)>16
 ·rw [if_pos h2,if_pos h2];obtain ⟨r,q1,q2⟩:=Np hl 3;rw [q1,AC,q2];rfl
 ·rw [if_neg h2,if_neg h2];obtain ⟨r,q1,q2⟩:=Np hl (BP b).2;rw [q1,AC,q2,if_neg (by simp [h1])]
def L0:List AB->AB->Nat
 | [],_=>0
 | y::l,x=>(if B3 x.1 y.1=true then 1 else 0)+L0 l x
theorem Pq (y:AB) (l:List AB) (x:AB):L0 (y::l) x=(if B3 x.1 y.1=true then 1 else 0)+L0 l x:=rfl
theorem SR : ∀ {l:List AB} {x:AB},(∀ y∈l,B3 x.1 y.1=true)->L0 l x=l.length
 | [],_,_=>rfl
 | y::l,x,h=>by
  unfold L0;rw [if_pos (h y (by simp)),SR λz hz=>h z (by simp [hz])];simp;omega
theorem cU : ∀ (l:List AB) (x:AB),L0 l x<=l.length
 | [],_=>by simp [L0]
 | y::l,x=>by
  have:=cU l x;unfold L0;split<;>simp<;>omega
theorem cV {x:AB} : ∀ {l:List AB} {p:Option H1},Asc p l->(l.length:Int)-(Ef l x.1:Int)+1-(if Jh l x.1=true then 1 else 0)=1+(L0 l x:Int)
 | [],_,_=>by simp [Ef,L0,Jh]
 | y::l,p,⟨h1,h2⟩=>by
  have ih:=cV (x:=x) h2;rw [RG];by_cases h:B3 y.1 x.1=true
  ·have hg:L0 (y::l) x=L0 l x:=by
    rw [Pq,if_neg (by rw [C1 h];simp),Nat.zero_add]
   have hl:Ef (y::l) x.1=Ef l x.1+1:=by conv=>lhs;unfold Ef;rw [if_pos h]
   rw [hg,hl,if_pos h,<- ih,List.length_cons];omega
  ·have hl:Ef (y::l) x.1=0:=by conv=>lhs;unfold Ef;rw [if_neg h]
   rw [hl,if_neg h];by_cases he:y.1=x.1
   ·have ha:L0 l x=l.length:=SR λz hz=>by rw [<- he];exact Nk h2 z hz
    have hg:L0 (y::l) x=L0 l x:=by
     rw [Pq,if_neg (by rw [he,Fz];simp),Nat.zero_add]
    rw [hg,ha,if_pos (decide_eq_true he),List.length_cons];omega
   ·have hxy:B3 x.1 y.1=true:=Lp (by simpa using h) he;have ha:L0 l x=l.length:=SR λz hz=>DS hxy (Nk h2 z hz)
    have hg:L0 (y::l) x=1+L0 l x:=by
     rw [Pq,if_pos hxy]
    rw [hg,ha,if_neg (by simp [he]),List.length_cons];omega
theorem jV {l:List AB} {p:Option H1} (ha:Asc p l) (x:AB) (hl:l.length<=1000):GA (l,x)=some (FU l x,1+(L0 l x:Int)):=by
 unfold GA;simp only [AU,AO,Bl];have gg : ∀ {β:Type} {a b:List AB} (h:a.length+b.length<=2000) (c:Unit->Option β),gd (Aj (AK a.length b.length) 1048576) c=c ():=λh c=>BE (by unfold AK;omega) c;obtain ⟨W,hW⟩ : ∃ W:Int,W=1+(L0 l x:Int):=⟨_,rfl⟩
 obtain ⟨r,q1,q2⟩ : ∃ r,loop (β:=Nat×((Int×(Int×(Bool×List AB)))×Unit)) _ ((1:Int),((0:Int),(false,([]:List AB))))=some r/\(r.2.1.2.2.2++(if r.2.1.2.2.1=true then [] else [x])=FU l x/\r.2.1.1=W/\r.2.1.2.2.2.length<=1500) :=
  EF (l:=l) (σ:=Int×(Bool×List AB)) (λk s=>(s.1,((k:Int),(s.2.1,s.2.2))))
  (λm k s=>(∃ q,Asc q m)/\(s.2.1=true -> ∀ y∈m,B3 x.1 y.1=true)/\s.2.2++(if s.2.1=true then m else FU m x)=FU l x/\s.1+(L0 m x:Int)=W/\s.2.2.length+(if s.2.1=true then 0 else 1)<=k+1/\0<=s.1/\s.1<=k+1)
  (λ(r:Nat×((Int×(Int×(Bool×List AB)))×Unit))=>(r.2.1.2.2.2++(if r.2.1.2.2.1=true then [] else [x])=FU l x/\r.2.1.1=W/\r.2.1.2.2.2.length<=1500))
  (f:=λ(s0:(Int×(Int×(Bool×(List AB)))))=>br (Ae s0.2.1 (l.length:Int)) (λ_=>AP s0.2.1 λk1=>ix l k1 λx2=>br (B3 x.1 x2.1) (λ_=>AP s0.2.1 λk3=>ix l k3 λx4=>br (AY (B3 x4.1 x.1)) (λ_=>br (AY s0.2.2.1) (λ_=>gd (Aj (AK s0.2.2.2.length [x].length) 1048576) λ_=>AP s0.2.1 λk5=>ix l k5 λx6=>br (AY (seq x6.1 x.1)) (λ_=>AP s0.2.1 λk7=>ix l k7 λx8=>gd (Aj (AK (s0.2.2.2++[x]).length [x8].length) 1048576) λ_=>some (.nx ((AH .i64 s0.1 1,(AH .i64 s0.2.1 1,(true,(s0.2.2.2++[x])++[x8])))))) λ_=>some (.nx ((AH .i64 s0.1 1,(AH .i64 s0.2.1 1,(true,s0.2.2.2++[x])))))) λ_=>AP s0.2.1 λk9=>ix l k9 λx10=>br (AY (seq x10.1 x.1)) (λ_=>AP s0.2.1 λk11=>ix l k11 λx12=>gd (Aj (AK s0.2.2.2.length [x12].length) 1048576) λ_=>some (.nx ((AH .i64 s0.1 1,(AH .i64 s0.2.1 1,(s0.2.2.1,s0.2.2.2++[x12])))))) λ_=>some (.nx ((AH .i64 s0.1 1,(AH .i64 s0.2.1 1,s0.2.2))))) λ_=>AP s0.2.1 λk13=>ix l k13 λx14=>br (AY (seq x14.1 x.1)) (λ_=>AP s0.2.1 λk15=>ix l k15 λx16=>gd (Aj (AK s0.2.2.2.length [x16].length) 1048576) λ_=>some (.nx ((AH .i64 s0.1 1,(AH .i64 s0.2.1 1,(s0.2.2.1,s0.2.2.2++[x16])))))) λ_=>some (.nx ((AH .i64 s0.1 1,(AH .i64 s0.2.1 1,s0.2.2))))) λ_=>AP s0.2.1 λk17=>ix l k17 λx18=>br (AY (B3 x18.1 x.1)) (λ_=>br (AY s0.2.2.1) (λ_=>gd (Aj (AK s0.2.2.2.length [x].length) 1048576) λ_=>AP s0.2.1 λk19=>ix l k19 λx20=>br (AY (seq x20.1 x.1)) (λ_=>AP s0.2.1 λk21=>ix l k21 λx22=>gd (Aj (AK (s0.2.2.2++[x]).length [x22].length) 1048576) λ_=>some (.nx ((s0.1,(AH .i64 s0.2.1 1,(true,(s0.2.2.2++[x])++[x22])))))) λ_=>some (.nx ((s0.1,(AH .i64 s0.2.1 1,(true,s0.2.2.2++[x])))))) λ_=>AP s0.2.1 λk23=>ix l k23 λx24=>br (AY (seq x24.1 x.1)) (λ_=>AP s0.2.1 λk25=>ix l k25 λx26=>gd (Aj (AK s0.2.2.2.length [x26].length) 1048576) λ_=>some (.nx ((s0.1,(AH .i64 s0.2.1 1,(s0.2.2.1,s0.2.2.2++[x26])))))) λ_=>some (.nx ((s0.1,(AH .i64 s0.2.1 1,s0.2.2))))) λ_=>AP s0.2.1 λk27=>ix l k27 λx28=>br (AY (seq x28.1 x.1)) (λ_=>AP s0.2.1 λk29=>ix l k29 λx30=>gd (Aj (AK s0.2.2.2.length [x30].length) 1048576) λ_=>some (.nx ((s0.1,(AH .i64 s0.2.1 1,(s0.2.2.1,s0.2.2.2++[x30])))))) λ_=>some (.nx ((s0.1,(AH .i64 s0.2.1 1,s0.2.2))))) λ_=>some (.dn ((0,(s0,())))))
  ((1:Int),(false,[])) rfl (by omega) ⟨⟨p,ha⟩,by simp,rfl,hW.symm,by simp,by simp,by simp⟩ (λs h=>by
   obtain ⟨w,d,out⟩:=s;obtain ⟨_,_,h3,h4,h5,h6,h7⟩:=h;refine ⟨(0,((w,((l.length:Int),(d,out))),())),by simp only;rw [re,AV],?_,?_,?_⟩
   ·rw [UU] at h3;exact h3
   ·simp only [L0] at h4 ⊢;omega
   ·simp only at h5 ⊢;split at h5<;>omega) (λk y m s hd hx hk h=>by
   obtain ⟨w,d,out⟩:=s;obtain ⟨⟨q,hq⟩,h2,h3,h4,h5,h6,h7⟩:=h;simp only at h2 h3 h4 h5 h6 h7 ⊢;obtain ⟨_,hq2⟩:=hq;have hsub : ∀ z∈m,B3 y.1 z.1=true:=λz hz=>Nk hq2 z hz;have c1:AH .i64 w 1=w+1:=CV (by omega);have c2:AH .i64 (k:Int) 1=((k+1:Nat):Int):=As hx (by omega);simp only [c1,c2];rw [rl hk,AM,AE,AI hx,GW];have h5':out.length<=k+1:=by split at h5<;>omega
   have g1:out.length+[x].length<=2000:=by simp;omega
   have g2 : ∀ z:AB,(out++[x]).length+[z].length<=2000:=λz=>by simp;omega
   have g3 : ∀ z:AB,out.length+[z].length<=2000:=λz=>by simp;omega
   unfold L0 at h4;rw [RI] at h3
   have hse:seq y.1 x.1=decide (y.1=x.1):=by
    cases hqq:seq y.1 x.1 with
    | true=>exact (decide_eq_true (IS.1 hqq)).symm
    | false =>
     refine (decide_eq_false λe => ?_).symm;rw [IS.2 e] at hqq;cases hqq
   by_cases t1:B3 x.1 y.1=true
   ·
    have t2:B3 y.1 x.1=false:=C1 t1;have t3 : ¬ y.1=x.1:=λe=>by rw [e,Fz] at t1;cases t1
    rw [if_pos t1] at h4 ⊢;rw [AE,AI hx,t2,Ey,AM];cases d with
    | true =>
     rw [DM,AV,AE,AI hx,hse,decide_eq_false t3,Ey,AM,AE,AI hx,gg (g3 y)];refine .inl ⟨(w+1,(true,out++[y])),rfl,⟨_,hq2⟩,λ_ z hz=>DS t1 (hsub z hz),?_,by simp only;omega,by simp at h5 ⊢;omega,by simp only;omega,by simp only;omega⟩;simp only [if_true] at h3 ⊢;rw [<- h3];simp
    | false =>
     rw [Ey,AM,gg g1,AE,AI hx,hse,decide_eq_false t3,Ey,AM,AE,AI hx,gg (g2 y)];rw [if_neg (show ¬ false=true by decide),if_neg (by rw [t2];simp),if_neg t3] at h3;refine .inl ⟨(w+1,(true,(out++[x])++[y])),rfl,⟨_,hq2⟩,λ_ z hz=>DS t1 (hsub z hz),?_,by simp only;omega,?_,by simp only;omega,by simp only;omega⟩
     ·rw [<- h3];simp
     ·simp at h5 ⊢;omega
   ·rw [if_neg t1] at h4 ⊢
    have hd0:d=false:=by
     cases d with
     | false=>rfl
     | true=>exact absurd (h2 rfl y (by simp)) t1
    subst hd0;by_cases t2:B3 y.1 x.1=true
    ·have t3 : ¬ y.1=x.1:=λe=>by rw [e,Fz] at t2;cases t2
     rw [if_neg (show ¬ false=true by decide),if_pos t2] at h3;rw [AE,AI hx,t2,DM,AV,AE,AI hx,hse,decide_eq_false t3,Ey,AM,AE,AI hx,gg (g3 y)];refine .inl ⟨(w,(false,out++[y])),rfl,⟨_,hq2⟩,(λh=>by cases h),?_,by simp only;omega,by simp at h5 ⊢;omega,by simp only;omega,by simp only;omega⟩;rw [<- h3];simp
    ·have t3:y.1=x.1:=by
      by_cases e:y.1=x.1
      ·exact e
      ·exact absurd (Lp (by simpa using t2) e) t1
     have t2':B3 y.1 x.1=false:=by simpa using t2
     rw [if_neg (show ¬ false=true by decide),if_neg t2,if_pos t3] at h3;rw [AE,AI hx,t2',Ey,AM,AM,gg g1,AE,AI hx,hse,decide_eq_true t3,DM,AV];refine .inl ⟨(w,(true,out++[x])),rfl,⟨_,hq2⟩,λ_ z hz=>by rw [<- t3];exact hsub z hz,?_,by simp only;omega,by simp at h5 ⊢;omega,by simp only;omega,by simp only;omega⟩
     rw [<- h3];simp)
 refine A7 q1 ?_;obtain ⟨q2,q3,q4⟩:=q2;rw [<- hW,<- q3,<- q2];generalize r.2.1.2.2.1=d;cases d with
 | true=>rw [DM,AV];simp
 | false=>rw [Ey,AM,gg (by simp;omega)];simp
end Go.Proofs.YthpkjfabdccpdaaGreat.Pl
namespace Go.Proofs.YthpkjfabdccpdaaGreat.Pl
open Go Go.Proofs.YthpkjfabdccpdaaGreat.Sv
def He:List AB->List AB->Int->List AB×Int
 | l,[],w=>(l,w)
 | l,x::ls,w=>He (FU l x) ls (w+(1+(L0 l x:Int)))
theorem Xo : ∀ (ls l:List AB) (w:Int),l.length<=(He l ls w).1.length
 | [],l,w=>Nat.le_refl _
 | x::ls,l,w=>by
  have h1:=Xo ls (FU l x) (w+(1+(L0 l x:Int)));have h2:=JA l x;unfold He;split at h2<;>omega
theorem cW : ∀ (ls l:List AB) (w:Int),(He l ls w).1.length<=l.length+ls.length
 | [],l,w=>by simp [He]
 | x::ls,l,w=>by
  have h1:=cW ls (FU l x) (w+(1+(L0 l x:Int)));have h2:=JA l x;unfold He;simp only [List.length_cons];split at h2<;>omega
theorem Vr (most:Nat) : ∀ (ls l:List AB) (w:Int),Asc none l->l.length<=most->(Nn most l ls w).2.2=decide ((He l ls w).1.length<=most)/\((Nn most l ls w).2.2=true->(Nn most l ls w).1=(He l ls w).1/\(Nn most l ls w).2.1=(He l ls w).2)
 | [],l,w,_,hl=>⟨(decide_eq_true hl).symm,λ_=>⟨rfl,rfl⟩⟩
 | x::ls,l,w,ha,hl=>by
  have hp:=KX x ha (λ_ h=>by cases h);have hpl:=JA l x;have hg:=cV (x:=x) ha;unfold Nn He;by_cases hh:Jh l x.1=true
  ·rw [if_pos hh];rw [if_pos hh] at hpl hg;rw [show w+((l.length:Int)-(Ef l x.1:Int)+1)-1=w+(1+(L0 l x:Int)) by omega];exact Vr most ls (FU l x) _ hp (by omega)
  ·rw [if_neg hh];rw [if_neg hh] at hpl hg;by_cases hm:l.length=most
   ·rw [if_pos hm];have:=Xo ls (FU l x) (w+(1+(L0 l x:Int)));exact ⟨(decide_eq_false (by omega)).symm,λh=>by cases h⟩
   ·rw [if_neg hm,show w+((l.length:Int)-(Ef l x.1:Int)+1)=w+(1+(L0 l x:Int)) by omega];exact Vr most ls (FU l x) _ hp (by omega)
theorem Xp {b:Ao} (h:Bf b) {l:List AB} (hl:l.length<=16):E7 (b,l)=some (He b.2 l 0):=by
 have hm:=h.m2;have hbl:=h.len;unfold E7;simp only [AU,AO];rw [BE (by omega)];obtain ⟨T,hT⟩ : ∃ T,T=He b.2 l 0:=⟨_,rfl⟩;rw [<- hT]
 obtain ⟨r,q1,q2⟩:=EF (l:=l) (σ:=Int×List AB) (s:=((0:Int),((0:Int),b.2))) (λk s=>(s.1,((k:Int),s.2))) (λm k s=>Asc none s.2/\s.2.length<=16+k/\0<=s.1/\s.1<=100*k/\He s.2 m s.1=T) (λ(r:Nat×((Int×Ao)×Unit))=>(r.2.1.2.2,r.2.1.1)=T)
  (f:=λ(s0:(Int×Ao))=>br (Ae s0.2.1 (l.length:Int)) (λ_=>AP s0.2.1 λk1=>ix l k1 λx2=>bd (GA (s0.2.2,x2)) λr3=>some (.nx ((AH .i64 s0.1 r3.2,(AH .i64 s0.2.1 1,r3.1))))) λ_=>some (.dn ((0,(s0,())))))
  (0,b.2) rfl (by omega) ⟨h.asc,by simp only;omega,by simp,by simp,hT.symm⟩ (λs hs=>by
   obtain ⟨w,o⟩:=s;exact ⟨(0,((w,((l.length:Int),o)),())),by simp only;rw [re,AV],hs.2.2.2.2⟩) (λk x m s hd hx hk hs=>by
   obtain ⟨w,o⟩:=s;obtain ⟨h1,h2,h3,h4,h5⟩:=hs;simp only at h1 h2 h3 h4 h5 ⊢;have hg:=cU o x;have hpl:=JA o x;rw [rl hk,AM,AE,AI hx,jV h1 x (by omega),AC,CV (by omega),As hx (by omega)]
   exact .inl ⟨(w+(1+(L0 o x:Int)),FU o x),rfl,KX x h1 (λ_ h=>by cases h),by simp only;split at hpl<;>omega,by simp only;omega,by simp only;omega,h5⟩)
 refine A7 q1 ?_;rw [<- q2]
theorem GB {b:Ao} {l:List AB} (h:Ju b l=0):Bf b/\l.length<=16/\E8 l=0:=by
 unfold Ju at h;by_cases h1:(BP b).2=0;rotate_left
 ·rw [if_pos h1] at h;exact absurd h h1
 rw [if_neg (by simp [h1])] at h;by_cases h2:(l.length:Int)>16
 ·rw [if_pos h2] at h;cases h
 rw [if_neg h2] at h;exact ⟨j9 h1,by omega,h⟩
def Hb (b:Ao) (l:List AB):List AB×(Int×Bool):=Nn b.1.toNat b.2 l 0
theorem kA {b:Ao} {l:List AB} (h:Bf b) (hl:l.length<=16):DE (b,l)=some (Hb b l):=by
 obtain ⟨m,es⟩:=b;obtain ⟨k,rfl⟩ : ∃ k:Nat,m=(k:Int):=⟨m.toNat,by have:=h.m1;simp only at this;omega⟩;have h1:=h.m1;have h2:=h.m2;have h3:=h.len;simp only at h1 h2 h3;have:=cS (most:=k) (by omega) (by omega) (ls:=l) h.asc (by simp only;omega) (by omega);unfold Hb;simpa using this
theorem SS {b:Ao} {l:List AB} (h:Bf b):(Hb b l).2.2=decide (((He b.2 l 0).1.length:Int)<=b.1)/\((Hb b l).2.2=true->(Hb b l).1=(He b.2 l 0).1/\(Hb b l).2.1=(He b.2 l 0).2):=by
 have h1:=h.m1;have h3:=h.len;have:=Vr b.1.toNat l b.2 0 h.asc (by omega);refine ⟨this.1.trans ?_,this.2⟩;exact decide_eq_decide.2 (by omega)
def Vs (b:Ao) (l:List AB):Bool×Int:=if Ju b l≠0 then (false,Ju b l) else ((Hb b l).2.2,0)
def Ly (b:Ao) (l:List AB):Ao×(Int×Int):=if Ju b l≠0 then ((0,[]),(0,Ju b l)) else if (Hb b l).2.2=true then ((b.1,(Hb b l).1),((Hb b l).2.1,0)) else ((0,[]),(0,5))
theorem jW (b:Ao) (l:List AB):Do (b,l)=some (Vs b l):=by
 unfold Do Vs;rw [UV,AC,AN];by_cases h:Ju b l=0
 ·obtain ⟨h1,h2,h3⟩:=GB h;rw [if_pos h,if_neg (by simp [h]),kA h1 h2,AC]
 ·rw [if_neg h,if_pos h]
theorem UW (b:Ao) (l:List AB) (hl:l.length<=9223372036854775807):FS (b,l)=some (Vs b l):=by
 unfold FS Vs;rw [Y6 b l hl,AC,AN];by_cases h:Ju b l=0
 ·obtain ⟨h1,h2,h3⟩:=GB h;rw [if_pos h,if_neg (by simp [h]),Xp h1 h2,AC,(SS h1).1];simp only [AU,AO];rfl
 ·rw [if_neg h,if_pos h]
theorem cX (b:Ao) (l:List AB):DG (b,l)=some (Ly b l):=by
 unfold DG Ly;rw [UV,AC,AN];by_cases h:Ju b l=0
 ·obtain ⟨h1,h2,h3⟩:=GB h;rw [if_pos h,if_neg (by simp [h]),kA h1 h2,AC];cases (Hb b l).2.2 with
  | true=>rw [DM,AV];rfl
  | false=>rw [Ey,AM];rfl
 ·rw [if_neg h,if_pos h]
theorem Nq (b:Ao) (l:List AB) (hl:l.length<=9223372036854775807):Ee (b,l)=some (Ly b l):=by
 unfold Ee Ly;rw [UW b l hl,AC];unfold Vs;by_cases h:Ju b l=0
 ·obtain ⟨h1,h2,h3⟩:=GB h;rw [if_neg (by simp [h]),if_neg (by simp [h])];simp only;rw [BI,if_pos rfl];have hf:=SS (l:=l) h1;cases hw:(Hb b l).2.2 with
  | true =>
   obtain ⟨e1,e2⟩:=hf.2 hw;rw [DM,AV,AN,if_pos rfl,Xp h1 h2,AC,if_pos rfl,e1,e2]
  | false=>rw [Ey,AM];rfl
 ·rw [if_pos h,if_pos h];simp only;rw [BI,if_neg h,AN,if_neg h]
def Ms:List AB->Bool
 | x::y::l=>decide (x.2.2.2<y.2.2.2)&&Ms (y::l)
 | _=>true
theorem RJ (x y:AB) (l:List AB):Ms (x::y::l)=(decide (x.2.2.2<y.2.2.2)&&Ms (y::l)):=rfl
def SU (f:CB) (l:List AB):Int:=if BM f≠0 then BM f else if (l.length:Int)<1\/(l.length:Int)>8\/(l.length:Int)>f.1.1 then 2 else 0
def lN (f:CB) (l:List AB):Int:=if SU f l≠0 then SU f l else E8 l
def Gr (f:CB) (l:List AB):Int:=if lN f l≠0 then lN f l else if Ms l=true then 0 else 6
theorem KY {f:CB} {l:List AB} {e:Int} (h:SU f l=e) (hn:e≠0):Gr f l=e:=by
 have h1:lN f l=e:=by unfold lN;rw [h,if_pos hn]
 unfold Gr;rw [h1,if_pos hn]
theorem Xq {f:CB} {l:List AB} (h:SU f l=0):Gr f l=if E8 l≠0 then E8 l else if Ms l=true then 0 else 6:=by
 have h1:lN f l=E8 l:=by unfold lN;rw [h,if_neg (by simp)]
 unfold Gr;rw [h1]
theorem UX {l tl:List AB} {x0:AB} (hl:l=x0::tl) {k:Nat} {y:AB} {m:List AB} (hd:tl.drop k=y::m) : ∃ z,l[k]? = some z/\l[k+1]? = some y/\l.drop k=z::y::m/\l.drop (k+1)=y::m:=by
 subst hl
 have hk:k<tl.length:=by
  by_cases h:k<tl.length
  ·exact h
  ·rw [List.drop_eq_nil_of_le (by omega)] at hd;cases hd
 have h1:(x0::tl).drop (k+1)=y::m:=by simpa using hd
 refine ⟨(x0::tl)[k]'(by simp;omega),List.getElem?_eq_getElem (by simp;omega),?_,?_,h1⟩
 ·have:=congrArg (λz=>z[0]?) h1;simpa using this
 ·rw [<- h1];exact List.drop_eq_getElem_cons (by simp;omega)
theorem cY {l:List AB} (hl:l.length<=1000) (h1:1<=l.length) : ∃ r,loop (β:=Nat×(Int×Int)) (λs7=>br (Ae s7 (BF .i64 (l.length:Int) 1)) (λ_=>AP (AH .i64 s7 1) λk8=>ix l k8 λx9=>AP s7 λk10=>ix l k10 λx11=>br (Pu x9.2.2.2 x11.2.2.2) (λ_=>some (.dn ((0,(s7,6))))) λ_=>some (.nx (AH .i64 s7 1))) λ_=>some (.dn ((1,(s7,0))))) (0:Int)=some r/\((r.1=0/\r.2.2=6/\Ms l=false)\/(r.1=1/\Ms l=true)):=by
 obtain ⟨x0,tl,e⟩ : ∃ x0 tl,l=x0::tl:=by
  cases l with
  | nil=>simp at h1
  | cons x0 tl=>exact ⟨x0,tl,rfl⟩
 have hlen:l.length=tl.length+1:=by rw [e];rfl
 have hs:BF .i64 (l.length:Int) 1=(tl.length:Int):=by rw [Bu (by omega)];omega
 simp only [hs]
 exact EF (l:=tl) (σ:=Unit) (λk _=>(k:Int)) (λm k _=>Ms l=Ms (l.drop k)) (λ(r:Nat×(Int×Int))=>(r.1=0/\r.2.2=6/\Ms l=false)\/(r.1=1/\Ms l=true)) () rfl (by omega) rfl (λ_ h=>by
   refine ⟨(1,((tl.length:Int),0)),by rw [re];rfl,.inr ⟨rfl,?_⟩⟩;rw [h,e]
   have:(x0::tl).drop tl.length=[(x0::tl)[tl.length]'(by simp)]:=by
    rw [List.drop_eq_getElem_cons (by simp)];simp
   rw [this];rfl) (λk y m _ hd hx hk h=>by
   obtain ⟨z,z1,z2,z3,z4⟩:=UX e hd;have hi:AH .i64 (k:Int) 1=((k+1:Nat):Int):=AZ (by omega);simp only [hi];rw [rl hk,AM,AE,AI z2,AE,AI z1];rw [z3,RJ] at h;unfold Pu;by_cases ho:y.2.2.2<=z.2.2.2
   ·rw [decide_eq_true ho,AM];exact .inr ⟨_,rfl,.inl ⟨rfl,rfl,by rw [h,decide_eq_false (by omega)];rfl⟩⟩
   ·rw [decide_eq_false ho,AV]
    exact .inl ⟨(),rfl,by rw [h,decide_eq_true (by omega),z4];rfl⟩)
theorem Y7 {l:List AB} (hl:l.length<=1000) : ∃ r,loop (β:=Nat×(Int×Int)) (λs2=>br (Ae s2 (l.length:Int)) (λ_=>AP s2 λk3=>ix l k3 λx4=>bd (Aw x4) λr5=>br (Ai r5 0) (λ_=>some (.dn ((0,(s2,r5))))) λ_=>some (.nx (AH .i64 s2 1))) λ_=>some (.dn ((1,(s2,0))))) (0:Int)=some r/\((r.1=0/\r.2.2=E8 l/\E8 l≠0)\/(r.1=1/\E8 l=0)) :=
 EF (l:=l) (σ:=Unit) (λk _=>(k:Int)) (λm k _=>E8 l=E8 m) (λ(r:Nat×(Int×Int))=>(r.1=0/\r.2.2=E8 l/\E8 l≠0)\/(r.1=1/\E8 l=0)) () rfl (by omega) rfl (λ_ h=>⟨(1,((l.length:Int),0)),by rw [re];rfl,.inr ⟨rfl,h⟩⟩) (λk x m _ hd hx hk h=>by
   have h:E8 l=if kE x≠0 then kE x else E8 m:=h
   rw [rl hk,AM,AE,AI hx,C2,AC,AN,AZ (by omega)];by_cases h3:kE x=0
   ·rw [if_neg (by simp [h3])] at h;rw [if_pos h3];exact .inl ⟨(),rfl,h⟩
   ·rw [if_pos h3] at h
    rw [if_neg h3];exact .inr ⟨_,rfl,.inl ⟨rfl,h.symm,by rw [h];exact h3⟩⟩)
theorem cZ {γ:Type} {f:CB} (m:Sm f.2) {l:List AB} (hl:l.length<=1000) (Z:Int->Option γ) (C:Option γ) :
  (bd (BU f.1) λr0=>br (Ai r0.2 0) (λ_=>Z r0.2) λ_=>bd (Bv f.2) λr1=>br (Ai r1.2 0) (λ_=>Z r1.2) λ_=>br (Ai f.1.1 f.2.1.1) (λ_=>Z 6) λ_=>br (Ae (AW (AA l)) 1) (λ_=>Z 2) λ_=>br (B6 (AW (AA l)) 8) (λ_=>Z 2) λ_=>br (B6 (AW (AA l)) f.1.1) (λ_=>Z 2) λ_=>bd (loop (β:=Nat×(Int×Int)) (λs2=>br (Ae s2 (AW (AA l))) (λ_=>AP s2 λk3=>ix l k3 λx4=>bd (Aw x4) λr5=>br (Ai r5 0) (λ_=>some (.dn ((0,(s2,r5))))) λ_=>some (.nx (AH .i64 s2 1))) λ_=>some (.dn ((1,(s2,0))))) 0) λr6=>br (neq r6.1 0) (λ_=>Z r6.2.2) λ_=>bd (loop (β:=Nat×(Int×Int)) (λs7=>br (Ae s7 (BF .i64 (AW (AA l)) 1)) (λ_=>AP (AH .i64 s7 1) λk8=>ix l k8 λx9=>AP s7 λk10=>ix l k10 λx11=>br (Pu x9.2.2.2 x11.2.2.2) (λ_=>some (.dn ((0,(s7,6))))) λ_=>some (.nx (AH .i64 s7 1))) λ_=>some (.dn ((1,(s7,0))))) 0) λr12=>br (neq r12.1 0) (λ_=>Z r12.2.2) λ_=>C)=if Gr f l≠0 then Z (Gr f l) else C:=by
 simp only [AU,AO];rw [Jg,AC,AN];by_cases h1:(BP f.1).2=0;rotate_left
 ·have e:BM f=(BP f.1).2:=by unfold BM;rw [if_pos h1]
  have e2:=KY (f:=f) (l:=l) (e:=(BP f.1).2) (by unfold SU;rw [if_pos (by rw [e];exact h1),e]) h1;rw [if_neg h1,e2,if_pos h1]
 rw [if_pos h1,nk m,AC,AN];by_cases h2:(Bj f.2).2=0;rotate_left
 ·have e:BM f=(Bj f.2).2:=by unfold BM;rw [if_neg (show ¬ (BP f.1).2≠0 by simp [h1]),if_pos h2]
  have e2:=KY (f:=f) (l:=l) (e:=(Bj f.2).2) (by unfold SU;rw [if_pos (by rw [e];exact h2),e]) h2;rw [if_neg h2,e2,if_pos h2]
 rw [if_pos h2,AN];by_cases h3:f.1.1=f.2.1.1;rotate_left
 ·have e:BM f=6:=by unfold BM;rw [if_neg (show ¬ (BP f.1).2≠0 by simp [h1]),if_neg (show ¬ (Bj f.2).2≠0 by simp [h2]),if_pos h3]
  have e2:=KY (f:=f) (l:=l) (e:=6) (by unfold SU;rw [if_pos (by rw [e];decide),e]) (by decide);rw [if_neg h3,e2,if_pos (by decide)]
 have e:BM f=0:=by unfold BM;rw [if_neg (show ¬ (BP f.1).2≠0 by simp [h1]),if_neg (show ¬ (Bj f.2).2≠0 by simp [h2]),if_neg (show ¬ f.1.1≠f.2.1.1 by simp [h3])]
 have two:((l.length:Int)<1\/(l.length:Int)>8\/(l.length:Int)>f.1.1)->Gr f l=2:=λh=>KY (by unfold SU;rw [if_neg (by simp [e]),if_pos h]) (by decide);rw [if_pos h3,BD,Av,Av];by_cases h4:(l.length:Int)<1
 ·rw [if_pos h4,two (.inl h4),if_pos (by decide)]
 rw [if_neg h4];by_cases h5:(l.length:Int)>8
 ·rw [if_pos h5,two (.inr (.inl h5)),if_pos (by decide)]
 rw [if_neg h5];by_cases h6:(l.length:Int)>f.1.1
 ·rw [if_pos h6,two (.inr (.inr h6)),if_pos (by decide)]
 rw [if_neg h6,Xq (by unfold SU;rw [if_neg (by simp [e]),if_neg (by omega)])];obtain ⟨r,q1,q2⟩:=Y7 hl;refine A7 q1 ?_;rw [CS];rcases q2 with ⟨q2,q3,q4⟩ | ⟨q2,q3⟩
 ·rw [if_pos q2,if_pos q4,if_pos q4,q3]
 rw [if_neg (show ¬ r.1=0 by omega),if_neg (show ¬ E8 l≠0 by simp [q3])];obtain ⟨r2,p1,p2⟩:=cY hl (by omega);refine A7 p1 ?_;rw [CS];rcases p2 with ⟨p2,p3,p4⟩ | ⟨p2,p3⟩
 ·rw [if_pos p2,p3,p4];rfl
 ·rw [if_neg (show ¬ r2.1=0 by omega),p3];rfl
theorem Vt {l:List AB} (hl:l.length<=1000) (e0:Int) : ∃ r,loop (β:=Nat×((Int×Int)×Unit)) (λs12=>br (Ae s12.2 (l.length:Int)) (λ_=>br (BJ s12.1 0) (λ_=>AP s12.2 λk13=>ix l k13 λx14=>bd (A1 x14) λr15=>some (.nx (r15,AH .i64 s12.2 1))) λ_=>some (.dn ((0,(s12,()))))) λ_=>some (.dn ((0,(s12,()))))) (e0,(0:Int))=some r/\r.2.1.1=if e0≠0 then e0 else E8 l:=by
 obtain ⟨T,hT⟩ : ∃ T,T=if e0≠0 then e0 else E8 l:=⟨_,rfl⟩
 rw [<- hT]
 exact EF (l:=l) (σ:=Int) (λk e=>(e,(k:Int))) (λm k e=>T=if e≠0 then e else E8 m) (λ(r:Nat×((Int×Int)×Unit))=>r.2.1.1=T) e0 rfl (by omega) hT (λe h=>⟨(0,((e,(l.length:Int)),())),by simp only;rw [re,AV],by
   rw [h];simp only;split
   ·rfl
   ·rename_i h2;simp only [E8];omega⟩) (λk x m e hd hx hk h=>by
   simp only;rw [rl hk,AM,BI];by_cases h2:e=0
   ·rw [if_pos h2,AE,AI hx,Gh,AC,AZ (by omega)];rw [if_neg (by simp [h2])] at h;exact .inl ⟨kE x,rfl,h⟩
   ·rw [if_neg h2];rw [if_pos h2] at h
    exact .inr ⟨_,rfl,h.symm⟩)
theorem Y8 {l:List AB} (hl:l.length<=1000) (e0:Int) : ∃ r,loop (β:=Nat×((Int×Int)×Unit)) (λs6=>br (Ae s6.1 (l.length:Int)) (λ_=>br (BJ s6.2 0) (λ_=>AP s6.1 λk7=>ix l k7 λx8=>AP (BF .i64 s6.1 1) λk9=>ix l k9 λx10=>br (Pu x8.2.2.2 x10.2.2.2) (λ_=>some (.nx (AH .i64 s6.1 1,6))) λ_=>some (.nx (AH .i64 s6.1 1,s6.2))) λ_=>some (.dn ((0,(s6,()))))) λ_=>some (.dn ((0,(s6,()))))) ((1:Int),e0)=some r/\r.2.1.2=if e0≠0 then e0 else if Ms l=true then 0 else 6:=by
 obtain ⟨T,hT⟩ : ∃ T,T=if e0≠0 then e0 else if Ms l=true then (0:Int) else 6:=⟨_,rfl⟩
 rw [<- hT];cases hc:l with
 | nil =>
  subst hc;refine ⟨(0,(((1:Int),e0),())),Cq (n:=1) (by omega) (BX (by simp [Ae,br])),?_⟩;rw [hT];simp only;split
  ·rfl
  ·rename_i h;have:e0=0:=by omega
   rw [this];rfl
 | cons x0 tl =>
  rw [<- hc];have hlen:l.length=tl.length+1:=by rw [hc];rfl
  exact EF (l:=tl) (σ:=Int) (λk e=>(((k+1:Nat):Int),e)) (λm k e=>T=if e≠0 then e else if Ms (l.drop k)=true then (0:Int) else 6) (λ(r:Nat×((Int×Int)×Unit))=>r.2.1.2=T) e0 rfl (by omega) hT (λe h=>by
   refine ⟨(0,((((tl.length+1:Nat):Int),e),())),by simp only;rw [show ((tl.length+1:Nat):Int)=(l.length:Int) by omega,re,AV],?_⟩
   have:l.drop tl.length=[l[tl.length]'(by omega)]:=by
    rw [List.drop_eq_getElem_cons (by omega),List.drop_eq_nil_of_le (by omega)]
   rw [this] at h;rw [h];simp only;split
   ·rfl
   ·rename_i h2;have:e=0:=by omega
    rw [this];rfl) (λk y m e hd hx hk h=>by
   obtain ⟨z,z1,z2,z3,z4⟩:=UX hc hd;simp only;have hi:AH .i64 ((k+1:Nat):Int) 1=((k+1+1:Nat):Int):=AZ (by omega);have hj:BF .i64 ((k+1:Nat):Int) 1=(k:Int):=by rw [Bu (by omega)];omega
   rw [hi,hj,BD,if_pos (by omega),BI];by_cases h2:e=0
   ·rw [if_pos h2,AE,AI z2,AE,AI z1];rw [if_neg (by simp [h2]),z3,RJ] at h;unfold Pu;by_cases ho:y.2.2.2<=z.2.2.2
    ·rw [decide_eq_true ho,AM];rw [decide_eq_false (by omega)] at h;exact .inl ⟨6,rfl,by rw [h];rfl⟩
    ·rw [decide_eq_false ho,AV];rw [decide_eq_true (by omega),Bool.true_and] at h;exact .inl ⟨e,rfl,by rw [if_neg (by simp [h2]),z4];exact h⟩
   ·rw [if_neg h2];rw [if_pos h2] at h
    exact .inr ⟨_,rfl,h.symm⟩)
theorem ca {f:CB} (m:Sm f.2) {l:List AB} (hl:l.length<=1000):Fl (f,l)=some (Gr f l):=by
 unfold Fl;simp only [AU,AO]
 have fin : ∀ {e0:Int},e0=SU f l->(bd (loop (β:=Nat×((Int×Int)×Unit)) (λs12=>br (Ae s12.2 (l.length:Int)) (λ_=>br (BJ s12.1 0) (λ_=>AP s12.2 λk13=>ix l k13 λx14=>bd (A1 x14) λr15=>some (.nx (r15,AH .i64 s12.2 1))) λ_=>some (.dn ((0,(s12,()))))) λ_=>some (.dn ((0,(s12,()))))) (e0,(0:Int))) λr5=>bd (loop (β:=Nat×((Int×Int)×Unit)) (λs6=>br (Ae s6.1 (l.length:Int)) (λ_=>br (BJ s6.2 0) (λ_=>AP s6.1 λk7=>ix l k7 λx8=>AP (BF .i64 s6.1 1) λk9=>ix l k9 λx10=>br (Pu x8.2.2.2 x10.2.2.2) (λ_=>some (.nx (AH .i64 s6.1 1,6))) λ_=>some (.nx (AH .i64 s6.1 1,s6.2))) λ_=>some (.dn ((0,(s6,()))))) λ_=>some (.dn ((0,(s6,()))))) ((1:Int),r5.2.1.1)) λr11=>some r11.2.1.2)=some (Gr f l):=by
  intro e0 he;obtain ⟨r,q1,q2⟩:=Vt hl e0;rw [q1,AC];obtain ⟨r2,p1,p2⟩:=Y8 hl r.2.1.1;rw [p1,AC,p2,q2,he];rfl
 rw [OI m,AC,BI];by_cases h1:BM f=0;rotate_left
 ·rw [if_neg h1];exact fin (by unfold SU;rw [if_pos h1])
 rw [if_pos h1,BD,Av,Av];by_cases h4:(l.length:Int)<1
 ·rw [if_pos h4];exact fin (by unfold SU;rw [if_neg (by simp [h1]),if_pos (.inl h4)])
 rw [if_neg h4];by_cases h5:(l.length:Int)>8
 ·rw [if_pos h5];exact fin (by unfold SU;rw [if_neg (by simp [h1]),if_pos (.inr (.inl h5))])
 rw [if_neg h5];by_cases h6:(l.length:Int)>f.1.1
 ·rw [if_pos h6];exact fin (by unfold SU;rw [if_neg (by simp [h1]),if_pos (.inr (.inr h6))])
 rw [if_neg h6];exact fin (by unfold SU;rw [if_neg (by simp [h1]),if_neg (by omega),h1])
end Go.Proofs.YthpkjfabdccpdaaGreat.Pl
namespace Go.Proofs.YthpkjfabdccpdaaGreat.Pl
open Go Go.Proofs.YthpkjfabdccpdaaGreat.Sv
theorem RK {f:CB} {l:List AB} (h:Gr f l=0):BM f=0/\1<=l.length/\l.length<=8/\E8 l=0:=by
 have h0:SU f l=0:=by
  by_cases h1:SU f l=0
  ·exact h1
  ·rw [KY rfl h1] at h;exact absurd h h1
 rw [Xq h0] at h
 have h2:E8 l=0:=by
  by_cases h1:E8 l=0
  ·exact h1
  ·rw [if_pos h1] at h;exact absurd h h1
 unfold SU at h0;by_cases h3:BM f=0;rotate_left
 ·rw [if_pos h3] at h0;exact absurd h0 h3
 rw [if_neg (by simp [h3])] at h0;by_cases h4:(l.length:Int)<1\/(l.length:Int)>8\/(l.length:Int)>f.1.1
 ·rw [if_pos h4] at h0;cases h0
 ·exact ⟨h3,by omega,by omega,h2⟩
theorem Mt {f:CB} (h:BM f=0):(BP f.1).2=0/\VSt f.2/\f.1.1=f.2.1.1:=by
 have hj:=Nv h;unfold BM at h;by_cases h1:(BP f.1).2=0;rotate_left
 ·rw [if_pos h1] at h;exact absurd h h1
 rw [if_neg (by simp [h1]),if_neg (by simp [hj])] at h;refine ⟨h1,IW.1 hj,?_⟩;by_cases h3:f.1.1=f.2.1.1
 ·exact h3
 ·rw [if_pos h3] at h;cases h
theorem Ob {f:CB} {l:List AB} (h:Gr f l=0):Ju f.1 l=0/\VSt f.2:=by
 obtain ⟨h1,h2,h3,h4⟩:=RK h;obtain ⟨g1,g2,_⟩:=Mt h1;refine ⟨?_,g2⟩;unfold Ju;rw [if_neg (by simp [g1]),if_neg (by omega),h4]
def zF:CB:=((0,[]),zS)
def Vu (f:CB) (l:List AB):Bool×Int:=if Gr f l≠0 then (false,Gr f l) else (AY (Hb f.1 l).2.2,0)
theorem Y9 {f:CB} (m:Sm f.2) {l:List AB} (hl:l.length<=1000):Fo (f,l)=some (Vu f l):=by
 unfold Fo Vu;rw [ca m hl,AC,AN];by_cases h:Gr f l=0;rotate_left
 ·rw [if_neg h,if_pos h]
 rw [if_pos h,if_neg (by simp [h])];obtain ⟨h1,_⟩:=Ob h;rw [UW f.1 l (by omega),AC];unfold Vs;rw [if_neg (by simp [h1])]
def Jr (f:CB):Bool:=decide (2<=(Ar f.2.1.2 0).length)
theorem jX {f:CB} (v:VLev f.2.1):Gq f=some (Jr f):=by
 have h2:=(v.own 0).1;unfold Gq Jr;simp only [AU,AO];rw [D0];by_cases h:0<f.2.1.2.length
 ·rw [if_neg (by omega),AI (Dr h)]
  congr 1
  rw [DN];exact decide_eq_decide.2 (by omega)
 ·rw [if_pos (by omega)]
  congr 1
  have:Ar f.2.1.2 0=[]:=by unfold Ar;rw [List.getElem?_eq_none (by omega)];rfl
  rw [this];rfl
theorem Xr {f:CB} (v:VLev f.2.1):CF (f.2.1,(0:Int))=some (AY (Jr f),0):=by
 have h2:=(v.own 0).1;have h:=Q0 v (n:=0) (by omega);rw [if_neg (by omega)] at h;refine h.trans ?_
 congr 2
 unfold UD Jr;rw [CZ];have h4:((f.2.1.2[0]?).getD []).length=(Ar f.2.1.2 0).length:=rfl;rw [h4];exact decide_eq_decide.2 (by omega)
theorem ky {γ:Type} {f:CB} (m:Sm f.2) (Z:Int->Option γ) (C:Option γ) :
  (bd (BU f.1) λr0=>br (Ai r0.2 0) (λ_=>Z r0.2) λ_=>bd (Bv f.2) λr1=>br (Ai r1.2 0) (λ_=>Z r1.2) λ_=>br (Ai f.1.1 f.2.1.1) (λ_=>Z 6) λ_=>C)=if BM f≠0 then Z (BM f) else C:=by
 rw [Jg,AC,AN];by_cases h1:(BP f.1).2=0;rotate_left
 ·have e:BM f=(BP f.1).2:=by unfold BM;rw [if_pos h1]
  rw [if_neg h1,e,if_pos h1]
 rw [if_pos h1,nk m,AC,AN];by_cases h2:(Bj f.2).2=0;rotate_left
 ·have e:BM f=(Bj f.2).2:=by unfold BM;rw [if_neg (show ¬ (BP f.1).2≠0 by simp [h1]),if_pos h2]
  rw [if_neg h2,e,if_pos h2]
 rw [if_pos h2,AN];by_cases h3:f.1.1=f.2.1.1;rotate_left
 ·have e:BM f=6:=by unfold BM;rw [if_neg (show ¬ (BP f.1).2≠0 by simp [h1]),if_neg (show ¬ (Bj f.2).2≠0 by simp [h2]),if_pos h3]
  rw [if_neg h3,e,if_pos (by decide)]
 have e:BM f=0:=by unfold BM;rw [if_neg (show ¬ (BP f.1).2≠0 by simp [h1]),if_neg (show ¬ (Bj f.2).2≠0 by simp [h2]),if_neg (show ¬ f.1.1≠f.2.1.1 by simp [h3])]
 rw [if_pos h3,e,if_neg (by simp)]
theorem cb {f:CB} (h1:f.1.2.length<=1000000) (h2:f.2=zS\/VSt f.2):FQ (f,f)=some true:=by
 unfold FQ Hk;rw [BI,if_pos rfl,Mr f.1.2 (by omega),AC,AC,AM,Yz h2];rfl
theorem ZA (f:CB) : ∃ b,Gp f=some b/\(b=false->Sm f.2/\f.1.2.length<=30 /\ ∀ rs∈f.2.1.2,∀ r∈rs,r.2.length<=30):=by
 unfold Gp;obtain ⟨b,e,hb⟩:=Nj f.1.2;rw [e,AC];cases b with
 | true=>exact ⟨true,rfl,λh=>by cases h⟩
 | false =>
  obtain ⟨b2,e2,hb2⟩:=Yr f.2;rw [AV,e2,AC];exact ⟨b2,rfl,λh=>⟨(hb2 h).1,hb rfl,(hb2 h).2⟩⟩
theorem jY:Ed ()=some true:=by kernel_rfl
end Go.Proofs.YthpkjfabdccpdaaGreat.Pl
namespace Go.Proofs.YthpkjfabdccpdaaGreat.Pl
open Go Go.Proofs.YthpkjfabdccpdaaGreat.Sv
def kB (f:CB) (l:List AB):CB×(Int×Int) :=
 if Gr f l≠0 then (zF,(0,Gr f l))
 else if (Hb f.1 l).2.2=true then (((f.1.1,(Hb f.1 l).1),f.2),(AH .i64 (Hb f.1 l).2.1 0,0))
 else if f.1.2.length=0 then (zF,(0,5))
 else if Jr f=true then (zF,(0,10))
 else if (Jf f.2 f.1.2).2≠0 then (zF,(0,(Jf f.2 f.1.2).2))
 else if (Ly (f.1.1,[]) l).2.2≠0 then (zF,(0,(Ly (f.1.1,[]) l).2.2))
 else (((Ly (f.1.1,[]) l).1,(Jf f.2 f.1.2).1),(AH .i64 (Ly (f.1.1,[]) l).2.1 (f.1.2.length:Int),0))
theorem Pr {b:Ao} {l:List AB} (h:Ju b l=0):Ly b l=if (Hb b l).2.2=true then ((b.1,(Hb b l).1),((Hb b l).2.1,0)) else ((0,[]),(0,5)):=by
 unfold Ly;rw [if_neg (by simp [h])]
theorem cc {f:CB} (m:Sm f.2) {l:List AB} (hl:l.length<=1000):BV (f,l)=some (kB f l):=by
 unfold BV kB;refine (cZ m hl (λe=>some (zF,(0,e))) _).trans ?_;by_cases h:Gr f l=0;rotate_left
 ·rw [if_pos h,if_pos h]
 rw [if_neg (by simp [h]),if_neg (by simp [h])];obtain ⟨h1,v⟩:=Ob h;obtain ⟨hb,_,_⟩:=GB h1;have hbl:=hb.len;have hb2:=hb.m2;simp only [AU,AO,jW,cX,Pr h1];unfold Vs;rw [if_neg (by simp [h1]),AC];simp only;rw [AN,if_pos rfl];cases hw:(Hb f.1 l).2.2 with
 | true =>
  rw [DM,AV,if_pos rfl,AC,if_pos rfl];simp only;rw [AN,if_pos rfl];rfl
 | false =>
  rw [Ey,AM,if_neg (show ¬ false=true by decide),if_neg (show ¬ false=true by decide),BI];by_cases h0:f.1.2.length=0
  ·rw [if_pos (by omega),if_pos h0,AC];simp only;rw [AN,if_neg (by decide)];rfl
  rw [if_neg (by omega),if_neg h0,Xr v.lev,AC];simp only;rw [AN,if_pos rfl];cases hf:Jr f with
  | true=>rw [DM,Ey,AM,if_pos rfl];rfl
  | false =>
   rw [Ey,DM,AV,if_neg (show ¬ false=true by decide),RF m (by omega),AC,AN];by_cases ha:(Jf f.2 f.1.2).2=0;rotate_left
   ·rw [if_neg ha,if_pos ha];rfl
   rw [if_pos ha,if_neg (by simp [ha]),AC,AN];by_cases hc:(Ly (f.1.1,[]) l).2.2=0
   ·rw [if_pos hc,if_neg (by simp [hc])];rfl
   ·rw [if_neg hc,if_pos hc];rfl
def Mv (f:CB):CB×Int :=
 if BM f≠0 then (zF,BM f)
 else if f.1.2.length=0 then (f,0)
 else if Jr f=true then (zF,10)
 else if (Jf f.2 f.1.2).2≠0 then (zF,(Jf f.2 f.1.2).2)
 else (((f.1.1,[]),(Jf f.2 f.1.2).1),0)
theorem cd {f:CB} (h:BM f=0):f.1.2.length<=16:=by
 have hb:=j9 (Mt h).1;have:=hb.len;have:=hb.m2;omega
theorem jZ {f:CB} (m:Sm f.2):ET f=some (Mv f):=by
 unfold ET Mv;refine (ky m (λe=>some (zF,e)) _).trans ?_;by_cases h:BM f=0;rotate_left
 ·rw [if_pos h,if_pos h]
 rw [if_neg (by simp [h]),if_neg (by simp [h])];have v:=(Mt h).2.1;have hl:=cd h;simp only [AU,AO];rw [BI];by_cases h0:f.1.2.length=0
 ·rw [if_pos (by omega),if_pos h0];rfl
 rw [if_neg (by omega),if_neg h0,Xr v.lev,AC];simp only;rw [AN,if_pos rfl];cases hf:Jr f with
 | true=>rw [DM,Ey,AM,if_pos rfl];rfl
 | false =>
  rw [Ey,DM,AV,if_neg (show ¬ false=true by decide),RF m (by omega),AC,AN];by_cases ha:(Jf f.2 f.1.2).2=0
  ·rw [if_pos ha,if_neg (by simp [ha])];rfl
  ·rw [if_neg ha,if_pos ha];rfl
theorem UY {f:CB} (m:Sm f.2):FT f=some (Mv f):=by
 unfold FT Mv;rw [OI m,AC,AN];by_cases h:BM f=0;rotate_left
 ·rw [if_neg h,if_pos h];rfl
 rw [if_pos h,if_neg (by simp [h])];have v:=(Mt h).2.1;have hl:=cd h;simp only [AU,AO];rw [BI];by_cases h0:f.1.2.length=0
 ·rw [if_pos (by omega),if_pos h0]
 rw [if_neg (by omega),if_neg h0,jX v.lev,AC];cases hf:Jr f with
 | true=>rw [AM,if_pos rfl];rfl
 | false =>
  rw [AV,if_neg (show ¬ false=true by decide),Vp m (by omega),AC,AN];by_cases ha:(Jf f.2 f.1.2).2=0
  ·rw [if_pos ha,if_neg (by simp [ha])]
  ·rw [if_neg ha,if_pos ha];rfl
theorem ZB {f:CB} (m:Sm f.2) {l:List AB} (hl:l.length<=1000):Fp (f,l)=some (kB f l):=by
 unfold Fp kB;rw [Y9 m hl,AC];unfold Vu;by_cases h:Gr f l=0;rotate_left
 ·rw [if_pos h,if_pos h];simp only;rw [AN,if_neg h];rfl
 rw [if_neg (by simp [h]),if_neg (by simp [h])];obtain ⟨h1,v⟩:=Ob h;obtain ⟨hb,_,_⟩:=GB h1;have hfr:=(RK h).1;simp only [AU,AO];rw [AN,if_pos rfl];cases hw:(Hb f.1 l).2.2 with
 | true =>
  rw [DM,AV,Nq f.1 l (by omega),Pr h1,hw,if_pos rfl,AC,if_pos rfl];simp only;rw [AN,if_pos rfl]
 | false =>
  rw [Ey,AM,if_neg (show ¬ false=true by decide),UY m,AC];unfold Mv;rw [if_neg (by simp [hfr])];by_cases h0:f.1.2.length=0
  ·rw [if_pos h0,if_pos h0];simp only;rw [AN,if_pos rfl,Nq f.1 l (by omega),Pr h1,hw,if_neg (show ¬ false=true by decide),AC];simp only;rw [AN,if_neg (by decide)];rfl
  rw [if_neg h0,if_neg h0];cases hf:Jr f with
  | true=>rw [if_pos rfl,if_pos rfl];rfl
  | false =>
   rw [if_neg (show ¬ false=true by decide),if_neg (show ¬ false=true by decide)];by_cases ha:(Jf f.2 f.1.2).2=0;rotate_left
   ·rw [if_pos ha,if_pos ha];simp only;rw [AN,if_neg ha];rfl
   rw [if_neg (by simp [ha]),if_neg (by simp [ha])];simp only;rw [AN,if_pos rfl,Nq (f.1.1,[]) l (by omega),AC,AN];by_cases hc:(Ly (f.1.1,[]) l).2.2=0
   ·rw [if_pos hc,if_neg (by simp [hc])]
   ·rw [if_neg hc,if_pos hc];rfl
theorem cf {b:Ao} {l:List AB} (h:Bf b) (hw:(Hb b l).2.2=true) (hl:l.length<=1000):(Hb b l).1.length<=5000:=by
 have h1:=(SS (l:=l) h).2 hw;have:=cW l b.2 0;have:=h.len;have:=h.m2;rw [h1.1];omega
theorem cg {f:CB} {l:List AB} (hl:l.length<=1000):(kB f l).1.1.2.length<=1000000/\((kB f l).1.2=zS\/VSt (kB f l).1.2):=by
 have z:(zF:CB).1.2.length<=1000000/\((zF:CB).2=zS\/VSt (zF:CB).2):=⟨by simp [zF],.inl rfl⟩;unfold kB;by_cases h:Gr f l=0;rotate_left
 ·rw [if_pos h];exact z
 rw [if_neg (by simp [h])];obtain ⟨h1,v⟩:=Ob h;obtain ⟨hb,hl16,hk⟩:=GB h1;by_cases hw:(Hb f.1 l).2.2=true
 ·rw [if_pos hw];have:=cf hb hw hl;exact ⟨by simp only;omega,.inr v⟩
 rw [if_neg hw];by_cases h0:f.1.2.length=0
 ·rw [if_pos h0];exact z
 rw [if_neg h0];by_cases hf:Jr f=true
 ·rw [if_pos hf];exact z
 rw [if_neg hf];by_cases ha:(Jf f.2 f.1.2).2=0;rotate_left
 ·rw [if_pos ha];exact z
 rw [if_neg (by simp [ha])];by_cases hc:(Ly (f.1.1,[]) l).2.2=0;rotate_left
 ·rw [if_pos hc];exact z
 rw [if_neg (by simp [hc])];refine ⟨?_,UT _⟩;show (Ly (f.1.1,[]) l).1.2.length<=1000000;unfold Ly;by_cases h2:Ju (f.1.1,[]) l=0;rotate_left
 ·rw [if_pos h2];simp
 rw [if_neg (by simp [h2])];by_cases hw2:(Hb (f.1.1,[]) l).2.2=true
 ·rw [if_pos hw2];have:=cf (GB h2).1 hw2 hl;simp only;omega
 ·rw [if_neg hw2];simp
theorem Vv {f:CB} (hf:f.1.2.length<=30):(Mv f).1.1.2.length<=1000000/\((Mv f).1.2=zS\/VSt (Mv f).1.2):=by
 have z:(zF:CB).1.2.length<=1000000/\((zF:CB).2=zS\/VSt (zF:CB).2):=⟨by simp [zF],.inl rfl⟩;unfold Mv;by_cases h:BM f=0;rotate_left
 ·rw [if_pos h];exact z
 rw [if_neg (by simp [h])];by_cases h0:f.1.2.length=0
 ·rw [if_pos h0];exact ⟨by simp only;omega,.inr (Mt h).2.1⟩
 rw [if_neg h0];by_cases hf:Jr f=true
 ·rw [if_pos hf];exact z
 rw [if_neg hf];by_cases ha:(Jf f.2 f.1.2).2=0
 ·rw [if_neg (by simp [ha])];exact ⟨by simp,UT _⟩
 ·rw [if_pos ha];exact z
theorem pressureWrites (x:CB×List AB):Cs x=some true:=by
 obtain ⟨f,l⟩:=x;unfold Cs;obtain ⟨c,e,hc⟩:=ZA f;rw [e,AC,jY];cases c with
 | true=>rfl
 | false =>
  obtain ⟨m,hfl,_⟩:=hc rfl;rw [AV];obtain ⟨c2,e2,hc2⟩:=Nj l;rw [e2,AC];cases c2 with
  | true=>rfl
  | false =>
   have hl:=hc2 rfl;have hl':l.length<=1000:=by omega
   obtain ⟨g1,g2⟩:=cg (f:=f) hl';obtain ⟨g3,g4⟩:=Vv hfl;rw [AV,cc m hl',AC,ZB m hl',AC,cb g1 g2,AC,DM,AV,AN,if_pos rfl,AN,if_pos rfl,jZ m,AC,UY m,AC,cb g3 g4,AC,AM,jN,AM];rfl
end Go.Proofs.YthpkjfabdccpdaaGreat.Pl
