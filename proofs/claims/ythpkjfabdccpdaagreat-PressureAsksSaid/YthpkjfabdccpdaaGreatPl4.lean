/- Functions of the program and of the specification as plain functions, and laws about them. No condition. -/
import Derived.Test.YthpkjfabdccpdaaGreatPl3
set_option linter.all false
namespace Go.Proofs.YthpkjfabdccpdaaGreat.Pl
open Go Go.Proofs.YthpkjfabdccpdaaGreat.Sv
def ES:List AB->Hf->Nat
 | [],_=>0
 | y::l,k=>if Bl y.1 k=true then ES l k+1 else 0
def JQ (l:List AB) (k:Hf):Bool:=match l[ES l k]? with
 | some y=>decide (y.1=k)
 | none=>false
theorem NJ : ∀ (l:List AB) (k:Hf),ES l k<=l.length
 | [],_=>by simp [ES]
 | y::l,k=>by
  have:=NJ l k;unfold ES;split<;>simp<;>omega
theorem ae : ∀ {l:List AB} {k:Hf} {i:Nat} {y:AB},l[i]? = some y->i<ES l k->Bl y.1 k=true
 | [],_,_,_,h,_=>by simp at h
 | x::l,k,0,y,h,hi=>by
  cases h;unfold ES at hi;split at hi
  ·assumption
  ·omega
 | x::l,k,i+1,y,h,hi=>by
  unfold ES at hi;split at hi
  ·exact ae (l:=l) (by simpa using h) (by omega)
  ·omega
theorem af : ∀ {l:List AB} {p:Option Hf},Asc p l -> ∀ {k:Hf} {i:Nat} {y:AB},l[i]? = some y->ES l k<=i->Bl y.1 k=false
 | [],_,_,_,_,_,h,_=>by simp at h
 | x::l,p,⟨h1,h2⟩,k,i,y,h,hi=>by
  unfold ES at hi;cases i with
  | zero =>
   cases h;split at hi
   ·omega
   ·rename_i hs;simpa using hs
  | succ i =>
   have hy:l[i]? = some y:=by simpa using h
   split at hi
   ·exact af h2 hy (by omega)
   ·rename_i hs;have hs:Bl x.1 k=false:=by simpa using hs
    have:=NI h2 y (List.mem_of_getElem? hy);cases hq:Bl y.1 k with
    | false=>rfl
    | true=>rw [DC this hq] at hs;cases hs
theorem ja {l:List AB} {p:Option Hf} (ha:Asc p l) {k:Hf} {i:Nat} (h1:i<=l.length) (h2 : ∀ j y,j<i->l[j]? = some y->Bl y.1 k=true) (h3 : ∀ j y,i<=j->l[j]? = some y->Bl y.1 k=false):i=ES l k:=by
 have hle:=NJ l k;rcases Nat.lt_trichotomy i (ES l k) with h | h | h
 ·have hy:l[i]? = some l[i]:=List.getElem?_eq_getElem (by omega);have a:=ae hy h;rw [h3 i _ (Nat.le_refl _) hy] at a;cases a
 ·exact h
 ·have hy:l[ES l k]? = some l[ES l k]:=List.getElem?_eq_getElem (by omega);have a:=af ha hy (Nat.le_refl _);rw [h2 _ _ h hy] at a;cases a
theorem Wl {a b:Nat} (h:a+b<=1000000):Rq .i64 (Qy .u64 (Rq .u64 (AH .i64 (a:Int) (b:Int))) 1)=(((a+b) / 2:Nat):Int):=by
 rw [Ci (by omega)]
 have e1:Rq .u64 ((a:Int)+(b:Int))=((a+b:Nat):Int):=by
  show (let m:=((a:Int)+(b:Int)) % (2 ^ 64:Int);if false&&decide (m>=(2 ^ 63:Int)) then m-(2 ^ 64:Int) else m)=_
  simp;omega
 rw [e1]
 have e2:Qy .u64 ((a+b:Nat):Int) 1=(((a+b) / 2:Nat):Int):=by
  show Int.fdiv ((a+b:Nat):Int) (2 ^ 1)=_;rw [Int.fdiv_eq_ediv_of_nonneg _ (by decide)];omega
 rw [e2];exact jZ (by omega)
theorem U1 : ∀ {l:List AB} {p:Option Hf},Asc p l -> ∀ {a b:Nat} {x y:AB},a<b->l[a]? = some x->l[b]? = some y->Bl x.1 y.1=true
 | [],_,_,_,_,_,_,_,h,_=>by simp at h
 | z::l,p,⟨_,hA2⟩,a,b,x,y,hab,h1,h2=>by
  cases b with
  | zero=>omega
  | succ b =>
   have h2':l[b]? = some y:=by simpa using h2
   cases a with
   | zero=>cases h1;exact NI hA2 y (List.mem_of_getElem? h2')
   | succ a=>exact U1 hA2 (a:=a) (b:=b) (by omega) (by simpa using h1) h2'
theorem NK {l:List AB} {p:Option Hf} (ha:Asc p l) (k:Hf) (hl:l.length<=100000) : ∀ (n i j:Nat),i<=j->j<=l.length->j-i<n->(∀ q y,q<i->l[q]? = some y->Bl y.1 k=true)->(∀ q y,j<=q->l[q]? = some y->Bl y.1 k=false) ->
  D7 n (λs0=>br (Ag s0.1 s0.2) (λ_=>AO (Rq .i64 (Qy .u64 (Rq .u64 (AH .i64 s0.1 s0.2)) 1)) λk1=>ix l k1 λx2=>br (AV (AV (Bl x2.1 k))) (λ_=>some (.nx ((AH .i64 (Rq .i64 (Qy .u64 (Rq .u64 (AH .i64 s0.1 s0.2)) 1)) 1,s0.2)))) λ_=>some (.nx ((s0.1,Rq .i64 (Qy .u64 (Rq .u64 (AH .i64 s0.1 s0.2)) 1))))) λ_=>some (.dn (((0:Nat),(s0,()))))) ((i:Int),(j:Int))=some (0,(((ES l k:Int),(ES l k:Int)),()))
 | 0,_,_,_,_,h,_,_=>by omega
 | n+1,i,j,hij,hj,hn,h1,h2=>by
  by_cases h:i<j
  ·have hm:(i+j) / 2<l.length:=by omega
   have hx:l[(i+j) / 2]? = some l[(i+j) / 2]:=List.getElem?_eq_getElem hm;cases hs:Bl l[(i+j) / 2].1 k with
   | true =>
    rw [BX (s':=((((i+j) / 2+1:Nat):Int),(j:Int))) (by
     simp only
     rw [BB,if_pos (by omega),Wl (by omega),AF,AJ hx,hs,FC,Hg,AL,Ac (by omega)])]
    refine NK ha k hl n _ j (by omega) hj (by omega) (λq y hq hy => ?_) h2;by_cases hqe:q=(i+j) / 2
    ·subst hqe;rw [hx] at hy;cases hy;exact hs
    ·have hq2:q<(i+j) / 2:=by omega
     have hyq:Bl y.1 l[(i+j) / 2].1=true:=U1 ha hq2 hy hx;exact DC hyq hs
   | false =>
    rw [BX (s':=((i:Int),(((i+j) / 2:Nat):Int))) (by
     simp only
     rw [BB,if_pos (by omega),Wl (by omega),AF,AJ hx,hs,Hg,FC,Aa])]
    refine NK ha k hl n i _ (by omega) (by omega) (by omega) h1 (λq y hq hy => ?_);cases hq2:Bl y.1 k with
    | false=>rfl
    | true =>
     by_cases hqe:q=(i+j) / 2
     ·subst hqe;rw [hx] at hy;cases hy;rw [hs] at hq2;cases hq2
     ·have:=U1 ha (show (i+j) / 2<q by omega) hx hy;rw [DC this hq2] at hs;cases hs
  ·have:i=j:=by omega
   subst this;have:=ja ha hj h1 h2
   rw [Bo (x:=(0,(((ES l k:Int),(ES l k:Int)),()))) (by
    simp only
    rw [BB,if_neg (by omega),this])]
theorem ah {l:List AB} {p:Option Hf} (ha:Asc p l) (k:Hf) (hl:l.length<=100000):DY (l,k)=some ((ES l k:Int),JQ l k):=by
 unfold DY;simp only [AX,AR];have h:=NK ha k hl (l.length+1) 0 l.length (by omega) (Nat.le_refl _) (by omega) (λq y h=>by omega) (λq y h hy=>by rw [List.getElem?_eq_none h] at hy;cases hy);refine BC (Dd (by omega) h) ?_;dsimp only;have hle:=NJ l k;unfold JQ;rw [BB];by_cases h2:ES l k<l.length
 ·have hx:l[ES l k]? = some l[ES l k]:=List.getElem?_eq_getElem h2;rw [if_pos (by omega),AF,AJ hx,hx];simp only
  congr 2
  cases hq:seq l[ES l k].1 k with
  | true=>exact (decide_eq_true (H4.1 hq)).symm
  | false =>
   refine (decide_eq_false λe => ?_).symm;rw [H4.2 e] at hq;cases hq
 ·rw [if_neg (by omega),List.getElem?_eq_none (by omega)]
end Go.Proofs.YthpkjfabdccpdaaGreat.Pl
namespace Go.Proofs.YthpkjfabdccpdaaGreat.Pl
open Go Go.Proofs.YthpkjfabdccpdaaGreat.Sv
abbrev mS:=(Int×(((List AB)×Nat)×(Int×Bool)))
def ir (most:Int) (ls:List AB):mS->Option (LR mS (Nat×(mS×Unit))) :=
 (λ(s1:(Int×(((List AB)×Nat)×(Int×Bool))))=>br (Ag s1.2.2.1 (AW (AA ls))) (λ_=>AO s1.2.2.1 λk2=>ix ls k2 λx3=>gd (A0 (AK 0 s1.2.1.2) (AA s1.2.1.1)) λ_=>bd (DY ((B6 s1.2.1.1 0 (AK 0 s1.2.1.2),x3.1))) λr4=>br r4.2 (λ_=>AO r4.1 λk5=>gd (CB k5 s1.2.1.2) λ_=>gd (CB (AK 0 k5) (AA s1.2.1.1)) λ_=>ix s1.2.1.1 (AK 0 k5) λx6=>some (.nx ((A9 .i64 (AH .i64 s1.1 (AH .i64 (A9 .i64 (AW s1.2.1.2) r4.1) 1)) 1,((lset s1.2.1.1 (AK 0 k5) x3,s1.2.1.2),(AH .i64 s1.2.2.1 1,s1.2.2.2)))))) λ_=>br (Bh (AW s1.2.1.2) most) (λ_=>some (.dn ((0,((AH .i64 s1.1 (AH .i64 (A9 .i64 (AW s1.2.1.2) r4.1) 1),(s1.2.1,(s1.2.2.1,false))),()))))) λ_=>AO (AH .i64 (AW s1.2.1.2) 1) λk7=>AO (AW (CJ (AA s1.2.1.1) 0)) λk8=>gd (A0 k7 k8) λ_=>gd (neq (AK 0 k8) (AA s1.2.1.1)) λ_=>gd (CB 0 (AA s1.2.1.1)) λ_=>AO (AH .i64 r4.1 1) λk9=>gd (A0 (AK 0 k7) (AA s1.2.1.1)) λ_=>gd (A0 k9 k7) λ_=>br (CB (AK 0 k9) (AA s1.2.1.1)) (λ_=>AO r4.1 λk10=>gd (A0 (AK 0 k7) (AA s1.2.1.1)) λ_=>gd (A0 k10 k7) λ_=>br (CB (AK 0 k10) (AA s1.2.1.1)) (λ_=>gd (A0 (AK (AK 0 k10) (CJ k7 k10)) (AA s1.2.1.1)) λ_=>gd (A0 (AK (AK 0 k9) (CJ k7 k9)) (AA s1.2.1.1)) λ_=>AO r4.1 λk11=>gd (CB k11 k7) λ_=>gd (CB (AK 0 k11) (AA (DI s1.2.1.1 (AK 0 k9) (B6 s1.2.1.1 (AK 0 k10) (AK (AK 0 k10) (CJ k7 k10))) (CJ k7 k9)))) λ_=>ix (DI s1.2.1.1 (AK 0 k9) (B6 s1.2.1.1 (AK 0 k10) (AK (AK 0 k10) (CJ k7 k10))) (CJ k7 k9)) (AK 0 k11) λx12=>some (.nx ((AH .i64 s1.1 (AH .i64 (A9 .i64 (AW s1.2.1.2) r4.1) 1),((lset (DI s1.2.1.1 (AK 0 k9) (B6 s1.2.1.1 (AK 0 k10) (AK (AK 0 k10) (CJ k7 k10))) (CJ k7 k9)) (AK 0 k11) x3,k7),(AH .i64 s1.2.2.1 1,s1.2.2.2)))))) λ_=>gd (A0 (AK (AK 0 k9) (CJ k7 k9)) (AA s1.2.1.1)) λ_=>AO r4.1 λk13=>gd (CB k13 k7) λ_=>gd (CB (AK 0 k13) (AA (DI s1.2.1.1 (AK 0 k9) [] (CJ k7 k9)))) λ_=>ix (DI s1.2.1.1 (AK 0 k9) [] (CJ k7 k9)) (AK 0 k13) λx14=>some (.nx ((AH .i64 s1.1 (AH .i64 (A9 .i64 (AW s1.2.1.2) r4.1) 1),((lset (DI s1.2.1.1 (AK 0 k9) [] (CJ k7 k9)) (AK 0 k13) x3,k7),(AH .i64 s1.2.2.1 1,s1.2.2.2)))))) λ_=>AO r4.1 λk15=>gd (A0 (AK 0 k7) (AA s1.2.1.1)) λ_=>gd (A0 k15 k7) λ_=>br (CB (AK 0 k15) (AA s1.2.1.1)) (λ_=>gd (A0 (AK (AK 0 k15) (CJ k7 k15)) (AA s1.2.1.1)) λ_=>none) λ_=>none) λ_=>some (.dn ((0,(s1,())))))
theorem ai (x:BI×List AB):C5 x =
 (AO (AH .i64 x.1.1 1) λk0=>gd (A0 0 k0) λ_=>gd (A0 k0 1048576) λ_=>gd (A0 (AK 0 (AA x.1.2)) 1048576) λ_=>gd (A0 (AK 0 0) (AA (CW k0 ((([],([],(false,0))):AB))))) λ_=>br (neq (AA x.1.2) 0) (λ_=>bd (loop (ir x.1.1 x.2) ((0,((CW k0 ((([],([],(false,0))):AB)),0),(0,true))))) λr16=>gd (A0 (AK 0 r16.2.1.2.1.2) (AA r16.2.1.2.1.1)) λ_=>some ((B6 r16.2.1.2.1.1 0 (AK 0 r16.2.1.2.1.2),(r16.2.1.1,r16.2.1.2.2.2)))) λ_=>br (A0 (AK (AK 0 0) (AA x.1.2)) (AA (CW k0 ((([],([],(false,0))):AB))))) (λ_=>bd (loop (ir x.1.1 x.2) ((0,((DI (CW k0 ((([],([],(false,0))):AB))) (AK 0 0) x.1.2 (AA x.1.2),AK 0 (AA x.1.2)),(0,true))))) λr32=>gd (A0 (AK 0 r32.2.1.2.1.2) (AA r32.2.1.2.1.1)) λ_=>some ((B6 r32.2.1.2.1.1 0 (AK 0 r32.2.1.2.1.2),(r32.2.1.1,r32.2.1.2.2.2)))) λ_=>none):=rfl
theorem iu (n:Nat):AK 0 n=n:=by unfold AK;omega
theorem kP (n:Nat):CJ n 0=n:=rfl
def FD (l:List AB) (x:AB):List AB:=l.take (ES l x.1)++x::l.drop (ES l x.1+if JQ l x.1=true then 1 else 0)
theorem QX (y:AB) (l:List AB) (k:Hf):JQ (y::l) k=if Bl y.1 k=true then JQ l k else decide (y.1=k):=by
 unfold JQ;by_cases h:Bl y.1 k=true
 ·rw [if_pos h];have:ES (y::l) k=ES l k+1:=by conv=>lhs;unfold ES;rw [if_pos h]
  rw [this];rfl
 ·rw [if_neg h];have:ES (y::l) k=0:=by conv=>lhs;unfold ES;rw [if_neg h]
  rw [this];rfl
theorem QY (y:AB) (l:List AB) (x:AB):FD (y::l) x=if Bl y.1 x.1=true then y::FD l x else if y.1=x.1 then x::l else x::y::l:=by
 unfold FD;rw [QX];by_cases h:Bl y.1 x.1=true
 ·rw [if_pos h,if_pos h];have:ES (y::l) x.1=ES l x.1+1:=by conv=>lhs;unfold ES;rw [if_pos h]
  rw [this,Nat.add_right_comm,List.take_succ_cons,List.drop_succ_cons];rfl
 ·rw [if_neg h,if_neg h];have:ES (y::l) x.1=0:=by conv=>lhs;unfold ES;rw [if_neg h]
  rw [this];by_cases h2:y.1=x.1
  ·rw [if_pos h2,if_pos (decide_eq_true h2)];rfl
  ·rw [if_neg h2,if_neg (by simp [h2])];rfl
theorem TS (x:AB):FD [] x=[x]:=by unfold FD;simp [ES]
theorem J9 (x:AB) : ∀ {l:List AB} {p:Option Hf},Asc p l->(∀ q,p=some q->Bl q x.1=true)->Asc p (FD l x)
 | [],p,_,hp=>by rw [TS];exact ⟨hp,trivial⟩
 | y::l,p,⟨h1,h2⟩,hp=>by
  rw [QY];by_cases h:Bl y.1 x.1=true
  ·rw [if_pos h];exact ⟨h1,J9 x h2 λq hq=>by cases hq;exact h⟩
  ·rw [if_neg h];by_cases he:y.1=x.1
   ·rw [if_pos he];exact ⟨hp,by rw [<- he];exact h2⟩
   ·rw [if_neg he];exact ⟨hp,λq hq=>by cases hq;exact LX (by simpa using h) he,h2⟩
theorem KC (l:List AB) (x:AB):(FD l x).length=l.length+if JQ l x.1=true then 0 else 1:=by
 have hle:=NJ l x.1;unfold FD;by_cases h:JQ l x.1=true
 ·have:ES l x.1<l.length:=by
   by_cases h2:ES l x.1<l.length
   ·exact h2
   ·unfold JQ at h;rw [List.getElem?_eq_none (by omega)] at h;cases h
  rw [if_pos h,if_pos h];simp;omega
 ·rw [if_neg h,if_neg h];simp;omega
def NL (most:Nat):List AB->List AB->Int->List AB×(Int×Bool)
 | l,[],w=>(l,(w,true))
 | l,x::ls,w=>if JQ l x.1=true then NL most (FD l x) ls (w+((l.length:Int)-(ES l x.1:Int)+1)-1)
  else if l.length=most then (l,(w+((l.length:Int)-(ES l x.1:Int)+1),false)) else NL most (FD l x) ls (w+((l.length:Int)-(ES l x.1:Int)+1))
theorem hC {a b t:List AB} {z x:AB}:lset (DI (a++(b++z::t)) (a.length+1) (B6 (a++(b++z::t)) a.length (a.length+(a.length+b.length+1-a.length))) (a.length+b.length+1-(a.length+1))) a.length x=a++x::(b++t):=by
 obtain ⟨y,r,hr⟩ : ∃ y r,b++z::t=y::r:=by cases b<;>exact ⟨_,_,rfl⟩
 have e1:(a++(b++z::t)).take (a.length+1)=a++[y]:=by rw [hr,List.take_append,List.take_of_length_le (by omega),Nat.add_sub_cancel_left];rfl
 have e2:B6 (a++(b++z::t)) a.length (a.length+(a.length+b.length+1-a.length))=b++[z]:=by
  unfold B6;rw [List.drop_left,show a.length+(a.length+b.length+1-a.length)-a.length=b.length+1 by omega,List.take_append,List.take_of_length_le (by omega),Nat.add_sub_cancel_left];rfl
 have e3:(b++[z]).take (a.length+b.length+1-(a.length+1))=b:=by
  rw [show a.length+b.length+1-(a.length+1)=b.length by omega,List.take_left]
 have e4:(a++(b++z::t)).drop (a.length+1+b.length)=t:=by
  rw [show a++(b++z::t)=(a++b++[z])++t by simp,List.drop_left' (by simp;omega)]
 unfold lset DI;rw [e2,e3,e1,e4,List.append_assoc,List.set_append_right _ _ (Nat.le_refl _),Nat.sub_self];rfl
structure WrI (most:Nat) (l:List AB) (R:List AB):Prop where
 asc:Asc none l
 le:l.length<=most
 len:R.length=most+1
 row:R.take l.length=l
theorem WrI.sub {most:Nat} {l R:List AB} (h:WrI most l R):B6 R 0 l.length=l:=by rw [X3];exact h.row
theorem hG {most:Nat} (hm:most<=16) {ls l R:List AB} (I:WrI most l R) {k:Nat} {x:AB} (hx:ls[k]? = some x) (hk:ls.length<=1000) {w:Int} (hw:0<=w/\w<=1000000) :
  (JQ l x.1=true /\ ∃ R',WrI most (FD l x) R'/\ir most ls (w,((R,l.length),((k:Int),true)))=some (.nx (w+((l.length:Int)-(ES l x.1:Int)+1)-1,((R',(FD l x).length),(((k+1:Nat):Int),true))))) \/
  (¬ JQ l x.1=true/\l.length=most/\ir most ls (w,((R,l.length),((k:Int),true)))=some (.dn (0,((w+((l.length:Int)-(ES l x.1:Int)+1),((R,l.length),((k:Int),false))),())))) \/
  (¬ JQ l x.1=true/\l.length≠most /\ ∃ R',WrI most (FD l x) R'/\ir most ls (w,((R,l.length),((k:Int),true)))=some (.nx (w+((l.length:Int)-(ES l x.1:Int)+1),((R',(FD l x).length),(((k+1:Nat):Int),true))))):=by
 have hkl:=(List.getElem?_eq_some_iff.1 hx).1;have hle:=NJ l x.1;have hlm:=I.le;have hRl:=I.len;have hRs:=I.row;obtain ⟨t,hR⟩ : ∃ t,R=l++t:=⟨R.drop l.length,by conv=>lhs;rw [<- List.take_append_drop l.length R,hRs]⟩
 have htl:t.length=most+1-l.length:=by
  have:=congrArg List.length hR;simp at this;omega
 obtain ⟨z,t',rfl⟩ : ∃ z t',t=z::t':=by
  cases t with
  | nil=>simp at htl;omega
  | cons z t'=>exact ⟨z,t',rfl⟩
 unfold ir;simp only [AX,AR,iu,kP];rw [rl hkl,AL,AF,AJ hx,Bt (by omega),I.sub,ah I.asc x.1 (by omega),AD];dsimp only;have q1:A9 .i64 (l.length:Int) (ES l x.1:Int)=(l.length:Int)-(ES l x.1:Int):=CH (by omega);have q2:AH .i64 ((l.length:Int)-(ES l x.1:Int)) 1=(l.length:Int)-(ES l x.1:Int)+1:=Ci (by omega);have q3:AH .i64 w ((l.length:Int)-(ES l x.1:Int)+1)=w+((l.length:Int)-(ES l x.1:Int)+1):=Ci (by omega);have q4:A9 .i64 (w+((l.length:Int)-(ES l x.1:Int)+1)) 1=w+((l.length:Int)-(ES l x.1:Int)+1)-1:=CH (by omega);have q5:AH .i64 (k:Int) 1=((k+1:Nat):Int):=Ac (by omega);have q6:AH .i64 (l.length:Int) 1=((l.length+1:Nat):Int):=Ac (by omega);have q7:AH .i64 (ES l x.1:Int) 1=((ES l x.1+1:Nat):Int):=Ac (by omega);simp only [q1,q2,q3,q4,q5,q6,q7];by_cases hh:JQ l x.1=true
 ·refine .inl ⟨hh,?_⟩
  have hil:ES l x.1<l.length:=by
   by_cases h2:ES l x.1<l.length
   ·exact h2
   ·unfold JQ at hh;rw [List.getElem?_eq_none (by omega)] at hh;cases hh
  have hpl:(FD l x).length=l.length:=by rw [KC,if_pos hh];rfl
  have hpe:FD l x=l.set (ES l x.1) x:=by
   unfold FD;rw [if_pos hh,List.set_eq_take_append_cons_drop,if_pos hil]
  refine ⟨lset R (ES l x.1) x,⟨J9 x I.asc (λ_ h=>by cases h),by omega,by unfold lset;simp;exact hRl,?_⟩,?_⟩
  ·rw [hpl,hpe,hR];unfold lset;rw [List.set_append_left _ _ hil,List.take_left' (by simp)]
  ·rw [hh,AL,AF]
   have g1 : ∀ {β:Type} (c:Unit->Option β),gd (CB (ES l x.1) l.length) c=c ():=λc=>by
    unfold CB;rw [show Nat.blt (ES l x.1) l.length=true by simpa using hil];rfl
   have g2 : ∀ {β:Type} (c:Unit->Option β),gd (CB (ES l x.1) R.length) c=c ():=λc=>by
    unfold CB;rw [show Nat.blt (ES l x.1) R.length=true by simp;omega];rfl
   rw [g1,g2,AJ (List.getElem?_eq_getElem (by omega:ES l x.1<R.length)),hpl]
 ·refine .inr ?_;have hf:JQ l x.1=false:=by simpa using hh
  rw [hf,Aa,By];by_cases hmo:l.length=most
  ·exact .inl ⟨by simp,hmo,by rw [if_pos (by omega)]⟩
  ·refine .inr ⟨by simp,hmo,?_⟩;rw [if_neg (by omega),AF,AF]
   have gl : ∀ {β:Type} {a b:Nat} (h:a<b) (c:Unit->Option β),gd (CB a b) c=c ():=λh c=>by
    unfold CB;rw [show Nat.blt _ _=true by simpa using h];rfl
   have bl : ∀ {β:Type} {a b:Nat} (h:a<b) (c d:Unit->Option β),br (CB a b) c d=c ():=λh c d=>by
    unfold CB;rw [show Nat.blt _ _=true by simpa using h];rfl
   have gq : ∀ {β:Type} {a:Nat} (c:Unit->Option β),gd (neq a a) c=c ():=λc=>by
    unfold neq;rw [show Nat.beq _ _=true by simp];rfl
   have hpl:(FD l x).length=l.length+1:=by rw [KC,if_neg hh]
   have hpe:FD l x=l.take (ES l x.1)++x::l.drop (ES l x.1):=by unfold FD;rw [if_neg hh];rfl
   obtain ⟨i,hi⟩ : ∃ i,i=ES l x.1:=⟨_,rfl⟩;rw [<- hi] at hpe hle ⊢;have hla:(l.take i).length=i:=by simp;omega
   have hRR:R=l.take i++(l.drop i++z::t'):=by rw [<- List.append_assoc,List.take_append_drop];exact hR
   have hrow:lset (DI R (i+1) (B6 R i (AK i (CJ (l.length+1) i))) (CJ (l.length+1) (i+1))) i x=l.take i++x::(l.drop i++t'):=by
    have:=hC (a:=l.take i) (b:=l.drop i) (t:=t') (z:=z) (x:=x);rw [<- hRR,hla,show i+(l.drop i).length=l.length by simp;omega] at this;exact this
   have hcl:(DI R (i+1) (B6 R i (AK i (CJ (l.length+1) i))) (CJ (l.length+1) (i+1))).length=most+1:=by
    have:=congrArg List.length hrow;unfold lset at this;rw [List.length_set] at this;rw [this];simp only [List.length_append,List.length_cons,List.length_drop,List.length_take];simp at htl;omega
   refine ⟨l.take i++x::(l.drop i++t'),⟨J9 x I.asc (λ_ h=>by cases h),by omega,?_,?_⟩,?_⟩
   ·rw [<- hrow];unfold lset;rw [List.length_set];exact hcl
   ·rw [hpl,hpe,show l.take i++x::(l.drop i++t')=(l.take i++x::l.drop i)++t' by simp,List.take_left' (by simp;omega)]
   ·rw [Bt (by omega),gq,gl (by omega),AF,Bt (by omega),Bt (by omega),bl (by omega),AF,Bt (by omega),Bt (by omega),bl (by omega),Bt (by unfold AK CJ;omega),Bt (by unfold AK CJ;omega),AF,gl (by omega),gl (by rw [hcl];omega),AJ (List.getElem?_eq_getElem (by rw [hcl];omega)),hrow,hpl]
theorem Wm {most:Nat} (hm:most<=16) {ls l R:List AB} (I:WrI most l R) (hk:ls.length<=1000) : ∃ r,loop (ir most ls) (0,((R,l.length),((0:Int),true)))=some r/\r.2.1.2.1.2<=r.2.1.2.1.1.length/\(B6 r.2.1.2.1.1 0 r.2.1.2.1.2,(r.2.1.1,r.2.1.2.2.2))=NL most l ls 0:=by
 obtain ⟨T,hT⟩ : ∃ T,T=NL most l ls 0:=⟨_,rfl⟩;rw [<- hT];refine D1 (l:=ls) (σ:=(List AB×List AB)×Int) (λk s=>(s.2,((s.1.1,s.1.2.length),((k:Int),true)))) (λm k s=>WrI most s.1.2 s.1.1/\NL most s.1.2 m s.2=T/\0<=s.2/\s.2<=20*k) _ ((R,l),0) rfl (by omega) ⟨I,hT.symm,by simp,by simp⟩ (λs h => ?_) (λk x m s hd hx hi h => ?_)
 ·obtain ⟨⟨R',l'⟩,w⟩:=s;obtain ⟨I',h2,_⟩:=h;refine ⟨(0,((w,((R',l'.length),((ls.length:Int),true))),())),?_,?_,?_⟩
  ·unfold ir;simp only [AX,AR];rw [re,Aa]
  ·have h5:R'.length=most+1:=I'.len;have h6:l'.length<=most:=I'.le;show l'.length<=R'.length;omega
  ·simp only at h2 ⊢;have h7:B6 R' 0 l'.length=l':=I'.sub;rw [h7,<- h2];rfl
 ·obtain ⟨⟨R',l'⟩,w⟩:=s;obtain ⟨I',h2,h3,h4⟩:=h;simp only at h2 h3 h4 I' ⊢;have hle:=NJ l' x.1;have hlm:=I'.le;unfold NL at h2;rcases hG hm I' hx hk (w:=w) ⟨h3,by omega⟩ with ⟨c1,R2,I2,e⟩ | ⟨c1,c2,e⟩ | ⟨c1,c2,R2,I2,e⟩
  ·rw [if_pos c1] at h2;exact .inl ⟨((R2,FD l' x),_),e,I2,h2,by simp only;omega,by simp only;omega⟩
  ·rw [if_neg c1,if_pos c2] at h2;refine .inr ⟨_,e,?_,?_⟩
   ·have h5:R'.length=most+1:=I'.len;show l'.length<=R'.length;omega
   ·simp only;rw [I'.sub,<- h2]
  ·rw [if_neg c1,if_neg c2] at h2;exact .inl ⟨((R2,FD l' x),_),e,I2,h2,by simp only;omega,by simp only;omega⟩
theorem aj {most:Nat} (h1:1<=most) (hm:most<=16) {es ls:List AB} (ha:Asc none es) (hl:es.length<=most) (hk:ls.length<=1000):C5 ((((most:Nat):Int),es),ls)=some (NL most es ls 0):=by
 rw [ai];simp only [AX,AR,iu];rw [Ac (by omega),AF,Bt (by omega),Bt (by omega),Bt (by omega),Bt (by omega)];have hrep:(CW (most+1) ((([],([],(false,0))):AB))).length=most+1:=by unfold CW;simp
 by_cases h0:es=[]
 ·subst h0;have hb : ∀ {β:Type} (c d:Unit->Option β),br (neq ([]:List AB).length 0) c d=c ():=λc d=>rfl;rw [hb];obtain ⟨r,q1,q2,q3⟩:=Wm hm (ls:=ls) (l:=[]) (R:=CW (most+1) ((([],([],(false,0))):AB))) ⟨trivial,by simp,hrep,rfl⟩ hk;rw [<- q3];refine BC q1 ?_;rw [Bt q2]
 ·have hp:=List.length_pos_iff.2 h0
  have hb : ∀ {β:Type} (c d:Unit->Option β),br (neq es.length 0) c d=d ():=λc d=>by
   unfold neq
   rw [show Nat.beq es.length 0=false by
    cases hq:Nat.beq es.length 0 with
    | false=>rfl
    | true=>have:=Nat.eq_of_beq_eq_true hq;omega];rfl
  have hb2 : ∀ {β:Type} (c d:Unit->Option β),br (A0 es.length (CW (most+1) ((([],([],(false,0))):AB))).length) c d=c ():=λc d=>by
   rw [hrep];unfold A0;rw [show Nat.ble es.length (most+1)=true by simp;omega];rfl
  rw [hb,hb2]
  have hR:DI (CW (most+1) ((([],([],(false,0))):AB))) 0 es es.length=es++(CW (most+1) ((([],([],(false,0))):AB))).drop es.length:=by
   unfold DI;simp
  obtain ⟨r,q1,q2,q3⟩:=Wm hm (ls:=ls) (l:=es) (R:=DI (CW (most+1) ((([],([],(false,0))):AB))) 0 es es.length) ⟨ha,hl,by rw [hR,List.length_append,List.length_drop,hrep];omega,by rw [hR,List.take_left]⟩ hk;rw [<- q3];refine BC q1 ?_;rw [Bt q2]
end Go.Proofs.YthpkjfabdccpdaaGreat.Pl
namespace Go.Proofs.YthpkjfabdccpdaaGreat.Pl
open Go Go.Proofs.YthpkjfabdccpdaaGreat.Sv
def Es:List AB->Int
 | []=>0
 | x::l=>if kE x≠0 then kE x else Es l
def Nq (b:BI) (l:List AB):Int:=if (BF b).2≠0 then (BF b).2 else if (l.length:Int)>16 then 3 else Es l
structure Bf (b:BI):Prop where
 m1:1<=b.1
 m2:b.1<=16
 len:(b.2.length:Int)<=b.1
 ok : ∀ x∈b.2,kE x=0
 asc:Asc none b.2
theorem kQ {b:BI} (h:(BF b).2=0):Bf b:=by
 unfold BF at h;by_cases h1:b.1<1\/b.1>16
 ·rw [if_pos h1] at h;cases h
 rw [if_neg h1] at h;by_cases h2:(b.2.length:Int)>b.1
 ·rw [if_pos h2] at h;cases h
 rw [if_neg h2] at h;obtain ⟨h3,h4⟩:=N6.1 h;exact ⟨by omega,by omega,by omega,h3,h4⟩
theorem ak (b:BI) (l:List AB):Do (b,l)=some (Nq b l):=by
 unfold Do Nq;simp only [AX,AR];rw [Hn,AD,AT];by_cases h1:(BF b).2=0;rotate_left
 ·rw [if_neg h1,if_pos h1]
 rw [if_pos h1,if_neg (show ¬ (BF b).2≠0 by simp [h1]),Ap];by_cases h2:(l.length:Int)>16
 ·rw [if_pos h2,if_pos h2]
 rw [if_neg h2,if_neg h2]
 obtain ⟨r,q1,q2⟩:=D1 (l:=l) (σ:=Unit) (s:=((0:Int),(0:Int))) (λk _=>((k:Int),(0:Int))) (λm k _=>Es l=Es m) (λ(r:Nat×((Int×Int)×Unit))=>(r.1=0/\r.2.1.2=Es l)\/(r.1=1/\Es l=0))
  (f:=λs1=>br (Ag s1.1 (l.length:Int)) (λ_=>AO s1.1 λk2=>ix l k2 λx3=>bd (Ar x3) λr4=>br (Aq r4 0) (λ_=>some (.dn ((0,((s1.1,r4),()))))) λ_=>some (.nx (AH .i64 s1.1 1,s1.2))) λ_=>some (.dn ((1,(s1,())))))
  () rfl (by omega) rfl (λ_ h=>⟨_,by simp only;rw [re];rfl,.inr ⟨rfl,h⟩⟩) (λk x m _ hd hx hk h=>by
   simp only;have h:Es l=if kE x≠0 then kE x else Es m:=h
   rw [rl hk,AL,AF,AJ hx,Ct,AD,AT,Ac (by omega)];by_cases h3:kE x=0
   ·rw [if_neg (by simp [h3])] at h;rw [if_pos h3];exact .inl ⟨(),rfl,h⟩
   ·rw [if_pos h3] at h
    rw [if_neg h3];exact .inr ⟨_,rfl,.inl ⟨rfl,h.symm⟩⟩)
 refine BC q1 ?_;rw [CR];rcases q2 with ⟨q2,q3⟩ | ⟨q2,q3⟩
 ·rw [if_pos q2,q3]
 ·rw [if_neg (by omega),q3]
theorem NM {l:List AB} (hl:l.length<=9223372036854775807) (e0:Int) : ∃ r,loop (β:=Nat×((Int×Int)×Unit)) (λs1=>br (Ag s1.1 (l.length:Int)) (λ_=>br (Bh s1.2 0) (λ_=>AO s1.1 λk2=>ix l k2 λx3=>bd (Ax x3) λr4=>some (.nx (AH .i64 s1.1 1,r4))) λ_=>some (.dn ((0,(s1,()))))) λ_=>some (.dn ((0,(s1,()))))) ((0:Int),e0)=some r/\r.2.1.2=if e0≠0 then e0 else Es l:=by
 obtain ⟨T,hT⟩ : ∃ T,T=if e0≠0 then e0 else Es l:=⟨_,rfl⟩
 rw [<- hT]
 exact D1 (l:=l) (σ:=Int) (λk e=>((k:Int),e)) (λm k e=>T=if e≠0 then e else Es m) (λ(r:Nat×((Int×Int)×Unit))=>r.2.1.2=T) e0 rfl hl hT (λe h=>⟨(0,(((l.length:Int),e),())),by simp only;rw [re,Aa],by
   rw [h];simp only;split
   ·rfl
   ·rename_i h2;simp only [Es];omega⟩) (λk x m e hd hx hk h=>by
   simp only;rw [rl hk,AL,By];by_cases h2:e=0
   ·rw [if_pos h2,AF,AJ hx,GK,AD,A6 hx hl];rw [if_neg (by simp [h2])] at h;exact .inl ⟨kE x,rfl,h⟩
   ·rw [if_neg h2];rw [if_pos h2] at h
    exact .inr ⟨_,rfl,h.symm⟩)
theorem X4 (b:BI) (l:List AB) (hl:l.length<=9223372036854775807):FS (b,l)=some (Nq b l):=by
 unfold FS Nq;simp only [AX,AR];rw [Nk,AD,By];by_cases h1:(BF b).2=0;rotate_left
 ·rw [if_neg h1,if_pos h1];obtain ⟨r,q1,q2⟩:=NM hl (BF b).2;rw [q1,AD,q2,if_pos h1]
 rw [if_pos h1,if_neg (show ¬ (BF b).2≠0 by simp [h1]),Ap];by_cases h2:(l.length:Int)>16
 ·rw [if_pos h2,if_pos h2];obtain ⟨r,q1,q2⟩:=NM hl 3;rw [q1,AD,q2];rfl
 ·rw [if_neg h2,if_neg h2];obtain ⟨r,q1,q2⟩:=NM hl (BF b).2;rw [q1,AD,q2,if_neg (by simp [h1])]
def MS:List AB->AB->Nat
 | [],_=>0
 | y::l,x=>(if Bl x.1 y.1=true then 1 else 0)+MS l x
theorem PG (y:AB) (l:List AB) (x:AB):MS (y::l) x=(if Bl x.1 y.1=true then 1 else 0)+MS l x:=rfl
theorem Rn : ∀ {l:List AB} {x:AB},(∀ y∈l,Bl x.1 y.1=true)->MS l x=l.length
 | [],_,_=>rfl
 | y::l,x,h=>by
  unfold MS;rw [if_pos (h y (by simp)),Rn λz hz=>h z (by simp [hz])];simp;omega
theorem al : ∀ (l:List AB) (x:AB),MS l x<=l.length
 | [],_=>by simp [MS]
 | y::l,x=>by
  have:=al l x;unfold MS;split<;>simp<;>omega
theorem am {x:AB} : ∀ {l:List AB} {p:Option Hf},Asc p l->(l.length:Int)-(ES l x.1:Int)+1-(if JQ l x.1=true then 1 else 0)=1+(MS l x:Int)
 | [],_,_=>by simp [ES,MS,JQ]
 | y::l,p,⟨h1,h2⟩=>by
  have ih:=am (x:=x) h2;rw [QX];by_cases h:Bl y.1 x.1=true
  ·have hg:MS (y::l) x=MS l x:=by
    rw [PG,if_neg (by rw [Cs h];simp),Nat.zero_add]
   have hl:ES (y::l) x.1=ES l x.1+1:=by conv=>lhs;unfold ES;rw [if_pos h]
   rw [hg,hl,if_pos h,<- ih,List.length_cons];omega
  ·have hl:ES (y::l) x.1=0:=by conv=>lhs;unfold ES;rw [if_neg h]
   rw [hl,if_neg h];by_cases he:y.1=x.1
   ·have ha:MS l x=l.length:=Rn λz hz=>by rw [<- he];exact NI h2 z hz
    have hg:MS (y::l) x=MS l x:=by
     rw [PG,if_neg (by rw [he,Fe];simp),Nat.zero_add]
    rw [hg,ha,if_pos (decide_eq_true he),List.length_cons];omega
   ·have hxy:Bl x.1 y.1=true:=LX (by simpa using h) he;have ha:MS l x=l.length:=Rn λz hz=>DC hxy (NI h2 z hz)
    have hg:MS (y::l) x=1+MS l x:=by
     rw [PG,if_pos hxy]
    rw [hg,ha,if_neg (by simp [he]),List.length_cons];omega
theorem iA {l:List AB} {p:Option Hf} (ha:Asc p l) (x:AB) (hl:l.length<=1000):Fm (l,x)=some (FD l x,1+(MS l x:Int)):=by
 unfold Fm;simp only [AX,AR,CC];have gg : ∀ {β:Type} {a b:List AB} (h:a.length+b.length<=2000) (c:Unit->Option β),gd (A0 (AK a.length b.length) 1048576) c=c ():=λh c=>Bt (by unfold AK;omega) c;obtain ⟨W,hW⟩ : ∃ W:Int,W=1+(MS l x:Int):=⟨_,rfl⟩
 obtain ⟨r,q1,q2⟩ : ∃ r,loop (β:=Nat×((Int×(Int×(Bool×List AB)))×Unit)) _ ((1:Int),((0:Int),(false,([]:List AB))))=some r/\(r.2.1.2.2.2++(if r.2.1.2.2.1=true then [] else [x])=FD l x/\r.2.1.1=W/\r.2.1.2.2.2.length<=1500) :=
  D1 (l:=l) (σ:=Int×(Bool×List AB)) (λk s=>(s.1,((k:Int),(s.2.1,s.2.2))))
  (λm k s=>(∃ q,Asc q m)/\(s.2.1=true -> ∀ y∈m,Bl x.1 y.1=true)/\s.2.2++(if s.2.1=true then m else FD m x)=FD l x/\s.1+(MS m x:Int)=W/\s.2.2.length+(if s.2.1=true then 0 else 1)<=k+1/\0<=s.1/\s.1<=k+1)
  (λ(r:Nat×((Int×(Int×(Bool×List AB)))×Unit))=>(r.2.1.2.2.2++(if r.2.1.2.2.1=true then [] else [x])=FD l x/\r.2.1.1=W/\r.2.1.2.2.2.length<=1500))
  (f:=λ(s0:(Int×(Int×(Bool×(List AB)))))=>br (Ag s0.2.1 (l.length:Int)) (λ_=>AO s0.2.1 λk1=>ix l k1 λx2=>br (Bl x.1 x2.1) (λ_=>AO s0.2.1 λk3=>ix l k3 λx4=>br (AV (Bl x4.1 x.1)) (λ_=>br (AV s0.2.2.1) (λ_=>gd (A0 (AK s0.2.2.2.length [x].length) 1048576) λ_=>AO s0.2.1 λk5=>ix l k5 λx6=>br (AV (seq x6.1 x.1)) (λ_=>AO s0.2.1 λk7=>ix l k7 λx8=>gd (A0 (AK (s0.2.2.2++[x]).length [x8].length) 1048576) λ_=>some (.nx ((AH .i64 s0.1 1,(AH .i64 s0.2.1 1,(true,(s0.2.2.2++[x])++[x8])))))) λ_=>some (.nx ((AH .i64 s0.1 1,(AH .i64 s0.2.1 1,(true,s0.2.2.2++[x])))))) λ_=>AO s0.2.1 λk9=>ix l k9 λx10=>br (AV (seq x10.1 x.1)) (λ_=>AO s0.2.1 λk11=>ix l k11 λx12=>gd (A0 (AK s0.2.2.2.length [x12].length) 1048576) λ_=>some (.nx ((AH .i64 s0.1 1,(AH .i64 s0.2.1 1,(s0.2.2.1,s0.2.2.2++[x12])))))) λ_=>some (.nx ((AH .i64 s0.1 1,(AH .i64 s0.2.1 1,s0.2.2))))) λ_=>AO s0.2.1 λk13=>ix l k13 λx14=>br (AV (seq x14.1 x.1)) (λ_=>AO s0.2.1 λk15=>ix l k15 λx16=>gd (A0 (AK s0.2.2.2.length [x16].length) 1048576) λ_=>some (.nx ((AH .i64 s0.1 1,(AH .i64 s0.2.1 1,(s0.2.2.1,s0.2.2.2++[x16])))))) λ_=>some (.nx ((AH .i64 s0.1 1,(AH .i64 s0.2.1 1,s0.2.2))))) λ_=>AO s0.2.1 λk17=>ix l k17 λx18=>br (AV (Bl x18.1 x.1)) (λ_=>br (AV s0.2.2.1) (λ_=>gd (A0 (AK s0.2.2.2.length [x].length) 1048576) λ_=>AO s0.2.1 λk19=>ix l k19 λx20=>br (AV (seq x20.1 x.1)) (λ_=>AO s0.2.1 λk21=>ix l k21 λx22=>gd (A0 (AK (s0.2.2.2++[x]).length [x22].length) 1048576) λ_=>some (.nx ((s0.1,(AH .i64 s0.2.1 1,(true,(s0.2.2.2++[x])++[x22])))))) λ_=>some (.nx ((s0.1,(AH .i64 s0.2.1 1,(true,s0.2.2.2++[x])))))) λ_=>AO s0.2.1 λk23=>ix l k23 λx24=>br (AV (seq x24.1 x.1)) (λ_=>AO s0.2.1 λk25=>ix l k25 λx26=>gd (A0 (AK s0.2.2.2.length [x26].length) 1048576) λ_=>some (.nx ((s0.1,(AH .i64 s0.2.1 1,(s0.2.2.1,s0.2.2.2++[x26])))))) λ_=>some (.nx ((s0.1,(AH .i64 s0.2.1 1,s0.2.2))))) λ_=>AO s0.2.1 λk27=>ix l k27 λx28=>br (AV (seq x28.1 x.1)) (λ_=>AO s0.2.1 λk29=>ix l k29 λx30=>gd (A0 (AK s0.2.2.2.length [x30].length) 1048576) λ_=>some (.nx ((s0.1,(AH .i64 s0.2.1 1,(s0.2.2.1,s0.2.2.2++[x30])))))) λ_=>some (.nx ((s0.1,(AH .i64 s0.2.1 1,s0.2.2))))) λ_=>some (.dn ((0,(s0,())))))
  ((1:Int),(false,[])) rfl (by omega) ⟨⟨p,ha⟩,by simp,rfl,hW.symm,by simp,by simp,by simp⟩ (λs h=>by
   obtain ⟨w,d,out⟩:=s;obtain ⟨_,_,h3,h4,h5,h6,h7⟩:=h;refine ⟨(0,((w,((l.length:Int),(d,out))),())),by simp only;rw [re,Aa],?_,?_,?_⟩
   ·rw [TS] at h3;exact h3
   ·simp only [MS] at h4 ⊢;omega
   ·simp only at h5 ⊢;split at h5<;>omega) (λk y m s hd hx hk h=>by
   obtain ⟨w,d,out⟩:=s;obtain ⟨⟨q,hq⟩,h2,h3,h4,h5,h6,h7⟩:=h;simp only at h2 h3 h4 h5 h6 h7 ⊢;obtain ⟨_,hq2⟩:=hq;have hsub : ∀ z∈m,Bl y.1 z.1=true:=λz hz=>NI hq2 z hz;have c1:AH .i64 w 1=w+1:=Ci (by omega);have c2:AH .i64 (k:Int) 1=((k+1:Nat):Int):=A6 hx (by omega);simp only [c1,c2];rw [rl hk,AL,AF,AJ hx,F9];have h5':out.length<=k+1:=by split at h5<;>omega
   have g1:out.length+[x].length<=2000:=by simp;omega
   have g2 : ∀ z:AB,(out++[x]).length+[z].length<=2000:=λz=>by simp;omega
   have g3 : ∀ z:AB,out.length+[z].length<=2000:=λz=>by simp;omega
   unfold MS at h4;rw [QY] at h3
   have hse:seq y.1 x.1=decide (y.1=x.1):=by
    cases hqq:seq y.1 x.1 with
    | true=>exact (decide_eq_true (H4.1 hqq)).symm
    | false =>
     refine (decide_eq_false λe => ?_).symm;rw [H4.2 e] at hqq;cases hqq
   by_cases t1:Bl x.1 y.1=true
   ·
    have t2:Bl y.1 x.1=false:=Cs t1;have t3 : ¬ y.1=x.1:=λe=>by rw [e,Fe] at t1;cases t1
    rw [if_pos t1] at h4 ⊢;rw [AF,AJ hx,t2,Hg,AL];cases d with
    | true =>
     rw [FC,Aa,AF,AJ hx,hse,decide_eq_false t3,Hg,AL,AF,AJ hx,gg (g3 y)];refine .inl ⟨(w+1,(true,out++[y])),rfl,⟨_,hq2⟩,λ_ z hz=>DC t1 (hsub z hz),?_,by simp only;omega,by simp at h5 ⊢;omega,by simp only;omega,by simp only;omega⟩;simp only [if_true] at h3 ⊢;rw [<- h3];simp
    | false =>
     rw [Hg,AL,gg g1,AF,AJ hx,hse,decide_eq_false t3,Hg,AL,AF,AJ hx,gg (g2 y)];rw [if_neg (show ¬ false=true by decide),if_neg (by rw [t2];simp),if_neg t3] at h3;refine .inl ⟨(w+1,(true,(out++[x])++[y])),rfl,⟨_,hq2⟩,λ_ z hz=>DC t1 (hsub z hz),?_,by simp only;omega,?_,by simp only;omega,by simp only;omega⟩
     ·rw [<- h3];simp
     ·simp at h5 ⊢;omega
   ·rw [if_neg t1] at h4 ⊢
    have hd0:d=false:=by
     cases d with
     | false=>rfl
     | true=>exact absurd (h2 rfl y (by simp)) t1
    subst hd0;by_cases t2:Bl y.1 x.1=true
    ·have t3 : ¬ y.1=x.1:=λe=>by rw [e,Fe] at t2;cases t2
     rw [if_neg (show ¬ false=true by decide),if_pos t2] at h3;rw [AF,AJ hx,t2,FC,Aa,AF,AJ hx,hse,decide_eq_false t3,Hg,AL,AF,AJ hx,gg (g3 y)];refine .inl ⟨(w,(false,out++[y])),rfl,⟨_,hq2⟩,(λh=>by cases h),?_,by simp only;omega,by simp at h5 ⊢;omega,by simp only;omega,by simp only;omega⟩;rw [<- h3];simp
    ·have t3:y.1=x.1:=by
      by_cases e:y.1=x.1
      ·exact e
      ·exact absurd (LX (by simpa using t2) e) t1
     have t2':Bl y.1 x.1=false:=by simpa using t2
     rw [if_neg (show ¬ false=true by decide),if_neg t2,if_pos t3] at h3;rw [AF,AJ hx,t2',Hg,AL,AL,gg g1,AF,AJ hx,hse,decide_eq_true t3,FC,Aa];refine .inl ⟨(w,(true,out++[x])),rfl,⟨_,hq2⟩,λ_ z hz=>by rw [<- t3];exact hsub z hz,?_,by simp only;omega,by simp at h5 ⊢;omega,by simp only;omega,by simp only;omega⟩
     rw [<- h3];simp)
 refine BC q1 ?_;obtain ⟨q2,q3,q4⟩:=q2;rw [<- hW,<- q3,<- q2];generalize r.2.1.2.2.1=d;cases d with
 | true=>rw [FC,Aa];simp
 | false=>rw [Hg,AL,gg (by simp;omega)];simp
end Go.Proofs.YthpkjfabdccpdaaGreat.Pl
namespace Go.Proofs.YthpkjfabdccpdaaGreat.Pl
open Go Go.Proofs.YthpkjfabdccpdaaGreat.Sv
def Is:List AB->List AB->Int->List AB×Int
 | l,[],w=>(l,w)
 | l,x::ls,w=>Is (FD l x) ls (w+(1+(MS l x:Int)))
theorem Wn : ∀ (ls l:List AB) (w:Int),l.length<=(Is l ls w).1.length
 | [],l,w=>Nat.le_refl _
 | x::ls,l,w=>by
  have h1:=Wn ls (FD l x) (w+(1+(MS l x:Int)));have h2:=KC l x;unfold Is;split at h2<;>omega
theorem U2 (most:Nat) : ∀ (ls l:List AB) (w:Int),Asc none l->l.length<=most->(NL most l ls w).2.2=decide ((Is l ls w).1.length<=most)/\((NL most l ls w).2.2=true->(NL most l ls w).1=(Is l ls w).1/\(NL most l ls w).2.1=(Is l ls w).2)
 | [],l,w,_,hl=>⟨(decide_eq_true hl).symm,λ_=>⟨rfl,rfl⟩⟩
 | x::ls,l,w,ha,hl=>by
  have hp:=J9 x ha (λ_ h=>by cases h);have hpl:=KC l x;have hg:=am (x:=x) ha;unfold NL Is;by_cases hh:JQ l x.1=true
  ·rw [if_pos hh];rw [if_pos hh] at hpl hg;rw [show w+((l.length:Int)-(ES l x.1:Int)+1)-1=w+(1+(MS l x:Int)) by omega];exact U2 most ls (FD l x) _ hp (by omega)
  ·rw [if_neg hh];rw [if_neg hh] at hpl hg;by_cases hm:l.length=most
   ·rw [if_pos hm];have:=Wn ls (FD l x) (w+(1+(MS l x:Int)));exact ⟨(decide_eq_false (by omega)).symm,λh=>by cases h⟩
   ·rw [if_neg hm,show w+((l.length:Int)-(ES l x.1:Int)+1)=w+(1+(MS l x:Int)) by omega];exact U2 most ls (FD l x) _ hp (by omega)
theorem iB {b:BI} (h:Bf b) {l:List AB} (hl:l.length<=16):G6 (b,l)=some (Is b.2 l 0):=by
 have hm:=h.m2;have hbl:=h.len;unfold G6;simp only [AX,AR];rw [Bt (by omega)];obtain ⟨T,hT⟩ : ∃ T,T=Is b.2 l 0:=⟨_,rfl⟩;rw [<- hT]
 obtain ⟨r,q1,q2⟩:=D1 (l:=l) (σ:=Int×List AB) (s:=((0:Int),((0:Int),b.2))) (λk s=>(s.1,((k:Int),s.2))) (λm k s=>Asc none s.2/\s.2.length<=16+k/\0<=s.1/\s.1<=100*k/\Is s.2 m s.1=T) (λ(r:Nat×((Int×BI)×Unit))=>(r.2.1.2.2,r.2.1.1)=T)
  (f:=λ(s0:(Int×BI))=>br (Ag s0.2.1 (l.length:Int)) (λ_=>AO s0.2.1 λk1=>ix l k1 λx2=>bd (Fm (s0.2.2,x2)) λr3=>some (.nx ((AH .i64 s0.1 r3.2,(AH .i64 s0.2.1 1,r3.1))))) λ_=>some (.dn ((0,(s0,())))))
  (0,b.2) rfl (by omega) ⟨h.asc,by simp only;omega,by simp,by simp,hT.symm⟩ (λs hs=>by
   obtain ⟨w,o⟩:=s;exact ⟨(0,((w,((l.length:Int),o)),())),by simp only;rw [re,Aa],hs.2.2.2.2⟩) (λk x m s hd hx hk hs=>by
   obtain ⟨w,o⟩:=s;obtain ⟨h1,h2,h3,h4,h5⟩:=hs;simp only at h1 h2 h3 h4 h5 ⊢;have hg:=al o x;have hpl:=KC o x;rw [rl hk,AL,AF,AJ hx,iA h1 x (by omega),AD,Ci (by omega),A6 hx (by omega)]
   exact .inl ⟨(w+(1+(MS o x:Int)),FD o x),rfl,J9 x h1 (λ_ h=>by cases h),by simp only;split at hpl<;>omega,by simp only;omega,by simp only;omega,h5⟩)
 refine BC q1 ?_;rw [<- q2]
theorem QZ {b:BI} {l:List AB} (h:Nq b l=0):Bf b/\l.length<=16/\Es l=0:=by
 unfold Nq at h;by_cases h1:(BF b).2=0;rotate_left
 ·rw [if_pos h1] at h;exact absurd h h1
 rw [if_neg (by simp [h1])] at h;by_cases h2:(l.length:Int)>16
 ·rw [if_pos h2] at h;cases h
 rw [if_neg h2] at h;exact ⟨kQ h1,by omega,h⟩
def PH (b:BI) (l:List AB):List AB×(Int×Bool):=NL b.1.toNat b.2 l 0
theorem kS {b:BI} {l:List AB} (h:Bf b) (hl:l.length<=16):C5 (b,l)=some (PH b l):=by
 obtain ⟨m,es⟩:=b;obtain ⟨k,rfl⟩ : ∃ k:Nat,m=(k:Int):=⟨m.toNat,by have:=h.m1;simp only at this;omega⟩;have h1:=h.m1;have h2:=h.m2;have h3:=h.len;simp only at h1 h2 h3;have:=aj (most:=k) (by omega) (by omega) (ls:=l) h.asc (by simp only;omega) (by omega);unfold PH;simpa using this
theorem iC {b:BI} {l:List AB} (h:Bf b):(PH b l).2.2=decide (((Is b.2 l 0).1.length:Int)<=b.1)/\((PH b l).2.2=true->(PH b l).1=(Is b.2 l 0).1/\(PH b l).2.1=(Is b.2 l 0).2):=by
 have h1:=h.m1;have h3:=h.len;have:=U2 b.1.toNat l b.2 0 h.asc (by omega);refine ⟨this.1.trans ?_,this.2⟩;exact decide_eq_decide.2 (by omega)
def U3 (b:BI) (l:List AB):Bool×Int:=if Nq b l≠0 then (false,Nq b l) else ((PH b l).2.2,0)
theorem Wo (b:BI) (l:List AB):DZ (b,l)=some (U3 b l):=by
 unfold DZ U3;rw [ak,AD,AT];by_cases h:Nq b l=0
 ·obtain ⟨h1,h2,h3⟩:=QZ h;rw [if_pos h,if_neg (by simp [h]),kS h1 h2,AD]
 ·rw [if_neg h,if_pos h]
theorem an (b:BI) (l:List AB) (hl:l.length<=9223372036854775807):GQ (b,l)=some (U3 b l):=by
 unfold GQ U3;rw [X4 b l hl,AD,AT];by_cases h:Nq b l=0
 ·obtain ⟨h1,h2,h3⟩:=QZ h;rw [if_pos h,if_neg (by simp [h]),iB h1 h2,AD,(iC h1).1];simp only [AX,AR];rfl
 ·rw [if_neg h,if_pos h]
def MT:List AB->Bool
 | x::y::l=>decide (x.2.2.2<y.2.2.2)&&MT (y::l)
 | _=>true
theorem Qa (x y:AB) (l:List AB):MT (x::y::l)=(decide (x.2.2.2<y.2.2.2)&&MT (y::l)):=rfl
def Rs (f:Cm) (l:List AB):Int:=if BG f≠0 then BG f else if (l.length:Int)<1\/(l.length:Int)>8\/(l.length:Int)>f.1.1 then 2 else 0
def jv (f:Cm) (l:List AB):Int:=if Rs f l≠0 then Rs f l else Es l
def GU (f:Cm) (l:List AB):Int:=if jv f l≠0 then jv f l else if MT l=true then 0 else 6
theorem KD {f:Cm} {l:List AB} {e:Int} (h:Rs f l=e) (hn:e≠0):GU f l=e:=by
 have h1:jv f l=e:=by unfold jv;rw [h,if_pos hn]
 unfold GU;rw [h1,if_pos hn]
theorem Wp {f:Cm} {l:List AB} (h:Rs f l=0):GU f l=if Es l≠0 then Es l else if MT l=true then 0 else 6:=by
 have h1:jv f l=Es l:=by unfold jv;rw [h,if_neg (by simp)]
 unfold GU;rw [h1]
theorem TT {l tl:List AB} {x0:AB} (hl:l=x0::tl) {k:Nat} {y:AB} {m:List AB} (hd:tl.drop k=y::m) : ∃ z,l[k]? = some z/\l[k+1]? = some y/\l.drop k=z::y::m/\l.drop (k+1)=y::m:=by
 subst hl
 have hk:k<tl.length:=by
  by_cases h:k<tl.length
  ·exact h
  ·rw [List.drop_eq_nil_of_le (by omega)] at hd;cases hd
 have h1:(x0::tl).drop (k+1)=y::m:=by simpa using hd
 refine ⟨(x0::tl)[k]'(by simp;omega),List.getElem?_eq_getElem (by simp;omega),?_,?_,h1⟩
 ·have:=congrArg (λz=>z[0]?) h1;simpa using this
 ·rw [<- h1];exact List.drop_eq_getElem_cons (by simp;omega)
theorem ao {l:List AB} (hl:l.length<=1000) (h1:1<=l.length) : ∃ r,loop (β:=Nat×(Int×Int)) (λs7=>br (Ag s7 (A9 .i64 (l.length:Int) 1)) (λ_=>AO (AH .i64 s7 1) λk8=>ix l k8 λx9=>AO s7 λk10=>ix l k10 λx11=>br (PY x9.2.2.2 x11.2.2.2) (λ_=>some (.dn ((0,(s7,6))))) λ_=>some (.nx (AH .i64 s7 1))) λ_=>some (.dn ((1,(s7,0))))) (0:Int)=some r/\((r.1=0/\r.2.2=6/\MT l=false)\/(r.1=1/\MT l=true)):=by
 obtain ⟨x0,tl,e⟩ : ∃ x0 tl,l=x0::tl:=by
  cases l with
  | nil=>simp at h1
  | cons x0 tl=>exact ⟨x0,tl,rfl⟩
 have hlen:l.length=tl.length+1:=by rw [e];rfl
 have hs:A9 .i64 (l.length:Int) 1=(tl.length:Int):=by rw [CH (by omega)];omega
 simp only [hs]
 exact D1 (l:=tl) (σ:=Unit) (λk _=>(k:Int)) (λm k _=>MT l=MT (l.drop k)) (λ(r:Nat×(Int×Int))=>(r.1=0/\r.2.2=6/\MT l=false)\/(r.1=1/\MT l=true)) () rfl (by omega) rfl (λ_ h=>by
   refine ⟨(1,((tl.length:Int),0)),by rw [re];rfl,.inr ⟨rfl,?_⟩⟩;rw [h,e]
   have:(x0::tl).drop tl.length=[(x0::tl)[tl.length]'(by simp)]:=by
    rw [List.drop_eq_getElem_cons (by simp)];simp
   rw [this];rfl) (λk y m _ hd hx hk h=>by
   obtain ⟨z,z1,z2,z3,z4⟩:=TT e hd;have hi:AH .i64 (k:Int) 1=((k+1:Nat):Int):=Ac (by omega);simp only [hi];rw [rl hk,AL,AF,AJ z2,AF,AJ z1];rw [z3,Qa] at h;unfold PY;by_cases ho:y.2.2.2<=z.2.2.2
   ·rw [decide_eq_true ho,AL];exact .inr ⟨_,rfl,.inl ⟨rfl,rfl,by rw [h,decide_eq_false (by omega)];rfl⟩⟩
   ·rw [decide_eq_false ho,Aa]
    exact .inl ⟨(),rfl,by rw [h,decide_eq_true (by omega),z4];rfl⟩)
theorem X5 {l:List AB} (hl:l.length<=1000) : ∃ r,loop (β:=Nat×(Int×Int)) (λs2=>br (Ag s2 (l.length:Int)) (λ_=>AO s2 λk3=>ix l k3 λx4=>bd (Ar x4) λr5=>br (Aq r5 0) (λ_=>some (.dn ((0,(s2,r5))))) λ_=>some (.nx (AH .i64 s2 1))) λ_=>some (.dn ((1,(s2,0))))) (0:Int)=some r/\((r.1=0/\r.2.2=Es l/\Es l≠0)\/(r.1=1/\Es l=0)) :=
 D1 (l:=l) (σ:=Unit) (λk _=>(k:Int)) (λm k _=>Es l=Es m) (λ(r:Nat×(Int×Int))=>(r.1=0/\r.2.2=Es l/\Es l≠0)\/(r.1=1/\Es l=0)) () rfl (by omega) rfl (λ_ h=>⟨(1,((l.length:Int),0)),by rw [re];rfl,.inr ⟨rfl,h⟩⟩) (λk x m _ hd hx hk h=>by
   have h:Es l=if kE x≠0 then kE x else Es m:=h
   rw [rl hk,AL,AF,AJ hx,Ct,AD,AT,Ac (by omega)];by_cases h3:kE x=0
   ·rw [if_neg (by simp [h3])] at h;rw [if_pos h3];exact .inl ⟨(),rfl,h⟩
   ·rw [if_pos h3] at h
    rw [if_neg h3];exact .inr ⟨_,rfl,.inl ⟨rfl,h.symm,by rw [h];exact h3⟩⟩)
theorem TU {γ:Type} {f:Cm} (m:Sm f.2) {l:List AB} (hl:l.length<=1000) (Z:Int->Option γ) (C:Option γ) :
  (bd (BM f.1) λr0=>br (Aq r0.2 0) (λ_=>Z r0.2) λ_=>bd (Be f.2) λr1=>br (Aq r1.2 0) (λ_=>Z r1.2) λ_=>br (Aq f.1.1 f.2.1.1) (λ_=>Z 6) λ_=>br (Ag (AW (AA l)) 1) (λ_=>Z 2) λ_=>br (Bv (AW (AA l)) 8) (λ_=>Z 2) λ_=>br (Bv (AW (AA l)) f.1.1) (λ_=>Z 2) λ_=>bd (loop (β:=Nat×(Int×Int)) (λs2=>br (Ag s2 (AW (AA l))) (λ_=>AO s2 λk3=>ix l k3 λx4=>bd (Ar x4) λr5=>br (Aq r5 0) (λ_=>some (.dn ((0,(s2,r5))))) λ_=>some (.nx (AH .i64 s2 1))) λ_=>some (.dn ((1,(s2,0))))) 0) λr6=>br (neq r6.1 0) (λ_=>Z r6.2.2) λ_=>bd (loop (β:=Nat×(Int×Int)) (λs7=>br (Ag s7 (A9 .i64 (AW (AA l)) 1)) (λ_=>AO (AH .i64 s7 1) λk8=>ix l k8 λx9=>AO s7 λk10=>ix l k10 λx11=>br (PY x9.2.2.2 x11.2.2.2) (λ_=>some (.dn ((0,(s7,6))))) λ_=>some (.nx (AH .i64 s7 1))) λ_=>some (.dn ((1,(s7,0))))) 0) λr12=>br (neq r12.1 0) (λ_=>Z r12.2.2) λ_=>C)=if GU f l≠0 then Z (GU f l) else C:=by
 simp only [AX,AR];rw [Hn,AD,AT];by_cases h1:(BF f.1).2=0;rotate_left
 ·have e:BG f=(BF f.1).2:=by unfold BG;rw [if_pos h1]
  have e2:=KD (f:=f) (l:=l) (e:=(BF f.1).2) (by unfold Rs;rw [if_pos (by rw [e];exact h1),e]) h1;rw [if_neg h1,e2,if_pos h1]
 rw [if_pos h1,mN m,AD,AT];by_cases h2:(Bs f.2).2=0;rotate_left
 ·have e:BG f=(Bs f.2).2:=by unfold BG;rw [if_neg (show ¬ (BF f.1).2≠0 by simp [h1]),if_pos h2]
  have e2:=KD (f:=f) (l:=l) (e:=(Bs f.2).2) (by unfold Rs;rw [if_pos (by rw [e];exact h2),e]) h2;rw [if_neg h2,e2,if_pos h2]
 rw [if_pos h2,AT];by_cases h3:f.1.1=f.2.1.1;rotate_left
 ·have e:BG f=6:=by unfold BG;rw [if_neg (show ¬ (BF f.1).2≠0 by simp [h1]),if_neg (show ¬ (Bs f.2).2≠0 by simp [h2]),if_pos h3]
  have e2:=KD (f:=f) (l:=l) (e:=6) (by unfold Rs;rw [if_pos (by rw [e];decide),e]) (by decide);rw [if_neg h3,e2,if_pos (by decide)]
 have e:BG f=0:=by unfold BG;rw [if_neg (show ¬ (BF f.1).2≠0 by simp [h1]),if_neg (show ¬ (Bs f.2).2≠0 by simp [h2]),if_neg (show ¬ f.1.1≠f.2.1.1 by simp [h3])]
 have two:((l.length:Int)<1\/(l.length:Int)>8\/(l.length:Int)>f.1.1)->GU f l=2:=λh=>KD (by unfold Rs;rw [if_neg (by simp [e]),if_pos h]) (by decide);rw [if_pos h3,BB,Ap,Ap];by_cases h4:(l.length:Int)<1
 ·rw [if_pos h4,two (.inl h4),if_pos (by decide)]
 rw [if_neg h4];by_cases h5:(l.length:Int)>8
 ·rw [if_pos h5,two (.inr (.inl h5)),if_pos (by decide)]
 rw [if_neg h5];by_cases h6:(l.length:Int)>f.1.1
 ·rw [if_pos h6,two (.inr (.inr h6)),if_pos (by decide)]
 rw [if_neg h6,Wp (by unfold Rs;rw [if_neg (by simp [e]),if_neg (by omega)])];obtain ⟨r,q1,q2⟩:=X5 hl;refine BC q1 ?_;rw [CR];rcases q2 with ⟨q2,q3,q4⟩ | ⟨q2,q3⟩
 ·rw [if_pos q2,if_pos q4,if_pos q4,q3]
 rw [if_neg (show ¬ r.1=0 by omega),if_neg (show ¬ Es l≠0 by simp [q3])];obtain ⟨r2,p1,p2⟩:=ao hl (by omega);refine BC p1 ?_;rw [CR];rcases p2 with ⟨p2,p3,p4⟩ | ⟨p2,p3⟩
 ·rw [if_pos p2,p3,p4];rfl
 ·rw [if_neg (show ¬ r2.1=0 by omega),p3];rfl
theorem U4 {l:List AB} (hl:l.length<=1000) (e0:Int) : ∃ r,loop (β:=Nat×((Int×Int)×Unit)) (λs12=>br (Ag s12.2 (l.length:Int)) (λ_=>br (Bh s12.1 0) (λ_=>AO s12.2 λk13=>ix l k13 λx14=>bd (Ax x14) λr15=>some (.nx (r15,AH .i64 s12.2 1))) λ_=>some (.dn ((0,(s12,()))))) λ_=>some (.dn ((0,(s12,()))))) (e0,(0:Int))=some r/\r.2.1.1=if e0≠0 then e0 else Es l:=by
 obtain ⟨T,hT⟩ : ∃ T,T=if e0≠0 then e0 else Es l:=⟨_,rfl⟩
 rw [<- hT]
 exact D1 (l:=l) (σ:=Int) (λk e=>(e,(k:Int))) (λm k e=>T=if e≠0 then e else Es m) (λ(r:Nat×((Int×Int)×Unit))=>r.2.1.1=T) e0 rfl (by omega) hT (λe h=>⟨(0,((e,(l.length:Int)),())),by simp only;rw [re,Aa],by
   rw [h];simp only;split
   ·rfl
   ·rename_i h2;simp only [Es];omega⟩) (λk x m e hd hx hk h=>by
   simp only;rw [rl hk,AL,By];by_cases h2:e=0
   ·rw [if_pos h2,AF,AJ hx,GK,AD,Ac (by omega)];rw [if_neg (by simp [h2])] at h;exact .inl ⟨kE x,rfl,h⟩
   ·rw [if_neg h2];rw [if_pos h2] at h
    exact .inr ⟨_,rfl,h.symm⟩)
theorem X6 {l:List AB} (hl:l.length<=1000) (e0:Int) : ∃ r,loop (β:=Nat×((Int×Int)×Unit)) (λs6=>br (Ag s6.1 (l.length:Int)) (λ_=>br (Bh s6.2 0) (λ_=>AO s6.1 λk7=>ix l k7 λx8=>AO (A9 .i64 s6.1 1) λk9=>ix l k9 λx10=>br (PY x8.2.2.2 x10.2.2.2) (λ_=>some (.nx (AH .i64 s6.1 1,6))) λ_=>some (.nx (AH .i64 s6.1 1,s6.2))) λ_=>some (.dn ((0,(s6,()))))) λ_=>some (.dn ((0,(s6,()))))) ((1:Int),e0)=some r/\r.2.1.2=if e0≠0 then e0 else if MT l=true then 0 else 6:=by
 obtain ⟨T,hT⟩ : ∃ T,T=if e0≠0 then e0 else if MT l=true then (0:Int) else 6:=⟨_,rfl⟩
 rw [<- hT];cases hc:l with
 | nil =>
  subst hc;refine ⟨(0,(((1:Int),e0),())),Dd (n:=1) (by omega) (Bo (by simp [Ag,br])),?_⟩;rw [hT];simp only;split
  ·rfl
  ·rename_i h;have:e0=0:=by omega
   rw [this];rfl
 | cons x0 tl =>
  rw [<- hc];have hlen:l.length=tl.length+1:=by rw [hc];rfl
  exact D1 (l:=tl) (σ:=Int) (λk e=>(((k+1:Nat):Int),e)) (λm k e=>T=if e≠0 then e else if MT (l.drop k)=true then (0:Int) else 6) (λ(r:Nat×((Int×Int)×Unit))=>r.2.1.2=T) e0 rfl (by omega) hT (λe h=>by
   refine ⟨(0,((((tl.length+1:Nat):Int),e),())),by simp only;rw [show ((tl.length+1:Nat):Int)=(l.length:Int) by omega,re,Aa],?_⟩
   have:l.drop tl.length=[l[tl.length]'(by omega)]:=by
    rw [List.drop_eq_getElem_cons (by omega),List.drop_eq_nil_of_le (by omega)]
   rw [this] at h;rw [h];simp only;split
   ·rfl
   ·rename_i h2;have:e=0:=by omega
    rw [this];rfl) (λk y m e hd hx hk h=>by
   obtain ⟨z,z1,z2,z3,z4⟩:=TT hc hd;simp only;have hi:AH .i64 ((k+1:Nat):Int) 1=((k+1+1:Nat):Int):=Ac (by omega);have hj:A9 .i64 ((k+1:Nat):Int) 1=(k:Int):=by rw [CH (by omega)];omega
   rw [hi,hj,BB,if_pos (by omega),By];by_cases h2:e=0
   ·rw [if_pos h2,AF,AJ z2,AF,AJ z1];rw [if_neg (by simp [h2]),z3,Qa] at h;unfold PY;by_cases ho:y.2.2.2<=z.2.2.2
    ·rw [decide_eq_true ho,AL];rw [decide_eq_false (by omega)] at h;exact .inl ⟨6,rfl,by rw [h];rfl⟩
    ·rw [decide_eq_false ho,Aa];rw [decide_eq_true (by omega),Bool.true_and] at h;exact .inl ⟨e,rfl,by rw [if_neg (by simp [h2]),z4];exact h⟩
   ·rw [if_neg h2];rw [if_pos h2] at h
    exact .inr ⟨_,rfl,h.symm⟩)
theorem ap {f:Cm} (m:Sm f.2) {l:List AB} (hl:l.length<=1000):FQ (f,l)=some (GU f l):=by
 unfold FQ;simp only [AX,AR]
 have fin : ∀ {e0:Int},e0=Rs f l->(bd (loop (β:=Nat×((Int×Int)×Unit)) (λs12=>br (Ag s12.2 (l.length:Int)) (λ_=>br (Bh s12.1 0) (λ_=>AO s12.2 λk13=>ix l k13 λx14=>bd (Ax x14) λr15=>some (.nx (r15,AH .i64 s12.2 1))) λ_=>some (.dn ((0,(s12,()))))) λ_=>some (.dn ((0,(s12,()))))) (e0,(0:Int))) λr5=>bd (loop (β:=Nat×((Int×Int)×Unit)) (λs6=>br (Ag s6.1 (l.length:Int)) (λ_=>br (Bh s6.2 0) (λ_=>AO s6.1 λk7=>ix l k7 λx8=>AO (A9 .i64 s6.1 1) λk9=>ix l k9 λx10=>br (PY x8.2.2.2 x10.2.2.2) (λ_=>some (.nx (AH .i64 s6.1 1,6))) λ_=>some (.nx (AH .i64 s6.1 1,s6.2))) λ_=>some (.dn ((0,(s6,()))))) λ_=>some (.dn ((0,(s6,()))))) ((1:Int),r5.2.1.1)) λr11=>some r11.2.1.2)=some (GU f l):=by
  intro e0 he;obtain ⟨r,q1,q2⟩:=U4 hl e0;rw [q1,AD];obtain ⟨r2,p1,p2⟩:=X6 hl r.2.1.1;rw [p1,AD,p2,q2,he];rfl
 rw [J8 m,AD,By];by_cases h1:BG f=0;rotate_left
 ·rw [if_neg h1];exact fin (by unfold Rs;rw [if_pos h1])
 rw [if_pos h1,BB,Ap,Ap];by_cases h4:(l.length:Int)<1
 ·rw [if_pos h4];exact fin (by unfold Rs;rw [if_neg (by simp [h1]),if_pos (.inl h4)])
 rw [if_neg h4];by_cases h5:(l.length:Int)>8
 ·rw [if_pos h5];exact fin (by unfold Rs;rw [if_neg (by simp [h1]),if_pos (.inr (.inl h5))])
 rw [if_neg h5];by_cases h6:(l.length:Int)>f.1.1
 ·rw [if_pos h6];exact fin (by unfold Rs;rw [if_neg (by simp [h1]),if_pos (.inr (.inr h6))])
 rw [if_neg h6];exact fin (by unfold Rs;rw [if_neg (by simp [h1]),if_neg (by omega),h1])
end Go.Proofs.YthpkjfabdccpdaaGreat.Pl
namespace Go.Proofs.YthpkjfabdccpdaaGreat.Pl
open Go Go.Proofs.YthpkjfabdccpdaaGreat.Sv
theorem X7 {f:Cm} {l:List AB} (h:GU f l=0):BG f=0/\1<=l.length/\l.length<=8/\Es l=0:=by
 have h0:Rs f l=0:=by
  by_cases h1:Rs f l=0
  ·exact h1
  ·rw [KD rfl h1] at h;exact absurd h h1
 rw [Wp h0] at h
 have h2:Es l=0:=by
  by_cases h1:Es l=0
  ·exact h1
  ·rw [if_pos h1] at h;exact absurd h h1
 unfold Rs at h0;by_cases h3:BG f=0;rotate_left
 ·rw [if_pos h3] at h0;exact absurd h0 h3
 rw [if_neg (by simp [h3])] at h0;by_cases h4:(l.length:Int)<1\/(l.length:Int)>8\/(l.length:Int)>f.1.1
 ·rw [if_pos h4] at h0;cases h0
 ·exact ⟨h3,by omega,by omega,h2⟩
theorem iD {f:Cm} (h:BG f=0):(BF f.1).2=0/\VSt f.2/\f.1.1=f.2.1.1:=by
 have hj:=NR h;unfold BG at h;by_cases h1:(BF f.1).2=0;rotate_left
 ·rw [if_pos h1] at h;exact absurd h h1
 rw [if_neg (by simp [h1]),if_neg (by simp [hj])] at h;refine ⟨h1,TH.1 hj,?_⟩;by_cases h3:f.1.1=f.2.1.1
 ·exact h3
 ·rw [if_pos h3] at h;cases h
theorem N8 {f:Cm} {l:List AB} (h:GU f l=0):Nq f.1 l=0/\VSt f.2:=by
 obtain ⟨h1,h2,h3,h4⟩:=X7 h;obtain ⟨g1,g2,_⟩:=iD h1;refine ⟨?_,g2⟩;unfold Nq;rw [if_neg (by simp [g1]),if_neg (by omega),h4]
def zF:Cm:=((0,[]),zS)
def PI (f:Cm) (l:List AB):Bool×Int:=if GU f l≠0 then (false,GU f l) else (AV (PH f.1 l).2.2,0)
theorem aq {f:Cm} (m:Sm f.2) {l:List AB} (hl:l.length<=1000):Cy (f,l)=some (PI f l):=by
 unfold Cy PI;refine (TU m hl (λe=>some (false,e)) _).trans ?_;by_cases h:GU f l=0;rotate_left
 ·rw [if_pos h,if_pos h]
 rw [if_neg (by simp [h]),if_neg (by simp [h])];obtain ⟨h1,_⟩:=N8 h;rw [Wo,AD];unfold U3;rw [if_neg (by simp [h1])];rfl
theorem Qb {f:Cm} (m:Sm f.2) {l:List AB} (hl:l.length<=1000):ER (f,l)=some (PI f l):=by
 unfold ER PI;rw [ap m hl,AD,AT];by_cases h:GU f l=0;rotate_left
 ·rw [if_neg h,if_pos h]
 rw [if_pos h,if_neg (by simp [h])];obtain ⟨h1,_⟩:=N8 h;rw [an f.1 l (by omega),AD];unfold U3;rw [if_neg (by simp [h1])]
def Qc (f:Cm):Bool:=decide (2<=(Db f.2.1.2 0).length)
theorem iE {f:Cm} (v:VLev f.2.1):GR f=some (Qc f):=by
 have h2:=(v.own 0).1;unfold GR Qc;simp only [AX,AR];rw [G3];by_cases h:0<f.2.1.2.length
 ·rw [if_neg (by omega),AJ (Rl h)]
  congr 1
  rw [IN];exact decide_eq_decide.2 (by omega)
 ·rw [if_pos (by omega)]
  congr 1
  have:Db f.2.1.2 0=[]:=by unfold Db;rw [List.getElem?_eq_none (by omega)];rfl
  rw [this];rfl
theorem iF {f:Cm} (v:VLev f.2.1):Cr (f.2.1,(0:Int))=some (AV (Qc f),0):=by
 have h2:=(v.own 0).1;have h:=Xs v (n:=0) (by omega);rw [if_neg (by omega)] at h;refine h.trans ?_
 congr 2
 unfold ab Qc;rw [CQ];have h4:((f.2.1.2[0]?).getD []).length=(Db f.2.1.2 0).length:=rfl;rw [h4];exact decide_eq_decide.2 (by omega)
def Wq (f:Cm) (l:List AB):Bool×Int:=if GU f l≠0 then (false,GU f l) else (AV (PH f.1 l).2.2&&Qc f,0)
theorem iG {f:Cm} (m:Sm f.2) {l:List AB} (hl:l.length<=1000):DE (f,l)=some (Wq f l):=by
 unfold DE Wq;refine (TU m hl (λe=>some (false,e)) _).trans ?_;by_cases h:GU f l=0;rotate_left
 ·rw [if_pos h,if_pos h]
 rw [if_neg (by simp [h]),if_neg (by simp [h])];obtain ⟨h1,v⟩:=N8 h;rw [Wo,AD];unfold U3;rw [if_neg (by simp [h1])];simp only;rw [AT,if_pos rfl];cases (PH f.1 l).2.2 with
 | true=>rw [FC,Aa];rfl
 | false =>
  rw [Hg,AL,iF v.lev,AD,AT,if_pos rfl];cases Qc f<;>rfl
theorem au {f:Cm} (m:Sm f.2) {l:List AB} (hl:l.length<=1000):GS (f,l)=some (Wq f l):=by
 unfold GS Wq;rw [Qb m hl,AD];unfold PI;by_cases h:GU f l=0;rotate_left
 ·rw [if_pos h,if_pos h];rfl
 rw [if_neg (by simp [h]),if_neg (by simp [h])];obtain ⟨h1,v⟩:=N8 h;cases (PH f.1 l).2.2 with
 | true=>rfl
 | false =>
  simp only [Hg];rw [AL,iE v.lev,AD];rfl
def Wr (f:Cm):Int×Int:=if BG f≠0 then (0,BG f) else (AH .i64 (A9 .i64 f.1.1 (f.1.2.length:Int)) (Kh .i64 f.1.1 (if 0<f.2.1.2.length then A9 .i64 2 ((Db f.2.1.2 0).length:Int) else 2)),0)
theorem jc {γ:Type} {f:Cm} (m:Sm f.2) (Z:Int->Option γ) (C:Option γ) :
  (bd (BM f.1) λr0=>br (Aq r0.2 0) (λ_=>Z r0.2) λ_=>bd (Be f.2) λr1=>br (Aq r1.2 0) (λ_=>Z r1.2) λ_=>br (Aq f.1.1 f.2.1.1) (λ_=>Z 6) λ_=>C)=if BG f≠0 then Z (BG f) else C:=by
 rw [Hn,AD,AT];by_cases h1:(BF f.1).2=0;rotate_left
 ·have e:BG f=(BF f.1).2:=by unfold BG;rw [if_pos h1]
  rw [if_neg h1,e,if_pos h1]
 rw [if_pos h1,mN m,AD,AT];by_cases h2:(Bs f.2).2=0;rotate_left
 ·have e:BG f=(Bs f.2).2:=by unfold BG;rw [if_neg (show ¬ (BF f.1).2≠0 by simp [h1]),if_pos h2]
  rw [if_neg h2,e,if_pos h2]
 rw [if_pos h2,AT];by_cases h3:f.1.1=f.2.1.1;rotate_left
 ·have e:BG f=6:=by unfold BG;rw [if_neg (show ¬ (BF f.1).2≠0 by simp [h1]),if_neg (show ¬ (Bs f.2).2≠0 by simp [h2]),if_pos h3]
  rw [if_neg h3,e,if_pos (by decide)]
 have e:BG f=0:=by unfold BG;rw [if_neg (show ¬ (BF f.1).2≠0 by simp [h1]),if_neg (show ¬ (Bs f.2).2≠0 by simp [h2]),if_neg (show ¬ f.1.1≠f.2.1.1 by simp [h3])]
 rw [if_pos h3,e,if_neg (by simp)]
theorem iH {f:Cm} (m:Sm f.2):DD f=some (Wr f):=by
 unfold DD Wr;refine (jc m (λe=>some (0,e)) _).trans ?_;by_cases h:BG f=0;rotate_left
 ·rw [if_pos h,if_pos h]
 rw [if_neg (by simp [h]),if_neg (by simp [h])];simp only [AX,AR];rw [Ap];by_cases h0:0<f.2.1.2.length
 ·rw [if_pos (by omega),AJ (Rl h0),if_pos h0]
 ·rw [if_neg (by omega),if_neg h0]
theorem aw {f:Cm} (m:Sm f.2):GT f=some (Wr f):=by
 unfold GT Wr;rw [J8 m,AD,AT];by_cases h:BG f=0;rotate_left
 ·rw [if_neg h,if_pos h]
 rw [if_pos h,if_neg (by simp [h])];simp only [AX,AR];rw [G3];by_cases h0:0<f.2.1.2.length
 ·rw [if_neg (by omega),AJ (Rl h0),if_pos h0]
 ·rw [if_pos (by omega),if_neg h0]
def Ro (b:Int):Cm×Int:=if b<1\/b>16 then (zF,7) else (((b,[]),((b,[]),([],1))),0)
theorem jd (b:Int):Dp b=some (Ro b):=by
 unfold Dp Ro HM JP HN;rw [BB,Ap];by_cases h1:b<1
 ·rw [if_pos h1,if_pos (.inl h1)];rfl
 rw [if_neg h1];by_cases h2:b>16
 ·rw [if_pos h2,if_pos (.inr h2)];rfl
 rw [if_neg h2,if_neg (by omega),AD,AT,if_pos rfl,BB,if_neg h1,Ap,if_neg h2];rfl
theorem iI (b:Int):G5 b=some (Ro b):=by
 unfold G5 Ro H9 IB IA;rw [BB,Ap];by_cases h1:b<1
 ·rw [if_pos h1,if_pos (.inl h1)];rfl
 rw [if_neg h1];by_cases h2:b>16
 ·rw [if_pos h2,if_pos (.inr h2)];rfl
 rw [if_neg h2,if_neg (by omega),AD,AT,if_pos rfl,BB,if_neg h1,Ap,if_neg h2];rfl
theorem je {f:Cm} (h1:f.1.2.length<=1000000) (h2:f.2=zS\/VSt f.2):GP (f,f)=some true:=by
 unfold GP HO;rw [By,if_pos rfl,MQ f.1.2 (by omega),AD,AD,AL,X2 h2];rfl
theorem iJ {b:Int} (h1:1<=b) (h2:b<=16):VSt ((b,[]),([],1)):=by
 refine ⟨⟨h1,h2,by simp,λi rs h=>by simp at h,by simp,by simp⟩,by simp,by simp,(by show Fk []<1;decide),rfl,λj h=>by simp at h⟩
theorem ax (b:Int):(Ro b).1.2=zS\/VSt (Ro b).1.2:=by
 unfold Ro;by_cases h:b<1\/b>16
 ·rw [if_pos h];exact .inl rfl
 ·rw [if_neg h];exact .inr (iJ (by omega) (by omega))
theorem iK (b:Int):(Ro b).1.1.2.length<=1000000:=by
 unfold Ro;split<;>simp [zF]
theorem X8 (f:Cm) : ∃ b,GO f=some b/\(b=false->Sm f.2/\f.1.2.length<=30 /\ ∀ rs∈f.2.1.2,∀ r∈rs,r.2.length<=30):=by
 unfold GO;obtain ⟨b,e,hb⟩:=NH f.1.2;rw [e,AD];cases b with
 | true=>exact ⟨true,rfl,λh=>by cases h⟩
 | false =>
  obtain ⟨b2,e2,hb2⟩:=Xv f.2;rw [Aa,e2,AD];exact ⟨b2,rfl,λh=>⟨(hb2 h).1,hb rfl,(hb2 h).2⟩⟩
theorem iL:EQ ()=some true:=by kernel_rfl
theorem pressureAsks (x:Cm×(List AB×Int)):DL x=some true:=by
 obtain ⟨f,l,b⟩:=x;unfold DL;obtain ⟨c,e,hc⟩:=X8 f;rw [e,AD,iL];cases c with
 | true=>rfl
 | false =>
  obtain ⟨m,_,_⟩:=hc rfl;rw [Aa];obtain ⟨c2,e2,hc2⟩:=NH l;rw [e2,AD];cases c2 with
  | true=>rfl
  | false =>
   have hl:=hc2 rfl;have hl':l.length<=1000:=by omega
   rw [Aa,jd,AD,iI,AD,je (iK b) (ax b),AD,FC,Aa,AT,if_pos rfl,U0 m,AD,J8 m,AD,AT,if_pos rfl,aq m hl',AD,Qb m hl',AD,Gt,FC,Aa,AT,if_pos rfl,iG m hl',AD,au m hl',AD,iH m,AD,aw m,AD,Gt,AL,Rk,AL,Rk,AL,Rk,AL];rfl
end Go.Proofs.YthpkjfabdccpdaaGreat.Pl
