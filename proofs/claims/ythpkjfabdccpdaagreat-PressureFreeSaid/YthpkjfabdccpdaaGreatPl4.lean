/- Functions of the program and of the specification as plain functions, and laws about them. No condition. -/
import Derived.Test.YthpkjfabdccpdaaGreatPl3
set_option linter.all false
namespace Go.Proofs.YthpkjfabdccpdaaGreat.Pl
open Go Go.Proofs.YthpkjfabdccpdaaGreat.Sv
def E5:List AB->HB->Nat
 | [],_=>0
 | y::l,k=>if CJ y.1 k=true then E5 l k+1 else 0
def HV (l:List AB) (k:HB):Bool:=match l[E5 l k]? with
 | some y=>decide (y.1=k)
 | none=>false
theorem M8 : ∀ (l:List AB) (k:HB),E5 l k<=l.length
 | [],_=>by simp [E5]
 | y::l,k=>by
  have:=M8 l k;unfold E5;split<;>simp<;>omega
theorem Zw : ∀ {l:List AB} {k:HB} {i:Nat} {y:AB},l[i]? = some y->i<E5 l k->CJ y.1 k=true
 | [],_,_,_,h,_=>by simp at h
 | x::l,k,0,y,h,hi=>by
  cases h;unfold E5 at hi;split at hi
  ·assumption
  ·omega
 | x::l,k,i+1,y,h,hi=>by
  unfold E5 at hi;split at hi
  ·exact Zw (l:=l) (by simpa using h) (by omega)
  ·omega
theorem Zx : ∀ {l:List AB} {p:Option HB},Asc p l -> ∀ {k:HB} {i:Nat} {y:AB},l[i]? = some y->E5 l k<=i->CJ y.1 k=false
 | [],_,_,_,_,_,h,_=>by simp at h
 | x::l,p,⟨h1,h2⟩,k,i,y,h,hi=>by
  unfold E5 at hi;cases i with
  | zero =>
   cases h;split at hi
   ·omega
   ·rename_i hs;simpa using hs
  | succ i =>
   have hy:l[i]? = some y:=by simpa using h
   split at hi
   ·exact Zx h2 hy (by omega)
   ·rename_i hs;have hs:CJ x.1 k=false:=by simpa using hs
    have:=Uy h2 y (List.mem_of_getElem? hy);cases hq:CJ y.1 k with
    | false=>rfl
    | true=>rw [E0 this hq] at hs;cases hs
theorem iy {l:List AB} {p:Option HB} (ha:Asc p l) {k:HB} {i:Nat} (h1:i<=l.length) (h2 : ∀ j y,j<i->l[j]? = some y->CJ y.1 k=true) (h3 : ∀ j y,i<=j->l[j]? = some y->CJ y.1 k=false):i=E5 l k:=by
 have hle:=M8 l k;rcases Nat.lt_trichotomy i (E5 l k) with h | h | h
 ·have hy:l[i]? = some l[i]:=List.getElem?_eq_getElem (by omega);have a:=Zw hy h;rw [h3 i _ (Nat.le_refl _) hy] at a;cases a
 ·exact h
 ·have hy:l[E5 l k]? = some l[E5 l k]:=List.getElem?_eq_getElem (by omega);have a:=Zx ha hy (Nat.le_refl _);rw [h2 _ _ h hy] at a;cases a
theorem WP {a b:Nat} (h:a+b<=1000000):MH .i64 (Qn .u64 (MH .u64 (AH .i64 (a:Int) (b:Int))) 1)=(((a+b) / 2:Nat):Int):=by
 rw [CT (by omega)]
 have e1:MH .u64 ((a:Int)+(b:Int))=((a+b:Nat):Int):=by
  show (let m:=((a:Int)+(b:Int)) % (2 ^ 64:Int);if false&&decide (m>=(2 ^ 63:Int)) then m-(2 ^ 64:Int) else m)=_
  simp;omega
 rw [e1]
 have e2:Qn .u64 ((a+b:Nat):Int) 1=(((a+b) / 2:Nat):Int):=by
  show Int.fdiv ((a+b:Nat):Int) (2 ^ 1)=_;rw [Int.fdiv_eq_ediv_of_nonneg _ (by decide)];omega
 rw [e2];exact iw (by omega)
theorem Uz : ∀ {l:List AB} {p:Option HB},Asc p l -> ∀ {a b:Nat} {x y:AB},a<b->l[a]? = some x->l[b]? = some y->CJ x.1 y.1=true
 | [],_,_,_,_,_,_,_,h,_=>by simp at h
 | z::l,p,⟨_,hA2⟩,a,b,x,y,hab,h1,h2=>by
  cases b with
  | zero=>omega
  | succ b =>
   have h2':l[b]? = some y:=by simpa using h2
   cases a with
   | zero=>cases h1;exact Uy hA2 y (List.mem_of_getElem? h2')
   | succ a=>exact Uz hA2 (a:=a) (b:=b) (by omega) (by simpa using h1) h2'
theorem M9 {l:List AB} {p:Option HB} (ha:Asc p l) (k:HB) (hl:l.length<=100000) : ∀ (n i j:Nat),i<=j->j<=l.length->j-i<n->(∀ q y,q<i->l[q]? = some y->CJ y.1 k=true)->(∀ q y,j<=q->l[q]? = some y->CJ y.1 k=false) ->
  Df n (λs0=>br (Ah s0.1 s0.2) (λ_=>AS (MH .i64 (Qn .u64 (MH .u64 (AH .i64 s0.1 s0.2)) 1)) λk1=>ix l k1 λx2=>br (AZ (AZ (CJ x2.1 k))) (λ_=>some (.nx ((AH .i64 (MH .i64 (Qn .u64 (MH .u64 (AH .i64 s0.1 s0.2)) 1)) 1,s0.2)))) λ_=>some (.nx ((s0.1,MH .i64 (Qn .u64 (MH .u64 (AH .i64 s0.1 s0.2)) 1))))) λ_=>some (.dn (((0:Nat),(s0,()))))) ((i:Int),(j:Int))=some (0,(((E5 l k:Int),(E5 l k:Int)),()))
 | 0,_,_,_,_,h,_,_=>by omega
 | n+1,i,j,hij,hj,hn,h1,h2=>by
  by_cases h:i<j
  ·have hm:(i+j) / 2<l.length:=by omega
   have hx:l[(i+j) / 2]? = some l[(i+j) / 2]:=List.getElem?_eq_getElem hm;cases hs:CJ l[(i+j) / 2].1 k with
   | true =>
    rw [BN (s':=((((i+j) / 2+1:Nat):Int),(j:Int))) (by
     simp only
     rw [BD,if_pos (by omega),WP (by omega),AE,AK hx,hs,Iv,Mv,AN,Aa (by omega)])]
    refine M9 ha k hl n _ j (by omega) hj (by omega) (λq y hq hy => ?_) h2;by_cases hqe:q=(i+j) / 2
    ·subst hqe;rw [hx] at hy;cases hy;exact hs
    ·have hq2:q<(i+j) / 2:=by omega
     have hyq:CJ y.1 l[(i+j) / 2].1=true:=Uz ha hq2 hy hx;exact E0 hyq hs
   | false =>
    rw [BN (s':=((i:Int),(((i+j) / 2:Nat):Int))) (by
     simp only
     rw [BD,if_pos (by omega),WP (by omega),AE,AK hx,hs,Mv,Iv,Ag])]
    refine M9 ha k hl n i _ (by omega) (by omega) (by omega) h1 (λq y hq hy => ?_);cases hq2:CJ y.1 k with
    | false=>rfl
    | true =>
     by_cases hqe:q=(i+j) / 2
     ·subst hqe;rw [hx] at hy;cases hy;rw [hs] at hq2;cases hq2
     ·have:=Uz ha (show (i+j) / 2<q by omega) hx hy;rw [E0 this hq2] at hs;cases hs
  ·have:i=j:=by omega
   subst this;have:=iy ha hj h1 h2
   rw [Bh (x:=(0,(((E5 l k:Int),(E5 l k:Int)),()))) (by
    simp only
    rw [BD,if_neg (by omega),this])]
theorem Zy {l:List AB} {p:Option HB} (ha:Asc p l) (k:HB) (hl:l.length<=100000):Db (l,k)=some ((E5 l k:Int),HV l k):=by
 unfold Db;simp only [AU,AP];have h:=M9 ha k hl (l.length+1) 0 l.length (by omega) (Nat.le_refl _) (by omega) (λq y h=>by omega) (λq y h hy=>by rw [List.getElem?_eq_none h] at hy;cases hy);refine BG (DM (by omega) h) ?_;dsimp only;have hle:=M8 l k;unfold HV;rw [BD];by_cases h2:E5 l k<l.length
 ·have hx:l[E5 l k]? = some l[E5 l k]:=List.getElem?_eq_getElem h2;rw [if_pos (by omega),AE,AK hx,hx];simp only
  congr 2
  cases hq:seq l[E5 l k].1 k with
  | true=>exact (decide_eq_true (KJ.1 hq)).symm
  | false =>
   refine (decide_eq_false λe => ?_).symm;rw [KJ.2 e] at hq;cases hq
 ·rw [if_neg (by omega),List.getElem?_eq_none (by omega)]
end Go.Proofs.YthpkjfabdccpdaaGreat.Pl
namespace Go.Proofs.YthpkjfabdccpdaaGreat.Pl
open Go Go.Proofs.YthpkjfabdccpdaaGreat.Sv
abbrev lU:=(Int×(((List AB)×Nat)×(Int×Bool)))
def gx (most:Int) (ls:List AB):lU->Option (LR lU (Nat×(lU×Unit))) :=
 (λ(s1:(Int×(((List AB)×Nat)×(Int×Bool))))=>br (Ah s1.2.2.1 (AV (AA ls))) (λ_=>AS s1.2.2.1 λk2=>ix ls k2 λx3=>gd (A6 (AJ 0 s1.2.1.2) (AA s1.2.1.1)) λ_=>bd (Db ((B3 s1.2.1.1 0 (AJ 0 s1.2.1.2),x3.1))) λr4=>br r4.2 (λ_=>AS r4.1 λk5=>gd (B6 k5 s1.2.1.2) λ_=>gd (B6 (AJ 0 k5) (AA s1.2.1.1)) λ_=>ix s1.2.1.1 (AJ 0 k5) λx6=>some (.nx ((BJ .i64 (AH .i64 s1.1 (AH .i64 (BJ .i64 (AV s1.2.1.2) r4.1) 1)) 1,((lset s1.2.1.1 (AJ 0 k5) x3,s1.2.1.2),(AH .i64 s1.2.2.1 1,s1.2.2.2)))))) λ_=>br (Bm (AV s1.2.1.2) most) (λ_=>some (.dn ((0,((AH .i64 s1.1 (AH .i64 (BJ .i64 (AV s1.2.1.2) r4.1) 1),(s1.2.1,(s1.2.2.1,false))),()))))) λ_=>AS (AH .i64 (AV s1.2.1.2) 1) λk7=>AS (AV (CF (AA s1.2.1.1) 0)) λk8=>gd (A6 k7 k8) λ_=>gd (neq (AJ 0 k8) (AA s1.2.1.1)) λ_=>gd (B6 0 (AA s1.2.1.1)) λ_=>AS (AH .i64 r4.1 1) λk9=>gd (A6 (AJ 0 k7) (AA s1.2.1.1)) λ_=>gd (A6 k9 k7) λ_=>br (B6 (AJ 0 k9) (AA s1.2.1.1)) (λ_=>AS r4.1 λk10=>gd (A6 (AJ 0 k7) (AA s1.2.1.1)) λ_=>gd (A6 k10 k7) λ_=>br (B6 (AJ 0 k10) (AA s1.2.1.1)) (λ_=>gd (A6 (AJ (AJ 0 k10) (CF k7 k10)) (AA s1.2.1.1)) λ_=>gd (A6 (AJ (AJ 0 k9) (CF k7 k9)) (AA s1.2.1.1)) λ_=>AS r4.1 λk11=>gd (B6 k11 k7) λ_=>gd (B6 (AJ 0 k11) (AA (DB s1.2.1.1 (AJ 0 k9) (B3 s1.2.1.1 (AJ 0 k10) (AJ (AJ 0 k10) (CF k7 k10))) (CF k7 k9)))) λ_=>ix (DB s1.2.1.1 (AJ 0 k9) (B3 s1.2.1.1 (AJ 0 k10) (AJ (AJ 0 k10) (CF k7 k10))) (CF k7 k9)) (AJ 0 k11) λx12=>some (.nx ((AH .i64 s1.1 (AH .i64 (BJ .i64 (AV s1.2.1.2) r4.1) 1),((lset (DB s1.2.1.1 (AJ 0 k9) (B3 s1.2.1.1 (AJ 0 k10) (AJ (AJ 0 k10) (CF k7 k10))) (CF k7 k9)) (AJ 0 k11) x3,k7),(AH .i64 s1.2.2.1 1,s1.2.2.2)))))) λ_=>gd (A6 (AJ (AJ 0 k9) (CF k7 k9)) (AA s1.2.1.1)) λ_=>AS r4.1 λk13=>gd (B6 k13 k7) λ_=>gd (B6 (AJ 0 k13) (AA (DB s1.2.1.1 (AJ 0 k9) [] (CF k7 k9)))) λ_=>ix (DB s1.2.1.1 (AJ 0 k9) [] (CF k7 k9)) (AJ 0 k13) λx14=>some (.nx ((AH .i64 s1.1 (AH .i64 (BJ .i64 (AV s1.2.1.2) r4.1) 1),((lset (DB s1.2.1.1 (AJ 0 k9) [] (CF k7 k9)) (AJ 0 k13) x3,k7),(AH .i64 s1.2.2.1 1,s1.2.2.2)))))) λ_=>AS r4.1 λk15=>gd (A6 (AJ 0 k7) (AA s1.2.1.1)) λ_=>gd (A6 k15 k7) λ_=>br (B6 (AJ 0 k15) (AA s1.2.1.1)) (λ_=>gd (A6 (AJ (AJ 0 k15) (CF k7 k15)) (AA s1.2.1.1)) λ_=>none) λ_=>none) λ_=>some (.dn ((0,(s1,())))))
theorem Zz (x:A7×List AB):C8 x =
 (AS (AH .i64 x.1.1 1) λk0=>gd (A6 0 k0) λ_=>gd (A6 k0 1048576) λ_=>gd (A6 (AJ 0 (AA x.1.2)) 1048576) λ_=>gd (A6 (AJ 0 0) (AA (CK k0 ((([],([],(false,0))):AB))))) λ_=>br (neq (AA x.1.2) 0) (λ_=>bd (loop (gx x.1.1 x.2) ((0,((CK k0 ((([],([],(false,0))):AB)),0),(0,true))))) λr16=>gd (A6 (AJ 0 r16.2.1.2.1.2) (AA r16.2.1.2.1.1)) λ_=>some ((B3 r16.2.1.2.1.1 0 (AJ 0 r16.2.1.2.1.2),(r16.2.1.1,r16.2.1.2.2.2)))) λ_=>br (A6 (AJ (AJ 0 0) (AA x.1.2)) (AA (CK k0 ((([],([],(false,0))):AB))))) (λ_=>bd (loop (gx x.1.1 x.2) ((0,((DB (CK k0 ((([],([],(false,0))):AB))) (AJ 0 0) x.1.2 (AA x.1.2),AJ 0 (AA x.1.2)),(0,true))))) λr32=>gd (A6 (AJ 0 r32.2.1.2.1.2) (AA r32.2.1.2.1.1)) λ_=>some ((B3 r32.2.1.2.1.1 0 (AJ 0 r32.2.1.2.1.2),(r32.2.1.1,r32.2.1.2.2.2)))) λ_=>none):=rfl
theorem gy (n:Nat):AJ 0 n=n:=by unfold AJ;omega
theorem ji (n:Nat):CF n 0=n:=rfl
def GF (l:List AB) (x:AB):List AB:=l.take (E5 l x.1)++x::l.drop (E5 l x.1+if HV l x.1=true then 1 else 0)
theorem Xb (y:AB) (l:List AB) (k:HB):HV (y::l) k=if CJ y.1 k=true then HV l k else decide (y.1=k):=by
 unfold HV;by_cases h:CJ y.1 k=true
 ·rw [if_pos h];have:E5 (y::l) k=E5 l k+1:=by conv=>lhs;unfold E5;rw [if_pos h]
  rw [this];rfl
 ·rw [if_neg h];have:E5 (y::l) k=0:=by conv=>lhs;unfold E5;rw [if_neg h]
  rw [this];rfl
theorem Xc (y:AB) (l:List AB) (x:AB):GF (y::l) x=if CJ y.1 x.1=true then y::GF l x else if y.1=x.1 then x::l else x::y::l:=by
 unfold GF;rw [Xb];by_cases h:CJ y.1 x.1=true
 ·rw [if_pos h,if_pos h];have:E5 (y::l) x.1=E5 l x.1+1:=by conv=>lhs;unfold E5;rw [if_pos h]
  rw [this,Nat.add_right_comm,List.take_succ_cons,List.drop_succ_cons];rfl
 ·rw [if_neg h,if_neg h];have:E5 (y::l) x.1=0:=by conv=>lhs;unfold E5;rw [if_neg h]
  rw [this];by_cases h2:y.1=x.1
  ·rw [if_pos h2,if_pos (decide_eq_true h2)];rfl
  ·rw [if_neg h2,if_neg (by simp [h2])];rfl
theorem TK (x:AB):GF [] x=[x]:=by unfold GF;simp [E5]
theorem ME (x:AB) : ∀ {l:List AB} {p:Option HB},Asc p l->(∀ q,p=some q->CJ q x.1=true)->Asc p (GF l x)
 | [],p,_,hp=>by rw [TK];exact ⟨hp,trivial⟩
 | y::l,p,⟨h1,h2⟩,hp=>by
  rw [Xc];by_cases h:CJ y.1 x.1=true
  ·rw [if_pos h];exact ⟨h1,ME x h2 λq hq=>by cases hq;exact h⟩
  ·rw [if_neg h];by_cases he:y.1=x.1
   ·rw [if_pos he];exact ⟨hp,by rw [<- he];exact h2⟩
   ·rw [if_neg he];exact ⟨hp,λq hq=>by cases hq;exact Od (by simpa using h) he,h2⟩
theorem MF (l:List AB) (x:AB):(GF l x).length=l.length+if HV l x.1=true then 0 else 1:=by
 have hle:=M8 l x.1;unfold GF;by_cases h:HV l x.1=true
 ·have:E5 l x.1<l.length:=by
   by_cases h2:E5 l x.1<l.length
   ·exact h2
   ·unfold HV at h;rw [List.getElem?_eq_none (by omega)] at h;cases h
  rw [if_pos h,if_pos h];simp;omega
 ·rw [if_neg h,if_neg h];simp;omega
def Ra (most:Nat):List AB->List AB->Int->List AB×(Int×Bool)
 | l,[],w=>(l,(w,true))
 | l,x::ls,w=>if HV l x.1=true then Ra most (GF l x) ls (w+((l.length:Int)-(E5 l x.1:Int)+1)-1)
  else if l.length=most then (l,(w+((l.length:Int)-(E5 l x.1:Int)+1),false)) else Ra most (GF l x) ls (w+((l.length:Int)-(E5 l x.1:Int)+1))
theorem gG {a b t:List AB} {z x:AB}:lset (DB (a++(b++z::t)) (a.length+1) (B3 (a++(b++z::t)) a.length (a.length+(a.length+b.length+1-a.length))) (a.length+b.length+1-(a.length+1))) a.length x=a++x::(b++t):=by
 obtain ⟨y,r,hr⟩ : ∃ y r,b++z::t=y::r:=by cases b<;>exact ⟨_,_,rfl⟩
 have e1:(a++(b++z::t)).take (a.length+1)=a++[y]:=by rw [hr,List.take_append,List.take_of_length_le (by omega),Nat.add_sub_cancel_left];rfl
 have e2:B3 (a++(b++z::t)) a.length (a.length+(a.length+b.length+1-a.length))=b++[z]:=by
  unfold B3;rw [List.drop_left,show a.length+(a.length+b.length+1-a.length)-a.length=b.length+1 by omega,List.take_append,List.take_of_length_le (by omega),Nat.add_sub_cancel_left];rfl
 have e3:(b++[z]).take (a.length+b.length+1-(a.length+1))=b:=by
  rw [show a.length+b.length+1-(a.length+1)=b.length by omega,List.take_left]
 have e4:(a++(b++z::t)).drop (a.length+1+b.length)=t:=by
  rw [show a++(b++z::t)=(a++b++[z])++t by simp,List.drop_left' (by simp;omega)]
 unfold lset DB;rw [e2,e3,e1,e4,List.append_assoc,List.set_append_right _ _ (Nat.le_refl _),Nat.sub_self];rfl
structure WrI (most:Nat) (l:List AB) (R:List AB):Prop where
 asc:Asc none l
 le:l.length<=most
 len:R.length=most+1
 row:R.take l.length=l
theorem WrI.sub {most:Nat} {l R:List AB} (h:WrI most l R):B3 R 0 l.length=l:=by rw [Xa];exact h.row
theorem gH {most:Nat} (hm:most<=16) {ls l R:List AB} (I:WrI most l R) {k:Nat} {x:AB} (hx:ls[k]? = some x) (hk:ls.length<=1000) {w:Int} (hw:0<=w/\w<=1000000) :
  (HV l x.1=true /\ ∃ R',WrI most (GF l x) R'/\gx most ls (w,((R,l.length),((k:Int),true)))=some (.nx (w+((l.length:Int)-(E5 l x.1:Int)+1)-1,((R',(GF l x).length),(((k+1:Nat):Int),true))))) \/
  (¬ HV l x.1=true/\l.length=most/\gx most ls (w,((R,l.length),((k:Int),true)))=some (.dn (0,((w+((l.length:Int)-(E5 l x.1:Int)+1),((R,l.length),((k:Int),false))),())))) \/
  (¬ HV l x.1=true/\l.length≠most /\ ∃ R',WrI most (GF l x) R'/\gx most ls (w,((R,l.length),((k:Int),true)))=some (.nx (w+((l.length:Int)-(E5 l x.1:Int)+1),((R',(GF l x).length),(((k+1:Nat):Int),true))))):=by
 have hkl:=(List.getElem?_eq_some_iff.1 hx).1;have hle:=M8 l x.1;have hlm:=I.le;have hRl:=I.len;have hRs:=I.row;obtain ⟨t,hR⟩ : ∃ t,R=l++t:=⟨R.drop l.length,by conv=>lhs;rw [<- List.take_append_drop l.length R,hRs]⟩
 have htl:t.length=most+1-l.length:=by
  have:=congrArg List.length hR;simp at this;omega
 obtain ⟨z,t',rfl⟩ : ∃ z t',t=z::t':=by
  cases t with
  | nil=>simp at htl;omega
  | cons z t'=>exact ⟨z,t',rfl⟩
 unfold gx;simp only [AU,AP,gy,ji];rw [rl hkl,AN,AE,AK hx,BU (by omega),I.sub,Zy I.asc x.1 (by omega),AD];dsimp only;have q1:BJ .i64 (l.length:Int) (E5 l x.1:Int)=(l.length:Int)-(E5 l x.1:Int):=Bl (by omega);have q2:AH .i64 ((l.length:Int)-(E5 l x.1:Int)) 1=(l.length:Int)-(E5 l x.1:Int)+1:=CT (by omega);have q3:AH .i64 w ((l.length:Int)-(E5 l x.1:Int)+1)=w+((l.length:Int)-(E5 l x.1:Int)+1):=CT (by omega);have q4:BJ .i64 (w+((l.length:Int)-(E5 l x.1:Int)+1)) 1=w+((l.length:Int)-(E5 l x.1:Int)+1)-1:=Bl (by omega);have q5:AH .i64 (k:Int) 1=((k+1:Nat):Int):=Aa (by omega);have q6:AH .i64 (l.length:Int) 1=((l.length+1:Nat):Int):=Aa (by omega);have q7:AH .i64 (E5 l x.1:Int) 1=((E5 l x.1+1:Nat):Int):=Aa (by omega);simp only [q1,q2,q3,q4,q5,q6,q7];by_cases hh:HV l x.1=true
 ·refine .inl ⟨hh,?_⟩
  have hil:E5 l x.1<l.length:=by
   by_cases h2:E5 l x.1<l.length
   ·exact h2
   ·unfold HV at hh;rw [List.getElem?_eq_none (by omega)] at hh;cases hh
  have hpl:(GF l x).length=l.length:=by rw [MF,if_pos hh];rfl
  have hpe:GF l x=l.set (E5 l x.1) x:=by
   unfold GF;rw [if_pos hh,List.set_eq_take_append_cons_drop,if_pos hil]
  refine ⟨lset R (E5 l x.1) x,⟨ME x I.asc (λ_ h=>by cases h),by omega,by unfold lset;simp;exact hRl,?_⟩,?_⟩
  ·rw [hpl,hpe,hR];unfold lset;rw [List.set_append_left _ _ hil,List.take_left' (by simp)]
  ·rw [hh,AN,AE]
   have g1 : ∀ {β:Type} (c:Unit->Option β),gd (B6 (E5 l x.1) l.length) c=c ():=λc=>by
    unfold B6;rw [show Nat.blt (E5 l x.1) l.length=true by simpa using hil];rfl
   have g2 : ∀ {β:Type} (c:Unit->Option β),gd (B6 (E5 l x.1) R.length) c=c ():=λc=>by
    unfold B6;rw [show Nat.blt (E5 l x.1) R.length=true by simp;omega];rfl
   rw [g1,g2,AK (List.getElem?_eq_getElem (by omega:E5 l x.1<R.length)),hpl]
 ·refine .inr ?_;have hf:HV l x.1=false:=by simpa using hh
  rw [hf,Ag,CP];by_cases hmo:l.length=most
  ·exact .inl ⟨by simp,hmo,by rw [if_pos (by omega)]⟩
  ·refine .inr ⟨by simp,hmo,?_⟩;rw [if_neg (by omega),AE,AE]
   have gl : ∀ {β:Type} {a b:Nat} (h:a<b) (c:Unit->Option β),gd (B6 a b) c=c ():=λh c=>by
    unfold B6;rw [show Nat.blt _ _=true by simpa using h];rfl
   have bl : ∀ {β:Type} {a b:Nat} (h:a<b) (c d:Unit->Option β),br (B6 a b) c d=c ():=λh c d=>by
    unfold B6;rw [show Nat.blt _ _=true by simpa using h];rfl
   have gq : ∀ {β:Type} {a:Nat} (c:Unit->Option β),gd (neq a a) c=c ():=λc=>by
    unfold neq;rw [show Nat.beq _ _=true by simp];rfl
   have hpl:(GF l x).length=l.length+1:=by rw [MF,if_neg hh]
   have hpe:GF l x=l.take (E5 l x.1)++x::l.drop (E5 l x.1):=by unfold GF;rw [if_neg hh];rfl
   obtain ⟨i,hi⟩ : ∃ i,i=E5 l x.1:=⟨_,rfl⟩;rw [<- hi] at hpe hle ⊢;have hla:(l.take i).length=i:=by simp;omega
   have hRR:R=l.take i++(l.drop i++z::t'):=by rw [<- List.append_assoc,List.take_append_drop];exact hR
   have hrow:lset (DB R (i+1) (B3 R i (AJ i (CF (l.length+1) i))) (CF (l.length+1) (i+1))) i x=l.take i++x::(l.drop i++t'):=by
    have:=gG (a:=l.take i) (b:=l.drop i) (t:=t') (z:=z) (x:=x);rw [<- hRR,hla,show i+(l.drop i).length=l.length by simp;omega] at this;exact this
   have hcl:(DB R (i+1) (B3 R i (AJ i (CF (l.length+1) i))) (CF (l.length+1) (i+1))).length=most+1:=by
    have:=congrArg List.length hrow;unfold lset at this;rw [List.length_set] at this;rw [this];simp only [List.length_append,List.length_cons,List.length_drop,List.length_take];simp at htl;omega
   refine ⟨l.take i++x::(l.drop i++t'),⟨ME x I.asc (λ_ h=>by cases h),by omega,?_,?_⟩,?_⟩
   ·rw [<- hrow];unfold lset;rw [List.length_set];exact hcl
   ·rw [hpl,hpe,show l.take i++x::(l.drop i++t')=(l.take i++x::l.drop i)++t' by simp,List.take_left' (by simp;omega)]
   ·rw [BU (by omega),gq,gl (by omega),AE,BU (by omega),BU (by omega),bl (by omega),AE,BU (by omega),BU (by omega),bl (by omega),BU (by unfold AJ CF;omega),BU (by unfold AJ CF;omega),AE,gl (by omega),gl (by rw [hcl];omega),AK (List.getElem?_eq_getElem (by rw [hcl];omega)),hrow,hpl]
theorem WQ {most:Nat} (hm:most<=16) {ls l R:List AB} (I:WrI most l R) (hk:ls.length<=1000) : ∃ r,loop (gx most ls) (0,((R,l.length),((0:Int),true)))=some r/\r.2.1.2.1.2<=r.2.1.2.1.1.length/\(B3 r.2.1.2.1.1 0 r.2.1.2.1.2,(r.2.1.1,r.2.1.2.2.2))=Ra most l ls 0:=by
 obtain ⟨T,hT⟩ : ∃ T,T=Ra most l ls 0:=⟨_,rfl⟩;rw [<- hT];refine E9 (l:=ls) (σ:=(List AB×List AB)×Int) (λk s=>(s.2,((s.1.1,s.1.2.length),((k:Int),true)))) (λm k s=>WrI most s.1.2 s.1.1/\Ra most s.1.2 m s.2=T/\0<=s.2/\s.2<=20*k) _ ((R,l),0) rfl (by omega) ⟨I,hT.symm,by simp,by simp⟩ (λs h => ?_) (λk x m s hd hx hi h => ?_)
 ·obtain ⟨⟨R',l'⟩,w⟩:=s;obtain ⟨I',h2,_⟩:=h;refine ⟨(0,((w,((R',l'.length),((ls.length:Int),true))),())),?_,?_,?_⟩
  ·unfold gx;simp only [AU,AP];rw [re,Ag]
  ·have h5:R'.length=most+1:=I'.len;have h6:l'.length<=most:=I'.le;show l'.length<=R'.length;omega
  ·simp only at h2 ⊢;have h7:B3 R' 0 l'.length=l':=I'.sub;rw [h7,<- h2];rfl
 ·obtain ⟨⟨R',l'⟩,w⟩:=s;obtain ⟨I',h2,h3,h4⟩:=h;simp only at h2 h3 h4 I' ⊢;have hle:=M8 l' x.1;have hlm:=I'.le;unfold Ra at h2;rcases gH hm I' hx hk (w:=w) ⟨h3,by omega⟩ with ⟨c1,R2,I2,e⟩ | ⟨c1,c2,e⟩ | ⟨c1,c2,R2,I2,e⟩
  ·rw [if_pos c1] at h2;exact .inl ⟨((R2,GF l' x),_),e,I2,h2,by simp only;omega,by simp only;omega⟩
  ·rw [if_neg c1,if_pos c2] at h2;refine .inr ⟨_,e,?_,?_⟩
   ·have h5:R'.length=most+1:=I'.len;show l'.length<=R'.length;omega
   ·simp only;rw [I'.sub,<- h2]
  ·rw [if_neg c1,if_neg c2] at h2;exact .inl ⟨((R2,GF l' x),_),e,I2,h2,by simp only;omega,by simp only;omega⟩
theorem Z0 {most:Nat} (h1:1<=most) (hm:most<=16) {es ls:List AB} (ha:Asc none es) (hl:es.length<=most) (hk:ls.length<=1000):C8 ((((most:Nat):Int),es),ls)=some (Ra most es ls 0):=by
 rw [Zz];simp only [AU,AP,gy];rw [Aa (by omega),AE,BU (by omega),BU (by omega),BU (by omega),BU (by omega)];have hrep:(CK (most+1) ((([],([],(false,0))):AB))).length=most+1:=by unfold CK;simp
 by_cases h0:es=[]
 ·subst h0;have hb : ∀ {β:Type} (c d:Unit->Option β),br (neq ([]:List AB).length 0) c d=c ():=λc d=>rfl;rw [hb];obtain ⟨r,q1,q2,q3⟩:=WQ hm (ls:=ls) (l:=[]) (R:=CK (most+1) ((([],([],(false,0))):AB))) ⟨trivial,by simp,hrep,rfl⟩ hk;rw [<- q3];refine BG q1 ?_;rw [BU q2]
 ·have hp:=List.length_pos_iff.2 h0
  have hb : ∀ {β:Type} (c d:Unit->Option β),br (neq es.length 0) c d=d ():=λc d=>by
   unfold neq
   rw [show Nat.beq es.length 0=false by
    cases hq:Nat.beq es.length 0 with
    | false=>rfl
    | true=>have:=Nat.eq_of_beq_eq_true hq;omega];rfl
  have hb2 : ∀ {β:Type} (c d:Unit->Option β),br (A6 es.length (CK (most+1) ((([],([],(false,0))):AB))).length) c d=c ():=λc d=>by
   rw [hrep];unfold A6;rw [show Nat.ble es.length (most+1)=true by simp;omega];rfl
  rw [hb,hb2]
  have hR:DB (CK (most+1) ((([],([],(false,0))):AB))) 0 es es.length=es++(CK (most+1) ((([],([],(false,0))):AB))).drop es.length:=by
   unfold DB;simp
  obtain ⟨r,q1,q2,q3⟩:=WQ hm (ls:=ls) (l:=es) (R:=DB (CK (most+1) ((([],([],(false,0))):AB))) 0 es es.length) ⟨ha,hl,by rw [hR,List.length_append,List.length_drop,hrep];omega,by rw [hR,List.take_left]⟩ hk;rw [<- q3];refine BG q1 ?_;rw [BU q2]
end Go.Proofs.YthpkjfabdccpdaaGreat.Pl
namespace Go.Proofs.YthpkjfabdccpdaaGreat.Pl
open Go Go.Proofs.YthpkjfabdccpdaaGreat.Sv
def GG:List AB->Int
 | []=>0
 | x::l=>if kE x≠0 then kE x else GG l
def LN (b:A7) (l:List AB):Int:=if (BT b).2≠0 then (BT b).2 else if (l.length:Int)>16 then 3 else GG l
structure Bf (b:A7):Prop where
 m1:1<=b.1
 m2:b.1<=16
 len:(b.2.length:Int)<=b.1
 ok : ∀ x∈b.2,kE x=0
 asc:Asc none b.2
theorem WR {b:A7} (h:(BT b).2=0):Bf b:=by
 unfold BT at h;by_cases h1:b.1<1\/b.1>16
 ·rw [if_pos h1] at h;cases h
 rw [if_neg h1] at h;by_cases h2:(b.2.length:Int)>b.1
 ·rw [if_pos h2] at h;cases h
 rw [if_neg h2] at h;obtain ⟨h3,h4⟩:=L5.1 h;exact ⟨by omega,by omega,by omega,h3,h4⟩
theorem TL (b:A7) (l:List AB):Dq (b,l)=some (LN b l):=by
 unfold Dq LN;simp only [AU,AP];rw [I5,AD,AR];by_cases h1:(BT b).2=0;rotate_left
 ·rw [if_neg h1,if_pos h1]
 rw [if_pos h1,if_neg (show ¬ (BT b).2≠0 by simp [h1]),Ax];by_cases h2:(l.length:Int)>16
 ·rw [if_pos h2,if_pos h2]
 rw [if_neg h2,if_neg h2]
 obtain ⟨r,q1,q2⟩:=E9 (l:=l) (σ:=Unit) (s:=((0:Int),(0:Int))) (λk _=>((k:Int),(0:Int))) (λm k _=>GG l=GG m) (λ(r:Nat×((Int×Int)×Unit))=>(r.1=0/\r.2.1.2=GG l)\/(r.1=1/\GG l=0))
  (f:=λs1=>br (Ah s1.1 (l.length:Int)) (λ_=>AS s1.1 λk2=>ix l k2 λx3=>bd (Ar x3) λr4=>br (Ao r4 0) (λ_=>some (.dn ((0,((s1.1,r4),()))))) λ_=>some (.nx (AH .i64 s1.1 1,s1.2))) λ_=>some (.dn ((1,(s1,())))))
  () rfl (by omega) rfl (λ_ h=>⟨_,by simp only;rw [re];rfl,.inr ⟨rfl,h⟩⟩) (λk x m _ hd hx hk h=>by
   simp only;have h:GG l=if kE x≠0 then kE x else GG m:=h
   rw [rl hk,AN,AE,AK hx,Cy,AD,AR,Aa (by omega)];by_cases h3:kE x=0
   ·rw [if_neg (by simp [h3])] at h;rw [if_pos h3];exact .inl ⟨(),rfl,h⟩
   ·rw [if_pos h3] at h
    rw [if_neg h3];exact .inr ⟨_,rfl,.inl ⟨rfl,h.symm⟩⟩)
 refine BG q1 ?_;rw [CO];rcases q2 with ⟨q2,q3⟩ | ⟨q2,q3⟩
 ·rw [if_pos q2,q3]
 ·rw [if_neg (by omega),q3]
end Go.Proofs.YthpkjfabdccpdaaGreat.Pl
namespace Go.Proofs.YthpkjfabdccpdaaGreat.Pl
open Go Go.Proofs.YthpkjfabdccpdaaGreat.Sv
theorem NA {b:A7} {l:List AB} (h:LN b l=0):Bf b/\l.length<=16/\GG l=0:=by
 unfold LN at h;by_cases h1:(BT b).2=0;rotate_left
 ·rw [if_pos h1] at h;exact absurd h h1
 rw [if_neg (by simp [h1])] at h;by_cases h2:(l.length:Int)>16
 ·rw [if_pos h2] at h;cases h
 rw [if_neg h2] at h;exact ⟨WR h1,by omega,h⟩
def KT (b:A7) (l:List AB):List AB×(Int×Bool):=Ra b.1.toNat b.2 l 0
theorem gz {b:A7} {l:List AB} (h:Bf b) (hl:l.length<=16):C8 (b,l)=some (KT b l):=by
 obtain ⟨m,es⟩:=b;obtain ⟨k,rfl⟩ : ∃ k:Nat,m=(k:Int):=⟨m.toNat,by have:=h.m1;simp only at this;omega⟩;have h1:=h.m1;have h2:=h.m2;have h3:=h.len;simp only at h1 h2 h3;have:=Z0 (most:=k) (by omega) (by omega) (ls:=l) h.asc (by simp only;omega) (by omega);unfold KT;simpa using this
def i0 (b:A7) (l:List AB):Bool×Int:=if LN b l≠0 then (false,LN b l) else ((KT b l).2.2,0)
def Rb (b:A7) (l:List AB):A7×(Int×Int):=if LN b l≠0 then ((0,[]),(0,LN b l)) else if (KT b l).2.2=true then ((b.1,(KT b l).1),((KT b l).2.1,0)) else ((0,[]),(0,5))
theorem gI (b:A7) (l:List AB):Dc (b,l)=some (i0 b l):=by
 unfold Dc i0;rw [TL,AD,AR];by_cases h:LN b l=0
 ·obtain ⟨h1,h2,h3⟩:=NA h;rw [if_pos h,if_neg (by simp [h]),gz h1 h2,AD]
 ·rw [if_neg h,if_pos h]
theorem Z1 (b:A7) (l:List AB):C9 (b,l)=some (Rb b l):=by
 unfold C9 Rb;rw [TL,AD,AR];by_cases h:LN b l=0
 ·obtain ⟨h1,h2,h3⟩:=NA h;rw [if_pos h,if_neg (by simp [h]),gz h1 h2,AD];cases (KT b l).2.2 with
  | true=>rw [Iv,Ag];rfl
  | false=>rw [Mv,AN];rfl
 ·rw [if_neg h,if_pos h]
def Ox:List AB->Bool
 | x::y::l=>decide (x.2.2.2<y.2.2.2)&&Ox (y::l)
 | _=>true
theorem Xd (x y:AB) (l:List AB):Ox (x::y::l)=(decide (x.2.2.2<y.2.2.2)&&Ox (y::l)):=rfl
def Xe (f:CQ) (l:List AB):Int:=if A9 f≠0 then A9 f else if (l.length:Int)<1\/(l.length:Int)>8\/(l.length:Int)>f.1.1 then 2 else 0
def jM (f:CQ) (l:List AB):Int:=if Xe f l≠0 then Xe f l else GG l
def IV (f:CQ) (l:List AB):Int:=if jM f l≠0 then jM f l else if Ox l=true then 0 else 6
theorem Jq {f:CQ} {l:List AB} {e:Int} (h:Xe f l=e) (hn:e≠0):IV f l=e:=by
 have h1:jM f l=e:=by unfold jM;rw [h,if_pos hn]
 unfold IV;rw [h1,if_pos hn]
theorem Rc {f:CQ} {l:List AB} (h:Xe f l=0):IV f l=if GG l≠0 then GG l else if Ox l=true then 0 else 6:=by
 have h1:jM f l=GG l:=by unfold jM;rw [h,if_neg (by simp)]
 unfold IV;rw [h1]
theorem Z3 {l tl:List AB} {x0:AB} (hl:l=x0::tl) {k:Nat} {y:AB} {m:List AB} (hd:tl.drop k=y::m) : ∃ z,l[k]? = some z/\l[k+1]? = some y/\l.drop k=z::y::m/\l.drop (k+1)=y::m:=by
 subst hl
 have hk:k<tl.length:=by
  by_cases h:k<tl.length
  ·exact h
  ·rw [List.drop_eq_nil_of_le (by omega)] at hd;cases hd
 have h1:(x0::tl).drop (k+1)=y::m:=by simpa using hd
 refine ⟨(x0::tl)[k]'(by simp;omega),List.getElem?_eq_getElem (by simp;omega),?_,?_,h1⟩
 ·have:=congrArg (λz=>z[0]?) h1;simpa using this
 ·rw [<- h1];exact List.drop_eq_getElem_cons (by simp;omega)
theorem Z4 {l:List AB} (hl:l.length<=1000) (h1:1<=l.length) : ∃ r,loop (β:=Nat×(Int×Int)) (λs7=>br (Ah s7 (BJ .i64 (l.length:Int) 1)) (λ_=>AS (AH .i64 s7 1) λk8=>ix l k8 λx9=>AS s7 λk10=>ix l k10 λx11=>br (SC x9.2.2.2 x11.2.2.2) (λ_=>some (.dn ((0,(s7,6))))) λ_=>some (.nx (AH .i64 s7 1))) λ_=>some (.dn ((1,(s7,0))))) (0:Int)=some r/\((r.1=0/\r.2.2=6/\Ox l=false)\/(r.1=1/\Ox l=true)):=by
 obtain ⟨x0,tl,e⟩ : ∃ x0 tl,l=x0::tl:=by
  cases l with
  | nil=>simp at h1
  | cons x0 tl=>exact ⟨x0,tl,rfl⟩
 have hlen:l.length=tl.length+1:=by rw [e];rfl
 have hs:BJ .i64 (l.length:Int) 1=(tl.length:Int):=by rw [Bl (by omega)];omega
 simp only [hs]
 exact E9 (l:=tl) (σ:=Unit) (λk _=>(k:Int)) (λm k _=>Ox l=Ox (l.drop k)) (λ(r:Nat×(Int×Int))=>(r.1=0/\r.2.2=6/\Ox l=false)\/(r.1=1/\Ox l=true)) () rfl (by omega) rfl (λ_ h=>by
   refine ⟨(1,((tl.length:Int),0)),by rw [re];rfl,.inr ⟨rfl,?_⟩⟩;rw [h,e]
   have:(x0::tl).drop tl.length=[(x0::tl)[tl.length]'(by simp)]:=by
    rw [List.drop_eq_getElem_cons (by simp)];simp
   rw [this];rfl) (λk y m _ hd hx hk h=>by
   obtain ⟨z,z1,z2,z3,z4⟩:=Z3 e hd;have hi:AH .i64 (k:Int) 1=((k+1:Nat):Int):=Aa (by omega);simp only [hi];rw [rl hk,AN,AE,AK z2,AE,AK z1];rw [z3,Xd] at h;unfold SC;by_cases ho:y.2.2.2<=z.2.2.2
   ·rw [decide_eq_true ho,AN];exact .inr ⟨_,rfl,.inl ⟨rfl,rfl,by rw [h,decide_eq_false (by omega)];rfl⟩⟩
   ·rw [decide_eq_false ho,Ag]
    exact .inl ⟨(),rfl,by rw [h,decide_eq_true (by omega),z4];rfl⟩)
theorem Xf {l:List AB} (hl:l.length<=1000) : ∃ r,loop (β:=Nat×(Int×Int)) (λs2=>br (Ah s2 (l.length:Int)) (λ_=>AS s2 λk3=>ix l k3 λx4=>bd (Ar x4) λr5=>br (Ao r5 0) (λ_=>some (.dn ((0,(s2,r5))))) λ_=>some (.nx (AH .i64 s2 1))) λ_=>some (.dn ((1,(s2,0))))) (0:Int)=some r/\((r.1=0/\r.2.2=GG l/\GG l≠0)\/(r.1=1/\GG l=0)) :=
 E9 (l:=l) (σ:=Unit) (λk _=>(k:Int)) (λm k _=>GG l=GG m) (λ(r:Nat×(Int×Int))=>(r.1=0/\r.2.2=GG l/\GG l≠0)\/(r.1=1/\GG l=0)) () rfl (by omega) rfl (λ_ h=>⟨(1,((l.length:Int),0)),by rw [re];rfl,.inr ⟨rfl,h⟩⟩) (λk x m _ hd hx hk h=>by
   have h:GG l=if kE x≠0 then kE x else GG m:=h
   rw [rl hk,AN,AE,AK hx,Cy,AD,AR,Aa (by omega)];by_cases h3:kE x=0
   ·rw [if_neg (by simp [h3])] at h;rw [if_pos h3];exact .inl ⟨(),rfl,h⟩
   ·rw [if_pos h3] at h
    rw [if_neg h3];exact .inr ⟨_,rfl,.inl ⟨rfl,h.symm,by rw [h];exact h3⟩⟩)
theorem Z5 {γ:Type} {f:CQ} (m:Sm f.2) {l:List AB} (hl:l.length<=1000) (Z:Int->Option γ) (C:Option γ) :
  (bd (BY f.1) λr0=>br (Ao r0.2 0) (λ_=>Z r0.2) λ_=>bd (Bw f.2) λr1=>br (Ao r1.2 0) (λ_=>Z r1.2) λ_=>br (Ao f.1.1 f.2.1.1) (λ_=>Z 6) λ_=>br (Ah (AV (AA l)) 1) (λ_=>Z 2) λ_=>br (Bz (AV (AA l)) 8) (λ_=>Z 2) λ_=>br (Bz (AV (AA l)) f.1.1) (λ_=>Z 2) λ_=>bd (loop (β:=Nat×(Int×Int)) (λs2=>br (Ah s2 (AV (AA l))) (λ_=>AS s2 λk3=>ix l k3 λx4=>bd (Ar x4) λr5=>br (Ao r5 0) (λ_=>some (.dn ((0,(s2,r5))))) λ_=>some (.nx (AH .i64 s2 1))) λ_=>some (.dn ((1,(s2,0))))) 0) λr6=>br (neq r6.1 0) (λ_=>Z r6.2.2) λ_=>bd (loop (β:=Nat×(Int×Int)) (λs7=>br (Ah s7 (BJ .i64 (AV (AA l)) 1)) (λ_=>AS (AH .i64 s7 1) λk8=>ix l k8 λx9=>AS s7 λk10=>ix l k10 λx11=>br (SC x9.2.2.2 x11.2.2.2) (λ_=>some (.dn ((0,(s7,6))))) λ_=>some (.nx (AH .i64 s7 1))) λ_=>some (.dn ((1,(s7,0))))) 0) λr12=>br (neq r12.1 0) (λ_=>Z r12.2.2) λ_=>C)=if IV f l≠0 then Z (IV f l) else C:=by
 simp only [AU,AP];rw [I5,AD,AR];by_cases h1:(BT f.1).2=0;rotate_left
 ·have e:A9 f=(BT f.1).2:=by unfold A9;rw [if_pos h1]
  have e2:=Jq (f:=f) (l:=l) (e:=(BT f.1).2) (by unfold Xe;rw [if_pos (by rw [e];exact h1),e]) h1;rw [if_neg h1,e2,if_pos h1]
 rw [if_pos h1,lQ m,AD,AR];by_cases h2:(Br f.2).2=0;rotate_left
 ·have e:A9 f=(Br f.2).2:=by unfold A9;rw [if_neg (show ¬ (BT f.1).2≠0 by simp [h1]),if_pos h2]
  have e2:=Jq (f:=f) (l:=l) (e:=(Br f.2).2) (by unfold Xe;rw [if_pos (by rw [e];exact h2),e]) h2;rw [if_neg h2,e2,if_pos h2]
 rw [if_pos h2,AR];by_cases h3:f.1.1=f.2.1.1;rotate_left
 ·have e:A9 f=6:=by unfold A9;rw [if_neg (show ¬ (BT f.1).2≠0 by simp [h1]),if_neg (show ¬ (Br f.2).2≠0 by simp [h2]),if_pos h3]
  have e2:=Jq (f:=f) (l:=l) (e:=6) (by unfold Xe;rw [if_pos (by rw [e];decide),e]) (by decide);rw [if_neg h3,e2,if_pos (by decide)]
 have e:A9 f=0:=by unfold A9;rw [if_neg (show ¬ (BT f.1).2≠0 by simp [h1]),if_neg (show ¬ (Br f.2).2≠0 by simp [h2]),if_neg (show ¬ f.1.1≠f.2.1.1 by simp [h3])]
 have two:((l.length:Int)<1\/(l.length:Int)>8\/(l.length:Int)>f.1.1)->IV f l=2:=λh=>Jq (by unfold Xe;rw [if_neg (by simp [e]),if_pos h]) (by decide);rw [if_pos h3,BD,Ax,Ax];by_cases h4:(l.length:Int)<1
 ·rw [if_pos h4,two (.inl h4),if_pos (by decide)]
 rw [if_neg h4];by_cases h5:(l.length:Int)>8
 ·rw [if_pos h5,two (.inr (.inl h5)),if_pos (by decide)]
 rw [if_neg h5];by_cases h6:(l.length:Int)>f.1.1
 ·rw [if_pos h6,two (.inr (.inr h6)),if_pos (by decide)]
 rw [if_neg h6,Rc (by unfold Xe;rw [if_neg (by simp [e]),if_neg (by omega)])];obtain ⟨r,q1,q2⟩:=Xf hl;refine BG q1 ?_;rw [CO];rcases q2 with ⟨q2,q3,q4⟩ | ⟨q2,q3⟩
 ·rw [if_pos q2,if_pos q4,if_pos q4,q3]
 rw [if_neg (show ¬ r.1=0 by omega),if_neg (show ¬ GG l≠0 by simp [q3])];obtain ⟨r2,p1,p2⟩:=Z4 hl (by omega);refine BG p1 ?_;rw [CO];rcases p2 with ⟨p2,p3,p4⟩ | ⟨p2,p3⟩
 ·rw [if_pos p2,p3,p4];rfl
 ·rw [if_neg (show ¬ r2.1=0 by omega),p3];rfl
end Go.Proofs.YthpkjfabdccpdaaGreat.Pl
namespace Go.Proofs.YthpkjfabdccpdaaGreat.Pl
open Go Go.Proofs.YthpkjfabdccpdaaGreat.Sv
theorem Xg {f:CQ} {l:List AB} (h:IV f l=0):A9 f=0/\1<=l.length/\l.length<=8/\GG l=0:=by
 have h0:Xe f l=0:=by
  by_cases h1:Xe f l=0
  ·exact h1
  ·rw [Jq rfl h1] at h;exact absurd h h1
 rw [Rc h0] at h
 have h2:GG l=0:=by
  by_cases h1:GG l=0
  ·exact h1
  ·rw [if_pos h1] at h;exact absurd h h1
 unfold Xe at h0;by_cases h3:A9 f=0;rotate_left
 ·rw [if_pos h3] at h0;exact absurd h0 h3
 rw [if_neg (by simp [h3])] at h0;by_cases h4:(l.length:Int)<1\/(l.length:Int)>8\/(l.length:Int)>f.1.1
 ·rw [if_pos h4] at h0;cases h0
 ·exact ⟨h3,by omega,by omega,h2⟩
theorem MG {f:CQ} (h:A9 f=0):(BT f.1).2=0/\VSt f.2/\f.1.1=f.2.1.1:=by
 have hj:=NF h;unfold A9 at h;by_cases h1:(BT f.1).2=0;rotate_left
 ·rw [if_pos h1] at h;exact absurd h h1
 rw [if_neg (by simp [h1]),if_neg (by simp [hj])] at h;refine ⟨h1,Hq.1 hj,?_⟩;by_cases h3:f.1.1=f.2.1.1
 ·exact h3
 ·rw [if_pos h3] at h;cases h
theorem gJ {f:CQ} {l:List AB} (h:IV f l=0):LN f.1 l=0/\VSt f.2:=by
 obtain ⟨h1,h2,h3,h4⟩:=Xg h;obtain ⟨g1,g2,_⟩:=MG h1;refine ⟨?_,g2⟩;unfold LN;rw [if_neg (by simp [g1]),if_neg (by omega),h4]
def zF:CQ:=((0,[]),zS)
def NX (f:CQ):Bool:=decide (2<=(A5 f.2.1.2 0).length)
theorem gK {f:CQ} (v:VLev f.2.1):CY (f.2.1,(0:Int))=some (AZ (NX f),0):=by
 have h2:=(v.own 0).1;have h:=QG v (n:=0) (by omega);rw [if_neg (by omega)] at h;refine h.trans ?_
 congr 2
 unfold S6 NX;rw [CX];have h4:((f.2.1.2[0]?).getD []).length=(A5 f.2.1.2 0).length:=rfl;rw [h4];exact decide_eq_decide.2 (by omega)
def TM (f:CQ):Int×Int:=if A9 f≠0 then (0,A9 f) else (AH .i64 (BJ .i64 f.1.1 (f.1.2.length:Int)) (Kv .i64 f.1.1 (if 0<f.2.1.2.length then BJ .i64 2 ((A5 f.2.1.2 0).length:Int) else 2)),0)
theorem i3 {γ:Type} {f:CQ} (m:Sm f.2) (Z:Int->Option γ) (C:Option γ) :
  (bd (BY f.1) λr0=>br (Ao r0.2 0) (λ_=>Z r0.2) λ_=>bd (Bw f.2) λr1=>br (Ao r1.2 0) (λ_=>Z r1.2) λ_=>br (Ao f.1.1 f.2.1.1) (λ_=>Z 6) λ_=>C)=if A9 f≠0 then Z (A9 f) else C:=by
 rw [I5,AD,AR];by_cases h1:(BT f.1).2=0;rotate_left
 ·have e:A9 f=(BT f.1).2:=by unfold A9;rw [if_pos h1]
  rw [if_neg h1,e,if_pos h1]
 rw [if_pos h1,lQ m,AD,AR];by_cases h2:(Br f.2).2=0;rotate_left
 ·have e:A9 f=(Br f.2).2:=by unfold A9;rw [if_neg (show ¬ (BT f.1).2≠0 by simp [h1]),if_pos h2]
  rw [if_neg h2,e,if_pos h2]
 rw [if_pos h2,AR];by_cases h3:f.1.1=f.2.1.1;rotate_left
 ·have e:A9 f=6:=by unfold A9;rw [if_neg (show ¬ (BT f.1).2≠0 by simp [h1]),if_neg (show ¬ (Br f.2).2≠0 by simp [h2]),if_pos h3]
  rw [if_neg h3,e,if_pos (by decide)]
 have e:A9 f=0:=by unfold A9;rw [if_neg (show ¬ (BT f.1).2≠0 by simp [h1]),if_neg (show ¬ (Br f.2).2≠0 by simp [h2]),if_neg (show ¬ f.1.1≠f.2.1.1 by simp [h3])]
 rw [if_pos h3,e,if_neg (by simp)]
theorem gL {f:CQ} (m:Sm f.2):Cn f=some (TM f):=by
 unfold Cn TM;refine (i3 m (λe=>some (0,e)) _).trans ?_;by_cases h:A9 f=0;rotate_left
 ·rw [if_pos h,if_pos h]
 rw [if_neg (by simp [h]),if_neg (by simp [h])];simp only [AU,AP];rw [Ax];by_cases h0:0<f.2.1.2.length
 ·rw [if_pos (by omega),AK (G6 h0),if_pos h0]
 ·rw [if_neg (by omega),if_neg h0]
theorem Xh (f:CQ) : ∃ b,E4 f=some b/\(b=false->Sm f.2/\f.1.2.length<=30 /\ ∀ rs∈f.2.1.2,∀ r∈rs,r.2.length<=30):=by
 unfold E4;obtain ⟨b,e,hb⟩:=QI f.1.2;rw [e,AD];cases b with
 | true=>exact ⟨true,rfl,λh=>by cases h⟩
 | false =>
  obtain ⟨b2,e2,hb2⟩:=XU f.2;rw [Ag,e2,AD];exact ⟨b2,rfl,λh=>⟨(hb2 h).1,hb rfl,(hb2 h).2⟩⟩
theorem gN:Bb ()=some true:=by kernel_rfl
end Go.Proofs.YthpkjfabdccpdaaGreat.Pl
namespace Go.Proofs.YthpkjfabdccpdaaGreat.Pl
open Go Go.Proofs.YthpkjfabdccpdaaGreat.Sv
def i4 (f:CQ) (l:List AB):CQ×(Int×Int) :=
 if IV f l≠0 then (zF,(0,IV f l))
 else if (KT f.1 l).2.2=true then (((f.1.1,(KT f.1 l).1),f.2),(AH .i64 (KT f.1 l).2.1 0,0))
 else if f.1.2.length=0 then (zF,(0,5))
 else if NX f=true then (zF,(0,10))
 else if (TG f.2 f.1.2).2≠0 then (zF,(0,(TG f.2 f.1.2).2))
 else if (Rb (f.1.1,[]) l).2.2≠0 then (zF,(0,(Rb (f.1.1,[]) l).2.2))
 else (((Rb (f.1.1,[]) l).1,(TG f.2 f.1.2).1),(AH .i64 (Rb (f.1.1,[]) l).2.1 (f.1.2.length:Int),0))
theorem TN {b:A7} {l:List AB} (h:LN b l=0):Rb b l=if (KT b l).2.2=true then ((b.1,(KT b l).1),((KT b l).2.1,0)) else ((0,[]),(0,5)):=by
 unfold Rb;rw [if_neg (by simp [h])]
theorem TP {f:CQ} (m:Sm f.2) {l:List AB} (hl:l.length<=1000):BC (f,l)=some (i4 f l):=by
 unfold BC i4;refine (Z5 m hl (λe=>some (zF,(0,e))) _).trans ?_;by_cases h:IV f l=0;rotate_left
 ·rw [if_pos h,if_pos h]
 rw [if_neg (by simp [h]),if_neg (by simp [h])];obtain ⟨h1,v⟩:=gJ h;obtain ⟨hb,_,_⟩:=NA h1;have hbl:=hb.len;have hb2:=hb.m2;simp only [AU,AP,gI,Z1,TN h1];unfold i0;rw [if_neg (by simp [h1]),AD];simp only;rw [AR,if_pos rfl];cases hw:(KT f.1 l).2.2 with
 | true =>
  rw [Iv,Ag,if_pos rfl,AD,if_pos rfl];simp only;rw [AR,if_pos rfl];rfl
 | false =>
  rw [Mv,AN,if_neg (show ¬ false=true by decide),if_neg (show ¬ false=true by decide),CP];by_cases h0:f.1.2.length=0
  ·rw [if_pos (by omega),if_pos h0,AD];simp only;rw [AR,if_neg (by decide)];rfl
  rw [if_neg (by omega),if_neg h0,gK v.lev,AD];simp only;rw [AR,if_pos rfl];cases hf:NX f with
  | true=>rw [Iv,Mv,AN,if_pos rfl];rfl
  | false =>
   rw [Mv,Iv,Ag,if_neg (show ¬ false=true by decide),XZ m (by omega),AD,AR];by_cases ha:(TG f.2 f.1.2).2=0;rotate_left
   ·rw [if_neg ha,if_pos ha];rfl
   rw [if_pos ha,if_neg (by simp [ha]),AD,AR];by_cases hc:(Rb (f.1.1,[]) l).2.2=0
   ·rw [if_pos hc,if_neg (by simp [hc])];rfl
   ·rw [if_neg hc,if_pos hc];rfl
end Go.Proofs.YthpkjfabdccpdaaGreat.Pl
namespace Go.Proofs.YthpkjfabdccpdaaGreat.Pl
open Go Go.Proofs.YthpkjfabdccpdaaGreat.Sv
set_option linter.unusedVariables false
def DN (x:(A7×(AO×((List (Int×(AY×((Bool×AT)×((List AB)×Int)))))×Int)))):Option Bool :=
 bd (E4 x) λr0=>br r0 (λ_=>bd (Bb ()) λr1=>some r1) λ_=>br (Bz x.2.2.2 900000) (λ_=>bd (Bb ()) λr2=>some r2) λ_=>bd (EL x) λr3=>br (Ao r3 0) (λ_=>bd (Bb ()) λr4=>some r4) λ_=>bd (loop (λs5=>br (Ah s5.1 (AV (AA x.1.2))) (λ_=>AS s5.1 λk6=>ix x.1.2 k6 λx7=>br (Hz (AV (C2 x7.1)) 4) (λ_=>gd (A6 4 (C2 x7.1)) λ_=>br (seq (Tk x7.1 0 4) ([(126:UInt8),(110:UInt8),(101:UInt8),(119:UInt8)])) (λ_=>bd (Bb ()) λr8=>some (.dn ((0,((s5.1,r8),()))))) λ_=>some (.nx (AH .i64 s5.1 1,s5.2))) λ_=>some (.nx (AH .i64 s5.1 1,s5.2))) λ_=>some (.dn ((1,(s5,()))))) (0,false)) λr9=>br (neq r9.1 0) (λ_=>some r9.2.1.2) λ_=>bd (Cn x) λr10=>br (Ao r10.2 0) (λ_=>some false) λ_=>bd (loop (λ(s11:(Int×(Bool×(Int×((List AB)×(Int×((List (List A7))×((List (Int×(AY×((Bool×AT)×((List AB)×Int)))))×Int))))))))=>br (SC s11.1 r10.1) (λ_=>gd (A6 (AJ (C2 ([(126:UInt8),(110:UInt8),(101:UInt8),(119:UInt8)])) (C2 ([Yk (MH .u8 (AH .i64 97 (GM .i64 s11.1 26))),Yk (MH .u8 (AH .i64 97 (Wm .i64 s11.1 26)))]))) 1000000000) λ_=>bd (CI ((fB ([(126:UInt8),(110:UInt8),(101:UInt8),(119:UInt8)]) ([Yk (MH .u8 (AH .i64 97 (GM .i64 s11.1 26))),Yk (MH .u8 (AH .i64 97 (Wm .i64 s11.1 26)))]),AH .i64 1000 s11.1))) λr12=>bd (BC ((((s11.2.2.1,s11.2.2.2.1),((s11.2.2.2.2.1,s11.2.2.2.2.2.1),s11.2.2.2.2.2.2)),[r12]))) λr13=>br (Bz (AV (AA s11.2.2.2.2.2.1)) 0) (λ_=>ix s11.2.2.2.2.2.1 0 λx14=>br (Ah s11.1 r10.1) (λ_=>br (Ao r13.2.2 0) (λ_=>some (.dn ((0,((s11.1,(false,s11.2.2)),()))))) λ_=>br (Bm s11.1 r10.1) (λ_=>br (Ao r13.2.2 10) (λ_=>some (.dn ((0,((s11.1,(false,s11.2.2)),()))))) λ_=>br (AZ (Bm (AV (AA x14)) 2)) (λ_=>some (.dn ((0,((s11.1,(false,s11.2.2)),()))))) λ_=>br (Ah s11.1 r10.1) (λ_=>some (.nx ((AH .i64 s11.1 1,(s11.2.1,(r13.1.1.1,(r13.1.1.2,(r13.1.2.1.1,(r13.1.2.1.2,r13.1.2.2))))))))) λ_=>some (.nx (AH .i64 s11.1 1,s11.2))) λ_=>br (Ah s11.1 r10.1) (λ_=>some (.nx ((AH .i64 s11.1 1,(s11.2.1,(r13.1.1.1,(r13.1.1.2,(r13.1.2.1.1,(r13.1.2.1.2,r13.1.2.2))))))))) λ_=>some (.nx (AH .i64 s11.1 1,s11.2))) λ_=>br (Bm s11.1 r10.1) (λ_=>br (Ao r13.2.2 10) (λ_=>some (.dn ((0,((s11.1,(false,s11.2.2)),()))))) λ_=>br (AZ (Bm (AV (AA x14)) 2)) (λ_=>some (.dn ((0,((s11.1,(false,s11.2.2)),()))))) λ_=>br (Ah s11.1 r10.1) (λ_=>some (.nx ((AH .i64 s11.1 1,(s11.2.1,(r13.1.1.1,(r13.1.1.2,(r13.1.2.1.1,(r13.1.2.1.2,r13.1.2.2))))))))) λ_=>some (.nx (AH .i64 s11.1 1,s11.2))) λ_=>br (Ah s11.1 r10.1) (λ_=>some (.nx ((AH .i64 s11.1 1,(s11.2.1,(r13.1.1.1,(r13.1.1.2,(r13.1.2.1.1,(r13.1.2.1.2,r13.1.2.2))))))))) λ_=>some (.nx (AH .i64 s11.1 1,s11.2))) λ_=>br (Ah s11.1 r10.1) (λ_=>br (Ao r13.2.2 0) (λ_=>some (.dn ((0,((s11.1,(false,s11.2.2)),()))))) λ_=>br (Bm s11.1 r10.1) (λ_=>br (Ao r13.2.2 10) (λ_=>some (.dn ((0,((s11.1,(false,s11.2.2)),()))))) λ_=>some (.dn ((0,((s11.1,(false,s11.2.2)),()))))) λ_=>br (Ah s11.1 r10.1) (λ_=>some (.nx ((AH .i64 s11.1 1,(s11.2.1,(r13.1.1.1,(r13.1.1.2,(r13.1.2.1.1,(r13.1.2.1.2,r13.1.2.2))))))))) λ_=>some (.nx (AH .i64 s11.1 1,s11.2))) λ_=>br (Bm s11.1 r10.1) (λ_=>br (Ao r13.2.2 10) (λ_=>some (.dn ((0,((s11.1,(false,s11.2.2)),()))))) λ_=>some (.dn ((0,((s11.1,(false,s11.2.2)),()))))) λ_=>br (Ah s11.1 r10.1) (λ_=>some (.nx ((AH .i64 s11.1 1,(s11.2.1,(r13.1.1.1,(r13.1.1.2,(r13.1.2.1.1,(r13.1.2.1.2,r13.1.2.2))))))))) λ_=>some (.nx (AH .i64 s11.1 1,s11.2))) λ_=>some (.dn ((1,(s11,()))))) ((0,(r9.2.1.2,(x.1.1,(x.1.2,(x.2.1.1,(x.2.1.2,x.2.2)))))))) λr15=>br (neq r15.1 0) (λ_=>some r15.2.1.2.1) λ_=>bd (Bb ()) λr16=>some r16
end Go.Proofs.YthpkjfabdccpdaaGreat.Pl
namespace Go.Proofs.YthpkjfabdccpdaaGreat.Pl
open Go Go.Proofs.YthpkjfabdccpdaaGreat.Sv
def kN (k:Nat):HB:=[126,110,101,119,UInt8.ofNat (97+k / 26),UInt8.ofNat (97+k % 26)]
def eN (k:Nat):AB:=(kN k,([118],(false,1000+(k:Int))))
theorem g9 : ∀ k:Nat,k<64->fB ([(126:UInt8),(110:UInt8),(101:UInt8),(119:UInt8)]) ([Yk (MH .u8 (AH .i64 97 (GM .i64 (k:Int) 26))),Yk (MH .u8 (AH .i64 97 (Wm .i64 (k:Int) 26)))])=kN k:=by decide +kernel
theorem i5 : ∀ i:Nat,i<64 -> ∀ j:Nat,j<64->kN i=kN j->i=j:=by decide +kernel
theorem jj : ∀ k:Nat,k<64->kE (eN k)=0:=by decide +kernel
def Oy (k:HB):Prop := ¬ (4<=k.length/\Tk k 0 4=[126,110,101,119])
def Kg (f:CQ):Int:=f.1.1-(f.1.2.length:Int)+f.1.1*(2-((A5 f.2.1.2 0).length:Int))
structure FI (n k:Nat) (f:CQ):Prop where
 fr:A9 f=0
 nx:f.2.2.2<=900000+(k:Int)
 key : ∀ y∈f.1.2,Oy y.1 \/ ∃ j<k,y.1=kN j
 val:(k:Int)+Kg f=(n:Int)
theorem hC {b:A7} (h:Bf b):(BT b).2=0:=by
 unfold BT;have:=h.m1;have:=h.m2;have:=h.len;rw [if_neg (by omega),if_neg (by omega)];exact L5.2 ⟨h.ok,h.asc⟩
theorem hG {f:CQ} (h1:Bf f.1) (h2:VSt f.2) (h3:f.1.1=f.2.1.1):A9 f=0:=by
 unfold A9;rw [if_neg (by simp [hC h1]),if_neg (by simp [Hq.2 h2]),if_neg (by simp [h3])]
theorem Oz {l:List AB} {x y:AB} (h:y∈GF l x):y=x\/y∈l:=by
 unfold GF at h;rcases List.mem_append.1 h with h | h
 ·exact .inr (List.mem_of_mem_take h)
 ·rcases List.mem_cons.1 h with h | h
  ·exact .inl h
  ·exact .inr (List.mem_of_mem_drop h)
theorem Z6 {l:List AB} {k:HB} (h:HV l k=true) : ∃ y∈l,y.1=k:=by
 unfold HV at h;cases hx:l[E5 l k]? with
 | none=>rw [hx] at h;cases h
 | some y =>
  rw [hx] at h;exact ⟨y,List.mem_of_getElem? hx,by simpa using h⟩
theorem Z7 {b:A7} (h:Bf b) {x:AB} (hx:kE x=0) (hk : ¬ HV b.2 x.1=true) (hl:(b.2.length:Int)<b.1):Bf (b.1,GF b.2 x):=by
 have hpl:=MF b.2 x;rw [if_neg hk] at hpl;refine ⟨h.m1,h.m2,by simp only;omega,λy hy => ?_,ME x h.asc (λ_ h=>by cases h)⟩;rcases Oz hy with rfl | hy
 ·exact hx
 ·exact h.ok y hy
theorem Z8 {f:CQ} (h:A9 f=0) {x:AB} (hx:kE x=0):IV f [x]=0:=by
 have hb:=(WR (MG h).1).m1;rw [Rc (by unfold Xe;rw [if_neg (by simp [h]),if_neg (by simp;omega)])]
 have:GG [x]=0:=by
  show (if kE x≠0 then kE x else 0)=0
  rw [hx];rfl
 rw [if_neg (by simp [this])];rfl
theorem Z9 {b:A7} {x:AB} (h:Bf b) (hk : ¬ HV b.2 x.1=true):KT b [x]=if (b.2.length:Int)=b.1 then (b.2,((b.2.length:Int)-(E5 b.2 x.1:Int)+1,false)) else (GF b.2 x,((b.2.length:Int)-(E5 b.2 x.1:Int)+1,true)):=by
 have:=h.m1;unfold KT Ra;rw [if_neg hk,Int.zero_add];by_cases he:(b.2.length:Int)=b.1
 ·rw [if_pos he,if_pos (by omega)]
 ·rw [if_neg he,if_neg (by omega)];rfl
theorem Xi {f:CQ} {n k:Nat} (hn:n<=60) (hk:k<=n) (F:FI n k f) :
  (k<n -> ∃ g w,i4 f [eN k]=(g,(w,0))/\FI n (k+1) g)/\(k=n->(i4 f [eN k]).2.2=10/\0<f.2.1.2.length/\(A5 f.2.1.2 0).length=2):=by
 obtain ⟨z1,v,z3⟩:=MG F.fr;have hb:=WR z1;have hx:=jj k (by omega);have ha:=Z8 F.fr hx;have h2:=(v.lev.own 0).1;have m1:=hb.m1;have m2:=hb.m2;have ml:=hb.len;have hval:=F.val;have hnx:=F.nx;unfold Kg at hval
 have hnk : ¬ HV f.1.2 (eN k).1=true:=λh=>by
  obtain ⟨y,hy,he⟩:=Z6 h;rcases F.key y hy with h1 | ⟨j,hj,h1⟩
  ·refine h1 ?_;rw [he];exact ⟨by show 4<=(kN k).length;simp [kN],rfl⟩
  ·have:=i5 k (by omega) j (by omega) (by rw [<- h1,he];rfl);omega
 have hw:=Z9 (x:=eN k) hb hnk;obtain ⟨r,hr⟩ : ∃ r:Int,r=((A5 f.2.1.2 0).length:Int):=⟨_,rfl⟩;rw [<- hr] at hval;have hr2:r=0\/r=1\/r=2:=by omega
 have key1 : ∀ y∈GF f.1.2 (eN k),Oy y.1 \/ ∃ j<k+1,y.1=kN j:=λy hy=>by
  rcases Oz hy with rfl | hy
  ·exact .inr ⟨k,by omega,rfl⟩
  ·rcases F.key y hy with h1 | ⟨j,hj,h1⟩
   ·exact .inl h1
   ·exact .inr ⟨j,by omega,h1⟩
 have hpl:=MF f.1.2 (eN k);rw [if_neg hnk] at hpl;unfold i4;rw [if_neg (by simp [ha])];by_cases hlt:(f.1.2.length:Int)=f.1.1;rotate_left
 ·
  rw [if_neg hlt] at hw;rw [hw,if_pos rfl];refine ⟨λhkn=>⟨_,_,rfl,?_⟩,λhkn => ?_⟩
  ·refine ⟨hG (Z7 hb hx hnk (by omega)) v z3,by simp only;omega,key1,?_⟩;unfold Kg;simp only;rw [hpl,<- hr];rcases hr2 with h | h | h<;>subst h<;>omega
  ·exfalso;rcases hr2 with h | h | h<;>rw [h] at hval<;>omega
 ·rw [if_pos hlt] at hw;rw [hw,if_neg (show ¬ false=true by decide),if_neg (by omega)];refine ⟨λhkn => ?_,λhkn => ?_⟩
  ·
   have hr1:r=0\/r=1:=by
    rcases hr2 with h | h | h
    ·exact .inl h
    ·exact .inr h
    ·rw [h] at hval;omega
   have hfull : ¬ NX f=true:=by unfold NX;simp;omega
   rw [if_neg hfull];have hvl:VL f.1.2:=⟨by omega,hb.ok,hb.asc⟩;have hck:(DT f.1.2).2=0:=KK.2 hvl;have n1:=v.n1
   have hkr:kR [] (B4 f.2.1.1 0) (f.2.2.2,f.1.2)=0:=by
    refine WH.2 ⟨⟨by simp only;omega,by simp only;omega,hvl,λh=>by
     have h':f.1.2=[]:=h
     rw [h'] at hlt;simp at hlt;omega,?_⟩,by simp⟩
    unfold B4;simp only;omega
   have harr:TG f.2 f.1.2=(TA f.2 (Ow f.2 f.1.2) (f.2.2.2+1) (-1),0):=by
    unfold TG;rw [if_neg (by simp [Hq.2 v]),if_neg (by omega),if_neg (by simp [hck]),if_neg (by simp [hkr])]
   have hb0:Bf (f.1.1,([]:List AB)):=⟨m1,m2,by simp only [List.length_nil];omega,by simp,trivial⟩;have hn0 : ¬ HV ([]:List AB) (eN k).1=true:=by simp [HV]
   have hw0:=Z9 (b:=(f.1.1,[])) (x:=eN k) hb0 hn0;rw [if_neg (by simp only [List.length_nil];omega)] at hw0
   have hask:LN (f.1.1,[]) [eN k]=0:=by
    unfold LN;rw [if_neg (by simp [hC hb0]),if_neg (by simp)];show (if kE (eN k)≠0 then kE (eN k) else 0)=0
    rw [hx];rfl
   have hbat:=TN hask;rw [hw0,if_pos rfl] at hbat;rw [harr,if_neg (by simp),hbat,if_neg (by simp)];refine ⟨_,_,rfl,?_⟩;have hv2:=gE v (l:=f.1.2) (by omega) hkr (by omega);refine ⟨hG (Z7 hb0 hx hn0 (by simp only [List.length_nil];omega)) hv2 z3,?_,?_,?_⟩
   ·show f.2.2.2+1<=_;omega
   ·intro y hy;rcases Oz hy with rfl | hy
    ·exact .inr ⟨k,by omega,rfl⟩
    ·cases hy
   ·unfold Kg
    have ho:(A5 (Ow f.2 f.1.2).2 0).length=(A5 f.2.1.2 0).length+1:=by
     unfold Ow;rw [M6,if_pos rfl];simp
    have Hk:(GF ([]:List AB) (eN k)).length=1:=by rw [TK];rfl
    show ((k+1:Nat):Int)+(f.1.1-((GF ([]:List AB) (eN k)).length:Int)+f.1.1*(2-((A5 (Ow f.2 f.1.2).2 0).length:Int)))=_;rw [ho,Hk];rcases hr1 with h | h<;>rw [h] at hval<;>rw [show (((A5 f.2.1.2 0).length+1:Nat):Int)=r+1 by omega,h]<;>omega
  ·have hr3:r=2:=by
    rcases hr2 with h | h | h
    ·rw [h] at hval;omega
    ·rw [h] at hval;omega
    ·exact h
   have hfull:NX f=true:=by unfold NX;simp;omega
   rw [if_pos hfull];refine ⟨rfl,?_,by omega⟩;by_cases h:0<f.2.1.2.length
   ·exact h
   ·have:A5 f.2.1.2 0=[]:=by unfold A5;rw [List.getElem?_eq_none (by omega)];rfl
    rw [this] at hr;simp at hr;omega
end Go.Proofs.YthpkjfabdccpdaaGreat.Pl
namespace Go.Proofs.YthpkjfabdccpdaaGreat.Pl
open Go Go.Proofs.YthpkjfabdccpdaaGreat.Sv
abbrev jk:=(Int×(Bool×(Int×((List AB)×(Int×((List (List A7))×((List IM)×Int)))))))
def iA (n:Int):jk->Option (LR jk (Nat×(jk×Unit))) :=
 (λ(s11:(Int×(Bool×(Int×((List AB)×(Int×((List (List A7))×((List (Int×(AY×((Bool×AT)×((List AB)×Int)))))×Int))))))))=>br (SC s11.1 n) (λ_=>gd (A6 (AJ (C2 ([(126:UInt8),(110:UInt8),(101:UInt8),(119:UInt8)])) (C2 ([Yk (MH .u8 (AH .i64 97 (GM .i64 s11.1 26))),Yk (MH .u8 (AH .i64 97 (Wm .i64 s11.1 26)))]))) 1000000000) λ_=>bd (CI ((fB ([(126:UInt8),(110:UInt8),(101:UInt8),(119:UInt8)]) ([Yk (MH .u8 (AH .i64 97 (GM .i64 s11.1 26))),Yk (MH .u8 (AH .i64 97 (Wm .i64 s11.1 26)))]),AH .i64 1000 s11.1))) λr12=>bd (BC ((((s11.2.2.1,s11.2.2.2.1),((s11.2.2.2.2.1,s11.2.2.2.2.2.1),s11.2.2.2.2.2.2)),[r12]))) λr13=>br (Bz (AV (AA s11.2.2.2.2.2.1)) 0) (λ_=>ix s11.2.2.2.2.2.1 0 λx14=>br (Ah s11.1 n) (λ_=>br (Ao r13.2.2 0) (λ_=>some (.dn ((0,((s11.1,(false,s11.2.2)),()))))) λ_=>br (Bm s11.1 n) (λ_=>br (Ao r13.2.2 10) (λ_=>some (.dn ((0,((s11.1,(false,s11.2.2)),()))))) λ_=>br (AZ (Bm (AV (AA x14)) 2)) (λ_=>some (.dn ((0,((s11.1,(false,s11.2.2)),()))))) λ_=>br (Ah s11.1 n) (λ_=>some (.nx ((AH .i64 s11.1 1,(s11.2.1,(r13.1.1.1,(r13.1.1.2,(r13.1.2.1.1,(r13.1.2.1.2,r13.1.2.2))))))))) λ_=>some (.nx (AH .i64 s11.1 1,s11.2))) λ_=>br (Ah s11.1 n) (λ_=>some (.nx ((AH .i64 s11.1 1,(s11.2.1,(r13.1.1.1,(r13.1.1.2,(r13.1.2.1.1,(r13.1.2.1.2,r13.1.2.2))))))))) λ_=>some (.nx (AH .i64 s11.1 1,s11.2))) λ_=>br (Bm s11.1 n) (λ_=>br (Ao r13.2.2 10) (λ_=>some (.dn ((0,((s11.1,(false,s11.2.2)),()))))) λ_=>br (AZ (Bm (AV (AA x14)) 2)) (λ_=>some (.dn ((0,((s11.1,(false,s11.2.2)),()))))) λ_=>br (Ah s11.1 n) (λ_=>some (.nx ((AH .i64 s11.1 1,(s11.2.1,(r13.1.1.1,(r13.1.1.2,(r13.1.2.1.1,(r13.1.2.1.2,r13.1.2.2))))))))) λ_=>some (.nx (AH .i64 s11.1 1,s11.2))) λ_=>br (Ah s11.1 n) (λ_=>some (.nx ((AH .i64 s11.1 1,(s11.2.1,(r13.1.1.1,(r13.1.1.2,(r13.1.2.1.1,(r13.1.2.1.2,r13.1.2.2))))))))) λ_=>some (.nx (AH .i64 s11.1 1,s11.2))) λ_=>br (Ah s11.1 n) (λ_=>br (Ao r13.2.2 0) (λ_=>some (.dn ((0,((s11.1,(false,s11.2.2)),()))))) λ_=>br (Bm s11.1 n) (λ_=>br (Ao r13.2.2 10) (λ_=>some (.dn ((0,((s11.1,(false,s11.2.2)),()))))) λ_=>some (.dn ((0,((s11.1,(false,s11.2.2)),()))))) λ_=>br (Ah s11.1 n) (λ_=>some (.nx ((AH .i64 s11.1 1,(s11.2.1,(r13.1.1.1,(r13.1.1.2,(r13.1.2.1.1,(r13.1.2.1.2,r13.1.2.2))))))))) λ_=>some (.nx (AH .i64 s11.1 1,s11.2))) λ_=>br (Bm s11.1 n) (λ_=>br (Ao r13.2.2 10) (λ_=>some (.dn ((0,((s11.1,(false,s11.2.2)),()))))) λ_=>some (.dn ((0,((s11.1,(false,s11.2.2)),()))))) λ_=>br (Ah s11.1 n) (λ_=>some (.nx ((AH .i64 s11.1 1,(s11.2.1,(r13.1.1.1,(r13.1.1.2,(r13.1.2.1.1,(r13.1.2.1.2,r13.1.2.2))))))))) λ_=>some (.nx (AH .i64 s11.1 1,s11.2))) λ_=>some (.dn ((1,(s11,())))))
theorem gO (x:CQ):DN x =
 (bd (E4 x) λr0=>br r0 (λ_=>bd (Bb ()) λr1=>some r1) λ_=>br (Bz x.2.2.2 900000) (λ_=>bd (Bb ()) λr2=>some r2) λ_=>bd (EL x) λr3=>br (Ao r3 0) (λ_=>bd (Bb ()) λr4=>some r4) λ_=>bd (loop (λs5=>br (Ah s5.1 (AV (AA x.1.2))) (λ_=>AS s5.1 λk6=>ix x.1.2 k6 λx7=>br (Hz (AV (C2 x7.1)) 4) (λ_=>gd (A6 4 (C2 x7.1)) λ_=>br (seq (Tk x7.1 0 4) ([(126:UInt8),(110:UInt8),(101:UInt8),(119:UInt8)])) (λ_=>bd (Bb ()) λr8=>some (.dn ((0,((s5.1,r8),()))))) λ_=>some (.nx (AH .i64 s5.1 1,s5.2))) λ_=>some (.nx (AH .i64 s5.1 1,s5.2))) λ_=>some (.dn ((1,(s5,()))))) (0,false)) λr9=>br (neq r9.1 0) (λ_=>some r9.2.1.2) λ_=>bd (Cn x) λr10=>br (Ao r10.2 0) (λ_=>some false) λ_=>bd (loop (iA r10.1) ((0,(r9.2.1.2,(x.1.1,(x.1.2,(x.2.1.1,(x.2.1.2,x.2.2)))))))) λr15=>br (neq r15.1 0) (λ_=>some r15.2.1.2.1) λ_=>bd (Bb ()) λr16=>some r16):=rfl
def aA (k:Nat) (f:CQ):jk:=((k:Int),(false,(f.1.1,(f.1.2,(f.2.1.1,(f.2.1.2,f.2.2))))))
theorem jl {f:CQ} (v:VSt f.2) {n k:Nat} (hk:k<n) (hn:n<=60) {g:CQ} {w:Int} (h:i4 f [eN k]=(g,(w,0))):iA (n:Int) (aA k f)=some (.nx (aA (k+1) g)):=by
 obtain ⟨⟨mo,es⟩,⟨B,ls⟩,js,nx⟩:=f;unfold iA aA;simp only [AU,AP];rw [show SC (k:Int) (n:Int)=true from decide_eq_true (by omega),AN,BU (by simp [AJ,C2]),g9 k (by omega),CT (a:=1000) (by omega)];rw [show CI (kN k,1000+(k:Int))=some (eN k) from rfl,AD,TP v.sm (by simp),AD,h];have t1:Ah (k:Int) (n:Int)=true:=decide_eq_true (by omega);have t2:Bm (k:Int) (n:Int)=false:=by rw [EN];exact decide_eq_false (by omega)
 have t3:Ao (0:Int) 0=false:=rfl;simp only [t1,t2,t3,AN,Ag];rw [Aa (by omega),Ax];by_cases h0:0<ls.length
 ·rw [if_pos (by omega),AK (G6 (l:=ls) h0)]
 ·rw [if_neg (by omega)]
theorem i6 {f:CQ} (v:VSt f.2) {n:Nat} (hn:n<=60) (h:(i4 f [eN n]).2.2=10) (h0:0<f.2.1.2.length) (h2:(A5 f.2.1.2 0).length=2):iA (n:Int) (aA n f)=some (.nx (aA (n+1) f)):=by
 obtain ⟨⟨mo,es⟩,⟨B,ls⟩,js,nx⟩:=f;unfold iA aA;simp only at h0 h2;simp only [AU,AP];rw [show SC (n:Int) (n:Int)=true from decide_eq_true (by omega),AN,BU (by simp [AJ,C2]),g9 n (by omega),CT (a:=1000) (by omega)];rw [show CI (kN n,1000+(n:Int))=some (eN n) from rfl,AD,TP v.sm (by simp),AD];have t1:Ah (n:Int) (n:Int)=false:=decide_eq_false (by omega);have t2:Bm (n:Int) (n:Int)=true:=by rw [EN];exact decide_eq_true rfl
 have t3:Ao (10:Int) 10=false:=rfl;simp only [t1,t2,h,t3,AN,Ag];rw [Ax,if_pos (by omega),AK (G6 (l:=ls) h0),h2,Aa (by omega)];rfl
theorem i7 {f:CQ} {n:Nat}:iA (n:Int) (aA (n+1) f)=some (.dn (1,(aA (n+1) f,()))):=by
 unfold iA aA;simp only;rw [show SC ((n+1:Nat):Int) (n:Int)=false from decide_eq_false (by omega),Ag]
theorem aB {l:List AB} (hl:l.length<=1000) : ∃ r,loop (β:=Nat×((Int×Bool)×Unit)) (λs5=>br (Ah s5.1 (l.length:Int)) (λ_=>AS s5.1 λk6=>ix l k6 λx7=>br (Hz (C2 x7.1:Int) 4) (λ_=>gd (A6 4 (C2 x7.1)) λ_=>br (seq (Tk x7.1 0 4) ([(126:UInt8),(110:UInt8),(101:UInt8),(119:UInt8)])) (λ_=>bd (some true) λr8=>some (.dn ((0,((s5.1,r8),()))))) λ_=>some (.nx (AH .i64 s5.1 1,s5.2))) λ_=>some (.nx (AH .i64 s5.1 1,s5.2))) λ_=>some (.dn ((1,(s5,()))))) ((0:Int),false)=some r/\((r.1=0/\r.2.1.2=true)\/(r.1=1/\r.2.1.2=false /\ ∀ y∈l,Oy y.1)) :=
 E9 (l:=l) (σ:=Unit) (λk _=>((k:Int),false)) (λm k _ => ∀ y∈l,Oy y.1\/y∈m) (λ(r:Nat×((Int×Bool)×Unit))=>(r.1=0/\r.2.1.2=true)\/(r.1=1/\r.2.1.2=false /\ ∀ y∈l,Oy y.1)) () rfl (by omega) (λy hy => .inr hy) (λ_ h=>⟨(1,(((l.length:Int),false),())),by simp only;rw [re];rfl,.inr ⟨rfl,rfl,λy hy=>(h y hy).elim id λh=>by cases h⟩⟩) (λk x m _ hd hx hk h=>by
  simp only;rw [rl hk,AN,AE,AK hx,Aa (by omega),Fw]
  have next:Oy x.1 -> ∀ y∈l,Oy y.1\/y∈m:=λhp y hy=>by
   rcases h y hy with h1 | h1
   ·exact .inl h1
   ·rcases List.mem_cons.1 h1 with rfl | h1
    ·exact .inl hp
    ·exact .inr h1
  by_cases h4:(C2 x.1:Int)>=4
  ·have h4':4<=x.1.length:=by unfold C2 at h4;omega
   rw [if_pos h4,BU (by unfold C2;exact h4')];rw [EM];by_cases hs:Tk x.1 0 4=[126,110,101,119]
   ·rw [if_pos hs];exact .inr ⟨_,rfl,.inl ⟨rfl,rfl⟩⟩
   ·rw [if_neg hs];exact .inl ⟨(),rfl,next λ⟨_,h⟩=>hs h⟩
  ·rw [if_neg h4]
   exact .inl ⟨(),rfl,next λ⟨h,_⟩=>h4 (by unfold C2;omega)⟩)
theorem aC {f:CQ} (h:A9 f=0):(TM f).1=Kg f/\(TM f).2=0/\0<=Kg f/\Kg f<=48:=by
 obtain ⟨z1,v,z3⟩:=MG h;have hb:=WR z1;have m1:=hb.m1;have m2:=hb.m2;have ml:=hb.len;have h2:=(v.lev.own 0).1;unfold TM Kg;rw [if_neg (by simp [h])];obtain ⟨r,hr⟩ : ∃ r:Nat,r=(A5 f.2.1.2 0).length:=⟨_,rfl⟩;rw [<- hr] at h2 ⊢
 have hi:(if 0<f.2.1.2.length then BJ .i64 2 (r:Int) else 2)=2-(r:Int):=by
  by_cases h0:0<f.2.1.2.length
  ·rw [if_pos h0,Bl (by omega)]
  ·have:A5 f.2.1.2 0=[]:=by unfold A5;rw [List.getElem?_eq_none (by omega)];rfl
   rw [this] at hr;rw [if_neg h0,hr];simp
 rw [hi];have hr3:r=0\/r=1\/r=2:=by omega
 have e1:BJ .i64 f.1.1 (f.1.2.length:Int)=f.1.1-(f.1.2.length:Int):=Bl (by omega);have e2:Kv .i64 f.1.1 (2-(r:Int))=f.1.1*(2-(r:Int)):=V9 (by rcases hr3 with h | h | h<;>subst h<;>omega)
 rw [e1,e2];have e3:AH .i64 (f.1.1-(f.1.2.length:Int)) (f.1.1*(2-(r:Int)))=f.1.1-(f.1.2.length:Int)+f.1.1*(2-(r:Int)):=CT (by rcases hr3 with h | h | h<;>subst h<;>omega)
 refine ⟨e3,rfl,?_,?_⟩<;>rcases hr3 with h | h | h<;>subst h<;>omega
theorem pressureFree (x:CQ):DN x=some true:=by
 rw [gO];obtain ⟨c,e,hc⟩:=Xh x;rw [e,AD,gN];simp only [AU,AP];cases c with
 | true=>rfl
 | false =>
  obtain ⟨m,hl,_⟩:=hc rfl;rw [Ag,Ax];by_cases h9:x.2.2.2>900000
  ·rw [if_pos h9];rfl
  rw [if_neg h9,TJ m,AD,AR];by_cases h0:A9 x=0;rotate_left
  ·rw [if_neg h0];rfl
  rw [if_pos h0];obtain ⟨r,q1,q2⟩:=aB (l:=x.1.2) (by omega);refine BG q1 ?_;rw [CO];rcases q2 with ⟨q2,q3⟩ | ⟨q2,q3,q4⟩
  ·rw [if_pos q2,q3]
  rw [if_neg (by omega),gL m,AD];obtain ⟨f1,f2,f3,f4⟩:=aC h0;rw [f2,AR,if_pos rfl,f1,q3];obtain ⟨n,hn⟩ : ∃ n:Nat,Kg x=(n:Int):=⟨(Kg x).toNat,by omega⟩;rw [hn]
  obtain ⟨r2,p1,p2⟩ : ∃ r2,loop (iA (n:Int)) (aA 0 x)=some r2/\r2.1=1 :=
   E9 (l:=List.range (n+1)) (σ:=CQ) aA (λ_ k f=>k<=n->FI n k f) (λ(r:Nat×(jk×Unit))=>r.1=1) x rfl (by simp;omega) (λ_=>⟨h0,by omega,λy hy => .inl (q4 y hy),by omega⟩) (λf _=>⟨_,by rw [List.length_range];exact i7,rfl⟩) (λk y ms f _ _ hk hI=>by
    rw [List.length_range] at hk;have F:=hI (by omega);have v:=(MG F.fr).2.1;obtain ⟨s1,s2⟩:=Xi (by omega) (by omega) F;by_cases hkn:k<n
    ·obtain ⟨g,w,e1,e2⟩:=s1 hkn;exact .inl ⟨g,jl v hkn (by omega) e1,λ_=>e2⟩
    ·have hkn':k=n:=by omega
     subst hkn';obtain ⟨t1,t2,t3⟩:=s2 rfl
     exact .inl ⟨f,i6 v (by omega) t1 t2 t3,λh=>by omega⟩)
  refine BG p1 ?_;rw [p2];rfl
end Go.Proofs.YthpkjfabdccpdaaGreat.Pl
