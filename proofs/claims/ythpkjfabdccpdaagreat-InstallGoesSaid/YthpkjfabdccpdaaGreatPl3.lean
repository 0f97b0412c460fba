/- Functions of the program and of the specification as plain functions, and laws about them. No condition. -/
import Derived.Test.YthpkjfabdccpdaaGreatPl2
set_option linter.all false
namespace Go.Proofs.YthpkjfabdccpdaaGreat.Pl
open Go Go.Proofs.YthpkjfabdccpdaaGreat.Sv
set_option linter.unusedVariables false
end Go.Proofs.YthpkjfabdccpdaaGreat.Pl
namespace Go.Proofs.YthpkjfabdccpdaaGreat.Pl
open Go Go.Proofs.YthpkjfabdccpdaaGreat.Sv
set_option linter.unusedVariables false
def Dy (x:((List AD)×(List AD))):Option Bool :=
 bd (loop (λs0=>br (Am s0.1 (Aa (AA x.1))) (λ_=>br (Am s0.1 (Aa (AA x.2))) (λ_=>AU s0.1 λk1=>ix x.1 k1 λx2=>AU s0.1 λk3=>ix x.2 k3 λx4=>br (AX (Bm (seq x2.1 x4.1) (Bm (seq x2.2.1 x4.2.1) (Bm (beq x2.2.2.1 x4.2.2.1) (Bm (Ba x2.2.2.2 x4.2.2.2) true))))) (λ_=>some (.dn ((0,((s0.1,false),()))))) λ_=>some (.nx (AH .i64 s0.1 1,s0.2))) λ_=>some (.dn ((1,(s0,()))))) λ_=>some (.dn ((1,(s0,()))))) (0,false)) λr5=>br (neq r5.1 0) (λ_=>some r5.2.1.2) λ_=>some (Ba (Aa (AA x.1)) (Aa (AA x.2)))
end Go.Proofs.YthpkjfabdccpdaaGreat.Pl
namespace Go.Proofs.YthpkjfabdccpdaaGreat.Pl
open Go Go.Proofs.YthpkjfabdccpdaaGreat.Sv
set_option linter.unusedVariables false
end Go.Proofs.YthpkjfabdccpdaaGreat.Pl
namespace Go.Proofs.YthpkjfabdccpdaaGreat.Pl
open Go Go.Proofs.YthpkjfabdccpdaaGreat.Sv
set_option linter.unusedVariables false
def Fj (x:((List AD)×AD)):Option (List AD) :=
 bd (loop (λs0=>br (Am s0 (Aa (AA x.1))) (λ_=>AU s0 λk1=>ix x.1 k1 λx2=>br (CT x2.1 x.2.1) (λ_=>some (.nx (AH .i64 s0 1))) λ_=>some (.dn ((0,(s0,()))))) λ_=>some (.dn ((0,(s0,()))))) 0) λr3=>br (Am r3.2.1 (Aa (AA x.1))) (λ_=>AU r3.2.1 λk4=>ix x.1 k4 λx5=>br (seq x5.1 x.2.1) (λ_=>some x.1) λ_=>AU r3.2.1 λk6=>gd (BZ k6 (AA x.1)) λ_=>gd (BZ 0 k6) λ_=>gd (BZ (AA (Cs x.1 0 k6)) 1048576) λ_=>gd (BZ (A2 (AA (Cs x.1 0 k6)) (AA [x.2])) 1048576) λ_=>AU r3.2.1 λk7=>gd (BZ (AA x.1) (AA x.1)) λ_=>gd (BZ k7 (AA x.1)) λ_=>gd (BZ (A2 (AA (CG (Cs x.1 0 k6) [x.2])) (AA (Cs x.1 k7 (AA x.1)))) 1048576) λ_=>some (CG (CG (Cs x.1 0 k6) [x.2]) (Cs x.1 k7 (AA x.1)))) λ_=>AU r3.2.1 λk8=>gd (BZ k8 (AA x.1)) λ_=>gd (BZ 0 k8) λ_=>gd (BZ (AA (Cs x.1 0 k8)) 1048576) λ_=>gd (BZ (A2 (AA (Cs x.1 0 k8)) (AA [x.2])) 1048576) λ_=>AU r3.2.1 λk9=>gd (BZ (AA x.1) (AA x.1)) λ_=>gd (BZ k9 (AA x.1)) λ_=>gd (BZ (A2 (AA (CG (Cs x.1 0 k8) [x.2])) (AA (Cs x.1 k9 (AA x.1)))) 1048576) λ_=>some (CG (CG (Cs x.1 0 k8) [x.2]) (Cs x.1 k9 (AA x.1)))
def Fk (x:AK):Option (List AD) :=
 bd (Dx x) λr0=>bd (loop (λ(s1:((List AD)×Int))=>br (Am s1.2 (Aa (AA r0.1))) (λ_=>bd (loop (λ(s2:BH)=>AU s1.2 λk3=>ix r0.1 k3 λx4=>br (Am s2.1 (Aa (AA x4.2))) (λ_=>AU s1.2 λk5=>ix r0.1 k5 λx6=>AU s2.1 λk7=>ix x6.2 k7 λx8=>bd (Fj (s2.2,x8)) λr9=>some (.nx (AH .i64 s2.1 1,r9))) λ_=>some (.dn ((0,(s2,()))))) (0,s1.1)) λr10=>some (.nx (r10.2.1.2,AH .i64 s1.2 1))) λ_=>some (.dn ((0,(s1,()))))) ([],0)) λr11=>bd (loop (λ(s12:BH)=>br (Am s12.1 (Aa (AA r11.2.1.1))) (λ_=>AU s12.1 λk13=>ix r11.2.1.1 k13 λx14=>br (AX x14.2.2.1) (λ_=>AU s12.1 λk15=>ix r11.2.1.1 k15 λx16=>gd (BZ (A2 (AA s12.2) (AA [x16])) 1048576) λ_=>some (.nx (AH .i64 s12.1 1,CG s12.2 [x16]))) λ_=>some (.nx (AH .i64 s12.1 1,s12.2))) λ_=>some (.dn ((0,(s12,()))))) (0,[])) λr17=>some r17.2.1.2
def Cr (x:((AK×((List (Int×(AP×((Bool×AO)×((List AD)×Int)))))×Int))×(List Int))):Option Bool :=
 bd (CX x.1) λr0=>bd (GJ x.1) λr1=>br r1 (λ_=>bd (Di ()) λr2=>some r2) λ_=>br (CF (Aa (AA x.2)) 100) (λ_=>bd (Di ()) λr3=>some r3) λ_=>br (BC r0.2 0) (λ_=>bd (Di ()) λr4=>some r4) λ_=>bd (Fk x.1.1) λr5=>bd (loop (λ(s6:(Bool×(Int×(Int×((List (List BH))×((List (Int×(AP×((Bool×AO)×((List AD)×Int)))))×Int))))))=>br (Am s6.2.1 (Aa (AA x.2))) (λ_=>br (CF (Aa (AA s6.2.2.2.2.1)) 0) (λ_=>AU (B9 .i64 (Aa (AA s6.2.2.2.2.1)) 1) λk7=>ix s6.2.2.2.2.1 k7 λx8=>bd (BU ((((s6.2.2.1,s6.2.2.2.1),s6.2.2.2.2),x8.1))) λr9=>br (BC r9.2 0) (λ_=>some (.dn ((0,((false,s6.2),()))))) λ_=>br (AX r9.1) (λ_=>br (Am x8.1 11) (λ_=>some (.dn ((0,((false,s6.2),()))))) λ_=>AU s6.2.1 λk10=>ix x.2 k10 λx11=>gd (BC (Aa (AA s6.2.2.2.2.1)) 0) λ_=>AU (SW .i64 (fJ .i64 x11) (Aa (AA s6.2.2.2.2.1))) λk12=>ix s6.2.2.2.2.1 k12 λx13=>bd (BU ((((s6.2.2.1,s6.2.2.2.1),s6.2.2.2.2),x13.1))) λr14=>bd (BS ((((s6.2.2.1,s6.2.2.2.1),s6.2.2.2.2),x13.1))) λr15=>br (BC r14.2 0) (λ_=>some (.dn ((0,((false,s6.2),()))))) λ_=>br (AX (beq r14.1 (Ba r15.2.2 0))) (λ_=>br (Vz s6.2.2.2.2.2 1000000) (λ_=>some (.dn ((0,((false,s6.2),()))))) λ_=>br (Ba r15.2.2 0) (λ_=>some (.nx ((s6.1,(AH .i64 s6.2.1 1,(r15.1.1.1,(r15.1.1.2,r15.1.2))))))) λ_=>some (.nx ((s6.1,(AH .i64 s6.2.1 1,s6.2.2))))) λ_=>br (Ba r15.2.2 0) (λ_=>some (.nx ((s6.1,(AH .i64 s6.2.1 1,(r15.1.1.1,(r15.1.1.2,r15.1.2))))))) λ_=>some (.nx ((s6.1,(AH .i64 s6.2.1 1,s6.2.2))))) λ_=>AU s6.2.1 λk16=>ix x.2 k16 λx17=>gd (BC (Aa (AA s6.2.2.2.2.1)) 0) λ_=>AU (SW .i64 (fJ .i64 x17) (Aa (AA s6.2.2.2.2.1))) λk18=>ix s6.2.2.2.2.1 k18 λx19=>bd (BU ((((s6.2.2.1,s6.2.2.2.1),s6.2.2.2.2),x19.1))) λr20=>bd (BS ((((s6.2.2.1,s6.2.2.2.1),s6.2.2.2.2),x19.1))) λr21=>br (BC r20.2 0) (λ_=>some (.dn ((0,((false,s6.2),()))))) λ_=>br (AX (beq r20.1 (Ba r21.2.2 0))) (λ_=>br (Vz s6.2.2.2.2.2 1000000) (λ_=>some (.dn ((0,((false,s6.2),()))))) λ_=>br (Ba r21.2.2 0) (λ_=>some (.nx ((s6.1,(AH .i64 s6.2.1 1,(r21.1.1.1,(r21.1.1.2,r21.1.2))))))) λ_=>some (.nx ((s6.1,(AH .i64 s6.2.1 1,s6.2.2))))) λ_=>br (Ba r21.2.2 0) (λ_=>some (.nx ((s6.1,(AH .i64 s6.2.1 1,(r21.1.1.1,(r21.1.1.2,r21.1.2))))))) λ_=>some (.nx ((s6.1,(AH .i64 s6.2.1 1,s6.2.2))))) λ_=>some (.dn ((1,(s6,()))))) λ_=>some (.dn ((1,(s6,()))))) ((false,(0,(x.1.1.1,(x.1.1.2,x.1.2)))))) λr22=>br (neq r22.1 0) (λ_=>some r22.2.1.1) λ_=>bd (CX (((r22.2.1.2.2.1,r22.2.1.2.2.2.1),r22.2.1.2.2.2.2))) λr23=>br (Ba r23.2 0) (λ_=>bd (Fk (r22.2.1.2.2.1,r22.2.1.2.2.2.1)) λr24=>bd (Dy (r24,r5)) λr25=>br r25 (λ_=>bd (Di ()) λr26=>some r26) λ_=>some false) λ_=>some false
end Go.Proofs.YthpkjfabdccpdaaGreat.Pl
namespace Go.Proofs.YthpkjfabdccpdaaGreat.Pl
open Go Go.Proofs.YthpkjfabdccpdaaGreat.Sv
end Go.Proofs.YthpkjfabdccpdaaGreat.Pl
namespace Go.Proofs.YthpkjfabdccpdaaGreat.Pl
open Go Go.Proofs.YthpkjfabdccpdaaGreat.Sv
theorem Ru (l:List AD) (hl:l.length<=9223372036854775807):Dy (l,l)=some true:=by
 unfold Dy;simp only [AV,AQ];refine BF (Oy (r:=(1,(((l.length:Int),false),()))) (λk=>((k:Int),false)) l.length rfl (by omega) (λk hk => ?_) (by simp only;rw [re];rfl)) ?_
 ·have hx:l[k]? = some l[k]:=List.getElem?_eq_getElem hk;simp only;rw [rl hk,AM,AM,AE,AJ hx,AE,AJ hx,O6,if_pos rfl,Ab (by omega)]
 ·rw [CH,if_neg (show ¬ (1=0) by omega)];unfold Ba;simp
end Go.Proofs.YthpkjfabdccpdaaGreat.Pl
namespace Go.Proofs.YthpkjfabdccpdaaGreat.Pl
open Go Go.Proofs.YthpkjfabdccpdaaGreat.Sv
end Go.Proofs.YthpkjfabdccpdaaGreat.Pl
namespace Go.Proofs.YthpkjfabdccpdaaGreat.Pl
open Go Go.Proofs.YthpkjfabdccpdaaGreat.Sv
def D0 (l:List BH):Nat:=(l.map λr=>r.2.length).sum
theorem Fl (r:BH) (l:List BH):D0 (r::l)=r.2.length+D0 l:=by simp [D0]
theorem Em (l m:List BH):D0 (l++m)=D0 l+D0 m:=by simp [D0]
theorem aI (l:List BH):D0 l.reverse=D0 l:=by simp [D0]
theorem gP {l:List BH} (h : ∀ r∈l,r.2.length<=5000):D0 l<=l.length*5000:=by
 induction l with
 | nil=>simp [D0]
 | cons r l ih =>
  rw [Fl,List.length_cons];have:=h r (by simp);have:=ih λx hx=>h x (by simp [hx]);omega
theorem JF : ∀ ls:List (List BH),D0 (BT ls)=D0 ls.flatten/\(BT ls).length=ls.flatten.length
 | []=>⟨rfl,rfl⟩
 | rs::ls=>by
  obtain ⟨h1,h2⟩:=JF ls;have e:BT (rs::ls)=rs.reverse++BT ls:=rfl;rw [e,List.flatten_cons,Em,Em,aI,h1];simp [h2]
theorem LX {L:AK} (v:VLev L):L.2.flatten.length<=24/\D0 L.2.flatten<=24*5000:=by
 have h1:L.2.flatten.length<=24:=by
  have h:=J0 L.2 v.two;have:=v.len;rw [(JF L.2).2] at h;omega
 refine ⟨h1,?_⟩
 have:=gP (l:=L.2.flatten) λr hr'=>by
  obtain ⟨rs,h2,h3⟩:=List.mem_flatten.1 hr';obtain ⟨i,hi⟩:=List.getElem?_of_mem h2;exact ((v.lev i rs hi).2 r h3).vl.len
 exact Nat.le_trans this (Nat.mul_le_mul_right _ h1)
end Go.Proofs.YthpkjfabdccpdaaGreat.Pl
namespace Go.Proofs.YthpkjfabdccpdaaGreat.Pl
open Go Go.Proofs.YthpkjfabdccpdaaGreat.Sv
end Go.Proofs.YthpkjfabdccpdaaGreat.Pl
namespace Go.Proofs.YthpkjfabdccpdaaGreat.Pl
open Go Go.Proofs.YthpkjfabdccpdaaGreat.Sv
def Bi (l:List AD) (k:Gu):Option AD:=l.find? λx=>decide (x.1=k)
theorem Bu (x:AD) (l:List AD) (k:Gu):Bi (x::l) k=if x.1=k then some x else Bi l k:=by
 unfold Bi;rw [List.find?_cons];by_cases h:x.1=k<;>simp [h]
theorem MV (l m:List AD) (k:Gu):Bi (l++m) k=(Bi l k).or (Bi m k):=by
 unfold Bi;rw [List.find?_append]
theorem Ig (x:AD) (k:Gu):Bi [x] k=if x.1=k then some x else none:=by rw [Bu];rfl
theorem Td {l:List AD} {k:Gu} {x:AD} (h:Bi l k=some x):x.1=k/\x∈l:=by
 unfold Bi at h;exact ⟨by simpa using List.find?_some h,List.mem_of_find?_eq_some h⟩
theorem Ih {l:List AD} {k:Gu} (h : ∀ x∈l,x.1≠k):Bi l k=none:=by
 unfold Bi;rw [List.find?_eq_none];intro x hx;simpa using h x hx
theorem LY : ∀ {l:List AD} {q:Gu},Asc (some q) l -> ∀ x∈l,CT q x.1=true
 | x::l,q,⟨h1,h2⟩,y,hy=>by
  rcases List.mem_cons.1 hy with e | hy
  ·rw [e];exact h1 q rfl
  ·exact E1 (h1 q rfl) (LY h2 y hy)
theorem Wd : ∀ {l m:List AD} {p q:Option Gu},Asc p l->Asc q m->(∀ k,Bi l k=Bi m k)->l=m
 | [],[],_,_,_,_,_=>rfl
 | [],y::m,_,_,_,_,h=>by
  have:=h y.1;rw [Bu,if_pos rfl] at this;cases this
 | x::l,[],_,_,_,_,h=>by
  have:=h x.1;rw [Bu,if_pos rfl] at this;cases this
 | x::l,y::m,p,q,⟨h1,h2⟩,⟨g1,g2⟩,h=>by
  have e1:=h x.1;have e2:=h y.1;rw [Bu,if_pos rfl,Bu] at e1;rw [Bu,Bu,if_pos rfl] at e2
  have hxy:x.1=y.1:=by
   by_cases hk:y.1=x.1
   ·exact hk.symm
   ·rw [if_neg hk] at e1;rw [if_neg (λe=>hk e.symm)] at e2;have k1:=LY g2 x (Td e1.symm).2;have k2:=LY h2 y (Td e2).2;rw [Cg k1] at k2;cases k2
  rw [if_pos hxy.symm] at e1;have exy:x=y:=Option.some.inj e1;subst exy;refine congrArg (x::·) (Wd h2 g2 λk => ?_);have hk:=h k;rw [Bu,Bu] at hk;by_cases hkx:x.1=k
  ·have q1:Bi l k=none:=Ih λz hz=>by
    have:=LY h2 z hz;rw [hkx] at this;exact λe=>Ju this e.symm
   have q2:Bi m k=none:=Ih λz hz=>by
    have:=LY g2 z hz;rw [hkx] at this;exact λe=>Ju this e.symm
   rw [q1,q2]
  ·rw [if_neg hkx,if_neg hkx] at hk;exact hk
theorem LZ (P:AD->Bool) : ∀ {l:List AD} {p:Option Gu},Asc p l->Asc p (l.filter P)
 | [],_,_=>trivial
 | x::l,p,⟨h1,h2⟩=>by
  have ih:=LZ P h2;rw [List.filter_cons];cases P x with
  | true=>exact ⟨h1,ih⟩
  | false =>
   refine ih.weak λq' hq'=>⟨x.1,rfl,?_⟩;exact Cg (h1 q' hq')
theorem J4 (P:AD->Bool) (k:Gu) : ∀ {l:List AD} {p:Option Gu},Asc p l->Bi (l.filter P) k=(Bi l k).filter P
 | [],_,_=>rfl
 | x::l,p,⟨h1,h2⟩=>by
  have ih:=J4 P k h2;rw [List.filter_cons,Bu];by_cases hk:x.1=k
  ·rw [if_pos hk]
   have hn:Bi (l.filter P) k=none:=Ih λz hz=>by
    have:=LY h2 z (List.mem_filter.1 hz).1;rw [hk] at this;exact λe=>Ju this e.symm
   cases hP:P x with
   | true=>rw [if_pos rfl,Bu,if_pos hk];simp [Option.filter,hP]
   | false=>rw [if_neg (by simp),hn];simp [Option.filter,hP]
  ·rw [if_neg hk];cases hP:P x with
   | true=>rw [if_pos rfl,Bu,if_neg hk];exact ih
   | false=>simpa using ih
def En:List AD->AD->List AD
 | [],x=>[x]
 | y::l,x=>if CT y.1 x.1=true then y::En l x else if y.1=x.1 then y::l else x::y::l
theorem Te (x:AD) : ∀ {l:List AD} {p:Option Gu},Asc p l->(∀ q,p=some q->CT q x.1=true)->Asc p (En l x)
 | [],p,_,hp=>⟨hp,trivial⟩
 | y::l,p,⟨h1,h2⟩,hp=>by
  unfold En;by_cases h:CT y.1 x.1=true
  ·rw [if_pos h];exact ⟨h1,Te x h2 λq hq=>by cases hq;exact h⟩
  ·rw [if_neg h];by_cases he:y.1=x.1
   ·rw [if_pos he];exact ⟨h1,h2⟩
   ·rw [if_neg he];exact ⟨hp,λq hq=>by cases hq;exact LM (by simpa using h) he,h2⟩
theorem Tf (x:AD) (k:Gu) : ∀ {l:List AD} {p:Option Gu},Asc p l->Bi (En l x) k=(Bi l k).or (if x.1=k then some x else none)
 | [],_,_=>by unfold En;rw [Ig];rfl
 | y::l,p,⟨h1,h2⟩=>by
  unfold En;by_cases h:CT y.1 x.1=true
  ·rw [if_pos h,Bu,Bu,Tf x k h2];split<;>rfl
  ·rw [if_neg h];by_cases he:y.1=x.1
   ·rw [if_pos he,Bu,<- he];by_cases hk:y.1=k
    ·rw [if_pos hk];rfl
    ·rw [if_neg hk,if_neg hk];cases Bi l k<;>rfl
   ·rw [if_neg he,Bu];have hxy:CT x.1 y.1=true:=LM (by simpa using h) he;by_cases hk:x.1=k
    ·rw [if_pos hk]
     have:Bi (y::l) k=none:=Ih λz hz=>by
      rw [<- hk];rcases List.mem_cons.1 hz with e | hz
      ·rw [e];exact he
      ·exact λe=>Ju (E1 hxy (LY h2 z hz)) e.symm
     rw [this,if_pos hk];rfl
    ·rw [if_neg hk,if_neg hk];cases Bi (y::l) k<;>rfl
theorem We (k:Gu) : ∀ (r l:List AD),Asc none l->Asc none (r.foldl En l)/\Bi (r.foldl En l) k=(Bi l k).or (Bi r k)
 | [],l,h=>⟨h,by show Bi l k=_;cases Bi l k<;>rfl⟩
 | x::r,l,h=>by
  obtain ⟨h1,h2⟩:=We k r (En l x) (Te x h λ_ h=>by cases h);refine ⟨h1,?_⟩;rw [List.foldl_cons,h2,Tf x k h,Bu,Option.or_assoc]
  congr 1
  split<;>rfl
def NQ (rs:List BH) (l:List AD):List AD:=rs.foldl (λout r=>r.2.foldl En out) l
def DE:List BH->Gu->Option AD
 | [],_=>none
 | r::rs,k=>(Bi r.2 k).or (DE rs k)
theorem Rv (k:Gu) : ∀ (rs:List BH) (l:List AD),Asc none l->Asc none (NQ rs l)/\Bi (NQ rs l) k=(Bi l k).or (DE rs k)
 | [],l,h=>⟨h,by show Bi l k=_;cases Bi l k<;>rfl⟩
 | r::rs,l,h=>by
  obtain ⟨h1,h2⟩:=We k r.2 l h;obtain ⟨h3,h4⟩:=Rv k rs (r.2.foldl En l) h1;refine ⟨h3,?_⟩;show Bi (NQ rs (r.2.foldl En l)) k=_;rw [h4,h2,Option.or_assoc];rfl
def Ck (x:AD):Bool := !x.2.2.1
def G9 (L:AK):List AD:=(NQ (BT L.2) []).filter Ck
theorem aJ {L M:AK} (h : ∀ k,(DE (BT L.2) k).filter Ck=(DE (BT M.2) k).filter Ck):G9 L=G9 M:=by
 have a1:=λk=>Rv k (BT L.2) [] trivial;have a2:=λk=>Rv k (BT M.2) [] trivial;refine Wd (LZ Ck (a1 []).1) (LZ Ck (a2 []).1) λk => ?_;show Bi ((NQ (BT L.2) []).filter Ck) k=Bi ((NQ (BT M.2) []).filter Ck) k;rw [J4 Ck k (a1 []).1,J4 Ck k (a2 []).1,(a1 k).2,(a2 k).2];exact h k
theorem Th : ∀ (a b:List BH) (k:Gu),DE (a++b) k=(DE a k).or (DE b k)
 | [],b,k=>rfl
 | r::a,b,k=>by
  show (Bi r.2 k).or (DE (a++b) k)=((Bi r.2 k).or (DE a k)).or (DE b k);rw [Th a b k,Option.or_assoc]
theorem Wf : ∀ {l:List AD} {s:Bt} {k:Gu},NH s l->s.1=true->CT k s.2.1=true->Bi l k=none
 | [],_,_,_,_,_=>rfl
 | x::l,s,k,⟨_,h2,h3⟩,h1,hk=>by
  have hx:CT k x.1=true:=S7 hk (h2 h1);rw [Bu,if_neg (λe=>Ju hx e.symm)];exact Wf h3 rfl hx
theorem Ti (k:Gu) : ∀ {l:List AD} {s:Bt},NH s l->Bi (EV s l) k=if s.1=true/\s.2.1=k then none else (Bi l k).filter λx => !(s.2.2&&x.2.2.1)
 | [],s,_=>by unfold EV;split<;>rfl
 | x::l,s,⟨_,h2,h3⟩=>by
  have ih:=Ti k h3;simp only [true_and] at ih;unfold EV;rw [MV,ih,Bu];by_cases hk:x.1=k
  ·rw [if_pos hk,if_pos hk];by_cases hs:s.1=true/\s.2.1=k
   ·rw [if_pos hs];have:keep s x=false:=by unfold keep;rw [hs.1,hs.2,hk];simp
    rw [this];rfl
   ·rw [if_neg hs]
    have:keep s x = !(s.2.2&&x.2.2.1):=by
     unfold keep
     have:(s.1&&decide (x.1=s.2.1))=false:=by
      cases h1:s.1 with
      | false=>rfl
      | true =>
       simp only [Bool.true_and,decide_eq_false_iff_not];intro e;exact hs ⟨h1,by rw [<- e];exact hk⟩
     rw [this];rfl
    rw [this];cases hb:(!(s.2.2&&x.2.2.1)) with
    | true=>rw [if_pos rfl,Ig,if_pos hk];simp [Option.filter,hb]
    | false=>rw [if_neg (by simp)];simp [Option.filter,hb,Bi]
  ·rw [if_neg hk,if_neg hk]
   have h1:Bi (if keep s x=true then [x] else []) k=none:=by
    split
    ·rw [Ig,if_neg hk]
    ·rfl
   rw [h1,Option.none_or];by_cases hs:s.1=true/\s.2.1=k
   ·rw [if_pos hs]
    have hx:CT k x.1=true:=by
     rw [<- hs.2];refine LM (h2 hs.1) λe=>hk ?_;rw [e];exact hs.2
    rw [Wf h3 rfl hx];rfl
   ·rw [if_neg hs]
theorem PJ {a b:List AD} (va:VL a) (vb:VL b) (k:Gu) : ∀ {n:Nat},n<=a.length+b.length->Bi (Ar a b n) k=(Bi (a.take (Ag a b n).1) k).or (Bi (b.take (Ag a b n).2) k)
 | 0,_=>rfl
 | n+1,h=>by
  have ih:=PJ va vb k (n:=n) (by omega);obtain ⟨hI,hs⟩:=Ee va vb (n:=n) (by omega);obtain ⟨x,hx,_⟩:=Dv va vb (n:=n) (by omega);rw [FY va vb hx,MV,ih,Ig];unfold Nm at hx;rw [show Ag a b (n+1)=if HK a b (Ag a b n).1 (Ag a b n).2=true then ((Ag a b n).1+1,(Ag a b n).2) else ((Ag a b n).1,(Ag a b n).2+1) from rfl]
  revert hx hI;generalize (Ag a b n).1=i;generalize (Ag a b n).2=j;intro hI hx;cases g:HK a b i j with
  | true =>
   rw [if_pos g] at hx;rw [if_pos rfl];simp only;rw [List.take_add_one,hx,Option.toList_some,MV,Ig,Option.or_assoc,Option.or_assoc]
   congr 1
   by_cases hk:x.1=k
   ·rw [if_pos hk]
    have:Bi (b.take j) k=none:=Ih λy hy=>by
     obtain ⟨m,hm⟩:=List.getElem?_of_mem hy;rw [List.getElem?_take] at hm;split at hm
     ·rename_i hmj;have hjl:=hI.jb;have hb1:b[j-1]? = some b[j-1]:=List.getElem?_eq_getElem (by omega);have h1:=hI.pb (j-1) (by omega) _ x hb1 hx
      have h2:CT b[j-1].1 y.1=false:=by
       by_cases hmm:m=j-1
       ·subst hmm;rw [hb1] at hm;cases hm;exact GW _
       ·have hasc:=vb.asc
        have : ∀ d,m+d+1<=j-1 -> ∀ z,b[m+d+1]? = some z->CT y.1 z.1=true:=by
         intro d
         induction d with
         | zero=>intro _ z hz;exact vb.lt hm hz
         | succ d ihd =>
          intro hd z hz;have hz0:b[m+d+1]? = some b[m+d+1]:=List.getElem?_eq_getElem (by omega);exact E1 (ihd (by omega) _ hz0) (vb.lt hz0 hz)
        exact Cg (this (j-1-m-1) (by omega) _ (by rw [show m+(j-1-m-1)+1=j-1 by omega];exact hb1))
      intro e;have h3:CT y.1 x.1=true:=Ow h2 h1;rw [e,hk,GW] at h3;cases h3
     ·cases hm
    rw [this];rfl
   ·rw [if_neg hk];cases Bi (b.take j) k<;>rfl
  | false =>
   rw [if_neg (show ¬ HK a b i j=true by rw [g];decide)] at hx;rw [if_neg (show ¬ (false=true) by decide)];simp only;rw [List.take_add_one,hx,Option.toList_some,MV,Ig,Option.or_assoc]
theorem gQ {a b:List AD} (va:VL a) (vb:VL b) (bt:Bool) (k:Gu):Bi (Dk a b bt (a.length+b.length)).2.2.1 k=((Bi a k).or (Bi b k)).filter λx => !(bt&&x.2.2.1):=by
 have hr:=GZ va vb bt (Nat.le_refl (a.length+b.length));obtain ⟨hI,hs⟩:=Ee va vb (Nat.le_refl (a.length+b.length));show Bi (EV (s0 bt) (Ar a b (a.length+b.length))) k=_;rw [Ti k hr,if_neg (by simp),PJ va vb k (Nat.le_refl _)];rw [List.take_of_length_le (by have:=hI.ia;have:=hI.jb;omega),List.take_of_length_le (by have:=hI.ia;have:=hI.jb;omega)]
end Go.Proofs.YthpkjfabdccpdaaGreat.Pl
namespace Go.Proofs.YthpkjfabdccpdaaGreat.Pl
open Go Go.Proofs.YthpkjfabdccpdaaGreat.Sv
def MW (f:Nat->Option AD):Nat->Nat->Option AD
 | _,0=>none
 | i,m+1=>(f i).or (MW f (i+1) m)
theorem Wg (f:Nat->Option AD) : ∀ (m i:Nat),MW f (i+1) m=MW (λj=>f (j+1)) i m
 | 0,_=>rfl
 | m+1,i=>by
  show (f (i+1)).or (MW f (i+1+1) m)=(f (i+1)).or (MW (λj=>f (j+1)) (i+1) m);rw [Wg f m (i+1)]
theorem Ii {f g:Nat->Option AD} : ∀ (m i:Nat),(∀ j,i<=j->j<i+m->f j=g j)->MW f i m=MW g i m
 | 0,_,_=>rfl
 | m+1,i,h=>by
  show (f i).or (MW f (i+1) m)=(g i).or (MW g (i+1) m);rw [h i (by omega) (by omega),Ii m (i+1) λj h1 h2=>h j (by omega) (by omega)]
theorem Rw : ∀ (m i:Nat),MW (λ_=>none) i m=none
 | 0,_=>rfl
 | m+1,i=>by show (none:Option AD).or _=_;rw [Option.none_or];exact Rw m (i+1)
theorem PK (f:Nat->Option AD) : ∀ (p i q:Nat),MW f i (p+q)=(MW f i p).or (MW f (i+p) q)
 | 0,i,q=>by rw [Nat.zero_add];rfl
 | p+1,i,q=>by
  rw [show p+1+q=(p+q)+1 by omega];show (f i).or (MW f (i+1) (p+q))=((f i).or (MW f (i+1) p)).or (MW f (i+(p+1)) q);rw [PK f p (i+1) q,Option.or_assoc,show i+1+p=i+(p+1) by omega]
theorem NR (k:Gu) : ∀ (ls:List (List BH)) (K:Nat),ls.length<=K->DE (BT ls) k=MW (λj=>DE (Ak ls j).reverse k) 0 K
 | [],K,_=>by
  have:(λj=>DE (Ak [] j).reverse k)=λ_=>none:=by
   funext j;have:Ak [] j=[]:=rfl
   rw [this];rfl
  rw [this,Rw];rfl
 | rs::ls,0,h=>by simp at h
 | rs::ls,K+1,h=>by
  have e:BT (rs::ls)=rs.reverse++BT ls:=rfl;rw [e,Th,NR k ls K (by simpa using h)];show _=(DE (Ak (rs::ls) 0).reverse k).or (MW (λj=>DE (Ak (rs::ls) j).reverse k) (0+1) K);rw [Wg];rfl
theorem Xp {s:AT} (v:VSt s) (hf:g9 s.1) {n:Nat} {j:Job} (ha:JobAt s.1 n j) (h0 : ¬ 0<CR s.1 j) (hc:Ib s.1 j=true) (h5:Cy j≠[]->s.2.2<=1000000):G9 (Hk s j)=G9 s.1:=by
 have F:=aB v hf ha h0 hc h5;obtain ⟨o1,o2,o3,o4,o5⟩:=ha.out v.lev (hf n);have hj:j.1.toNat=n:=by rw [o3];simp
 obtain ⟨r0,r1,bt,m,h1,hje,hm,hbt,v0,v1⟩:=ha;have ho:=MU.1 h1
 have hl:CR s.1 j=r1.2.length+r0.2.length-m:=by
  rw [hje];unfold CR;simp only [Int.toNat_natCast,h1];show r1.2.length+r0.2.length-((m:Int)).toNat=_;rw [Int.toNat_natCast]
 have hm2:m=r1.2.length+r0.2.length:=by omega
 subst hm2
 have hout : ∀ k,Bi (Cy j) k=((Bi r1.2 k).or (Bi r0.2 k)).filter λx => !(bt&&x.2.2.1):=λk=>by
  rw [hje];exact gQ v1 v0 bt k
 refine aJ λk => ?_;have l1:=F.lev.len;have l2:=v.lev.len;rw [NR k _ 14 (by omega),NR k _ 14 (by omega)];rw [show 14=n+(1+(13-n)) by omega,PK,PK _ n 0];have hto:Nq s j=n\/Nq s j=n+1:=by unfold Nq;rw [hj];split<;>omega
 have hlow:MW (λi=>DE (Ak (Hk s j).2 i).reverse k) 0 n=MW (λi=>DE (Ak s.1.2 i).reverse k) 0 n:=Ii _ _ λi _ hi=>by
  rw [El hj,if_neg (by rintro ⟨_,h⟩;omega),if_neg (by omega)]
 rw [hlow];generalize MW (λi=>DE (Ak s.1.2 i).reverse k) 0 n=A
 have hup:MW (λi=>DE (Ak (Hk s j).2 i).reverse k) (0+n) (1+(13-n))=(Bi (Cy j) k).or (MW (λi=>DE (Ak s.1.2 i).reverse k) (n+1) (13-n)):=by
  rw [Nat.zero_add,Nat.add_comm 1];show (DE (Ak (Hk s j).2 n).reverse k).or (MW (λi=>DE (Ak (Hk s j).2 i).reverse k) (n+1) (13-n))=_;by_cases hne:Cy j=[]
  ·rw [El hj,if_neg (by simp [hne]),if_pos rfl,hne];refine congrArg _ (Ii _ _ λi hi _ => ?_);rw [El hj,if_neg (by simp [hne]),if_neg (by omega)]
  ·rcases hto with ht | ht
   ·rw [El hj,if_pos ⟨hne,ht.symm⟩,if_pos rfl]
    have e:DE (([]:List BH)++[(s.2.2,Cy j)]).reverse k=Bi (Cy j) k:=by
     show (Bi (Cy j) k).or none=_;cases Bi (Cy j) k<;>rfl
    rw [e];refine congrArg _ (Ii _ _ λi hi _ => ?_);rw [El hj,if_neg (by rintro ⟨_,h⟩;omega),if_neg (by omega)]
   ·rw [El hj,if_neg (by rintro ⟨_,h⟩;omega),if_pos rfl];have hn12:=F.to12 hne;rw [show 13-n=(12-n)+1 by omega];show (none:Option AD).or ((DE (Ak (Hk s j).2 (n+1)).reverse k).or (MW _ (n+1+1) (12-n)))=(Bi (Cy j) k).or ((DE (Ak s.1.2 (n+1)).reverse k).or (MW _ (n+1+1) (12-n)));rw [El hj,if_pos ⟨hne,ht.symm⟩,if_neg (by omega),List.reverse_append,Option.none_or];have e:DE ([(s.2.2,Cy j)].reverse++(Ak s.1.2 (n+1)).reverse) k=(Bi (Cy j) k).or (DE (Ak s.1.2 (n+1)).reverse k):=rfl;rw [e,Option.or_assoc];refine congrArg _ (congrArg _ (Ii _ _ λi hi _ => ?_));rw [El hj,if_neg (by rintro ⟨_,h⟩;omega),if_neg (by omega)]
 have hold:MW (λi=>DE (Ak s.1.2 i).reverse k) (0+n) (1+(13-n))=((Bi r1.2 k).or (Bi r0.2 k)).or (MW (λi=>DE (Ak s.1.2 i).reverse k) (n+1) (13-n)):=by
  rw [Nat.zero_add,Nat.add_comm 1];show (DE (Ak s.1.2 n).reverse k).or _=_;rw [ho];refine congrArg (λz=>Option.or z _) ?_;show (Bi r1.2 k).or ((Bi r0.2 k).or none)=_;cases Bi r0.2 k<;>rfl
 rw [hup,hold,hout k];cases bt with
 | false =>
  have:((Bi r1.2 k).or (Bi r0.2 k)).filter (λx => !(false&&x.2.2.1))=(Bi r1.2 k).or (Bi r0.2 k):=by
   cases (Bi r1.2 k).or (Bi r0.2 k)<;>simp [Option.filter]
  rw [this]
 | true =>
  have hR:MW (λi=>DE (Ak s.1.2 i).reverse k) (n+1) (13-n)=none:=by
   rw [Ii (g:=λ_=>none) _ _ λi hi _ => ?_,Rw];have:Ak s.1.2 i=[]:=by unfold Ak;rw [List.getElem?_eq_none (by have:=hbt rfl;omega)];rfl
   rw [this];rfl
  rw [hR];cases A with
  | some x=>rfl
  | none =>
   cases (Bi r1.2 k).or (Bi r0.2 k) with
   | none=>rfl
   | some x =>
    cases hd:x.2.2.1<;>simp [Option.filter,Ck,hd]
end Go.Proofs.YthpkjfabdccpdaaGreat.Pl
namespace Go.Proofs.YthpkjfabdccpdaaGreat.Pl
open Go Go.Proofs.YthpkjfabdccpdaaGreat.Sv
end Go.Proofs.YthpkjfabdccpdaaGreat.Pl
namespace Go.Proofs.YthpkjfabdccpdaaGreat.Pl
open Go Go.Proofs.YthpkjfabdccpdaaGreat.Sv
end Go.Proofs.YthpkjfabdccpdaaGreat.Pl
namespace Go.Proofs.YthpkjfabdccpdaaGreat.Pl
open Go Go.Proofs.YthpkjfabdccpdaaGreat.Sv
end Go.Proofs.YthpkjfabdccpdaaGreat.Pl
namespace Go.Proofs.YthpkjfabdccpdaaGreat.Pl
open Go Go.Proofs.YthpkjfabdccpdaaGreat.Sv
end Go.Proofs.YthpkjfabdccpdaaGreat.Pl
namespace Go.Proofs.YthpkjfabdccpdaaGreat.Pl
open Go Go.Proofs.YthpkjfabdccpdaaGreat.Sv
theorem gR (a b:Int):BC a b=decide (a≠b):=by unfold BC;by_cases h:a=b<;>simp [h]
end Go.Proofs.YthpkjfabdccpdaaGreat.Pl
namespace Go.Proofs.YthpkjfabdccpdaaGreat.Pl
open Go Go.Proofs.YthpkjfabdccpdaaGreat.Sv
theorem gS (L:AK) (hb:L.2.length<=9223372036854775807) (hr : ∀ rs∈L.2,rs.length<=9223372036854775807 /\ ∀ r∈rs,r.2.length<=9223372036854775807):CB L=some (DI L):=by
 unfold CB DI;simp only [AV,AQ];rw [BE,Aq,Aq];by_cases hB1:L.1<1
 ·rw [if_pos hB1,if_pos (.inl hB1)]
 rw [if_neg hB1];by_cases hB2:L.1>16
 ·rw [if_pos hB2,if_pos (.inr hB2)]
 rw [if_neg hB2,if_neg (show ¬ (L.1<1\/L.1>16) by omega)];by_cases hl:(L.2.length:Int)>12
 ·rw [if_pos hl,if_pos (by omega)]
 rw [if_neg hl,if_neg (by omega)];have hl2:L.2.length<=12:=by omega
 obtain ⟨T,hT⟩ : ∃ T,T=JA L.1 0 [] L.2:=⟨_,rfl⟩;rw [<- hT]
 have hlast:T=none->(br (CF (L.2.length:Int) 0) (λ_=>AU (B9 .i64 (L.2.length:Int) 1) λk15=>ix L.2 k15 λx16=>br (Ba (x16.length:Int) 0) (λ_=>some ((B9 .i64 (L.2.length:Int) 1,((0:Int),(6:Int))))) λ_=>some ((0,(0,0)))) λ_=>some ((0,(0,0))))=some (if L.2.getLast? = some [] then (((L.2.length-1:Nat):Int),(0,6)) else (0,(0,0))):=by
  intro _;rw [Aq];by_cases hn:L.2=[]
  ·rw [hn];rfl
  ·have hp:=List.length_pos_iff.2 hn;rw [if_pos (by omega),show B9 .i64 (L.2.length:Int) 1=((L.2.length-1:Nat):Int) by rw [B7 (by omega)];omega,AE,List.getLast?_eq_getElem?];have hx:L.2[L.2.length-1]? = some (L.2[L.2.length-1]'(by omega)):=by simp
   rw [AJ hx,hx,B3];by_cases he:L.2[L.2.length-1]'(by omega)=[]
   ·rw [he];simp
   ·rw [if_neg (by have:=List.length_pos_iff.2 he;omega),if_neg (by simp [he])]
 obtain ⟨r,q1,q2⟩:=FB (l:=L.2) (σ:=List Int) (s:=((0:Int),(([]:List Int),((0:Int),((0:Int),(0:Int)))))) (λi ids=>((0:Int),(ids,((0:Int),((0:Int),(i:Int))))))
  (λm i ids=>JA L.1 i ids m=T/\ids.length<=2*i) (λ(r:Nat×((Int×(List Int×(Int×(Int×Int))))×Unit))=>(r.1=1/\T=none)\/(r.1=0/\Q1 T r.2.1.1 r.2.1.2.2.1 r.2.1.2.2.2.1/\T≠none))
  (f:=λ(s0:(Int×((List Int)×(Int×(Int×Int)))))=>br (Am s0.2.2.2.2 (L.2.length:Int)) (λ_=>AU s0.2.2.2.2 λk1=>ix L.2 k1 λx2=>br (CF (x2.length:Int) 2) (λ_=>some (.dn ((0,((0,(s0.2.1,(s0.2.2.2.2,(3,s0.2.2.2.2)))),()))))) λ_=>bd (loop (λ(s3:(Int×((List Int)×(Int×(Int×Int)))))=>br (Am s3.2.2.2.2 (x2.length:Int)) (λ_=>AU s3.2.2.2.2 λk4=>ix x2 k4 λx5=>bd (Ct (L.1,s0.2.2.2.2)) λr6=>bd (Cu ((x5,(r6,s3.2.1)))) λr7=>br (BC r7 0) (λ_=>some (.dn ((0,((s3.2.2.2.2,(s3.2.1,(s0.2.2.2.2,(r7,s3.2.2.2.2)))),()))))) λ_=>AU s3.2.2.2.2 λk8=>ix x2 k8 λx9=>gd (BZ (A2 s3.2.1.length [x9.1].length) 1048576) λ_=>some (.nx ((s3.1,(CG s3.2.1 [x9.1],(s3.2.2.1,(s3.2.2.2.1,AH .i64 s3.2.2.2.2 1))))))) λ_=>some (.dn ((1,(s3,()))))) ((s0.1,(s0.2.1,(s0.2.2.1,(s0.2.2.2.1,0)))))) λr10=>br (neq r10.1 0) (λ_=>some (.dn ((0,((r10.2.1.1,(r10.2.1.2.1,(r10.2.1.2.2.1,(r10.2.1.2.2.2.1,s0.2.2.2.2)))),()))))) λ_=>some (.nx ((r10.2.1.1,(r10.2.1.2.1,(r10.2.1.2.2.1,(r10.2.1.2.2.2.1,AH .i64 s0.2.2.2.2 1))))))) λ_=>some (.dn ((1,(s0,())))))
  [] rfl (by omega) ⟨hT.symm,by simp⟩ (λids h=>by
   refine ⟨_,by simp only;rw [re];rfl,.inl ⟨rfl,?_⟩⟩;rw [<- h.1];rfl) (λi rs m ids hd hx hi h=>by
   obtain ⟨h,hids⟩:=h;simp only;obtain ⟨hrs1,hrs2⟩:=hr rs (List.mem_of_getElem? hx);rw [rl hi,AM,AE,AJ hx,Aq];unfold JA at h;by_cases h3:rs.length>2
   ·rw [if_pos (by omega)];rw [if_pos h3] at h;refine .inr ⟨_,rfl,.inr ⟨rfl,?_,by rw [<- h];simp⟩⟩;rw [<- h];exact ⟨rfl,rfl,rfl⟩
   rw [if_neg (by omega)];rw [if_neg h3] at h;obtain ⟨U,hU⟩ : ∃ U,U=I9 (B4 L.1 i) 0 ids rs:=⟨_,rfl⟩;rw [<- hU] at h
   obtain ⟨r,q1,q2⟩:=FB (l:=rs) (σ:=Unit) (s:=((0:Int),(ids,((0:Int),((0:Int),(0:Int)))))) (λk _=>((0:Int),(ids++(rs.take k).map (·.1),((0:Int),((0:Int),(k:Int))))))
    (λm k _=>I9 (B4 L.1 i) k (ids++(rs.take k).map (·.1)) m=U) (λ(r:Nat×((Int×(List Int×(Int×(Int×Int))))×Unit))=>(r.1=1/\U=none/\r.2.1=(0,(ids++rs.map (·.1),(0,(0,(rs.length:Int))))))\/(r.1=0 /\ ∃ k e,U=some (k,e)/\r.2.1.1=(k:Int)/\r.2.1.2.2.1=(i:Int)/\r.2.1.2.2.2.1=e))
    (f:=λ(s3:(Int×((List Int)×(Int×(Int×Int)))))=>br (Am s3.2.2.2.2 (rs.length:Int)) (λ_=>AU s3.2.2.2.2 λk4=>ix rs k4 λx5=>bd (Ct (L.1,(i:Int))) λr6=>bd (Cu ((x5,(r6,s3.2.1)))) λr7=>br (BC r7 0) (λ_=>some (.dn ((0,((s3.2.2.2.2,(s3.2.1,((i:Int),(r7,s3.2.2.2.2)))),()))))) λ_=>AU s3.2.2.2.2 λk8=>ix rs k8 λx9=>gd (BZ (A2 s3.2.1.length [x9.1].length) 1048576) λ_=>some (.nx ((s3.1,(CG s3.2.1 [x9.1],(s3.2.2.1,(s3.2.2.2.1,AH .i64 s3.2.2.2.2 1))))))) λ_=>some (.dn ((1,(s3,())))))
    () (by simp) (by omega) (by simp [hU]) (λ_ h=>by
     refine ⟨_,by simp only;rw [re];rfl,.inl ⟨rfl,by rw [<- h];rfl,by simp⟩⟩) (λk r m _ hd hx hk h=>by
     simp only;have hr2:=hrs2 r (List.mem_of_getElem? hx);have htk:(rs.take (k+1)).map (·.1)=(rs.take k).map (·.1)++[r.1]:=by rw [List.take_add_one,hx];simp
     have hlen:(ids++(rs.take k).map (·.1)).length<=100:=by simp;omega
     rw [rl hk,AM,AE,AJ hx,TN (by omega) (by omega) (by omega),AB,TP _ _ _ (by omega) (by omega),AB,AS];unfold I9 at h;by_cases h0:kR (ids++(rs.take k).map (·.1)) (B4 L.1 i) r=0
     ·rw [if_neg (λhh:kR (ids++(rs.take k).map (·.1)) (B4 L.1 i) r≠0=>hh h0)] at h;rw [if_pos h0,AE,AJ hx,Bj (by simp only [A2,List.length_cons,List.length_nil];omega)];refine .inl ⟨(),?_,?_⟩
      ·rw [Al hx (by omega),htk,<- List.append_assoc];rfl
      ·rw [htk,<- List.append_assoc];exact h
     ·rw [if_pos h0] at h;rw [if_neg h0]
      exact .inr ⟨_,rfl,.inr ⟨rfl,_,_,h.symm,rfl,rfl,rfl⟩⟩)
   rw [q1,AB,CH];rcases q2 with ⟨q2,q3,q4⟩ | ⟨q2,k,e,q3,q4,q5,q6⟩
   ·rw [if_neg (show ¬ r.1=0 by omega),q4,Al hx (by omega)];rw [q3] at h;exact .inl ⟨ids++rs.map (·.1),rfl,h,by simp;omega⟩
   ·rw [if_pos q2];rw [q3] at h;refine .inr ⟨_,rfl,.inr ⟨rfl,?_,by rw [<- h];simp⟩⟩;rw [<- h]
    exact ⟨q4,q5,q6⟩)
 refine BF q1 ?_;rw [CH];rcases q2 with ⟨q2,q3⟩ | ⟨q2,q3,q4⟩
 ·rw [if_neg (show ¬ r.1=0 by omega),q3];exact hlast q3
 ·rw [if_pos q2];cases hTc:T with
  | none=>exact absurd hTc q4
  | some t =>
   obtain ⟨i,k,e⟩:=t;rw [hTc] at q3;rw [q3.1,q3.2.1,q3.2.2]
theorem Rx (s:AT) (hb:s.1.2.length<=9223372036854775807) (hr : ∀ rs∈s.1.2,rs.length<=9223372036854775807 /\ ∀ r∈rs,r.2.length<=9223372036854775807) (hj:s.2.1.length<=9223372036854775807):CX s=some (BB s):=by
 unfold CX BB;simp only [AV,AQ];rw [gS _ hb hr,AB,B3];by_cases h0:(DI s.1).2.2=0;rotate_left
 ·rw [if_neg h0,if_pos h0,B3,if_neg h0,AS,if_neg h0]
 rw [if_pos h0,if_neg (show ¬ (DI s.1).2.2≠0 by simp [h0]),BE,Aq];have v:=Ff.1 h0;by_cases h1:s.2.2<1
 ·rw [if_pos h1,if_pos (.inl h1)]
 rw [if_neg h1];by_cases h2:s.2.2>1000001
 ·rw [if_pos h2,if_pos (.inr h2)]
 rw [if_neg h2,if_neg (show ¬ (s.2.2<1\/s.2.2>1000001) by omega),B3,if_pos h0,MO v,AB,Zj];by_cases h3:s.2.2<=EL s.1.2
 ·rw [if_pos h3,if_pos h3]
 rw [if_neg h3,if_neg h3,AS,if_pos h0,WW (by have:=v.len;omega),AB];obtain ⟨due,hdue⟩ : ∃ due,due=A5 0 s.1.2:=⟨_,rfl⟩;have hdl:due.length<=12:=by have:=Fg s.1.2 0;have:=v.len;rw [hdue];omega
 rw [<- hdue];obtain ⟨T,hT⟩ : ∃ T,T=Dw s.1 due 0 s.2.1:=⟨_,rfl⟩;rw [<- hT]
 obtain ⟨r,q1,q2⟩:=FB (l:=s.2.1) (σ:=Unit) (λi _=>((0:Int),((0:Int),(i:Int)))) (λjs i _=>Dw s.1 due i js=T) (λ(r:Nat×((Int×(Int×Int))×Unit))=>(T=none/\r.1=1)\/(∃ i:Nat,T=some i/\r.1=0/\r.2.1.1=6/\r.2.1.2.1=(i:Int)))
  (f:=λs6=>br (Am s6.2.2 (s.2.1.length:Int)) (λ_=>AU s6.2.2 λk7=>ix s.2.1 k7 λx8=>br (Hj s6.2.2 (due.length:Int)) (λ_=>some (.dn ((0,((6,(s6.2.2,s6.2.2)),()))))) λ_=>AU s6.2.2 λk9=>ix due k9 λx10=>br (BC x8.1 x10) (λ_=>some (.dn ((0,((6,(s6.2.2,s6.2.2)),()))))) λ_=>br x8.2.2.1.2.2 (λ_=>bd (Bp (s.1,x8.1)) λr11=>br (AX r11) (λ_=>some (.dn ((0,((6,(s6.2.2,s6.2.2)),()))))) λ_=>bd (A0 ((s.1,(x8.1,x8.2.2.1.2.2)))) λr12=>bd (A7 r12.2) λr13=>br (Am x8.2.2.2.2 0) (λ_=>some (.dn ((0,((6,(s6.2.2,s6.2.2)),()))))) λ_=>br (CF x8.2.2.2.2 r13.1) (λ_=>some (.dn ((0,((6,(s6.2.2,s6.2.2)),()))))) λ_=>bd (BJ (r12.2,x8.2.2.2.2)) λr14=>bd (BK (r14.1,x8.2)) λr15=>br (AX r15) (λ_=>some (.dn ((0,((6,(s6.2.2,s6.2.2)),()))))) λ_=>some (.nx ((s6.1,(s6.2.1,AH .i64 s6.2.2 1))))) λ_=>bd (A0 ((s.1,(x8.1,x8.2.2.1.2.2)))) λr16=>bd (A7 r16.2) λr17=>br (Am x8.2.2.2.2 0) (λ_=>some (.dn ((0,((6,(s6.2.2,s6.2.2)),()))))) λ_=>br (CF x8.2.2.2.2 r17.1) (λ_=>some (.dn ((0,((6,(s6.2.2,s6.2.2)),()))))) λ_=>bd (BJ (r16.2,x8.2.2.2.2)) λr18=>bd (BK (r18.1,x8.2)) λr19=>br (AX r19) (λ_=>some (.dn ((0,((6,(s6.2.2,s6.2.2)),()))))) λ_=>some (.nx ((s6.1,(s6.2.1,AH .i64 s6.2.2 1))))) λ_=>some (.dn ((1,(s6,())))))
  (s:=(0,(0,0))) () rfl (by omega) hT.symm (λ_ h=>by
   refine ⟨_,by simp only;rw [re];rfl,.inl ⟨by rw [<- h];rfl,rfl⟩⟩) (λi j js _ hd hx hi h=>by
   simp only;rw [rl hi,AM,AE,AJ hx,Fe];unfold Dw at h
   have hbad:IC s.1 due i j=true -> ∃ r:Nat×((Int×(Int×Int))×Unit),(some (LR.dn ((0,((6,((i:Int),(i:Int))),()))):LR (Int×(Int×Int)) _))=some (.dn r)/\((T=none/\r.1=1)\/(∃ i:Nat,T=some i/\r.1=0/\r.2.1.1=6/\r.2.1.2.1=(i:Int))):=λhb=>by
    rw [if_pos hb] at h;exact ⟨_,rfl,.inr ⟨i,h.symm,rfl,rfl,rfl⟩⟩
   have hgood:IC s.1 due i j=false -> ∃ st':Unit,(some (LR.nx ((0:Int),((0:Int),AH .i64 (i:Int) 1))):Option (LR _ (Nat×((Int×(Int×Int))×Unit))))=some (.nx ((0:Int),((0:Int),((i+1:Nat):Int))))/\Dw s.1 due (i+1) js=T:=λhg=>by
    rw [if_neg (by simp [hg])] at h;exact ⟨(),by rw [Al hx (by omega)],h⟩
   by_cases h1:(i:Int)>=(due.length:Int)
   ·rw [if_pos h1];exact .inr (hbad (by unfold IC;rw [List.getElem?_eq_none (by omega)]))
   rw [if_neg h1,AE];have hd2:due[i]? = some (due[i]'(by omega)):=by simp
   rw [AJ hd2,AS];obtain ⟨n,hn,r0,r1,hlv⟩:=Ga (ls:=s.1.2) (i:=0) (k:=i) (d:=due[i]'(by omega)) (by rw [<- hdue];exact hd2);rw [Nat.zero_add] at hn
   have hE:IC s.1 due i j=(if j.1≠(due[i]'(by omega)) then true else if j.2.2.1.2.2=true/\j.1≠(s.1.2.length:Int)-1 then true else if j.2.2.2.2<0\/j.2.2.2.2>((r1.2.length+r0.2.length:Nat):Int) then true else decide (Dk r1.2 r0.2 j.2.2.1.2.2 j.2.2.2.2.toNat≠j.2)):=by
    unfold IC;rw [hd2];simp only;rw [hn,Int.toNat_natCast,hlv]
   by_cases h2:j.1=(due[i]'(by omega));rotate_left
   ·rw [if_neg h2];exact .inr (hbad (by rw [hE,if_pos h2]))
   rw [if_pos h2];rw [if_neg (by simp [h2])] at hE;have hjn:j.1=(n:Int):=by rw [h2,hn]
   have hv:=(v.lev n _ hlv).2;have v0:=(hv r0 (by simp)).vl;have v1:=(hv r1 (by simp)).vl;have hnl:=(List.getElem?_eq_some_iff.1 hlv).1;rw [hjn,PB v hnl,AB,CW,Cn,WX hlv v0 v1,Fo];rw [hjn] at hE;by_cases h3:j.2.2.1.2.2=true/\(n:Int)≠(s.1.2.length:Int)-1
   ·rw [if_pos h3.1,if_pos h3.2];exact .inr (hbad (by rw [hE,if_pos h3]))
   rw [if_neg h3] at hE
   have h4 : ∀ {γ:Type} (A B:γ),(if j.2.2.1.2.2=true then if ¬(n:Int)=(s.1.2.length:Int)-1 then A else B else B)=B:=by
    intro γ A B;by_cases h5:j.2.2.1.2.2=true
    ·rw [if_pos h5,if_neg (λh6=>h3 ⟨h5,h6⟩)]
    ·rw [if_neg h5]
   rw [h4];by_cases h5:j.2.2.2.2<0\/j.2.2.2.2>((r1.2.length+r0.2.length:Nat):Int)
   ·rw [if_pos h5];exact .inr (hbad (by rw [hE,if_pos h5]))
   rw [if_neg h5];rw [if_neg h5] at hE;by_cases h6:Dk r1.2 r0.2 j.2.2.1.2.2 j.2.2.2.2.toNat=j.2
   ·rw [if_pos h6];exact .inl (hgood (by rw [hE];simp [h6]))
   ·rw [if_neg h6]
    exact .inr (hbad (by rw [hE];simp [h6])))
 refine BF q1 ?_;rw [CH];rcases q2 with ⟨q2,q3⟩ | ⟨i,q2,q3,q4,q5⟩
 ·rw [if_neg (show ¬ r.1=0 by omega),q2,BE];simp only;by_cases h7:s.2.1.length<due.length
  ·rw [if_pos (by omega),if_pos h7]
  ·rw [if_neg (by omega),if_neg h7]
 ·rw [if_pos q3,q2,q4,q5]
end Go.Proofs.YthpkjfabdccpdaaGreat.Pl
namespace Go.Proofs.YthpkjfabdccpdaaGreat.Pl
open Go Go.Proofs.YthpkjfabdccpdaaGreat.Sv
theorem PL (x:AD) : ∀ l:List AD,(En l x).length<=l.length+1
 | []=>by unfold En;simp
 | y::l=>by
  unfold En;have:=PL x l;split
  ·simp;omega
  ·split<;>simp
theorem Qh {α:Type} (l:List α) (k:Nat):Cs l 0 k=l.take k:=by unfold Cs;simp
theorem Qi {α:Type} (l:List α) (k:Nat):Cs l k l.length=l.drop k:=by
 unfold Cs;rw [List.take_of_length_le (by simp)]
theorem im (l:List AD) (x:AD) (hl:l.length<=1000000):Fj (l,x)=some (En l x):=by
 unfold Fj;simp only [AV,AQ]
 obtain ⟨r,q1,q2⟩:=FB (l:=l) (σ:=Unit) (λk _=>(k:Int)) (λm k _=>En l x=l.take k++En m x) (λ(r:Nat×(Int×Unit)) => ∃ k:Nat,r.2.1=(k:Int)/\k<=l.length/\En l x=l.take k++En (l.drop k) x /\ ∀ y,l[k]? = some y->CT y.1 x.1=false)
  (f:=λs0=>br (Am s0 (l.length:Int)) (λ_=>AU s0 λk1=>ix l k1 λx2=>br (CT x2.1 x.1) (λ_=>some (.nx (AH .i64 s0 1))) λ_=>some (.dn ((0,(s0,()))))) λ_=>some (.dn ((0,(s0,())))))
  (s:=(0:Int)) () rfl (by omega) rfl (λ_ h=>by
   refine ⟨(0,((l.length:Int),())),by rw [re];rfl,l.length,rfl,Nat.le_refl _,by rw [h];simp,λy hy=>by simp at hy⟩) (λk y m _ hd hx hk h=>by
   rw [rl hk,AM,AE,AJ hx,F7];unfold En at h;by_cases hs:CT y.1 x.1=true
   ·rw [if_pos hs,Ab (by omega)];rw [if_pos hs] at h;refine .inl ⟨(),rfl,?_⟩
    conv=>lhs;unfold En
    rw [h,List.take_add_one,hx];simp
   ·rw [if_neg hs];refine .inr ⟨_,rfl,k,rfl,by omega,?_,λz hz=>by rw [hx] at hz;cases hz;simpa using hs⟩;rw [hd]
    conv=>lhs;unfold En
    conv=>rhs;unfold En
    exact h)
 rw [q1,AB];obtain ⟨k,e,hk,ha,hy⟩:=q2;have g1 : ∀ {β:Type} (c:Unit->Option β),gd (BZ (l.take k).length 1048576) c=c ():=λc=>Bj (by simp;omega) c;have g2 : ∀ {β:Type} (c:Unit->Option β),gd (BZ (A2 (l.take k).length [x].length) 1048576) c=c ():=λc=>Bj (by simp [A2];omega) c;have g3 : ∀ {β:Type} (c:Unit->Option β),gd (BZ (A2 (CG (l.take k) [x]).length (l.drop k).length) 1048576) c=c ():=λc=>Bj (by simp [A2,CG];omega) c;rw [e];by_cases h:k<l.length
 ·have hx:l[k]? = some l[k]:=List.getElem?_eq_getElem h;have hs:=hy _ hx;have hdr:l.drop k=l[k]::l.drop (k+1):=List.drop_eq_getElem_cons h
  have hA:En (l.drop k) x=if l[k].1=x.1 then l.drop k else x::l.drop k:=by
   rw [hdr]
   conv=>lhs;unfold En
   rw [if_neg (by rw [hs];simp)]
  rw [rl h,AM,AE,AJ hx,EO,ha,hA];by_cases h2:l[k].1=x.1
  ·rw [if_pos h2,if_pos h2,List.take_append_drop]
  ·rw [if_neg h2,if_neg h2,AE,Bj hk,Bj (by omega),Qh,g1,g2,AE,Bj (by omega),Bj hk,Qi,g3];unfold CG;simp
 ·have hkl:k=l.length:=by omega
  subst hkl;rw [re,Ap,ha,AE,Bj hk,Bj (by omega),Qh,g1,g2,AE,Bj (by omega),Bj hk,Qi,g3];simp [CG,En]
theorem NS : ∀ (m l:List AD),(m.foldl En l).length<=l.length+m.length
 | [],l=>by simp
 | x::m,l=>by
  have h1:=NS m (En l x);have h2:=PL x l;simp only [List.foldl_cons,List.length_cons];omega
theorem PM : ∀ (rs:List BH) (l:List AD),(NQ rs l).length<=l.length+D0 rs
 | [],l=>by simp [NQ,D0]
 | r::rs,l=>by
  have h1:=PM rs (r.2.foldl En l);have h2:=NS r.2 l;rw [Fl];show (NQ rs (r.2.foldl En l)).length<=_;omega
theorem io {R:List BH} {i:Nat} {r:BH} (hi:R[i]? = some r) {out:List AD} (hl:out.length+r.2.length<=500000):loop (λ(s2:BH)=>AU (i:Int) λk3=>ix R k3 λx4=>br (Am s2.1 (x4.2.length:Int)) (λ_=>AU (i:Int) λk5=>ix R k5 λx6=>AU s2.1 λk7=>ix x6.2 k7 λx8=>bd (Fj (s2.2,x8)) λr9=>some (.nx (AH .i64 s2.1 1,r9))) λ_=>some (.dn (((0:Nat),(s2,()))))) ((0:Int),out)=some (0,(((r.2.length:Int),r.2.foldl En out),())):=by
 refine DB (l:=r.2) (σ:=List AD) (λk o=>((k:Int),o)) (λls _ o=>o.length+ls.length<=500000) (λls _ o=>(0,(((r.2.length:Int),ls.foldl En o),()))) out rfl (by omega) hl (λo h => ?_) (λk x ls o hd hx hk h => ?_)
 ·simp only;rw [AE,AJ hi,re];rfl
 ·have:=PL x o;simp only [List.length_cons] at h;refine ⟨En o x,?_,by omega,rfl⟩;simp only;rw [AE,AJ hi,rl hk,AM,AE,AJ hi,AE,AJ hx,im _ _ (by omega),AB,Ab (by omega)]
theorem aK {L:AK} (v:VLev L):Fk L=some (G9 L):=by
 obtain ⟨f1,f2⟩:=LX v;obtain ⟨c1,c2⟩:=JF L.2;unfold Fk;simp only [AV,AQ];rw [PA v,AB];refine BF (DB (l:=BT L.2) (σ:=List AD) (s:=(([]:List AD),(0:Int))) (λi o=>(o,(i:Int))) (λls _ o=>o.length+D0 ls<=500000) (λls _ o=>(0,((NQ ls o,((BT L.2).length:Int)),()))) [] rfl (by omega) (by simp;omega) (λo h => ?_) (λi r ls o hd hi hk h => ?_)) ?_
 ·simp only;rw [re];rfl
 ·rw [Fl] at h;have h2:=NS r.2 o;refine ⟨r.2.foldl En o,?_,by omega,rfl⟩;simp only;rw [rl hk,AM];refine BF (io hi (by omega)) ?_;rw [Ab (by omega)]
 ·have hlen:=PM (BT L.2) [];simp only [List.length_nil,Nat.zero_add] at hlen;dsimp only;generalize hA:NQ (BT L.2) []=A at hlen;have hL:G9 L=A.filter Ck:=by unfold G9;rw [hA]
  rw [hL];refine BF (DB (l:=A) (σ:=List AD) (s:=((0:Int),([]:List AD))) (λk o=>((k:Int),o)) (λls k o=>o.length<=k/\o++ls.filter Ck=A.filter Ck) (λ_ _ _=>(0,(((A.length:Int),A.filter Ck),()))) [] rfl (by omega) ⟨by simp,rfl⟩ (λo h => ?_) (λk x ls o hd hx hk h => ?_)) rfl
  ·simp only;rw [re,Ap,<- h.2];simp
  ·obtain ⟨h1,h2⟩:=h;rw [List.filter_cons] at h2;simp only;rw [rl hk,AM,AE,AJ hx];cases hb:x.2.2.1 with
   | true =>
    have:Ck x=false:=by unfold Ck;rw [hb];rfl
    rw [this] at h2;refine ⟨o,?_,⟨by omega,by simpa using h2⟩,trivial⟩;rw [NE,Ap,Ab (by omega)]
   | false =>
    have:Ck x=true:=by unfold Ck;rw [hb];rfl
    rw [this] at h2;refine ⟨o++[x],?_,⟨by simp;omega,by simpa using h2⟩,trivial⟩;rw [Zl,AM,AE,AJ hx,Bj (by simp [A2];omega),Ab (by omega)];rfl
end Go.Proofs.YthpkjfabdccpdaaGreat.Pl
namespace Go.Proofs.YthpkjfabdccpdaaGreat.Pl
open Go Go.Proofs.YthpkjfabdccpdaaGreat.Sv
def Gd (s0 s:AT):Prop:=VSt s/\G9 s.1=G9 s0.1/\D0 s.1.2.flatten<=2000
theorem gT {l:List BH} {r:BH} (h:r∈l):r.2.length<=D0 l:=by
 induction l with
 | nil=>cases h
 | cons x l ih =>
  rw [Fl];rcases List.mem_cons.1 h with e | h
  ·rw [e];omega
  ·have:=ih h;omega
theorem gU {L:AK} (h:D0 L.2.flatten<=2000):g9 L:=λi r hr=>by
 have:=gT (PG.2 ⟨i,hr⟩);omega
theorem aL {s:AT} (v:VSt s) (hf:g9 s.1) {n:Nat} {j:Job} (ha:JobAt s.1 n j) (h0 : ¬ 0<CR s.1 j):D0 (Hk s j).2.flatten<=D0 s.1.2.flatten:=by
 obtain ⟨o1,o2,o3,o4,o5⟩:=ha.out v.lev (hf n);have hj:j.1.toNat=n:=by rw [o3];simp
 have hfn:=hf n;obtain ⟨r0,r1,bt,k,h1,hje,hk,hb,v0,v1⟩:=ha;have ho:=MU.1 h1;rw [ho] at hfn;have f0:=hfn r0 (by simp);have f1:=hfn r1 (by simp)
 have hout:(Cy j).length<=r1.2.length+r0.2.length:=by
  rw [hje];exact (aA v1 v0 bt hk (by omega)).2
 obtain ⟨p,q,f1,f2⟩:=If s.1 n []
 have e1:D0 s.1.2.flatten=D0 p+((r0.2.length+r1.2.length)+D0 q):=by
  rw [f1,ho,Em,Em,Fl,Fl];simp [D0]
 have e2:D0 (Cq s.1 n []).2.flatten=D0 p+D0 q:=by rw [f2,Em,Em];simp [D0]
 unfold Hk;rw [hj];by_cases hne:Cy j=[]
 ·rw [if_pos hne];omega
 ·rw [if_neg hne];obtain ⟨p',q',g1,g2⟩:=If (Cq s.1 n []) (Nq s j) (Ak (Cq s.1 n []).2 (Nq s j)++[(s.2.2,Cy j)]);have e3:D0 (Cq s.1 n []).2.flatten=D0 p'+(D0 (Ak (Cq s.1 n []).2 (Nq s j))+D0 q'):=by rw [g1,Em,Em]
  rw [g2,Em,Em,Em,Fl];simp only [D0,List.map_nil,List.sum_nil];simp only [D0] at e3 e2 e1;omega
theorem Wh {s:AT} (v:VSt s) {d:Int} (h:d∈A5 0 s.1.2) : ∃ (i:Nat) (j:Job) (n:Nat),Rq d 0 (A5 0 s.1.2)=some i/\s.2.1[i]? = some j/\d=(n:Int)/\j.1=(n:Int)/\JobAt s.1 n j:=by
 obtain ⟨i,hi⟩:=WY (k:=0) h;obtain ⟨j,n,a,b,c,d,_⟩:=v.at hi;exact ⟨i,j,n,hi,a,b,c,d⟩
theorem Qj {s0 s:AT} (g:Gd s0 s) {d:Int} (h:d∈A5 0 s.1.2) : ∃ (c:Bool) (t:AT) (b:Bool) (e:Int),BU (s,d)=some (c,0)/\BS (s,d)=some (t,(b,e))/\(s.2.2<=1000000->c=decide (e=0))/\(e=0->Gd s0 t):=by
 obtain ⟨v,hl,hc⟩:=g;have hf:=gU hc;have m:=v.sm;obtain ⟨i,j,n,hi,hj,hd,hjn,ha⟩:=Wh v h;have hz:(BB s).2=0:=C4.2 v;have hat:ec s d=some j:=by unfold ec;rw [hi];exact hj
 have hcan:BU (s,d)=some (Ib s.1 j,0):=by
  rw [Z4 m];unfold Rs;rw [if_neg (by simp [hz]),hat]
 have hstep:BS (s,d)=some (PI s j):=by
  rw [gL m hf];unfold aD;rw [if_neg (by simp [hz]),hat]
 refine ⟨Ib s.1 j,(PI s j).1,(PI s j).2.1,(PI s j).2.2,hcan,hstep,?_⟩;unfold PI;by_cases h1:Ib s.1 j=false
 ·rw [if_pos h1,h1];exact ⟨λ_=>by simp,λh=>by cases h⟩
 have h1':Ib s.1 j=true:=by simpa using h1
 rw [if_neg h1];by_cases h2:0<CR s.1 j
 ·rw [if_pos h2];refine ⟨λ_=>by simp [h1'],λ_=>⟨aH v (by rw [hjn,<- hd];exact hi) hj ha h2,hl,hc⟩⟩
 rw [if_neg h2];unfold Qf;rw [if_neg (λh=>h.elim h2 h1)];by_cases h3:s.2.2>1000000/\Cy j≠[]
 ·rw [if_pos h3];exact ⟨λh=>by omega,λh=>by cases h⟩
 rw [if_neg h3]
 have h5:Cy j≠[]->s.2.2<=1000000:=λho=>by
  by_cases h6:s.2.2>1000000
  ·exact absurd ⟨h6,ho⟩ h3
  ·omega
 refine ⟨λ_=>by simp [h1'],λ_=>⟨aG v hf ha h2 h1' h5,?_,?_⟩⟩
 ·exact (Xp v hf ha h2 h1' h5).trans hl
 ·have:=aL v hf ha h2;show D0 (Hk s j).2.flatten<=2000;omega
theorem Tj : ∀ (ls:List (List BH)) (i:Nat),(A5 i ls).Pairwise (· < ·)
 | [],_ => .nil
 | rs::ls,i=>by
  have h1:=Tj ls (i+1);have h2:=(NP ls (i+1)).2;rw [Hf];split
  ·refine List.pairwise_cons.2 ⟨λd hd => ?_,h1⟩;have:=h2 d hd;omega
  ·exact h1
theorem Wi : ∀ {ls:List (List BH)} {i n:Nat},(Ak ls n).length=2->((i+n:Nat):Int)∈A5 i ls
 | [],i,n,h=>by simp [Ak] at h
 | rs::ls,i,0,h=>by
  have h':rs.length=2:=h;rw [Hf,if_pos h'];simp
 | rs::ls,i,n+1,h=>by
  rw [Hf];refine List.mem_append_right _ ?_;have:=Wi (ls:=ls) (i:=i+1) (n:=n) h
  rwa [show i+1+n=i+(n+1) by omega] at this
theorem Xq {s:AT} (v:VSt s) {k:Nat} {d:Int} (hk:(A5 0 s.1.2)[k]? = some d) (hl:k+1=(A5 0 s.1.2).length) (h11:d<11):BU (s,d)=some (true,0):=by
 have m:=v.sm;have hmem:=List.mem_of_getElem? hk;obtain ⟨i,j,n,hi,hj,hd,hjn,ha⟩:=Wh v hmem;have hz:(BB s).2=0:=C4.2 v;have hat:ec s d=some j:=by unfold ec;rw [hi];exact hj
 have hcan:Ib s.1 j=true:=by
  have h2:=(v.lev.own (n+1)).1
  have h3 : ¬ (Ak s.1.2 (n+1)).length=2:=λh=>by
   have hm:=Wi (i:=0) h;obtain ⟨q,hq⟩:=List.getElem?_of_mem hm;have hp:=Tj s.1.2 0;rw [List.pairwise_iff_getElem] at hp;obtain ⟨hq1,hq2⟩:=List.getElem?_eq_some_iff.1 hq;obtain ⟨hk1,hk2⟩:=List.getElem?_eq_some_iff.1 hk;by_cases hqk:q=k
   ·subst hqk;rw [hq2] at hk2;omega
   ·have:=hp q k hq1 hk1 (by omega);rw [hq2,hk2] at this;omega
  have hr:MP s.1 (j.1.toNat+1)=true:=by
   unfold MP;rw [hjn,Int.toNat_natCast];have h4:((s.1.2[n+1]?).getD []).length=(Ak s.1.2 (n+1)).length:=rfl;rw [h4];exact decide_eq_true ⟨by omega,by omega⟩
  unfold Ib;rw [hr];simp
 rw [Z4 m];unfold Rs;rw [if_neg (by simp [hz]),hat];show some (Ib s.1 j,(0:Int))=_;rw [hcan]
end Go.Proofs.YthpkjfabdccpdaaGreat.Pl
namespace Go.Proofs.YthpkjfabdccpdaaGreat.Pl
open Go Go.Proofs.YthpkjfabdccpdaaGreat.Sv
theorem ip {a:Int} (h : -9223372036854775808<=a/\a<=9223372036854775807):fJ .i64 a=a:=by
 have:=D8 (a:=a) (b:=0) (by omega);unfold AH at this;rw [Int.add_zero] at this;exact this
theorem Xr {s0:AT} {B:Int} {ls:List (List BH)} {js:List Job} {nx:Int} (g:Gd s0 ((B,ls),(js,nx))) {w:List Int} {k:Nat} {x:Int} (hx:w[k]? = some x) (h0:0<=x/\x<=255) (hj:js≠[]) (hk:k<1000) : ∃ t:AT,Gd s0 t /\
  (AU (k:Int) λk10=>ix w k10 λx11=>gd (BC (js.length:Int) 0) λ_=>AU (SW .i64 (fJ .i64 x11) (js.length:Int)) λk12=>ix js k12 λx13=>bd (BU (((B,ls),(js,nx)),x13.1)) λr14=>bd (BS (((B,ls),(js,nx)),x13.1)) λr15=>br (BC r14.2 0) (λ_=>some (.dn (((0:Nat),((false,((k:Int),(B,(ls,(js,nx))))),()))))) λ_=>br (AX (beq r14.1 (Ba r15.2.2 0))) (λ_=>br (Vz nx 1000000) (λ_=>some (.dn (((0:Nat),((false,((k:Int),(B,(ls,(js,nx))))),()))))) λ_=>br (Ba r15.2.2 0) (λ_=>some (.nx ((false,(AH .i64 (k:Int) 1,(r15.1.1.1,(r15.1.1.2,r15.1.2))))))) λ_=>some (.nx ((false,(AH .i64 (k:Int) 1,(B,(ls,(js,nx)))))))) λ_=>br (Ba r15.2.2 0) (λ_=>some (.nx ((false,(AH .i64 (k:Int) 1,(r15.1.1.1,(r15.1.1.2,r15.1.2))))))) λ_=>some (.nx ((false,(AH .i64 (k:Int) 1,(B,(ls,(js,nx))))))))
  = some (LR.nx (false,(((k+1:Nat):Int),(t.1.1,(t.1.2,t.2))))):=by
 have hp:=List.length_pos_iff.2 hj;obtain ⟨a,rfl⟩ : ∃ a:Nat,x=(a:Int):=⟨x.toNat,by omega⟩;have hlt:a % js.length<js.length:=Nat.mod_lt _ hp;have hy:js[a % js.length]? = some js[a % js.length]:=List.getElem?_eq_getElem hlt
 have hd:(js[a % js.length]).1∈A5 0 ls:=by
  have:=g.1.due;show _∈A5 0 ((B,ls),(js,nx)).1.2;rw [<- this];exact List.mem_map.2 ⟨_,List.getElem_mem hlt,rfl⟩
 obtain ⟨c,t,b,e,e1,e2,e3,e4⟩:=Qj g hd;rw [AE,AJ hx];have hne:BC (js.length:Int) 0=true:=by rw [gR];exact decide_eq_true (by omega)
 rw [hne];show ∃ t:AT,Gd s0 t/\(AU (SW .i64 (fJ .i64 (a:Int)) (js.length:Int)) λk12=>_)=_;rw [ip (by omega),show SW .i64 (a:Int) (js.length:Int)=((a % js.length:Nat):Int) from rfl,WL (by omega),Int.toNat_natCast,AJ hy,e1,AB,e2,AB];simp only;rw [AS,if_pos rfl,Ab (by omega)]
 have fin : ∃ t':AT,Gd s0 t'/\(br (Ba e 0) (λ_=>some (LR.nx (α:=Bool×(Int×(Int×((List (List BH))×((List Job)×Int))))) (β:=Nat×((Bool×(Int×(Int×((List (List BH))×((List Job)×Int)))))×Unit)) ((false,(((k+1:Nat):Int),(t.1.1,(t.1.2,t.2))))))) λ_=>some (.nx ((false,(((k+1:Nat):Int),(B,(ls,(js,nx))))))))=some (LR.nx (false,(((k+1:Nat):Int),(t'.1.1,(t'.1.2,t'.2))))):=by
  rw [B3];by_cases he:e=0
  ·rw [if_pos he];exact ⟨t,e4 he,rfl⟩
  ·rw [if_neg he];exact ⟨((B,ls),(js,nx)),g,rfl⟩
 by_cases hn:nx<=1000000
 ·have hc:=e3 hn;have:beq c (Ba e 0)=true:=by rw [hc,Eg];exact HD _
  rw [this,NE,Ap];exact fin
 ·have:Vz nx 1000000=false:=by unfold Vz;simpa using hn
  rw [this,Ap];cases AX (beq c (Ba e 0)) with
  | true=>rw [AM];exact fin
  | false=>rw [Ap];exact fin
theorem Xs {l:List BH} (h : ∀ r∈l,r.2.length<=30):D0 l<=l.length*30:=by
 induction l with
 | nil=>simp [D0]
 | cons x l ih =>
  rw [Fl,List.length_cons];have:=h x (by simp);have:=ih λr hr=>h r (by simp [hr]);omega
theorem installGoes {x:AT×List Int} (h1:x.1.1.2.length<=9223372036854775807) (h2 : ∀ rs∈x.1.1.2,rs.length<=9223372036854775807 /\ ∀ r∈rs,r.2.length<=9223372036854775807) (h3:x.1.2.1.length<=9223372036854775807) (h4 : ∀ b∈x.2,0<=b/\b<=255):Cr x=some true:=by
 obtain ⟨s,w⟩:=x;unfold Cr;obtain ⟨b,e,hb⟩:=Xk s;rw [Rx s h1 h2 h3,AB,e,AB,gJ];simp only [AV,AQ,AB];cases b with
 | true=>rfl
 | false =>
  obtain ⟨m,hs⟩:=hb rfl;rw [Ap,Aq];by_cases hw:(w.length:Int)>100
  ·rw [if_pos hw]
  rw [if_neg hw,AS];by_cases h0:(BB s).2=0;rotate_left
  ·rw [if_neg h0]
  rw [if_pos h0];have v:=C4.1 h0
  have g0:Gd s s:=by
   refine ⟨v,rfl,?_⟩;have:=(LX v.lev).1
   have:=Xs (l:=s.1.2.flatten) λr hr=>by
    obtain ⟨rs,ha,hb⟩:=List.mem_flatten.1 hr;exact hs rs ha r hb
   omega
  rw [aK v.lev,AB]
  obtain ⟨r,q1,q2⟩:=FB (l:=w) (σ:=AT) (λk t=>(false,((k:Int),(t.1.1,(t.1.2,t.2))))) (λ_ _ t=>Gd s t) (λ(r:Nat×((Bool×(Int×(Int×((List (List BH))×((List Job)×Int)))))×Unit))=>r.1=1 /\ ∃ t,Gd s t/\r.2.1.2.2=(t.1.1,(t.1.2,t.2)))
   (f:=λ(s6:(Bool×(Int×(Int×((List (List BH))×((List Job)×Int))))))=>br (Am s6.2.1 (w.length:Int)) (λ_=>br (CF (s6.2.2.2.2.1.length:Int) 0) (λ_=>AU (B9 .i64 (s6.2.2.2.2.1.length:Int) 1) λk7=>ix s6.2.2.2.2.1 k7 λx8=>bd (BU ((((s6.2.2.1,s6.2.2.2.1),s6.2.2.2.2),x8.1))) λr9=>br (BC r9.2 0) (λ_=>some (.dn ((0,((false,s6.2),()))))) λ_=>br (AX r9.1) (λ_=>br (Am x8.1 11) (λ_=>some (.dn ((0,((false,s6.2),()))))) λ_=>AU s6.2.1 λk10=>ix w k10 λx11=>gd (BC (s6.2.2.2.2.1.length:Int) 0) λ_=>AU (SW .i64 (fJ .i64 x11) (s6.2.2.2.2.1.length:Int)) λk12=>ix s6.2.2.2.2.1 k12 λx13=>bd (BU ((((s6.2.2.1,s6.2.2.2.1),s6.2.2.2.2),x13.1))) λr14=>bd (BS ((((s6.2.2.1,s6.2.2.2.1),s6.2.2.2.2),x13.1))) λr15=>br (BC r14.2 0) (λ_=>some (.dn ((0,((false,s6.2),()))))) λ_=>br (AX (beq r14.1 (Ba r15.2.2 0))) (λ_=>br (Vz s6.2.2.2.2.2 1000000) (λ_=>some (.dn ((0,((false,s6.2),()))))) λ_=>br (Ba r15.2.2 0) (λ_=>some (.nx ((s6.1,(AH .i64 s6.2.1 1,(r15.1.1.1,(r15.1.1.2,r15.1.2))))))) λ_=>some (.nx ((s6.1,(AH .i64 s6.2.1 1,s6.2.2))))) λ_=>br (Ba r15.2.2 0) (λ_=>some (.nx ((s6.1,(AH .i64 s6.2.1 1,(r15.1.1.1,(r15.1.1.2,r15.1.2))))))) λ_=>some (.nx ((s6.1,(AH .i64 s6.2.1 1,s6.2.2))))) λ_=>AU s6.2.1 λk16=>ix w k16 λx17=>gd (BC (s6.2.2.2.2.1.length:Int) 0) λ_=>AU (SW .i64 (fJ .i64 x17) (s6.2.2.2.2.1.length:Int)) λk18=>ix s6.2.2.2.2.1 k18 λx19=>bd (BU ((((s6.2.2.1,s6.2.2.2.1),s6.2.2.2.2),x19.1))) λr20=>bd (BS ((((s6.2.2.1,s6.2.2.2.1),s6.2.2.2.2),x19.1))) λr21=>br (BC r20.2 0) (λ_=>some (.dn ((0,((false,s6.2),()))))) λ_=>br (AX (beq r20.1 (Ba r21.2.2 0))) (λ_=>br (Vz s6.2.2.2.2.2 1000000) (λ_=>some (.dn ((0,((false,s6.2),()))))) λ_=>br (Ba r21.2.2 0) (λ_=>some (.nx ((s6.1,(AH .i64 s6.2.1 1,(r21.1.1.1,(r21.1.1.2,r21.1.2))))))) λ_=>some (.nx ((s6.1,(AH .i64 s6.2.1 1,s6.2.2))))) λ_=>br (Ba r21.2.2 0) (λ_=>some (.nx ((s6.1,(AH .i64 s6.2.1 1,(r21.1.1.1,(r21.1.1.2,r21.1.2))))))) λ_=>some (.nx ((s6.1,(AH .i64 s6.2.1 1,s6.2.2))))) λ_=>some (.dn ((1,(s6,()))))) λ_=>some (.dn ((1,(s6,())))))
   (s:=(false,((0:Int),(s.1.1,(s.1.2,s.2))))) s rfl (by omega) g0 (λt h=>by
    refine ⟨_,by simp only;rw [re];rfl,rfl,t,h,rfl⟩) (λk b m t hd hx hk h=>by
    obtain ⟨⟨B,ls⟩,js,nx⟩:=t;simp only;rw [rl hk,AM,Aq];by_cases hj:js=[]
    ·rw [if_neg (by rw [hj];simp)];exact .inr ⟨_,rfl,rfl,_,h,rfl⟩
    have hp:=List.length_pos_iff.2 hj;have hjs:=h.1.jsmall;simp only at hjs;rw [if_pos (by omega),show B9 .i64 (js.length:Int) 1=((js.length-1:Nat):Int) by rw [B7 (by omega)];omega,AE,AJ (List.getElem?_eq_getElem (by omega:js.length-1<js.length))]
    have hdue:(A5 0 ls)[js.length-1]? = some (js[js.length-1]'(by omega)).1:=by
     have:=h.1.due;show (A5 0 ((B,ls),(js,nx)).1.2)[js.length-1]? = _;rw [<- this,List.getElem?_map,List.getElem?_eq_getElem (by omega:js.length-1<js.length)];rfl
    have hdl:js.length-1+1=(A5 0 ls).length:=by
     have:=h.1.jlen;simp only at this;omega
    obtain ⟨c,t,b',e,e1,e2,e3,e4⟩:=Qj h (List.mem_of_getElem? hdue);have hhigh:=λh11=>Xq h.1 hdue hdl h11;obtain ⟨t',g',tail⟩:=Xr h hx (h4 b (List.mem_of_getElem? hx)) hj (by omega);rw [e1,AB,AS,if_pos rfl];refine .inl ⟨t',?_,g'⟩;cases hc:c with
    | true=>rw [NE,Ap];exact tail
    | false =>
     rw [Zl,AM,BE];by_cases h11:(js[js.length-1]'(by omega)).1<11
     ·have:=hhigh h11;rw [e1,hc] at this;cases this
     ·rw [if_neg h11];exact tail)
  refine BF q1 ?_;obtain ⟨q2,t,gt,q3⟩:=q2;rw [CH,if_neg (by omega),q3];obtain ⟨⟨B,ls⟩,js,nx⟩:=t;simp only;have hl:=PM (BT ls) [];have hfs:=(LX gt.1.lev).2;have hnc:=(JF ls).1;simp only [List.length_nil,Nat.zero_add] at hl hfs
  have hlen:(G9 s.1).length<=9223372036854775807:=by
   rw [<- gt.2.1];have:=List.length_filter_le Ck (NQ (BT ls) []);show ((NQ (BT ls) []).filter Ck).length<=_;omega
  rw [ks gt.1.sm,Rp gt.1,AB,B3,if_pos rfl,aK gt.1.lev,AB,gt.2.1,Ru _ hlen,AB,AM]
end Go.Proofs.YthpkjfabdccpdaaGreat.Pl
namespace Go.Proofs.YthpkjfabdccpdaaGreat.Pl
open Go Go.Proofs.YthpkjfabdccpdaaGreat.Sv
theorem gV {x:AT×List Int} (h:Zg [(true,(.pair (.pair (.int .i64) (.sl true (.sl true (.pair (.int .i64) (.sl true (.pair .str (.pair .str (.pair .bool (.int .i64))))))))) (.pair (.sl true (.pair (.int .i64) (.pair (.pair (.sl false (.sl true (.pair .str (.pair .str (.pair .bool (.int .i64)))))) (.pair (.sl false (.int .i64)) (.pair (.sl true (.pair .str .bool)) (.pair (.sl false (.int .i64)) (.int .i64))))) (.pair (.pair .bool (.pair .str .bool)) (.pair (.sl true (.pair .str (.pair .str (.pair .bool (.int .i64))))) (.int .i64)))))) (.int .i64)))),(false,(.sl false (.int .u8)))] x):Cr x=some true:=by
 obtain ⟨⟨⟨_,hl,hr⟩,⟨hj,_⟩,_⟩,_,hw⟩:=h;refine installGoes hl (λrs hrs=>⟨(hr rs hrs).1,λr h=>((hr rs hrs).2 r h).2.1⟩) hj λb hb => ?_;have:=hw b hb;have h2:(decide (IntKind.min .u8<=b)&&decide (b<=IntKind.max .u8))=true:=this;rw [Bool.and_eq_true,decide_eq_true_eq,decide_eq_true_eq] at h2;have e1:IntKind.min .u8=0:=rfl;have e2:IntKind.max .u8=255:=rfl;omega
end Go.Proofs.YthpkjfabdccpdaaGreat.Pl
