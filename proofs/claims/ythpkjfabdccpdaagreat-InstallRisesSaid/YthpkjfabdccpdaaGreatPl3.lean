/- Functions of the program and of the specification as plain functions, and laws about them. No condition. -/
import Derived.Test.YthpkjfabdccpdaaGreatPl2
set_option linter.all false
namespace Go.Proofs.YthpkjfabdccpdaaGreat.Pl
open Go Go.Proofs.YthpkjfabdccpdaaGreat.Sv
set_option linter.unusedVariables false
def CU (x:AI):Option (Int×(Int×Int)) :=
 bd (CN x) λr0=>br (A6 r0.2.2 0) (λ_=>some ((0,(0,r0.2.2)))) λ_=>bd (loop (λs1=>br (Am s1.1 (AZ (AA x.2))) (λ_=>AV s1.1 λk2=>ix x.2 k2 λx3=>bd (loop (λs4=>br (Gz s4.1 0) (λ_=>AV s4.1 λk5=>ix x3 k5 λx6=>some (.nx ((Bz .i64 s4.1 1,(AH .i64 s4.2.1 (AZ (AA x6.2)),AH .i64 s4.2.2 1))))) λ_=>some (.dn ((0,(s4,()))))) ((Bz .i64 (AZ (AA x3)) 1,s1.2))) λr7=>some (.nx (AH .i64 s1.1 1,r7.2.1.2))) λ_=>some (.dn ((0,(s1,()))))) ((0,(0,0)))) λr8=>some ((r8.2.1.2.1,(r8.2.1.2.2,0)))
end Go.Proofs.YthpkjfabdccpdaaGreat.Pl
namespace Go.Proofs.YthpkjfabdccpdaaGreat.Pl
open Go Go.Proofs.YthpkjfabdccpdaaGreat.Sv
set_option linter.unusedVariables false
def DJ (x:(AI×Int)):Option (List BQ) :=
 br (Gz x.2 (AZ (AA x.1.2))) (λ_=>some []) λ_=>AV x.2 λk0=>ix x.1.2 k0 λx1=>some x1
def Dm (x:((List AD)×(List AD))):Option Bool :=
 bd (loop (λs0=>br (Am s0.1 (AZ (AA x.1))) (λ_=>br (Am s0.1 (AZ (AA x.2))) (λ_=>AV s0.1 λk1=>ix x.1 k1 λx2=>AV s0.1 λk3=>ix x.2 k3 λx4=>br (AX (Bb (seq x2.1 x4.1) (Bb (seq x2.2.1 x4.2.1) (Bb (beq x2.2.2.1 x4.2.2.1) (Bb (Bg x2.2.2.2 x4.2.2.2) true))))) (λ_=>some (.dn ((0,((s0.1,false),()))))) λ_=>some (.nx (AH .i64 s0.1 1,s0.2))) λ_=>some (.dn ((1,(s0,()))))) λ_=>some (.dn ((1,(s0,()))))) (0,false)) λr5=>br (neq r5.1 0) (λ_=>some r5.2.1.2) λ_=>some (Bg (AZ (AA x.1)) (AZ (AA x.2)))
def D5 (x:(BQ×BQ)):Option Bool :=
 br (Bg x.1.1 x.2.1) (λ_=>bd (Dm (x.1.2,x.2.2)) λr0=>some r0) λ_=>some false
def Cu (x:((List BQ)×(List BQ))):Option Bool :=
 br (A6 (AZ (AA x.1)) (AZ (AA x.2))) (λ_=>some false) λ_=>bd (loop (λs0=>br (Am s0.1 (AZ (AA x.1))) (λ_=>AV s0.1 λk1=>ix x.1 k1 λx2=>AV s0.1 λk3=>ix x.2 k3 λx4=>bd (D5 (x2,x4)) λr5=>br (AX r5) (λ_=>some (.dn ((0,((s0.1,false),()))))) λ_=>some (.nx (AH .i64 s0.1 1,s0.2))) λ_=>some (.dn ((1,(s0,()))))) (0,false)) λr6=>br (neq r6.1 0) (λ_=>some r6.2.1.2) λ_=>some true
end Go.Proofs.YthpkjfabdccpdaaGreat.Pl
namespace Go.Proofs.YthpkjfabdccpdaaGreat.Pl
open Go Go.Proofs.YthpkjfabdccpdaaGreat.Sv
set_option linter.unusedVariables false
def DK (x:((AI×((List (Int×(AN×((Bool×AO)×((List AD)×Int)))))×Int))×Int)):Option Bool :=
 bd (Fu x.1) λr0=>br r0 (λ_=>bd (EB ()) λr1=>some r1) λ_=>bd (Ct x) λr2=>bd (Cb x) λr3=>jn (γ:=(Nat×(Bool×Unit))) (λs4=>br (A6 r2.2 0) (λ_=>some (.nx true)) λ_=>some (.nx (A6 r3.2 0))) () (λs5=>br s5 (λ_=>bd (EB ()) λr6=>some r6) λ_=>bd (CU x.1.1) λr7=>bd (CU r3.1.1) λr8=>jn (γ:=(Nat×(Bool×Unit))) (λs9=>br (A6 r8.2.2 0) (λ_=>some (.nx true)) λ_=>br (A6 r8.2.1 (Bz .i64 r7.2.1 1)) (λ_=>some (.nx (A6 r8.2.1 (Bz .i64 r7.2.1 2)))) λ_=>some (.nx false)) () (λs10=>br s10 (λ_=>some false) λ_=>bd (loop (λs11=>br (Am s11.1 12) (λ_=>jn (γ:=(Nat×(Bool×Unit))) (λs12=>bd (DJ (x.1.1,s11.1)) λr13=>bd (DJ (r3.1.1,s11.1)) λr14=>jn (γ:=(Nat×(Bool×Unit))) (λs15=>br (A6 s11.1 x.2) (λ_=>br (A6 s11.1 r2.1) (λ_=>bd (Cu (r13,r14)) λr16=>some (.nx (AX r16))) λ_=>some (.nx false)) λ_=>some (.nx false)) () (λs17=>br s17 (λ_=>some (.dn ((0,(false,()))))) λ_=>jn (γ:=(Nat×(Bool×Unit))) (λs18=>br (Bg s11.1 r2.1) (λ_=>some (.nx (A6 r2.1 x.2))) λ_=>some (.nx false)) () (λs19=>br s19 (λ_=>bd (DU (x.1.1.1,x.2)) λr20=>jn (γ:=(Nat×(Bool×Unit))) (λs21=>br (A6 (AZ (AA r14)) (AH .i64 (AZ (AA r13)) 1)) (λ_=>some (.nx true)) λ_=>AV (Bz .i64 (AZ (AA r14)) 1) λk22=>ix r14 k22 λx23=>some (.nx (XH (AZ (AA x23.2)) r20.1))) () (λs24=>br s24 (λ_=>some (.dn ((0,(false,()))))) λ_=>some (.nx s12)) λr25=>none) λ_=>some (.nx s12)) λr26=>none) λr27=>none) s11.2 (λs28=>some (.nx (AH .i64 s11.1 1,s28))) λr29=>some (.dn ((1,((s11.1,r29.2.1),()))))) λ_=>some (.dn ((0,(s11,()))))) (0,false)) λr30=>br (neq r30.1 0) (λ_=>bd (EB ()) λr31=>some r31) λ_=>some r30.2.1.2) λr32=>none) λr33=>none
end Go.Proofs.YthpkjfabdccpdaaGreat.Pl
namespace Go.Proofs.YthpkjfabdccpdaaGreat.Pl
open Go Go.Proofs.YthpkjfabdccpdaaGreat.Sv
end Go.Proofs.YthpkjfabdccpdaaGreat.Pl
namespace Go.Proofs.YthpkjfabdccpdaaGreat.Pl
open Go Go.Proofs.YthpkjfabdccpdaaGreat.Sv
theorem RY (l:List AD) (hl:l.length<=9223372036854775807):Dm (l,l)=some true:=by
 unfold Dm;simp only [AT,AP];refine BD (Jd (r:=(1,(((l.length:Int),false),()))) (λk=>((k:Int),false)) l.length rfl (by omega) (λk hk => ?_) (by simp only;rw [re];rfl)) ?_
 ·have hx:l[k]? = some l[k]:=List.getElem?_eq_getElem hk;simp only;rw [rl hk,AR,AR,AE,AJ hx,AE,AJ hx,Ok,if_pos rfl,Aa (by omega)]
 ·rw [CM,if_neg (show ¬ (1=0) by omega)];unfold Bg;simp
theorem S6 (r:BQ) (hl:r.2.length<=9223372036854775807):D5 (r,r)=some true:=by
 unfold D5;rw [B7,if_pos rfl,RY _ hl];rfl
theorem RZ (l:List BQ) (hl:l.length<=1048576) (h : ∀ r∈l,r.2.length<=9223372036854775807):Cu (l,l)=some true:=by
 unfold Cu;simp only [AT,AP];rw [AQ,if_pos rfl];refine BD (Jd (r:=(1,(((l.length:Int),false),()))) (λk=>((k:Int),false)) l.length rfl (by omega) (λk hk => ?_) (by simp only;rw [re];rfl)) rfl;have hx:l[k]? = some l[k]:=List.getElem?_eq_getElem hk;simp only;rw [rl hk,AR,AE,AJ hx,AE,AJ hx,S6 _ (h _ (List.getElem_mem hk)),AB,RN,Ao,Aa (by omega)]
end Go.Proofs.YthpkjfabdccpdaaGreat.Pl
namespace Go.Proofs.YthpkjfabdccpdaaGreat.Pl
open Go Go.Proofs.YthpkjfabdccpdaaGreat.Sv
end Go.Proofs.YthpkjfabdccpdaaGreat.Pl
namespace Go.Proofs.YthpkjfabdccpdaaGreat.Pl
open Go Go.Proofs.YthpkjfabdccpdaaGreat.Sv
def Fx (l:List BQ):Nat:=(l.map λr=>r.2.length).sum
theorem QK (r:BQ) (l:List BQ):Fx (r::l)=r.2.length+Fx l:=by simp [Fx]
theorem MF (l m:List BQ):Fx (l++m)=Fx l+Fx m:=by simp [Fx]
theorem Yx (l:List BQ):Fx l.reverse=Fx l:=by simp [Fx]
theorem eO {l:List BQ} (h : ∀ r∈l,r.2.length<=5000):Fx l<=l.length*5000:=by
 induction l with
 | nil=>simp [Fx]
 | cons r l ih =>
  rw [QK,List.length_cons];have:=h r (by simp);have:=ih λx hx=>h x (by simp [hx]);omega
theorem Ow : ∀ ls:List (List BQ),Fx (DZ ls)=Fx ls.flatten/\(DZ ls).length=ls.flatten.length
 | []=>⟨rfl,rfl⟩
 | rs::ls=>by
  obtain ⟨h1,h2⟩:=Ow ls;have e:DZ (rs::ls)=rs.reverse++DZ ls:=rfl;rw [e,List.flatten_cons,MF,MF,Yx,h1];simp [h2]
theorem eP {S β:Type} {f:S->Option (LR S β)} {r:β} (mk:Int->Nat->S) (n:Nat) {s:S} (h0:s=mk ((n:Int)-1) n) (hn:n<1000000000) (hs : ∀ k,k<n->f (mk (k:Int) (k+1))=some (.nx (mk ((k:Int)-1) k))) (he:f (mk (-1) 0)=some (.dn r)):loop f s=some r:=by
 subst h0
 have main : ∀ k,k<=n->Dc (k+1) f (mk ((k:Int)-1) k)=some r:=by
  intro k
  induction k with
  | zero=>intro _;exact BL he
  | succ k ih =>
   intro hk;have:=hs k (by omega);rw [show ((k+1:Nat):Int)-1=(k:Int) by omega,A7 this];exact ih (by omega)
 exact CL (by omega) (main n (Nat.le_refl _))
theorem Ox {L:AI} (v:VLev L):L.2.flatten.length<=24/\Fx L.2.flatten<=24*5000:=by
 have h1:L.2.flatten.length<=24:=by
  have h:=Jj L.2 v.two;have:=v.len;rw [(Ow L.2).2] at h;omega
 refine ⟨h1,?_⟩
 have:=eO (l:=L.2.flatten) λr hr'=>by
  obtain ⟨rs,h2,h3⟩:=List.mem_flatten.1 hr';obtain ⟨i,hi⟩:=List.getElem?_of_mem h2;exact ((v.lev i rs hi).2 r h3).vl.len
 exact Nat.le_trans this (Nat.mul_le_mul_right _ h1)
def Uh (L:AI):Int×(Int×Int):=if (DG L).2.2≠0 then (0,(0,(DG L).2.2)) else ((Fx L.2.flatten:Int),((L.2.flatten.length:Int),0))
theorem Yy (L:AI) (hb:L.2.length<=1048576) (hr : ∀ rs∈L.2,rs.length<=1048576 /\ ∀ r∈rs,r.2.length<=9223372036854775807):CU L=some (Uh L):=by
 unfold CU Uh;simp only [AT,AP];rw [Io _ hb hr,AB,AQ];by_cases h0:(DG L).2.2=0;rotate_left
 ·rw [if_neg h0,if_pos h0]
 rw [if_pos h0,if_neg (by simp [h0])];have v:=Gb.1 h0;have hl:=v.len;obtain ⟨s1,s2⟩:=Ox v
 rw [Dk (l:=L.2) (σ:=Nat×Nat) (s:=((0:Int),((0:Int),(0:Int)))) (λi st=>((i:Int),((st.1:Int),(st.2:Int)))) (λls i st=>st.1+Fx ls.flatten=Fx L.2.flatten/\st.2+ls.flatten.length=L.2.flatten.length) (λ_ _ _=>(0,(((L.2.length:Int),((Fx L.2.flatten:Int),(L.2.flatten.length:Int))),()))) (0,0) rfl (by omega) ⟨by simp,by simp⟩ (λst h=>by
  obtain ⟨h1,h2⟩:=h;simp only;rw [re,Ao,<- h1,<- h2]
  simp [Fx]) (λi rs ls st hd hi hlt h=>by
   obtain ⟨h1,h2⟩:=h;rw [List.flatten_cons,MF] at h1;rw [List.flatten_cons,List.length_append] at h2;have h3:=v.two rs (List.mem_of_getElem? hi);refine ⟨(st.1+Fx rs,st.2+rs.length),?_,⟨by simp only;omega,by simp only;omega⟩,rfl⟩;simp only;rw [rl hlt,AR,AE,AJ hi,Bj (by omega)]
   rw [eP (λk m=>(k,(((st.1+Fx (rs.drop m):Nat):Int),((st.2+(rs.length-m):Nat):Int)))) rs.length (by simp [Fx]) (by omega) (λk hk=>by
    have hg:rs[k]? = some rs[k]:=List.getElem?_eq_getElem hk;have hd:Fx (rs.drop k)=rs[k].2.length+Fx (rs.drop (k+1)):=by rw [List.drop_eq_getElem_cons hk,QK]
    have hc:Fx (rs.drop k)<=Fx rs:=by
     have:=MF (rs.take k) (rs.drop k);rw [List.take_append_drop] at this;omega
    simp only;rw [EQ,if_pos (by omega),AE,AJ hg,Bj (by omega),DC (by omega),DC (by omega),hd]
    congr 4
    ·omega
    ·congr 1
     omega) (r:=(0,(((-1:Int),(((st.1+Fx rs:Nat):Int),((st.2+rs.length:Nat):Int))),()))) rfl,AB]
   rw [Al hi (by omega)]),AB]
end Go.Proofs.YthpkjfabdccpdaaGreat.Pl
namespace Go.Proofs.YthpkjfabdccpdaaGreat.Pl
open Go Go.Proofs.YthpkjfabdccpdaaGreat.Sv
theorem Ui {s:Ab} (v:VSt s) (hf:gS s.1) {n:Nat} {j:GN} (ha:JobAt s.1 n j) (h0 : ¬ 0<DI s.1 j) (hc:Jm s.1 j=true) (h5:Dl j≠[]->s.2.2<=1000000):(KQ s j).2.flatten.length+2=s.1.2.flatten.length+(if Dl j=[] then 0 else 1):=by
 have F:=Vp v hf ha h0 hc h5;obtain ⟨o1,o2,o3,o4,o5⟩:=ha.out v.lev (hf n);have hj:j.1.toNat=n:=by rw [o3];simp
 obtain ⟨r0,r1,_,_,h1,_⟩:=ha;have ho:=eN.1 h1;obtain ⟨p,q,f1,f2⟩:=IL s.1 n [];have e1:s.1.2.flatten.length=p.length+(2+q.length):=by rw [f1,ho];simp;omega
 have e2:(Cg s.1 n []).2.flatten.length=p.length+q.length:=by rw [f2];simp
 unfold KQ;rw [hj];by_cases hne:Dl j=[]
 ·rw [if_pos hne,if_pos hne];omega
 ·rw [if_neg hne,if_neg hne];obtain ⟨p',q',g1,g2⟩:=IL (Cg s.1 n []) (Ke s j) (BM (Cg s.1 n []).2 (Ke s j)++[(s.2.2,Dl j)]);have e3:(Cg s.1 n []).2.flatten.length=p'.length+((BM (Cg s.1 n []).2 (Ke s j)).length+q'.length):=by rw [g1];simp
  rw [g2];simp only [List.length_append,List.length_cons,List.length_nil];omega
end Go.Proofs.YthpkjfabdccpdaaGreat.Pl
namespace Go.Proofs.YthpkjfabdccpdaaGreat.Pl
open Go Go.Proofs.YthpkjfabdccpdaaGreat.Sv
def gq:List AD->AD->List AD
 | [],x=>[x]
 | y::l,x=>if C6 y.1 x.1=true then y::gq l x else if y.1=x.1 then y::l else x::y::l
def jE (rs:List BQ) (l:List AD):List AD:=rs.foldl (λout r=>r.2.foldl gq out) l
def eQ (x:AD):Bool := !x.2.2.1
def Pd (L:AI):List AD:=(jE (DZ L.2) []).filter eQ
end Go.Proofs.YthpkjfabdccpdaaGreat.Pl
namespace Go.Proofs.YthpkjfabdccpdaaGreat.Pl
open Go Go.Proofs.YthpkjfabdccpdaaGreat.Sv
end Go.Proofs.YthpkjfabdccpdaaGreat.Pl
namespace Go.Proofs.YthpkjfabdccpdaaGreat.Pl
open Go Go.Proofs.YthpkjfabdccpdaaGreat.Sv
end Go.Proofs.YthpkjfabdccpdaaGreat.Pl
namespace Go.Proofs.YthpkjfabdccpdaaGreat.Pl
open Go Go.Proofs.YthpkjfabdccpdaaGreat.Sv
theorem S7 (L:AI) (n:Nat):DJ (L,(n:Int))=some (BM L.2 n):=by
 unfold DJ;simp only [AT,AP];rw [EQ];by_cases h:n<L.2.length
 ·rw [if_neg (by omega),AE,AJ (I0 h)]
 ·rw [if_pos (by omega)];unfold BM;rw [List.getElem?_eq_none (by omega)];rfl
end Go.Proofs.YthpkjfabdccpdaaGreat.Pl
namespace Go.Proofs.YthpkjfabdccpdaaGreat.Pl
open Go Go.Proofs.YthpkjfabdccpdaaGreat.Sv
theorem gC {L:AI} (h : ∀ rs∈L.2,∀ r∈rs,r.2.length<=30):gS L:=λi r hr=>by
 unfold BM at hr;cases hi:L.2[i]? with
 | none=>rw [hi] at hr;cases hr
 | some rs =>
  rw [hi] at hr;have:=h rs (List.mem_of_getElem? hi) r hr;omega
end Go.Proofs.YthpkjfabdccpdaaGreat.Pl
namespace Go.Proofs.YthpkjfabdccpdaaGreat.Pl
open Go Go.Proofs.YthpkjfabdccpdaaGreat.Sv
theorem MG {α β γ δ:Type} {f:α->Option (LR δ γ)} {s:α} {k:δ->Option β} {k2:γ->Option β} {x:δ} (h:f s=some (.nx x)):jn f s k k2=k x:=by
 unfold jn;rw [h]
end Go.Proofs.YthpkjfabdccpdaaGreat.Pl
namespace Go.Proofs.YthpkjfabdccpdaaGreat.Pl
open Go Go.Proofs.YthpkjfabdccpdaaGreat.Sv
theorem MH (a b:Int):A6 a b=decide (a≠b):=by unfold A6;by_cases h:a=b<;>simp [h]
theorem S8 {s:Ab} (v:VSt s) (hf:gS s.1) {n:Nat} {j:GN} (ha:JobAt s.1 n j) (h0 : ¬ 0<DI s.1 j) (hc:Jm s.1 j=true) (h5:Dl j≠[]->s.2.2<=1000000) (k:Nat) (hk:k<12) :
  (bd (DJ (s.1,(k:Int))) λr13=>bd (DJ (KQ s j,(k:Int))) λr14=>jn (γ:=(Nat×(Bool×Unit))) (λs15=>br (A6 (k:Int) (n:Int)) (λ_=>br (A6 (k:Int) (Ke s j:Int)) (λ_=>bd (Cu (r13,r14)) λr16=>some (.nx (AX r16))) λ_=>some (.nx false)) λ_=>some (.nx false)) () (λs17=>br s17 (λ_=>some (.dn (((0:Nat),(false,()))))) λ_=>jn (γ:=(Nat×(Bool×Unit))) (λs18=>br (Bg (k:Int) (Ke s j:Int)) (λ_=>some (.nx (A6 (Ke s j:Int) (n:Int)))) λ_=>some (.nx false)) () (λs19=>br s19 (λ_=>bd (DU (s.1.1,(n:Int))) λr20=>jn (γ:=(Nat×(Bool×Unit))) (λs21=>br (A6 (r14.length:Int) (AH .i64 (r13.length:Int) 1)) (λ_=>some (.nx true)) λ_=>AV (Bz .i64 (r14.length:Int) 1) λk22=>ix r14 k22 λx23=>some (.nx (XH (x23.2.length:Int) r20.1))) () (λs24=>br s24 (λ_=>some (.dn ((0,(false,()))))) λ_=>some (.nx false)) λr25=>none) λ_=>some (.nx false)) λr26=>none) λr27=>none)=some (LR.nx false):=by
 have F:=Vp v hf ha h0 hc h5;obtain ⟨o1,o2,o3,o4,o5⟩:=ha.out v.lev (hf n);have hj:j.1.toNat=n:=by rw [o3];simp
 have hsm:=(v.lev.own k).1;have hown:=Yw (s:=s) hj k;rw [S7,AB,S7,AB];refine (MG (x:=false) ?_).trans ?_
 ·rw [AQ];by_cases h1:k=n
  ·rw [if_pos (by omega)]
  ·rw [if_neg (by omega),AQ];by_cases h2:k=Ke s j
   ·rw [if_pos (by omega)]
   ·rw [if_neg (by omega)];rw [if_neg (by rintro ⟨_,h⟩;exact h2 h),if_neg h1] at hown;rw [hown,RZ _ (by omega) (λr hr=>by have:=((v.lev.own k).2 r hr).vl.len;omega),AB];rfl
 rw [Ao];by_cases h2:k=Ke s j/\Ke s j≠n;rotate_left
 ·refine (MG (x:=false) ?_).trans rfl;rw [B7];by_cases h3:k=Ke s j
  ·rw [if_pos (by omega),MH]
   have:Ke s j=n:=by
    by_cases h:Ke s j=n
    ·exact h
    ·exact absurd ⟨h3,h⟩ h2
   rw [this];simp
  ·rw [if_neg (by omega)]
 obtain ⟨h3,h4⟩:=h2;refine (MG (x:=true) ?_).trans ?_
 ·rw [B7,if_pos (by omega),MH];simp;omega
 have hs:EC s.1 j≠true:=λh=>h4 (by unfold Ke;rw [if_pos h,hj]);have hbig : ¬ ((Dl j).length:Int)<=Br s.1.1 n:=λh=>hs (by unfold EC;rw [hj];exact decide_eq_true h);have hne:Dl j≠[]:=λh=>hbig (by rw [h];exact Ww v.lev);rw [if_pos ⟨hne,h3⟩,if_neg (by omega)] at hown;rw [AR,P9 v.lev o4,AB];refine (MG (x:=false) ?_).trans rfl;rw [hown,List.length_append,List.length_cons,List.length_nil,AQ,DC (by omega),if_pos (by simp),Bj (by omega),show (((BM s.1.2 k).length+(0+1):Nat):Int)-1=((BM s.1.2 k).length:Int) by omega,AE,AJ (x:=(s.2.2,Dl j)) (by simp)];have:XH ((Dl j).length:Int) (Br s.1.1 n)=false:=by unfold XH;simpa using hbig
 rw [this]
theorem installRises (x:Ab×Int):DK x=some true:=by
 obtain ⟨s,level⟩:=x;unfold DK;obtain ⟨b,e,hb⟩:=Wt s;rw [e,AB,eK];cases b with
 | true=>rfl
 | false =>
  obtain ⟨m,hs⟩:=hb rfl;have hf:=gC hs;rw [Ao,Wp m,AB,Ug m hf,AB];by_cases h1:(Jo 0 MC s level).2=0;rotate_left
  ·exact (MG (x:=true) (by rw [AQ,if_neg h1])).trans rfl
  by_cases h2:(Jo zS S5 s level).2=0;rotate_left
  ·refine (MG (x:=true) (by rw [AQ,if_pos h1,MH];simp [h2])).trans rfl
  refine (MG (x:=false) (by rw [AQ,if_pos h1,MH];simp [h2])).trans ?_;rw [Ao]
  have facts : ∃ n j,VSt s/\JobAt s.1 n j/\level=(n:Int) /\ ¬ 0<DI s.1 j/\Jm s.1 j=true/\(Dl j≠[]->s.2.2<=1000000)/\(Jo 0 MC s level).1=(Ke s j:Int)/\(Jo zS S5 s level).1=Vn s (KQ s j) (Wz s j) j.1:=by
   unfold Jo at h1 h2 ⊢;by_cases h0:(Au s).2=0;rotate_left
   ·rw [if_pos h0] at h1;exact absurd h1 h0
   rw [if_neg (show ¬ (Au s).2≠0 by simp [h0])] at h1 h2 ⊢;rw [if_neg (show ¬ (Au s).2≠0 by simp [h0])];have v:=Cr.1 h0;unfold fJ at h1 h2 ⊢;cases hq:RT level 0 (Ba 0 s.1.2) with
   | none=>rw [hq] at h1;cases h1
   | some i =>
    obtain ⟨j,n,hj,hl,hjn,ha,hn⟩:=v.at hq;rw [hq] at h1 h2;simp only [hj] at h1 h2 ⊢;unfold MC at h1 ⊢;by_cases h3:0<DI s.1 j
    ·rw [if_pos h3] at h1;cases h1
    unfold S5 at h2 ⊢;by_cases h4:Jm s.1 j=false
    ·rw [if_pos (.inr h4)] at h2;cases h2
    have h34 : ¬ (0<DI s.1 j\/Jm s.1 j=false):=λh=>h.elim h3 h4;rw [if_neg h34] at h2 ⊢;by_cases h5:s.2.2>1000000/\Dl j≠[]
    ·rw [if_pos h5] at h2;cases h2
    rw [if_neg h5,if_neg h3];refine ⟨n,j,v,ha,hl,h3,by cases hc:Jm s.1 j with | true=>rfl | false=>exact absurd hc h4,λho => ?_,?_,rfl⟩
    ·by_cases h6:s.2.2>1000000
     ·exact absurd ⟨h6,ho⟩ h5
     ·omega
    ·unfold Ke;split<;>rw [hjn]<;>simp
  obtain ⟨n,j,v,ha,rfl,h3,h4,h5,e1,e2⟩:=facts;rw [e1,e2];have F:=Vp v hf ha h3 h4 h5;have hc:=Ui v hf ha h3 h4 h5;obtain ⟨f1,f2⟩:=Ox v.lev
  have cv : ∀ {L:AI},VLev L->CU L=some ((Fx L.2.flatten:Int),((L.2.flatten.length:Int),0)):=fun {L} vL=>by
   rw [Yy L vL.small.1 vL.small.2];unfold Uh;rw [if_neg (by simp [Fm vL])]
  rw [cv v.lev,AB];show (bd (CU (KQ s j)) λr8=>_)=_;rw [cv F.lev,AB];refine (MG (x:=false) ?_).trans ?_
  ·dsimp only;rw [AQ,if_pos rfl,AQ,Bj (by omega),Bj (by omega)];by_cases h6:Dl j=[]
   ·rw [if_pos h6] at hc;rw [if_neg (by omega)];exact congrArg (λz=>some (LR.nx z)) (by rw [MH];exact decide_eq_false (by omega))
   ·rw [if_neg h6] at hc;rw [if_pos (by omega)]
  rw [Ao];refine BD (Jd (r:=(0,((((12:Nat):Int),false),()))) (λk=>((k:Int),false)) 12 rfl (by omega) (λk hk => ?_) rfl) rfl;simp only;rw [BB,if_pos (by omega)];have hr:=S8 v hf ha h3 h4 h5 k hk;simp only [AT,AP];refine (MG (x:=false) hr).trans ?_;rw [Aa (by omega)]
end Go.Proofs.YthpkjfabdccpdaaGreat.Pl
