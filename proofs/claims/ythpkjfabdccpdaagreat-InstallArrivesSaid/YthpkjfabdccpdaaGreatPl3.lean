/- Functions of the program and of the specification as plain functions, and laws about them. No condition. -/
import Derived.Test.YthpkjfabdccpdaaGreatPl2
set_option linter.all false
namespace Go.Proofs.YthpkjfabdccpdaaGreat.Pl
open Go Go.Proofs.YthpkjfabdccpdaaGreat.Sv
set_option linter.unusedVariables false
end Go.Proofs.YthpkjfabdccpdaaGreat.Pl
namespace Go.Proofs.YthpkjfabdccpdaaGreat.Pl
open Go Go.Proofs.YthpkjfabdccpdaaGreat.Sv
set_option linter.unusedVariables false
def DB (x:(AJ×(Int×(List BE)))):Option AJ :=
 bd (loop (λ(s0:(Int×AJ))=>br (Am s0.1 (AX (AA x.1.2))) (λ_=>br (G1 s0.1 (AX (AA x.1.2))) (λ_=>br (BN s0.1 x.2.1) (λ_=>gd (BJ (AA x.2.2) 1048576) λ_=>gd (BJ (Ao (AA s0.2.2) (AA [x.2.2])) 1048576) λ_=>some (.nx ((AI .i64 s0.1 1,(s0.2.1,By s0.2.2 [x.2.2]))))) λ_=>gd (BJ (Ao (AA s0.2.2) (AA ([[]]:(List (List BE))))) 1048576) λ_=>some (.nx ((AI .i64 s0.1 1,(s0.2.1,By s0.2.2 [[]]))))) λ_=>AT s0.1 λk1=>ix x.1.2 k1 λx2=>br (BN s0.1 x.2.1) (λ_=>gd (BJ (AA x.2.2) 1048576) λ_=>gd (BJ (Ao (AA s0.2.2) (AA [x.2.2])) 1048576) λ_=>some (.nx ((AI .i64 s0.1 1,(s0.2.1,By s0.2.2 [x.2.2]))))) λ_=>gd (BJ (AA x2) 1048576) λ_=>gd (BJ (Ao (AA s0.2.2) (AA [x2])) 1048576) λ_=>some (.nx ((AI .i64 s0.1 1,(s0.2.1,By s0.2.2 [x2]))))) λ_=>br (fq s0.1 x.2.1) (λ_=>br (G1 s0.1 (AX (AA x.1.2))) (λ_=>br (BN s0.1 x.2.1) (λ_=>gd (BJ (AA x.2.2) 1048576) λ_=>gd (BJ (Ao (AA s0.2.2) (AA [x.2.2])) 1048576) λ_=>some (.nx ((AI .i64 s0.1 1,(s0.2.1,By s0.2.2 [x.2.2]))))) λ_=>gd (BJ (Ao (AA s0.2.2) (AA ([[]]:(List (List BE))))) 1048576) λ_=>some (.nx ((AI .i64 s0.1 1,(s0.2.1,By s0.2.2 [[]]))))) λ_=>AT s0.1 λk3=>ix x.1.2 k3 λx4=>br (BN s0.1 x.2.1) (λ_=>gd (BJ (AA x.2.2) 1048576) λ_=>gd (BJ (Ao (AA s0.2.2) (AA [x.2.2])) 1048576) λ_=>some (.nx ((AI .i64 s0.1 1,(s0.2.1,By s0.2.2 [x.2.2]))))) λ_=>gd (BJ (AA x4) 1048576) λ_=>gd (BJ (Ao (AA s0.2.2) (AA [x4])) 1048576) λ_=>some (.nx ((AI .i64 s0.1 1,(s0.2.1,By s0.2.2 [x4]))))) λ_=>some (.dn ((0,(s0,()))))) ((0,(x.1.1,[])))) λr5=>bd (loop (λ(s6:AJ)=>br (CE (AX (AA s6.2)) 0) (λ_=>AT (B7 .i64 (AX (AA s6.2)) 1) λk7=>ix s6.2 k7 λx8=>br (BN (AX (AA x8)) 0) (λ_=>AT (B7 .i64 (AX (AA s6.2)) 1) λk9=>gd (BJ k9 (AA s6.2)) λ_=>gd (BJ 0 k9) λ_=>some (.nx (s6.1,EJ s6.2 0 k9))) λ_=>some (.dn ((0,(s6,()))))) λ_=>some (.dn ((0,(s6,()))))) r5.2.1.2) λr10=>some r10.2.1
def DC (x:(AJ×Int)):Option (List BE) :=
 br (G1 x.2 (AX (AA x.1.2))) (λ_=>some []) λ_=>AT x.2 λk0=>ix x.1.2 k0 λx1=>some x1
def DS (x:(AJ×Int)):Option ((Int×(AN×((Bool×AM)×((List AD)×Int))))×Int) :=
 bd (CM x.1) λr0=>br (BN r0.2.2 0) (λ_=>br (Am x.2 0) (λ_=>some (((0,(([],([],([],([],0)))),((false,([],false)),([],0)))),7))) λ_=>br (G1 x.2 12) (λ_=>some (((0,(([],([],([],([],0)))),((false,([],false)),([],0)))),7))) λ_=>br (BN r0.2.2 0) (λ_=>br (G1 x.2 (AX (AA x.1.2))) (λ_=>some (((0,(([],([],([],([],0)))),((false,([],false)),([],0)))),4))) λ_=>AT x.2 λk1=>ix x.1.2 k1 λx2=>br (Am (AX (AA x2)) 2) (λ_=>some (((0,(([],([],([],([],0)))),((false,([],false)),([],0)))),4))) λ_=>br (A7 r0.2.2 0) (λ_=>some (((0,(([],([],([],([],0)))),((false,([],false)),([],0)))),r0.2.2))) λ_=>bd (BB x) λr3=>bd (Ak ((x.1,(x.2,r3)))) λr4=>some (r4,0)) λ_=>br (A7 r0.2.2 0) (λ_=>some (((0,(([],([],([],([],0)))),((false,([],false)),([],0)))),r0.2.2))) λ_=>bd (BB x) λr5=>bd (Ak ((x.1,(x.2,r5)))) λr6=>some (r6,0)) λ_=>br (BN r0.2.2 0) (λ_=>br (G1 x.2 (AX (AA x.1.2))) (λ_=>some (((0,(([],([],([],([],0)))),((false,([],false)),([],0)))),4))) λ_=>AT x.2 λk7=>ix x.1.2 k7 λx8=>br (Am (AX (AA x8)) 2) (λ_=>some (((0,(([],([],([],([],0)))),((false,([],false)),([],0)))),4))) λ_=>br (A7 r0.2.2 0) (λ_=>some (((0,(([],([],([],([],0)))),((false,([],false)),([],0)))),r0.2.2))) λ_=>bd (BB x) λr9=>bd (Ak ((x.1,(x.2,r9)))) λr10=>some (r10,0)) λ_=>br (A7 r0.2.2 0) (λ_=>some (((0,(([],([],([],([],0)))),((false,([],false)),([],0)))),r0.2.2))) λ_=>bd (BB x) λr11=>bd (Ak ((x.1,(x.2,r11)))) λr12=>some (r12,0)
def Dh (x:((List AD)×(List AD))):Option Bool :=
 bd (loop (λs0=>br (Am s0.1 (AX (AA x.1))) (λ_=>br (Am s0.1 (AX (AA x.2))) (λ_=>AT s0.1 λk1=>ix x.1 k1 λx2=>AT s0.1 λk3=>ix x.2 k3 λx4=>br (AY (Bd (seq x2.1 x4.1) (Bd (seq x2.2.1 x4.2.1) (Bd (beq x2.2.2.1 x4.2.2.1) (Bd (BN x2.2.2.2 x4.2.2.2) true))))) (λ_=>some (.dn ((0,((s0.1,false),()))))) λ_=>some (.nx (AI .i64 s0.1 1,s0.2))) λ_=>some (.dn ((1,(s0,()))))) λ_=>some (.dn ((1,(s0,()))))) (0,false)) λr5=>br (neq r5.1 0) (λ_=>some r5.2.1.2) λ_=>some (BN (AX (AA x.1)) (AX (AA x.2)))
def D9 (x:(BE×BE)):Option Bool :=
 br (BN x.1.1 x.2.1) (λ_=>bd (Dh (x.1.2,x.2.2)) λr0=>some r0) λ_=>some false
def Di (x:((List BE)×(List BE))):Option Bool :=
 br (A7 (AX (AA x.1)) (AX (AA x.2))) (λ_=>some false) λ_=>bd (loop (λs0=>br (Am s0.1 (AX (AA x.1))) (λ_=>AT s0.1 λk1=>ix x.1 k1 λx2=>AT s0.1 λk3=>ix x.2 k3 λx4=>bd (D9 (x2,x4)) λr5=>br (AY r5) (λ_=>some (.dn ((0,((s0.1,false),()))))) λ_=>some (.nx (AI .i64 s0.1 1,s0.2))) λ_=>some (.dn ((1,(s0,()))))) (0,false)) λr6=>br (neq r6.1 0) (λ_=>some r6.2.1.2) λ_=>some true
def GD (x:(AJ×AJ)):Option Bool :=
 br (A7 x.1.1 x.2.1) (λ_=>some false) λ_=>br (A7 (AX (AA x.1.2)) (AX (AA x.2.2))) (λ_=>some false) λ_=>bd (loop (λs0=>br (Am s0.1 (AX (AA x.1.2))) (λ_=>AT s0.1 λk1=>ix x.1.2 k1 λx2=>AT s0.1 λk3=>ix x.2.2 k3 λx4=>bd (Di (x2,x4)) λr5=>br (AY r5) (λ_=>some (.dn ((0,((s0.1,false),()))))) λ_=>some (.nx (AI .i64 s0.1 1,s0.2))) λ_=>some (.dn ((1,(s0,()))))) (0,false)) λr6=>br (neq r6.1 0) (λ_=>some r6.2.1.2) λ_=>some true
def EA (x:((Int×(AN×((Bool×AM)×((List AD)×Int))))×(Int×(AN×((Bool×AM)×((List AD)×Int)))))):Option Bool :=
 br (BN x.1.1 x.2.1) (λ_=>bd (BI (x.1.2,x.2.2)) λr0=>some r0) λ_=>some false
def D1 (x:((AJ×((List (Int×(AN×((Bool×AM)×((List AD)×Int)))))×Int))×(AJ×((List (Int×(AN×((Bool×AM)×((List AD)×Int)))))×Int)))):Option Bool :=
 bd (GD (x.1.1,x.2.1)) λr0=>br (AY r0) (λ_=>some false) λ_=>br (A7 (AX (AA x.1.2.1)) (AX (AA x.2.2.1))) (λ_=>some false) λ_=>br (A7 x.1.2.2 x.2.2.2) (λ_=>some false) λ_=>bd (loop (λs1=>br (Am s1.1 (AX (AA x.1.2.1))) (λ_=>AT s1.1 λk2=>ix x.1.2.1 k2 λx3=>AT s1.1 λk4=>ix x.2.2.1 k4 λx5=>bd (EA (x3,x5)) λr6=>br (AY r6) (λ_=>some (.dn ((0,((s1.1,false),()))))) λ_=>some (.nx (AI .i64 s1.1 1,s1.2))) λ_=>some (.dn ((1,(s1,()))))) (0,false)) λr7=>br (neq r7.1 0) (λ_=>some r7.2.1.2) λ_=>some true
end Go.Proofs.YthpkjfabdccpdaaGreat.Pl
namespace Go.Proofs.YthpkjfabdccpdaaGreat.Pl
open Go Go.Proofs.YthpkjfabdccpdaaGreat.Sv
set_option linter.unusedVariables false
def Dj (x:((AJ×((List (Int×(AN×((Bool×AM)×((List AD)×Int)))))×Int))×(List AD))):Option ((AJ×((List (Int×(AN×((Bool×AM)×((List AD)×Int)))))×Int))×Int) :=
 bd (Ce x.1) λr0=>br (A7 r0.2 0) (λ_=>some ((((0,[]),([],0)),r0.2))) λ_=>bd (DO (x.1.1,0)) λr1=>br (A7 r1.2 0) (λ_=>some ((((0,[]),([],0)),r1.2))) λ_=>br (CE x.1.2.2 1000000) (λ_=>some ((((0,[]),([],0)),5))) λ_=>br (AY r1.1) (λ_=>some ((((0,[]),([],0)),5))) λ_=>gd (BJ (AA x.2) 1048576) λ_=>bd (Eu (x.1.2.2,x.2)) λr2=>br (A7 r2.2 0) (λ_=>some ((((0,[]),([],0)),r2.2))) λ_=>bd (Bi ((x.1.1,(0,(x.1.2.2,x.2))))) λr3=>br (A7 r3.2 0) (λ_=>some ((((0,[]),([],0)),r3.2))) λ_=>bd (BD ((x.1,(r3.1,(AI .i64 x.1.2.2 1,(-1)))))) λr4=>some r4
def Ei (x:(AJ×(Int×BE))):Option (AJ×Int) :=
 bd (GU (x.1,x.2.1)) λr0=>br (A7 r0 0) (λ_=>some (((0,[]),r0))) λ_=>bd (Dg x.1) λr1=>bd (loop (λ(s2:((List Int)×Int))=>br (Am s2.2 (AX (AA r1.1))) (λ_=>AT s2.2 λk3=>ix r1.1 k3 λx4=>gd (BJ (Ao (AA s2.1) (AA [x4.1])) 1048576) λ_=>some (.nx (By s2.1 [x4.1],AI .i64 s2.2 1))) λ_=>some (.dn ((0,(s2,()))))) ([],0)) λr5=>bd (C9 (x.1.1,x.2.1)) λr6=>bd (DA ((x.2.2,(r6,r5.2.1.1)))) λr7=>br (BN r7 0) (λ_=>br (G1 x.2.1 (AX (AA x.1.2))) (λ_=>br (A7 r7 0) (λ_=>some (((0,[]),r7))) λ_=>bd (DC (x.1,x.2.1)) λr8=>gd (BJ (AA r8) 1048576) λ_=>gd (BJ (Ao (AA r8) (AA [x.2.2])) 1048576) λ_=>bd (DB ((x.1,(x.2.1,By r8 [x.2.2])))) λr9=>some (r9,0)) λ_=>AT x.2.1 λk10=>ix x.1.2 k10 λx11=>br (BN (AX (AA x11)) 2) (λ_=>some (((0,[]),5))) λ_=>br (A7 r7 0) (λ_=>some (((0,[]),r7))) λ_=>bd (DC (x.1,x.2.1)) λr12=>gd (BJ (AA r12) 1048576) λ_=>gd (BJ (Ao (AA r12) (AA [x.2.2])) 1048576) λ_=>bd (DB ((x.1,(x.2.1,By r12 [x.2.2])))) λr13=>some (r13,0)) λ_=>br (A7 r7 0) (λ_=>some (((0,[]),r7))) λ_=>bd (DC (x.1,x.2.1)) λr14=>gd (BJ (AA r14) 1048576) λ_=>gd (BJ (Ao (AA r14) (AA [x.2.2])) 1048576) λ_=>bd (DB ((x.1,(x.2.1,By r14 [x.2.2])))) λr15=>some (r15,0)
def Ej (x:((AJ×((List (Int×(AN×((Bool×AM)×((List AD)×Int)))))×Int))×(List AD))):Option ((AJ×((List (Int×(AN×((Bool×AM)×((List AD)×Int)))))×Int))×Int) :=
 bd (EH x.1) λr0=>jn (γ:=(Nat×(Int×Unit))) (λs1=>jn (γ:=(Nat×(Bool×Unit))) (λs2=>br (BN s1 0) (λ_=>br (CE x.1.2.2 1000000) (λ_=>some (.nx true)) λ_=>br (G1 0 (AX (AA x.1.1.2))) (λ_=>some (.nx false)) λ_=>ix x.1.1.2 0 λx3=>some (.nx (BN (AX (AA x3)) 2))) λ_=>some (.nx false)) () (λs4=>br s4 (λ_=>some (.nx 5)) λ_=>some (.nx s1)) λr5=>none) r0.2 (λs6=>br (A7 s6 0) (λ_=>some ((((0,[]),([],0)),s6))) λ_=>bd (EF (x.1.2.2,x.2)) λr7=>jn (γ:=(Nat×(Int×Unit))) (λs8=>jn (γ:=(Nat×(Bool×Unit))) (λs9=>br (BN s8 0) (λ_=>some (.nx (BN (AX (AA x.2)) 0))) λ_=>some (.nx false)) () (λs10=>br s10 (λ_=>some (.nx 4)) λ_=>some (.nx s8)) λr11=>none) r7.2 (λs12=>br (A7 s12 0) (λ_=>some ((((0,[]),([],0)),s12))) λ_=>bd (Ei ((x.1.1,(0,(x.1.2.2,x.2))))) λr13=>br (A7 r13.2 0) (λ_=>some ((((0,[]),([],0)),r13.2))) λ_=>bd (CR r13.1) λr14=>bd (loop (λ(s15:(Int×(Int×((List (List BE))×((List (Int×(AN×((Bool×AM)×((List AD)×Int)))))×Int)))))=>br (Am s15.1 (AX (AA r14))) (λ_=>AT s15.1 λk16=>ix r14 k16 λx17=>bd (DS (((s15.2.1,s15.2.2.1),x17))) λr18=>bd (loop (λ(s19:(Int×(Int×((List (List AD))×((List Int)×((List AM)×((List Int)×(Int×(Bool×((List UInt8)×(Bool×((List AD)×Int))))))))))))=>br (Am s19.1 (AX (AA x.1.2.1))) (λ_=>AT s19.1 λk20=>ix x.1.2.1 k20 λx21=>AT s15.1 λk22=>ix r14 k22 λx23=>br (BN x21.1 x23) (λ_=>AT s15.1 λk24=>ix r14 k24 λx25=>br (A7 x25 (-1)) (λ_=>AT s19.1 λk26=>ix x.1.2.1 k26 λx27=>some (.nx ((AI .i64 s19.1 1,(x27.1,(x27.2.1.1,(x27.2.1.2.1,(x27.2.1.2.2.1,(x27.2.1.2.2.2.1,(x27.2.1.2.2.2.2,(x27.2.2.1.1,(x27.2.2.1.2.1,(x27.2.2.1.2.2,x27.2.2.2))))))))))))) λ_=>some (.nx (AI .i64 s19.1 1,s19.2))) λ_=>some (.nx (AI .i64 s19.1 1,s19.2))) λ_=>some (.dn ((0,(s19,()))))) ((0,(r18.1.1,(r18.1.2.1.1,(r18.1.2.1.2.1,(r18.1.2.1.2.2.1,(r18.1.2.1.2.2.2.1,(r18.1.2.1.2.2.2.2,(r18.1.2.2.1.1,(r18.1.2.2.1.2.1,(r18.1.2.2.1.2.2,r18.1.2.2.2)))))))))))) λr28=>gd (BJ (Ao (AA s15.2.2.2.1) (AA ([(r28.2.1.2.1,((r28.2.1.2.2.1,(r28.2.1.2.2.2.1,(r28.2.1.2.2.2.2.1,(r28.2.1.2.2.2.2.2.1,r28.2.1.2.2.2.2.2.2.1)))),((r28.2.1.2.2.2.2.2.2.2.1,(r28.2.1.2.2.2.2.2.2.2.2.1,r28.2.1.2.2.2.2.2.2.2.2.2.1)),r28.2.1.2.2.2.2.2.2.2.2.2.2)))]))) 1048576) λ_=>some (.nx ((AI .i64 s15.1 1,(s15.2.1,(s15.2.2.1,(By s15.2.2.2.1 ([(r28.2.1.2.1,((r28.2.1.2.2.1,(r28.2.1.2.2.2.1,(r28.2.1.2.2.2.2.1,(r28.2.1.2.2.2.2.2.1,r28.2.1.2.2.2.2.2.2.1)))),((r28.2.1.2.2.2.2.2.2.2.1,(r28.2.1.2.2.2.2.2.2.2.2.1,r28.2.1.2.2.2.2.2.2.2.2.2.1)),r28.2.1.2.2.2.2.2.2.2.2.2.2)))]),s15.2.2.2.2))))))) λ_=>some (.dn ((0,(s15,()))))) ((0,(r13.1.1,(r13.1.2,([],AI .i64 x.1.2.2 1)))))) λr29=>some ((((r29.2.1.2.1,r29.2.1.2.2.1),r29.2.1.2.2.2),0))) λr30=>none) λr31=>none
def Cg (x:((AJ×((List (Int×(AN×((Bool×AM)×((List AD)×Int)))))×Int))×(List AD))):Option Bool :=
 bd (F7 x.1) λr0=>br r0 (λ_=>bd (EI ()) λr1=>some r1) λ_=>bd (Dz x.2) λr2=>br r2 (λ_=>bd (EI ()) λr3=>some r3) λ_=>bd (Dj x) λr4=>bd (Ej x) λr5=>bd (D1 (r4.1,r5.1)) λr6=>br r6 (λ_=>br (BN r4.2 r5.2) (λ_=>bd (EI ()) λr7=>some r7) λ_=>some false) λ_=>some false
end Go.Proofs.YthpkjfabdccpdaaGreat.Pl
namespace Go.Proofs.YthpkjfabdccpdaaGreat.Pl
open Go Go.Proofs.YthpkjfabdccpdaaGreat.Sv
theorem gD {B:Int} {M:List (List BE)} {f:(Int×List (List BE))->Option (LR (Int×List (List BE)) (Nat×((Int×List (List BE))×Unit)))} (h0:f (B,[])=some (.dn (0,((B,[]),())))) (hs : ∀ k,k<M.length->f (B,M.take (k+1))=if Ap M k=[] then some (.nx (B,M.take k)) else some (.dn (0,((B,M.take (k+1)),())))) : ∀ k,k<=M.length->DW (k+1) f (B,M.take k)=some (0,((B,M.take (I0 M k)),()))
 | 0,_=>by rw [List.take_zero];exact BZ h0
 | k+1,hk=>by
  have h:=hs k (by omega);unfold I0;by_cases he:Ap M k=[]
  ·rw [if_pos he] at h ⊢;rw [BV h];exact gD h0 hs k (by omega)
  ·rw [if_neg he] at h ⊢;exact BZ h
theorem Zf {M:List (List BE)} {k:Nat} (h:k<M.length):M.take (k+1)=M.take k++[Ap M k]:=by
 rw [List.take_add_one,D0 h];rfl
theorem Zg {L:AJ} (h1:L.2.length<=1000) {n:Nat} (hn:n<1000) {r:List BE} (hr:r.length<=1048576) (ho : ∀ i,(Ap L.2 i).length<=1048576):DB (L,((n:Int),r))=some (Eh L n r):=by
 have hM:(FV L.2 n r).length=max L.2.length (n+1):=by unfold FV;rw [List.length_set,Jp]
 unfold DB;simp only [AV,AR];refine A8 (HN (r:=(0,((((max L.2.length (n+1):Nat):Int),(L.1,FV L.2 n r)),()))) (λk=>((k:Int),(L.1,(FV L.2 n r).take k))) (max L.2.length (n+1)) (by simp) (by omega) (λk hk => ?_) ?_) ?_
 ·have hl:((FV L.2 n r).take k).length=k:=by rw [List.length_take];omega
  simp only [hl];rw [Zf (by omega),Sq,Ab (by omega),BG];by_cases hkl:k<L.2.length
  ·rw [if_pos (by omega),Dm,if_neg (by omega),AF,AK (D0 hkl),Bj];by_cases hkn:k=n
   ·rw [if_pos (by omega),if_pos hkn,Bb hr,Bb (by simp only [Ao,List.length_cons,List.length_nil];omega)];rfl
   ·rw [if_neg (by omega),if_neg hkn,Bb (ho k),Bb (by simp only [Ao,List.length_cons,List.length_nil];omega)];rfl
  ·rw [if_neg (by omega),Vr,if_pos (by omega),Dm,if_pos (by omega),Bj];by_cases hkn:k=n
   ·rw [if_pos (by omega),if_pos hkn,Bb hr,Bb (by simp only [Ao,List.length_cons,List.length_nil];omega)];rfl
   ·rw [if_neg (by omega),if_neg hkn,Bb (by simp only [Ao,List.length_cons,List.length_nil];omega)];have:Ap L.2 k=[]:=by unfold Ap;rw [List.getElem?_eq_none (by omega)];rfl
    rw [this];rfl
 ·have hl:(FV L.2 n r).take (max L.2.length (n+1))=FV L.2 n r:=List.take_of_length_le (by omega);simp only;rw [BG,if_neg (by omega),Vr,if_neg (by omega),hl]
 ·have hlo:=gD (B:=L.1) (M:=FV L.2 n r) (f:=λs6=>br (CE (s6.2.length:Int) 0) (λ_=>AT (B7 .i64 (s6.2.length:Int) 1) λk7=>ix s6.2 k7 λx8=>br (BN (x8.length:Int) 0) (λ_=>AT (B7 .i64 (s6.2.length:Int) 1) λk9=>gd (BJ k9 s6.2.length) λ_=>gd (BJ 0 k9) λ_=>some (.nx (s6.1,EJ s6.2 0 k9))) λ_=>some (.dn ((0,(s6,()))))) λ_=>some (.dn ((0,(s6,()))))) rfl (λk hk=>by
   have hl:((FV L.2 n r).take (k+1)).length=k+1:=by rw [List.length_take];omega
   have hi:B7 .i64 ((k+1:Nat):Int) 1=(k:Int):=by rw [B8 (by omega)];omega
   have hg:((FV L.2 n r).take (k+1))[k]? = some (Ap (FV L.2 n r) k):=by rw [List.getElem?_take,if_pos (by omega),D0 hk]
   simp only [hl,hi];rw [A5,if_pos (by omega),AF,AK hg,V8];by_cases he:Ap (FV L.2 n r) k=[]
   ·rw [if_pos he,if_pos he,AF,Bb (by omega),Bb (by omega)]
    have:EJ ((FV L.2 n r).take (k+1)) 0 k=(FV L.2 n r).take k:=by
     unfold EJ;rw [List.drop_zero,Nat.sub_zero,List.take_take];congr 1;omega
    rw [this]
   ·rw [if_neg he,if_neg he]) _ (Nat.le_refl _)
  rw [List.take_of_length_le (Nat.le_refl _)] at hlo;exact A8 (C8 (by omega) hlo) rfl
end Go.Proofs.YthpkjfabdccpdaaGreat.Pl
namespace Go.Proofs.YthpkjfabdccpdaaGreat.Pl
open Go Go.Proofs.YthpkjfabdccpdaaGreat.Sv
theorem XH {L:AJ} (v:VLev L) {n:Nat} (h:(Ap L.2 n).length=2):DS (L,(n:Int))=some (GC L n,0):=by
 have hn:n<L.2.length:=by
  by_cases h0:n<L.2.length
  ·exact h0
  ·unfold Ap at h;rw [List.getElem?_eq_none (by omega)] at h;cases h
 have hl:=v.len;obtain ⟨hb,hr⟩:=v.small;unfold DS;simp only [AV,AR];rw [RG _ hb hr,Fx v,AC,Bj,if_pos rfl,BG,if_neg (by omega),Dm,if_neg (by omega),Bj,if_pos rfl,Dm,if_neg (by omega),AF,AK (D0 hn),BG,if_neg (by omega),AS,if_pos rfl,Og v hn,AC]
 obtain ⟨r0,r1,hrr⟩ : ∃ r0 r1,Ap L.2 n=[r0,r1]:=by
  match hq:Ap L.2 n with
  | [r0,r1]=>exact ⟨r0,r1,rfl⟩
  | []=>rw [hq] at h;cases h
  | [_]=>rw [hq] at h;cases h
  | _::_::_::_=>rw [hq] at h;simp at h
 rw [P0 _ (by rw [D0 hn,hrr]) (VR.vl' v (n:=n) (by rw [hrr];simp)) (VR.vl' v (n:=n) (by rw [hrr];simp)),AC];unfold GC;rw [Int.toNat_natCast,hrr]
theorem RM (l:List AD) (hl:l.length<=9223372036854775807):Dh (l,l)=some true:=by
 unfold Dh;simp only [AV,AR];refine A8 (HN (r:=(1,(((l.length:Int),false),()))) (λk=>((k:Int),false)) l.length rfl (by omega) (λk hk => ?_) (by simp only;rw [re];rfl)) ?_
 ·have hx:l[k]? = some l[k]:=List.getElem?_eq_getElem hk;simp only;rw [rl hk,AP,AP,AF,AK hx,AF,AK hx,Oa,if_pos rfl,Ab (by omega)]
 ·rw [Cd,if_neg (show ¬ (1=0) by omega)];unfold BN;simp
theorem Sz (r:BE) (hl:r.2.length<=9223372036854775807):D9 (r,r)=some true:=by
 unfold D9;rw [Bj,if_pos rfl,RM _ hl];rfl
theorem RN (l:List BE) (hl:l.length<=1048576) (h : ∀ r∈l,r.2.length<=9223372036854775807):Di (l,l)=some true:=by
 unfold Di;simp only [AV,AR];rw [AS,if_pos rfl];refine A8 (HN (r:=(1,(((l.length:Int),false),()))) (λk=>((k:Int),false)) l.length rfl (by omega) (λk hk => ?_) (by simp only;rw [re];rfl)) rfl;have hx:l[k]? = some l[k]:=List.getElem?_eq_getElem hk;simp only;rw [rl hk,AP,AF,AK hx,AF,AK hx,Sz _ (h _ (List.getElem_mem hk)),AC,K7,Ai,Ab (by omega)]
theorem S0 (L:AJ) (hb:L.2.length<=1048576) (hr : ∀ rs∈L.2,rs.length<=1048576 /\ ∀ r∈rs,r.2.length<=9223372036854775807):GD (L,L)=some true:=by
 unfold GD;simp only [AV,AR];rw [AS,if_pos rfl,AS,if_pos rfl];refine A8 (HN (r:=(1,(((L.2.length:Int),false),()))) (λk=>((k:Int),false)) L.2.length rfl (by omega) (λk hk => ?_) (by simp only;rw [re];rfl)) rfl;have hx:L.2[k]? = some L.2[k]:=List.getElem?_eq_getElem hk;have hk2:=hr _ (List.getElem_mem hk);simp only;rw [rl hk,AP,AF,AK hx,AF,AK hx,RN _ hk2.1 hk2.2,AC,K7,Ai,Ab (by omega)]
theorem S1 {L:AJ} {n:Nat} {j:G5} (h:JobAt L n j):EA (j,j)=some true:=by
 obtain ⟨r0,r1,bt,k,_,rfl,hk,_,v0,v1⟩:=h;obtain ⟨s1,s2,s3,s4,s5,s6⟩:=Mv v1 v0 bt hk;unfold EA;rw [Bj,if_pos rfl,Oe _ _ s1 s2 s3 s4 s5 s6];simp [AC]
theorem UW {t:A3} (v:VSt t):D1 (t,t)=some true:=by
 have m:=v.sm;have hj:=v.jsmall;unfold D1;simp only [AV,AR];rw [S0 _ m.lv m.rs,AC,K7,Ai,AS,if_pos rfl,AS,if_pos rfl];refine A8 (HN (r:=(1,(((t.2.1.length:Int),false),()))) (λk=>((k:Int),false)) t.2.1.length rfl (by omega) (λk hk => ?_) (by simp only;rw [re];rfl)) rfl;have hx:t.2.1[k]? = some t.2.1[k]:=List.getElem?_eq_getElem hk;obtain ⟨n,ha⟩:=v.job _ (List.getElem_mem hk);simp only;rw [rl hk,AP,AF,AK hx,AF,AK hx,S1 ha,AC,K7,Ai,Ab (by omega)]
theorem ic:D1 (zS,zS)=some true:=by decide +kernel
end Go.Proofs.YthpkjfabdccpdaaGreat.Pl
namespace Go.Proofs.YthpkjfabdccpdaaGreat.Pl
open Go Go.Proofs.YthpkjfabdccpdaaGreat.Sv
def S2 (s:A3) (l:List AD):AJ:=Eh s.1 0 (Ap s.1.2 0++[(s.2.2,l)])
def UX (s:A3) (l:List AD):A3×Int :=
 if (Dw s).2≠0 then (zS,(Dw s).2) else if s.2.2>1000000\/2<=(Ap s.1.2 0).length then (zS,5) else if (Ca l).2≠0 then (zS,(Ca l).2)
 else if kR [] (Bc s.1.1 0) (s.2.2,l)≠0 then (zS,kR [] (Bc s.1.1 0) (s.2.2,l)) else (V9 s (S2 s l) (s.2.2+1) (-1),0)
theorem Ol {s:A3} (v:VSt s) : ∀ y∈s.1.2.flatten,y.1≠s.2.2:=λy hy=>by
 have:=L9 hy;have:=v.n3;omega
theorem Nb {s:A3} (v:VSt s) {l:List AD} (h1:(Ap s.1.2 0).length<2) (h2:kR [] (Bc s.1.1 0) (s.2.2,l)=0):VLev (S2 s l) :=
 v.lev.arrive (by omega) h1 (ZR.1 h2).1 (Ol v)
theorem RO (s:A3) (l:List AD) (i:Nat):Ap (S2 s l).2 i=if i=0 then Ap s.1.2 0++[(s.2.2,l)] else Ap s.1.2 i:=by
 unfold S2;rw [P5]
theorem fV {s:A3} (v:VSt s) {l:List AD} (h1:(Ap s.1.2 0).length<2) (h2:kR [] (Bc s.1.1 0) (s.2.2,l)=0) (h3:s.2.2<=1000000):VSt (V9 s (S2 s l) (s.2.2+1) (-1)):=by
 have hn1:=v.n1;refine Ze v (Nb v h1 h2) (by omega) (by omega) (λx hx => ?_) (λn r0 r1 hn _ _ => ?_)
 ·obtain ⟨i,hi⟩:=Sr.1 hx
  have hold : ∀ {y:BE} {k:Nat},y∈Ap s.1.2 k->y.1<s.2.2+1:=fun {y k} hy=>by
   have:=L9 (Sr.2 ⟨k,hy⟩);have:=v.n3;omega
  rw [RO] at hi;by_cases h0:i=0
  ·rw [if_pos h0] at hi;rcases List.mem_append.1 hi with hi | hi
   ·exact hold hi
   ·rw [List.mem_singleton.1 hi];show s.2.2<s.2.2+1;omega
  ·rw [if_neg h0] at hi;exact hold hi
 ·have hms:=RL.1 hn;have hn0:n≠0:=λe=>by rw [e] at hms;rw [hms] at h1;simp at h1
  have hown:Ap (S2 s l).2 n=[r0,r1]:=by rw [RO,if_neg hn0,hms]
  refine ⟨RL.2 hown,λhl=>(fU (Nb v h1 h2).last (by rw [hown];simp) λi hi => ?_).symm⟩;rw [RO,if_neg (by omega)];unfold Ap;rw [List.getElem?_eq_none (by omega)];rfl
theorem ie {s:A3} (v:VSt s) (h:s.2.2<=1000000) (l:List AD):kR [] (Bc s.1.1 0) (s.2.2,l)=if (Ca l).2≠0 then (Ca l).2 else if l.length=0 then 4 else if (l.length:Int)>Bc s.1.1 0 then 3 else 0:=by
 have:=v.n1;unfold kR;rw [if_neg (by simp only;omega)];simp
theorem XI {s:A3} (m:Sm s) {l:List AD} (hl:l.length<=1000):Dj (s,l)=some (UX s l):=by
 unfold Dj UX;rw [nQ m,AC,AS];by_cases h0:(Dw s).2=0;rotate_left
 ·rw [if_neg h0,if_pos h0];rfl
 have v:=Jo.1 h0;have hn1:=v.n1;have hr:=W8 v.lev (n:=0) (by omega);rw [if_pos h0,if_neg (by simp [h0])];show (bd (DO (s.1,((0:Nat):Int))) λr1=>_)=_;rw [hr,AC];simp only;rw [if_neg (show ¬ (0>=12) by omega),AS,if_pos rfl,A5];by_cases h1:s.2.2>1000000
 ·rw [if_pos h1,if_pos (.inl h1)];rfl
 have hrm:V5 s.1 0=decide ((Ap s.1.2 0).length<2):=by unfold V5 Ap;simp
 rw [if_neg h1,Be,hrm,CZ];by_cases h2:2<=(Ap s.1.2 0).length
 ·rw [if_neg (by omega),if_pos (.inr h2)];rfl
 rw [if_pos (by omega),if_neg (show ¬ (s.2.2>1000000\/2<=(Ap s.1.2 0).length) by omega)];rw [Bb (by simp only [AA];omega),L7 _ (by simp only;omega),AC,if_neg (show ¬ (s.2.2<1\/s.2.2>1000000) by omega),AS];by_cases h3:(Ca l).2=0;rotate_left
 ·rw [if_neg h3,if_pos h3];rfl
 rw [if_pos h3,if_neg (by simp [h3])];have hA:=Sx v.lev (n:=0) (by omega) (x:=(s.2.2,l)) (by simp only;omega) (Ol v) (by omega);show (bd (Bi (s.1,(((0:Nat):Int),(s.2.2,l)))) λr3=>_)=_;rw [hA,AC];by_cases h4:kR [] (Bc s.1.1 0) (s.2.2,l)=0;rotate_left
 ·rw [if_pos h4,if_pos h4,AS,if_neg h4];rfl
 rw [if_neg (by simp [h4]),if_neg (by simp [h4]),AS,if_pos rfl];have hjs:=v.jsmall;have hW:=Ss v.nodup (by omega) (Nb v (by omega) h4) (s.2.2+1) (-1);rw [Du (by omega)];show (bd (BD (s,(S2 s l,(s.2.2+1,(-1))))) λr4=>_)=_;rw [hW];rfl
end Go.Proofs.YthpkjfabdccpdaaGreat.Pl
namespace Go.Proofs.YthpkjfabdccpdaaGreat.Pl
open Go Go.Proofs.YthpkjfabdccpdaaGreat.Sv
def ig:List AD->AD->List AD
 | [],x=>[x]
 | y::l,x=>if C1 y.1 x.1=true then y::ig l x else if y.1=x.1 then y::l else x::y::l
def kB (rs:List BE) (l:List AD):List AD:=rs.foldl (λout r=>r.2.foldl ig out) l
def fW (x:AD):Bool := !x.2.2.1
def PT (L:AJ):List AD:=(kB (Cy L.2) []).filter fW
end Go.Proofs.YthpkjfabdccpdaaGreat.Pl
namespace Go.Proofs.YthpkjfabdccpdaaGreat.Pl
open Go Go.Proofs.YthpkjfabdccpdaaGreat.Sv
end Go.Proofs.YthpkjfabdccpdaaGreat.Pl
namespace Go.Proofs.YthpkjfabdccpdaaGreat.Pl
open Go Go.Proofs.YthpkjfabdccpdaaGreat.Sv
abbrev Zh:=(Int×((List (List AD))×((List Int)×((List AM)×((List Int)×(Int×(Bool×((List UInt8)×(Bool×((List AD)×Int))))))))))
def S3 (j:G5):Zh:=(j.1,(j.2.1.1,(j.2.1.2.1,(j.2.1.2.2.1,(j.2.1.2.2.2.1,(j.2.1.2.2.2.2,(j.2.2.1.1,(j.2.2.1.2.1,(j.2.2.1.2.2,(j.2.2.2.1,j.2.2.2.2))))))))))
theorem XJ (p:List G5) (x:G5) (d:Int):E4 (p++[x]) d=(E4 p d).or (if x.1=d then some x else none):=by
 unfold E4;rw [List.find?_append]
 congr 1
 rw [List.find?_cons];unfold XE;rw [DI];by_cases h:x.1=d
 ·rw [if_pos h,show decide (d=x.1)=true by simp [h]]
 ·rw [if_neg h,show decide (d=x.1)=false by simp;exact λe=>h e.symm];rfl
theorem Zi {s:A3} (hj:(s.2.1.map (·.1)).Nodup) (hl:s.2.1.length<=1000) (L:AJ) (ended:Int) {D:List Int} {i:Nat} {d:Int} (hi:D[i]? = some d):(loop (λ(s13:Int×Zh)=>br (Am s13.1 (s.2.1.length:Int)) (λ_=>AT s13.1 λk14=>ix s.2.1 k14 λx15=>AT (i:Int) λk16=>ix D k16 λx17=>br (BN x15.1 x17) (λ_=>AT (i:Int) λk18=>ix D k18 λx19=>br (A7 x19 ended) (λ_=>AT s13.1 λk20=>ix s.2.1 k20 λx21=>some (.nx ((AI .i64 s13.1 1,(x21.1,(x21.2.1.1,(x21.2.1.2.1,(x21.2.1.2.2.1,(x21.2.1.2.2.2.1,(x21.2.1.2.2.2.2,(x21.2.2.1.1,(x21.2.2.1.2.1,(x21.2.2.1.2.2,x21.2.2.2))))))))))))) λ_=>some (.nx (AI .i64 s13.1 1,s13.2))) λ_=>some (.nx (AI .i64 s13.1 1,s13.2))) λ_=>some (.dn (((0:Nat),(s13,()))))) ((0:Int),S3 (GC L d)))=some (0,(((s.2.1.length:Int),S3 (Gp s L ended d)),())):=by
 refine Cs (l:=s.2.1) (σ:=G5) (s:=((0:Int),S3 (GC L d))) (λk j=>((k:Int),S3 j)) (λls k j => ∃ p,s.2.1=p++ls/\j=(if d=ended then none else E4 p d).getD (GC L d)) (λ_ _ _=>(0,(((s.2.1.length:Int),S3 (Gp s L ended d)),()))) (GC L d) rfl (by omega) ⟨[],rfl,by split<;>rfl⟩ (λj h => ?_) (λk x ls j hd hx hk h => ?_)
 ·obtain ⟨p,h1,rfl⟩:=h;rw [List.append_nil] at h1;simp only;rw [re,Ai,<- h1];rfl
 ·obtain ⟨p,h1,rfl⟩:=h
  have hp:x.1 ∉ p.map (·.1):=λhm=>by
   rw [h1,List.map_append,List.nodup_append] at hj;exact hj.2.2 _ hm x.1 (by simp) rfl
  refine ⟨(if d=ended then none else E4 (p++[x]) d).getD (GC L d),?_,⟨p++[x],by rw [h1];simp,rfl⟩,rfl⟩
  simp only;rw [rl hk,AP,AF,AK hx,AF,AK hi,Bj,Ab (by omega),XJ];by_cases h2:x.1=d
  ·rw [if_pos h2,AF,AK hi,AS,AF,AK hx,if_pos h2];by_cases h3:d=ended
   ·rw [if_pos h3,if_pos h3,if_pos h3]
   ·rw [if_neg h3,if_neg h3,Oj (by rw [<- h2];exact hp)];rfl
  ·rw [if_neg h2,if_neg h2];have:(E4 p d).or none=E4 p d:=by cases E4 p d<;>rfl
   rw [this]
theorem UY {s:A3} (hj:(s.2.1.map (·.1)).Nodup) (hl:s.2.1.length<=1000) {L:AJ} (v:VLev L) (next ended:Int):loop (λ(s9:(Int×(Int×((List (List BE))×((List G5)×Int)))))=>br (Am s9.1 ((BQ 0 L.2).length:Int)) (λ_=>AT s9.1 λk10=>ix (BQ 0 L.2) k10 λx11=>bd (DS (((s9.2.1,s9.2.2.1),x11))) λr12=>bd (loop (λ(s13:Int×Zh)=>br (Am s13.1 (s.2.1.length:Int)) (λ_=>AT s13.1 λk14=>ix s.2.1 k14 λx15=>AT s9.1 λk16=>ix (BQ 0 L.2) k16 λx17=>br (BN x15.1 x17) (λ_=>AT s9.1 λk18=>ix (BQ 0 L.2) k18 λx19=>br (A7 x19 ended) (λ_=>AT s13.1 λk20=>ix s.2.1 k20 λx21=>some (.nx ((AI .i64 s13.1 1,(x21.1,(x21.2.1.1,(x21.2.1.2.1,(x21.2.1.2.2.1,(x21.2.1.2.2.2.1,(x21.2.1.2.2.2.2,(x21.2.2.1.1,(x21.2.2.1.2.1,(x21.2.2.1.2.2,x21.2.2.2))))))))))))) λ_=>some (.nx (AI .i64 s13.1 1,s13.2))) λ_=>some (.nx (AI .i64 s13.1 1,s13.2))) λ_=>some (.dn (((0:Nat),(s13,()))))) (((0:Int),(r12.1.1,(r12.1.2.1.1,(r12.1.2.1.2.1,(r12.1.2.1.2.2.1,(r12.1.2.1.2.2.2.1,(r12.1.2.1.2.2.2.2,(r12.1.2.2.1.1,(r12.1.2.2.1.2.1,(r12.1.2.2.1.2.2,r12.1.2.2.2)))))))))))) λr22=>gd (BJ (Ao s9.2.2.2.1.length [((r22.2.1.2.1,((r22.2.1.2.2.1,(r22.2.1.2.2.2.1,(r22.2.1.2.2.2.2.1,(r22.2.1.2.2.2.2.2.1,r22.2.1.2.2.2.2.2.2.1)))),((r22.2.1.2.2.2.2.2.2.2.1,(r22.2.1.2.2.2.2.2.2.2.2.1,r22.2.1.2.2.2.2.2.2.2.2.2.1)),r22.2.1.2.2.2.2.2.2.2.2.2.2))):G5)].length) 1048576) λ_=>some (.nx ((AI .i64 s9.1 1,(s9.2.1,(s9.2.2.1,(By s9.2.2.2.1 ([(r22.2.1.2.1,((r22.2.1.2.2.1,(r22.2.1.2.2.2.1,(r22.2.1.2.2.2.2.1,(r22.2.1.2.2.2.2.2.1,r22.2.1.2.2.2.2.2.2.1)))),((r22.2.1.2.2.2.2.2.2.2.1,(r22.2.1.2.2.2.2.2.2.2.2.1,r22.2.1.2.2.2.2.2.2.2.2.2.1)),r22.2.1.2.2.2.2.2.2.2.2.2.2)))]),s9.2.2.2.2))))))) λ_=>some (.dn (((0:Nat),(s9,()))))) (((0:Int),(L.1,(L.2,(([]:List G5),next)))))=some (0,((((BQ 0 L.2).length:Int),(L.1,(L.2,((BQ 0 L.2).map (Gp s L ended),next)))),())):=by
 have hv:=v.len;have hd:=Fa L.2 0;refine Cs (l:=BQ 0 L.2) (σ:=List G5) (λi js=>((i:Int),(L.1,(L.2,(js,next))))) (λls i js=>js++ls.map (Gp s L ended)=(BQ 0 L.2).map (Gp s L ended)) (λ_ _ _=>(0,((((BQ 0 L.2).length:Int),(L.1,(L.2,((BQ 0 L.2).map (Gp s L ended),next)))),()))) [] rfl (by omega) rfl (λjs h => ?_) (λi d ls js hdr hi hk h => ?_)
 ·simp only;rw [re,Ai,<- h];simp
 ·refine ⟨js++[Gp s L ended d],?_,by rw [<- h];simp,rfl⟩;obtain ⟨n,r0,r1,hdn,hn⟩:=WB (List.mem_of_getElem? hi);have hb:=XH v (n:=n) (by rw [RL.1 hn];rfl);rw [<- hdn] at hb
  have hm:js.length<=1000:=by
   have h4:=congrArg List.length h;rw [List.length_append,List.length_map,List.length_map] at h4;omega
  simp only;rw [rl hk,AP,AF,AK hi];have hb':DS ((L.1,L.2),d)=some (GC L d,0):=hb;rw [hb',AC];refine A8 (Zi hj hl L ended hi) ?_;rw [Bb (by simp only [Ao,List.length_cons,List.length_nil];omega),Ab (by omega)];rfl
end Go.Proofs.YthpkjfabdccpdaaGreat.Pl
namespace Go.Proofs.YthpkjfabdccpdaaGreat.Pl
open Go Go.Proofs.YthpkjfabdccpdaaGreat.Sv
theorem Zj (L:AJ) (n:Nat):DC (L,(n:Int))=some (Ap L.2 n):=by
 unfold DC;simp only [AV,AR];rw [Dm];by_cases h:n<L.2.length
 ·rw [if_neg (by omega),AF,AK (D0 h)]
 ·rw [if_pos (by omega)];unfold Ap;rw [List.getElem?_eq_none (by omega)];rfl
end Go.Proofs.YthpkjfabdccpdaaGreat.Pl
namespace Go.Proofs.YthpkjfabdccpdaaGreat.Pl
open Go Go.Proofs.YthpkjfabdccpdaaGreat.Sv
theorem XK {t:A3} (h:t=zS\/VSt t):D1 (t,t)=some true:=by
 rcases h with h | h
 ·rw [h];exact ic
 ·exact UW h
end Go.Proofs.YthpkjfabdccpdaaGreat.Pl
namespace Go.Proofs.YthpkjfabdccpdaaGreat.Pl
open Go Go.Proofs.YthpkjfabdccpdaaGreat.Sv
theorem I9 {α β γ δ:Type} {f:α->Option (LR δ γ)} {s:α} {k:δ->Option β} {k2:γ->Option β} {x:δ} (h:f s=some (.nx x)):jn f s k k2=k x:=by
 unfold jn;rw [h]
theorem fX {L:AJ} (v:VLev L) {n:Nat} (hn:n<12) {x:BE} (hx:x.2.length<=1048576) (hid : ∀ y∈L.2.flatten,y.1≠x.1) (hl:(Ap L.2 n).length<2) :
  Ei (L,((n:Int),x))=some (if kR [] (Bc L.1 n) x≠0 then ((0,[]),kR [] (Bc L.1 n) x) else (Eh L n (Ap L.2 n++[x]),0)):=by
 have hv:=v.len;have hnl:=Jk L.2 v.two;unfold Ei;simp only [AV,AR];rw [ZY v,AC,if_neg (by omega),AS,if_pos rfl,Of v,AC];refine A8 (Cs (l:=Cy L.2) (σ:=List Int) (s:=(([]:List Int),(0:Int))) (λi m=>(m,(i:Int))) (λls i m=>m++ls.map Vz=(Cy L.2).map Vz) (λ_ _ _=>(0,(((Cy L.2).map Vz,((Cy L.2).length:Int)),()))) [] rfl (by omega) rfl (λm h => ?_) (λi r ls m hd hi hlt h => ?_)) ?_
 ·simp only;rw [re,Ai,<- h];simp
 ·refine ⟨m++[Vz r],?_,by rw [<- h];simp,rfl⟩
  have hm:m.length<=1000:=by
   have h4:=congrArg List.length h;rw [List.length_append,List.length_map,List.length_map] at h4;omega
  simp only;rw [rl hlt,AP,AF,AK hi,Bb (by simp only [Ao,List.length_cons,List.length_nil];omega),Ab (by omega)];rfl
 have hni:x.1 ∉ (Cy L.2).map Vz:=λhm=>by
  obtain ⟨y,hy,e⟩:=List.mem_map.1 hm;obtain ⟨rs,h1,h2⟩:=List.mem_flatMap.1 hy;exact hid y (List.mem_flatten.2 ⟨rs,h1,List.mem_reverse.1 h2⟩) e
 have hk:kR ((Cy L.2).map Vz) (Bc L.1 n) x=kR [] (Bc L.1 n) x:=by
  rw [ZQ,if_neg hni];split
  ·rename_i h;exact h.symm
  ·rfl
 have small : ∀ i,(Ap L.2 i).length<=1048576:=λi=>by have:=(v.own i).1;omega
 have hW:=Zg (L:=L) (n:=n) (r:=Ap L.2 n++[x]) (by omega) (by omega) (by simp;omega) small;rw [Sj v.B1 v.B2 (by omega),AC,Sk _ _ _ (by omega) (by simp;omega),hk,AC,Bj];by_cases h0:kR [] (Bc L.1 n) x=0;rotate_left
 ·rw [if_neg h0,if_pos h0,AS,if_neg h0]
 rw [if_pos h0,if_neg (by simp [h0]),Dm]
 have fin:(bd (DC (L,(n:Int))) λr8=>gd (BJ r8.length 1048576) λ_=>gd (BJ (Ao r8.length [x].length) 1048576) λ_=>bd (DB (L,((n:Int),By r8 [x]))) λr9=>some (r9,(0:Int)))=some (Eh L n (Ap L.2 n++[x]),0):=by
  rw [Zj,AC,Bb (by omega),Bb (by simp only [Ao,List.length_cons,List.length_nil];omega)];exact A8 hW rfl
 by_cases h3:n<L.2.length
 ·rw [if_neg (by omega),AF,AK (D0 h3),Bj,if_neg (by omega),AS,if_pos h0];exact fin
 ·rw [if_pos (by omega),AS,if_pos h0];exact fin
theorem UZ {s:A3} (m:Sm s) {l:List AD} (hl:l.length<=1000):Ej (s,l)=some (UX s l):=by
 unfold Ej UX;rw [j9 m,AC];simp only [AV,AR];by_cases h0:(Dw s).2=0;rotate_left
 ·rw [if_pos h0];refine (I9 (x:=(Dw s).2) (I9 (x:=false) (by rw [Bj,if_neg h0]) |>.trans rfl)).trans ?_;rw [AS,if_neg h0];rfl
 have v:=Jo.1 h0;have hn1:=v.n1;have hlv:=v.lev.len;rw [if_neg (by simp [h0])];have h2le:=(v.lev.own 0).1;by_cases h1:s.2.2>1000000\/2<=(Ap s.1.2 0).length
 ·rw [if_pos h1]
  refine (I9 (x:=(5:Int)) (I9 (x:=true) (by
   rw [Bj,if_pos h0,A5];by_cases h2:s.2.2>1000000
   ·rw [if_pos h2]
   ·rw [if_neg h2];have h3:2<=(Ap s.1.2 0).length:=by omega
    have h4:0<s.1.2.length:=by
     by_cases h:0<s.1.2.length
     ·exact h
     ·unfold Ap at h3;rw [List.getElem?_eq_none (by omega)] at h3;simp at h3
    rw [Dm,if_neg (by omega),AK (D0 h4)]
    rw [show BN ((Ap s.1.2 0).length:Int) 2=true by rw [DI];simp;omega]) |>.trans rfl)).trans ?_
  rfl
 rw [if_neg h1]
 refine (I9 (x:=(Dw s).2) (I9 (x:=false) (by
   rw [Bj,if_pos h0,A5,if_neg (by omega),Dm];by_cases h4:0<s.1.2.length
   ·rw [if_neg (by omega),AK (D0 h4)];rw [show BN ((Ap s.1.2 0).length:Int) 2=false by rw [DI];simp;omega]
   ·rw [if_pos (by omega)]) |>.trans rfl)).trans ?_
 rw [AS,if_pos h0,V3 _ (by simp only;omega),AC,if_neg (show ¬ (s.2.2<1\/s.2.2>1000000) by omega)];have hkr:=ie v (by omega:s.2.2<=1000000) l;by_cases h3:(Ca l).2=0;rotate_left
 ·rw [if_pos h3];refine (I9 (x:=(Ca l).2) (I9 (x:=false) (by rw [Bj,if_neg h3]) |>.trans rfl)).trans ?_;rw [AS,if_neg h3];rfl
 rw [if_neg (by simp [h3])];rw [if_neg (by simp [h3])] at hkr;by_cases h4:l.length=0
 ·rw [if_pos h4] at hkr;rw [if_pos (by rw [hkr];decide),hkr]
  refine (I9 (x:=(4:Int)) (I9 (x:=true) (by
   rw [Bj,if_pos h3,show BN (l.length:Int) 0=true by rw [DI];simp;exact List.length_eq_zero_iff.1 h4]) |>.trans rfl)).trans ?_
  rfl
 refine (I9 (x:=(Ca l).2) (I9 (x:=false) (by
   rw [Bj,if_pos h3,show BN (l.length:Int) 0=false by rw [DI];simp;exact λe=>h4 (by rw [e];rfl)]) |>.trans rfl)).trans ?_
 have hA:=fX v.lev (n:=0) (by omega) (x:=(s.2.2,l)) (by simp only;omega) (Ol v) (by omega);rw [AS,if_pos h3];refine A8 hA ?_;by_cases h5:kR [] (Bc s.1.1 0) (s.2.2,l)=0;rotate_left
 ·rw [if_pos h5,if_pos h5,AS,if_neg h5];rfl
 rw [if_neg (by simp [h5]),if_neg (by simp [h5]),AS,if_pos rfl];have hlev:=Nb v (by omega) h5;have hjs:=v.jsmall;have hdl:=hlev.len;rw [Du (by omega)];show (bd (CR (S2 s l)) λr14=>_)=_;rw [V4 (by omega),AC];exact A8 (UY v.nodup (by omega) hlev (s.2.2+1) (-1)) rfl
theorem Zk {s:A3} (l:List AD):(UX s l).1=zS\/VSt (UX s l).1:=by
 unfold UX;by_cases h0:(Dw s).2=0;rotate_left
 ·rw [if_pos h0];exact .inl rfl
 rw [if_neg (by simp [h0])];by_cases h1:s.2.2>1000000\/2<=(Ap s.1.2 0).length
 ·rw [if_pos h1];exact .inl rfl
 rw [if_neg h1];by_cases h3:(Ca l).2=0;rotate_left
 ·rw [if_pos h3];exact .inl rfl
 rw [if_neg (by simp [h3])];by_cases h5:kR [] (Bc s.1.1 0) (s.2.2,l)=0;rotate_left
 ·rw [if_pos h5];exact .inl rfl
 rw [if_neg (by simp [h5])];exact .inr (fV (Jo.1 h0) (by omega) h5 (by omega))
theorem installArrives (x:A3×List AD):Cg x=some true:=by
 obtain ⟨s,l⟩:=x;unfold Cg;obtain ⟨b,e,hb⟩:=XB s;obtain ⟨b2,e2,hb2⟩:=P2 l;rw [e,AC,fR];cases b with
 | true=>rfl
 | false =>
  rw [Ai,e2,AC];cases b2 with
  | true=>rfl
  | false =>
   have hl:=hb2 rfl;rw [Ai,XI (hb rfl).1 (by omega),AC,UZ (hb rfl).1 (by omega),AC,XK (Zk l),AC,AP,fS,AP];rfl
end Go.Proofs.YthpkjfabdccpdaaGreat.Pl
