/- Functions of the program and of the specification as plain functions, and laws about them. No condition. -/
import Derived.Test.YtbahicnpiefmlaaGreatDoorPl3
import Derived.KernelRfl
set_option linter.all false
namespace Go.Proofs.YtbahicnpiefmlaaGreatDoor.Pl
section
open Go Sv
abbrev xM:=Int×(List (List UK)×(List Job×Int))
abbrev xL:=xM×((Int×Int)×(Int×(xM×Int)))
def DAt (s0:Th) (T:Th×(Nat×Int)) (k n:Nat) (m:Int) (s:Th):Prop :=
 Gd s0 s/\n+k<=1100000/\T=((X7 k s).1,(n+(X7 k s).2.1.length,(X7 k s).2.2))/\((m=(k:Int)/\0<k)\/(m = -1-(n:Int)/\oB 2000 s<k))
theorem DAt.pos {s0 s:Th} {T:Th×(Nat×Int)} {k n:Nat} {m:Int} (a:DAt s0 T k n m s) : ∃ b,k=b+1:=by
 obtain ⟨_,_,_,h⟩:=a;exact ⟨k-1,by omega⟩
theorem DAt.none {s0 s:Th} {T:Th×(Nat×Int)} {k n:Nat} {m:Int} (a:DAt s0 T k n m s) (e:XW s=4):T=(s,(n,0)):=by
 obtain ⟨b,rfl⟩:=a.pos;rw [a.2.2.1];simp [X7,e]
theorem DAt.fail {s0 s:Th} {T:Th×(Nat×Int)} {k n:Nat} {m:Int} (a:DAt s0 T k n m s) (c:XW s≠4) (b:XW s≠0):T=(s,(n,XW s)):=by
 obtain ⟨d,rfl⟩:=a.pos;rw [a.2.2.1];simp [X7,c,b]
theorem DAt.step {s0 s:Th} {T:Th×(Nat×Int)} {k n:Nat} {m:Int} (a:DAt s0 T k n m s) (e:XW s=0) :
  (m-1=0/\T=(Ya s,(n+1,0)))\/(m-1≠0 /\ ∃ b,DAt s0 T b (n+1) (m-1) (Ya s)):=by
 obtain ⟨b,rfl⟩:=a.pos;obtain ⟨g,o,i,c⟩:=a;obtain ⟨_,_,_,_,_,_,_,h⟩:=X5 g e;have p:=(eZ g g.2.2 e).1
 have d:T=((X7 b (Ya s)).1,(n+1+(X7 b (Ya s)).2.1.length,(X7 b (Ya s)).2.2)):=by
  rw [i];simp [X7,e];omega
 by_cases f:m-1=0
 ·refine .inl ⟨f,?_⟩;have l:b=0:=by omega
  rw [d,l];rfl
 ·refine .inr ⟨f,b,h,by omega,d,?_⟩;rcases c with ⟨c,j⟩ | ⟨c,j⟩
  ·exact .inl ⟨by omega,by omega⟩
  ·exact .inr ⟨by omega,by omega⟩
def DEnd (T:Th×(Nat×Int)) (r:Nat×(xL×Unit)):Prop :=
 (T.2.2=0/\(r.2.1.2.1.1=0\/r.2.1.2.1.1=1)/\r.2.1.2.2.1=(T.2.1:Int)/\r.2.1.2.2.2.1=yc T.1)\/(T.2.2≠0/\r.2.1.2.1=(2,T.2.2))
theorem DEnd.fin {T:Th×(Nat×Int)} {r:Nat×(xL×Unit)} (h:DEnd T r) :
  (br (Oa r.2.1.2.1.1 0) (λ_=>some ((((r.2.1.2.2.2.1.1,r.2.1.2.2.2.1.2.1),r.2.1.2.2.2.1.2.2),(r.2.1.2.2.1,(0:Int))))) λ_=>br (Oa r.2.1.2.1.1 1) (λ_=>some ((((r.2.1.2.2.2.1.1,r.2.1.2.2.2.1.2.1),r.2.1.2.2.2.1.2.2),(r.2.1.2.2.1,0)))) λ_=>some ((((0,[]),([],0)),(0,r.2.1.2.1.2))))=some (if T.2.2≠0 then (zS,(0,T.2.2)) else (T.1,((T.2.1:Int),0))):=by
 rcases h with ⟨a,h2,b,c⟩ | ⟨a,h2⟩
 ·rw [if_neg (by simp [a]),c,b,TJ,TJ];rcases h2 with h2 | h2
  ·rw [if_pos h2];rfl
  ·rw [if_neg (by rw [h2];decide),if_pos h2];rfl
 ·rw [if_pos a,h2,TJ,if_neg (show ¬ ((2:Int)=0) by decide),TJ,if_neg (show ¬ ((2:Int)=1) by decide)];rfl
end
section
open Go Sv
def eu (s:Th):Int×Int:=if (Tj s).2≠0 then (0,(Tj s).2) else (((s.1.2.flatten.length*(Uf s.1.2.flatten+1):Nat):Int),0)
def al (s:Th):Int×Int:=if (Tj s).2≠0 then (0,(Tj s).2) else (((4*(Uf s.1.2.flatten+s.1.1.toNat)+2*s.1.2.length:Nat):Int),0)
def X8 (s:Th):Bool×Int:=if (Tj s).2≠0 then (false,(Tj s).2) else (decide (Tp 0 s.1.2=[]),0)
theorem Zs {s:Th} (m:Sm s):Vz s=some (if (Tj s).2≠0 then (0,(0,(Tj s).2)) else ((Uf s.1.2.flatten:Int),((s.1.2.flatten.length:Int),0))):=by
 unfold Vz;rw [uS m,Sw,TP];by_cases a:(Tj s).2=0;rotate_left
 ·rw [if_neg a,if_pos a]
 have v:=UD.1 a;rw [if_pos a,if_neg (by simp [a]),gw _ m.lv m.rs,Sw];unfold cW;rw [if_neg (by simp [Wm v.lev])]
theorem bz {n c:Nat} (a:n<=24) (hc:c<=1000000):SF .i64 (n:Int) (SE .i64 (c:Int) 1)=((n*(c+1):Nat):Int):=by
 have h:n*(c+1)<=24*1000001:=Nat.mul_le_mul a (by omega);rw [Tw (by omega),Sh]
 ·exact (Int.natCast_mul _ _).symm
 ·rw [<- Int.natCast_mul];omega
theorem cN {s:Th} (m:Sm s):Vy s=some (eu s):=by
 unfold Vy eu;rw [Zs m,Sw,TP];by_cases a:(Tj s).2=0;rotate_left
 ·rw [if_pos a,if_neg a,if_pos a]
 have v:=UD.1 a;have b:=bV v.lev;have c:=(Wq v.lev).2;rw [if_neg (show ¬ (Tj s).2≠0 by simp [a]),if_neg (show ¬ (Tj s).2≠0 by simp [a]),if_pos rfl,bz b (by omega)]
theorem bu {s:Th} (m:Sm s):WK s=some (eu s):=by
 unfold WK eu;rw [qt m,Sw,TP];by_cases a:(Tj s).2=0;rotate_left
 ·rw [if_neg a,if_pos a]
 have v:=UD.1 a;have b:=bV v.lev;have c:=(Wq v.lev).2;rw [if_pos a,if_neg (show ¬ (Tj s).2≠0 by simp [a]),ae v.lev,Sw,bz b (by omega)]
end
section
open Go Sv
theorem gv {s:Th} (m:Sm s):WU s=some (al s):=by
 unfold WU al;rw [Zs m,Sw,TP];by_cases b:(Tj s).2=0;rotate_left
 ·rw [if_pos b,if_neg b,if_pos b]
 have v:=UD.1 b;have c:=(Wq v.lev).2;have d:=v.lev.len;have e:=v.lev.B1;have f:=v.lev.B2;rw [if_neg (show ¬ (Tj s).2≠0 by simp [b]),if_neg (show ¬ (Tj s).2≠0 by simp [b]),if_pos rfl];simp only [Tn,Tl];rw [Sf (a:=(Uf s.1.2.flatten:Int)) (by omega),Sh (by omega),Sh (by omega),Sf (by omega)];refine congrArg some (Prod.ext ?_ rfl);show _=((4*(Uf s.1.2.flatten+s.1.1.toNat)+2*s.1.2.length:Nat):Int);omega
theorem fZ {s:Th} (m:Sm s):W5 s=some (al s):=by
 unfold W5 al;rw [qt m,Sw,TP];by_cases b:(Tj s).2=0;rotate_left
 ·rw [if_neg b,if_pos b]
 have v:=UD.1 b;have c:=(Wq v.lev).2;have d:=v.lev.len;have e:=v.lev.B1;have f:=v.lev.B2;rw [if_pos b,if_neg (show ¬ (Tj s).2≠0 by simp [b]),ae v.lev,Sw];simp only [Tn,Tl];rw [Sf (a:=(Uf s.1.2.flatten:Int)) (by omega),Sh (by omega),Sh (by omega),Sf (by omega)];refine congrArg some (Prod.ext ?_ rfl);show _=((4*(Uf s.1.2.flatten+s.1.1.toNat)+2*s.1.2.length:Nat):Int);omega
theorem w6 (l:List Int):Oa (l.length:Int) 0=decide (l=[]):=by
 rw [Vb];cases l with
 | nil=>rfl
 | cons a l=>rw [decide_eq_false (show ¬ ((a::l).length:Int)=0 by simp only [List.length_cons];omega),decide_eq_false (show ¬ a::l=[] by simp)]
theorem aG {s:Th} {r:Option (List Int×Int)} (h:r=some (if (Tj s).2≠0 then ([],(Tj s).2) else (Tp 0 s.1.2,0))):(bd r λb=>br (Oa b.2 0) (λ_=>some ((Oa (Ki (AS b.1)) 0,b.2))) λ_=>some (false,b.2))=some (X8 s):=by
 rw [h,Sw];unfold X8;by_cases a:(Tj s).2=0
 ·rw [if_neg (show ¬ (Tj s).2≠0 by simp [a]),if_neg (show ¬ (Tj s).2≠0 by simp [a]),TJ,if_pos rfl];simp only [Tn,Tl,w6]
 ·rw [if_pos a,if_pos a,TJ,if_neg a]
theorem cO {s:Th} (m:Sm s):WV s=some (X8 s):=aG (eh m)
theorem bw {s:Th} (m:Sm s):XD s=some (X8 s):=aG (aE m)
theorem nT:Ww ()=some true:=by kernel_rfl
theorem uT {s:Th} (m:Sm s) (d:Int):WM (s,d)=Ve (s,d):=by
 have e : ∀ r:Option (Int×Int),r=some (Xr 0 (λs j=>((UL s.1 j:Int),0)) s d)->(bd r λa=>br (Rx a.2 0) (λ_=>some (0,a.2)) λ_=>some (SE .i64 a.1 1,0))=some (if (Xr 0 (λs j=>((UL s.1 j:Int),0)) s d).2=0 then (SE .i64 (Xr 0 (λs j=>((UL s.1 j:Int),0)) s d).1 1,0) else (0,(Xr 0 (λs j=>((UL s.1 j:Int),0)) s d).2)):=λr h=>by
  rw [h,Sw,TP];split<;>rfl
 exact (e _ (eG m d)).trans (e _ (Zb m d)).symm
theorem iG {s:Th} (m:Sm s) (d:Int) : ∃ r,Ve (s,d)=some r:=by
 unfold Ve;rw [Zb m,Sw,TP];split<;>exact ⟨_,rfl⟩
theorem debtCounts (x:Th×Int):Vi x=some true:=by
 obtain ⟨s,a⟩:=x;unfold Vi;obtain ⟨b,e,c⟩:=fS s;rw [e,Sw,nT];cases b with
 | true=>rfl
 | false =>
  have m:=(c rfl).1;obtain ⟨r,d⟩:=iG m a;rw [R6,uT m,d];simp only [Sw];rw [TP,if_pos rfl,TP,if_pos rfl,qZ m,iW m];simp only [Sw];rw [cN m,bu m];simp only [Sw];rw [TP,if_pos rfl,TP,if_pos rfl,TP,if_pos rfl,TP,if_pos rfl,gv m,fZ m];simp only [Sw];rw [cO m,bw m];simp only [Sw];rw [TJ,if_pos rfl,TJ,if_pos rfl,XI,Sb,TJ,if_pos rfl]
end
end Go.Proofs.YtbahicnpiefmlaaGreatDoor.Pl
