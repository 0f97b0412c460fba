/- Functions of the program and of the specification as plain functions, and laws about them. No condition. -/
import Derived.Test.YtfipnhjfbebeiaaGreatDoorPl2
import Derived.KernelRfl
set_option linter.all false
namespace Go.Proofs.YtfipnhjfbebeiaaGreatDoor.Pl
section
open Go Sv
theorem u4 {s t:Th} {n:Nat} {j:Job} {b:Bool} (v:VSt s) (F:StepF s n j t b) {i:Nat} (a:i≠n) (f:(Tp s.1.2 i).length=2):Tp t.1.2 i=Tp s.1.2 i/\Um t.2.1 (i:Int)=Um s.2.1 (i:Int):=by
 by_cases h:0<UA s.1 j
 ·obtain ⟨_,e1,_,e2⟩:=F.read h;exact ⟨by rw [e1],by rw [e2,if_neg a]⟩
 ·obtain ⟨_,e1,_,e2,e3,g⟩:=F.inst (by omega)
  have e : ¬ (Ur j≠[]/\i=Ye s j):=λ⟨c,hi⟩=>by
   rcases e3 with e3 | ⟨e3,_,e5⟩
   ·exact a (by rw [hi,e3])
   ·have:=e5 c;rw [<- e3,<- hi] at this;omega
  have c:Tp t.1.2 i=Tp s.1.2 i:=by rw [e2,if_neg e,if_neg a]
  refine ⟨c,?_⟩;obtain ⟨j',d⟩:=v.hasJob f;rw [g,c,if_pos f,if_neg a,d];rfl
theorem u5 {s0 s:Th} (g:Gd s0 s) (e:Vj s=0) {i:Nat} (b:(Tp s.1.2 i).length=2) (f:ap s≠((i:Int),true)):(Tp (Xk s).1.2 i).length=2:=by
 obtain ⟨n,j,d,k,h,hc,F,_⟩:=XQ g e;by_cases a:i=n
 ·subst a;by_cases c:0<UA s.1 j
  ·rw [(F.read c).2.1];exact b
  ·exact absurd (Prod.ext d (F.inst (by omega)).1) f
 ·rw [(u4 g.1 F a b).1];exact b
def dC (a:Int):Nat->Nat->Th->Int×Int
 | 0,_,_=>(0,0)
 | k+1,n,s=>if Vj s≠0 then (0,Vj s) else if ap s=(a,true) then (((n+1:Nat):Int),0) else dC a k (n+1) (Xk s)
theorem ba {s:Th} (v:VSt s):Yd 2000 s<=48024:=by
 have b:=ke 2000 v;have a:=Zm v.lev;have:=Nat.mul_le_mul_right 2001 a;omega
def NAt (s0:Th) (a:Int) (T:Int×Int) (k n:Nat) (s:Th):Prop:=Gd s0 s/\Yd 2000 s<k/\n+k<=60000/\T=dC a k n s /\ ∃ i:Nat,a=(i:Int)/\(Tp s.1.2 i).length=2
theorem NAt.fail {s0 s:Th} {d:Int} {T:Int×Int} {k n:Nat} (a:NAt s0 d T k n s) (e:Vj s≠0):T=(0,Vj s):=by
 obtain ⟨_,f,_,c,_⟩:=a;obtain ⟨b,rfl⟩ : ∃ b,k=b+1:=⟨k-1,by omega⟩;rw [c];simp [dC,e]
theorem NAt.hit {s0 s:Th} {c:Int} {T:Int×Int} {k n:Nat} (a:NAt s0 c T k n s) (e:Vj s=0) (h:ap s=(c,true)):T=(((n+1:Nat):Int),0):=by
 obtain ⟨_,f,_,d,_⟩:=a;obtain ⟨b,rfl⟩ : ∃ b,k=b+1:=⟨k-1,by omega⟩;rw [d];simp [dC,e,h]
theorem NAt.next {s0 s:Th} {d:Int} {T:Int×Int} {k n:Nat} (a:NAt s0 d T k n s) (e:Vj s=0) (h:ap s≠(d,true)) : ∃ b,k=b+1/\NAt s0 d T b (n+1) (Xk s)/\Yd 2000 (Xk s)<Yd 2000 s:=by
 obtain ⟨c,m,o,j,i,f,l⟩:=a;obtain ⟨b,rfl⟩ : ∃ b,k=b+1:=⟨k-1,by omega⟩;obtain ⟨_,_,_,_,_,_,_,g⟩:=XQ c e;have p:=(aO c c.2.2 e).1;refine ⟨b,rfl,⟨g,by omega,by omega,?_,i,f,u5 c e l (by rw [<- f];exact h)⟩,by omega⟩;rw [j];simp [dC,e,h]
end
section
open Go Sv
end
section
open Go Sv
end
section
open Go Sv
set_option maxRecDepth 1000000
theorem j9 {s:Th} {g:Int} (h:Yg s g=0):VSt s/\0<=g/\g<=1000000:=by
 have a:(Tk s).2=0:=by
  by_cases a:(Tk s).2=0
  ·exact a
  ·rw [aX a] at h;exact absurd h a
 by_cases b:g<0\/g>1000000
 ·rw [Yw a b] at h;cases h
 ·exact ⟨Ts.1 a,by omega,by omega⟩
theorem aJ {t:Th} (h:t=zS\/VSt t):VM (t,t)=some true:=by
 rcases h with rfl | h
 ·exact vH
 ·exact eR h
end
section
open Go Sv
end
section
open Go Sv
end
section
open Go Sv
set_option maxRecDepth 100000
end
section
open Go Sv
end
section
open Go Sv
set_option maxRecDepth 100000
end
section
open Go Sv
set_option maxRecDepth 100000
end
section
open Go Sv
end
section
open Go Sv
set_option maxRecDepth 100000
end
section
open Go Sv
end
section
open Go Sv
theorem gr {f:Nat->Nat} {n:Nat} : ∀ {m:Nat},n<m->f n<=Wj f m
 | m+1,h=>by
  show f n<=Wj f m+f m;by_cases e:n=m
  ·rw [e];omega
  ·have:=gr (f:=f) (n:=n) (m:=m) (by omega);omega
theorem kh {s:Th} {N:Nat} (v:VSt s) (q:UL s.1.2.flatten<=N) (h:Yd N s=0):s.2.1=[]:=by
 have hd:Tq 0 s.1.2=[]:=by
  cases e:Tq 0 s.1.2 with
  | nil=>rfl
  | cons d l =>
   have p:d∈Tq 0 s.1.2:=by rw [e];simp
   obtain ⟨j,n,c,g,o,k,r⟩:=v.atDue p;have b:n<12:=by have:=v.lev.len;omega
   obtain ⟨u,w,i,t,_⟩:=k.rd;have hc:=gT i
   have a:cL N s n<=Yd N s:=by
    unfold Yd;exact gr (f:=cL N s) b
   have m:Um s.2.1 (n:Int)=some j:=by rw [<- g,<- j8 v,c]
   unfold cL km at a;rw [m,i] at a;simp only [List.length_cons,List.length_nil] at a;omega
 have:=v.due;rw [hd] at this;exact List.map_eq_nil_iff.1 this
theorem qN {s:Th} (v:VSt s) (h:s.2.1=[]):Vj s=4:=by
 have a:(Tk s).2=0:=Ts.2 v;have hd:Tq 0 s.1.2=[]:=by rw [<- v.due,h];rfl
 have e:U1 s=(0,4):=by
  unfold U1;rw [if_neg (by simp [a]),if_pos hd]
 unfold Vj;rw [e,if_pos (by decide)]
theorem kz {s:Th} (v:VSt s) (h:s.2.1=[]) : ∀ n,Uf n s=(s,([],0))
 | 0=>rfl
 | n+1=>by unfold Uf;rw [if_pos (qN v h)]
theorem iW {s0 s:Th} {N R:Nat} (g:Gd s0 s) (a:UL s.1.2.flatten<=N) (f:Yd N s<=R) (h:(Uf R s).2.2=0):(Uf R s).1.2.1=[]:=by
 obtain ⟨i,j,c,d,e⟩:=Zw (n:=R) g a;by_cases b:(Uf R s).2.1.length<R
 ·exact e h b
 ·exact kh c.1 d (by omega)
theorem iX {s0 s:Th} {N R:Nat} (g:Gd s0 s) (a:UL s.1.2.flatten<=N) (c:Yd N s<=R) (k:Nat):Uf (R+k) s=Uf R s:=by
 rw [dZ];by_cases h:(Uf R s).2.2=0
 ·have hd:=iW g a c h;have b:=(Zw (n:=R) g a).2.2.1;rw [if_neg (by simp [h]),kz b.1 hd];simp only [List.append_nil];rw [<- h]
 ·rw [if_pos h]
end
section
open Go Sv
end
section
open Go Sv
end
section
open Go Sv
end
section
open Go Sv
end
section
open Go Sv
end
section
open Go Sv
def WJ (x:qS):Option (Int×(Int×Int)) :=
 bd (U2 x) λa=>br (Ry a.2 0) (λ_=>some ((0,(0,a.2)))) λ_=>bd (W3 x.1) λb=>some b
def W0 (x:qS):Option (Int×Int) :=
 bd (WJ x) λa=>br (Ry a.2.2 0) (λ_=>some (0,a.2.2)) λ_=>some ((SG .i64 a.2.1 (SF .i64 a.1 1),0))
def Zn (x:qS):Option (Int×Int) :=
 bd (WJ x) λa=>br (Ry a.2.2 0) (λ_=>some (0,a.2.2)) λ_=>some ((SF .i64 (SG .i64 4 (SF .i64 a.1 x.1.1)) (SG .i64 2 (Ki (AS x.1.2))),0))
def Wq (x:(qS×Int)):Option (qS×(Int×Int)) :=
 br (Oa x.2 0) (λ_=>some ((x.1,(0,0)))) λ_=>bd (loop (λ(s0:(qL×((Int×Int)×(Int×(qL×Int)))))=>bd (U9 (((s0.1.1,s0.1.2.1),s0.1.2.2))) λc=>br (Oa c.2 4) (λ_=>some (.dn ((0,((s0.1,((1,0),s0.2.2)),()))))) λ_=>br (Oa c.2 0) (λ_=>bd (Uu ((((s0.1.1,s0.1.2.1),s0.1.2.2),c.1))) λb=>br (Ry b.2.2 0) (λ_=>some (.dn ((0,(((0,([],([],0))),((2,b.2.2),s0.2.2)),()))))) λ_=>br (Oa (SK .i64 s0.2.2.2.2 1) 0) (λ_=>some (.dn ((1,(((b.1.1.1,(b.1.1.2,b.1.2)),((0,0),(SF .i64 s0.2.2.1 1,((b.1.1.1,(b.1.1.2,b.1.2)),SK .i64 s0.2.2.2.2 1)))),()))))) λ_=>some (.nx (((b.1.1.1,(b.1.1.2,b.1.2)),((0,0),(SF .i64 s0.2.2.1 1,((b.1.1.1,(b.1.1.2,b.1.2)),SK .i64 s0.2.2.2.2 1))))))) λ_=>br (Ry c.2 0) (λ_=>some (.dn ((0,(((0,([],([],0))),((2,c.2),s0.2.2)),()))))) λ_=>br (Oa (SK .i64 s0.2.2.2.2 1) 0) (λ_=>some (.dn ((1,((s0.1,((0,0),(SF .i64 s0.2.2.1 1,(s0.1,SK .i64 s0.2.2.2.2 1)))),()))))) λ_=>some (.nx ((s0.1,((0,0),(SF .i64 s0.2.2.1 1,(s0.1,SK .i64 s0.2.2.2.2 1))))))) (((x.1.1.1,(x.1.1.2,x.1.2)),((0,0),(0,((x.1.1.1,(x.1.1.2,x.1.2)),x.2)))))) λa=>br (neq a.1 0) (λ_=>br (Oa a.2.1.2.1.1 0) (λ_=>some ((((a.2.1.2.2.2.1.1,a.2.1.2.2.2.1.2.1),a.2.1.2.2.2.1.2.2),(a.2.1.2.2.1,0)))) λ_=>br (Oa a.2.1.2.1.1 1) (λ_=>some ((((a.2.1.2.2.2.1.1,a.2.1.2.2.2.1.2.1),a.2.1.2.2.2.1.2.2),(a.2.1.2.2.1,0)))) λ_=>some ((((0,[]),([],0)),(0,a.2.1.2.1.2)))) λ_=>br (Oa a.2.1.2.1.1 0) (λ_=>some ((((a.2.1.2.2.2.1.1,a.2.1.2.2.2.1.2.1),a.2.1.2.2.2.1.2.2),(a.2.1.2.2.1,0)))) λ_=>br (Oa a.2.1.2.1.1 1) (λ_=>some ((((a.2.1.2.2.2.1.1,a.2.1.2.2.2.1.2.1),a.2.1.2.2.2.1.2.2),(a.2.1.2.2.1,0)))) λ_=>some ((((0,[]),([],0)),(0,a.2.1.2.1.2)))
def XO (x:(qS×Int)):Option (qS×(Int×Int)) :=
 bd (U2 x.1) λa=>br (Ry a.2 0) (λ_=>some ((((0,[]),([],0)),(0,a.2)))) λ_=>br (S8 x.2 0) (λ_=>some ((((0,[]),([],0)),(0,7)))) λ_=>br (S6 x.2 1000000) (λ_=>some ((((0,[]),([],0)),(0,7)))) λ_=>bd (Wq x) λb=>some b
def V2 (x:qS):Option (qS×(Int×Int)) :=
 bd (U2 x) λa=>br (Ry a.2 0) (λ_=>some ((((0,[]),([],0)),(0,a.2)))) λ_=>bd (Wq ((x,(-1)))) λb=>some b
def Y6 (x:qS):Option (Bool×Int) :=
 bd (Vm x) λa=>br (Oa a.2 0) (λ_=>some ((Oa (Ki (AS a.1)) 0,a.2))) λ_=>some (false,a.2)
def Ve (x:Unit):Option Bool :=
 bd (Yt ()) λi=>bd (ac i) λa=>br (Ry a.2 0) (λ_=>some false) λ_=>bd (ab a.1) λd=>bd (X8 (a.1,0)) λe=>bd (W0 a.1) λf=>bd (Zn a.1) λg=>br (Ry d.1 4) (λ_=>some false) λ_=>br (Ry d.2 0) (λ_=>some false) λ_=>br (Ry e.1 4) (λ_=>some false) λ_=>br (Ry e.2 0) (λ_=>some false) λ_=>br (Ry f.1 8) (λ_=>some false) λ_=>br (Ry f.2 0) (λ_=>some false) λ_=>br (Ry g.1 22) (λ_=>some false) λ_=>br (Ry g.2 0) (λ_=>some false) λ_=>bd (XO (a.1,3)) λc=>bd (V2 c.1) λb=>bd (Y6 b.1) λh=>br (Oa c.2.1 3) (λ_=>br (Oa c.2.2 0) (λ_=>br (Oa b.2.1 1) (λ_=>br (Oa b.2.2 0) (λ_=>br h.1 (λ_=>br (Oa h.2 0) (λ_=>some (Oa (Ki (AS b.1.2.1)) 0)) λ_=>some false) λ_=>some false) λ_=>some false) λ_=>some false) λ_=>some false) λ_=>some false
def Wo (x:qS):Option (Int×Int) :=
 bd (U4 x) λa=>br (Ry a.2 0) (λ_=>some (0,a.2)) λ_=>bd (Xd x.1) λb=>some ((SG .i64 b.2.1 (SF .i64 b.1 1),0))
def YI (x:qS):Option Bool :=
 bd (loop (λs0=>br (S8 s0.2 (Ki (AS x.1.2))) (λ_=>bd (loop (λs1=>R1 s0.2 λa=>ix x.1.2 a λf=>br (S8 s1.2 (Ki (AS f))) (λ_=>R1 s0.2 λb=>ix x.1.2 b λg=>R1 s1.2 λc=>ix g c λh=>some (.nx ((SF .i64 s1.1 (Ki (AS h.2)),SF .i64 s1.2 1)))) λ_=>some (.dn ((0,(s1,()))))) (s0.1,0)) λd=>some (.nx (d.2.1.1,SF .i64 s0.2 1))) λ_=>some (.dn ((0,(s0,()))))) (0,0)) λe=>some (S7 e.2.1.1 60)
def Wx (x:(qS×Int)):Option (qS×(Int×Int)) :=
 bd (U4 x.1) λd=>br (Oa d.2 0) (λ_=>br (S8 x.2 0) (λ_=>some ((((0,[]),([],0)),(0,7)))) λ_=>br (S6 x.2 1000000) (λ_=>some ((((0,[]),([],0)),(0,7)))) λ_=>br (Ry d.2 0) (λ_=>some ((((0,[]),([],0)),(0,d.2)))) λ_=>bd (loop (λ(s1:(Int×(Int×(Int×(qL×qL)))))=>br (S8 s1.2.1 x.2) (λ_=>bd (U6 (((s1.2.2.2.2.1,s1.2.2.2.2.2.1),s1.2.2.2.2.2.2))) λg=>br (Oa g.2 4) (λ_=>some (.dn ((1,((s1.2.1,(s1.2.1,(0,(s1.2.2.2.2,s1.2.2.2.2)))),()))))) λ_=>br (Ry g.2 0) (λ_=>some (.dn ((1,((0,(s1.2.1,(g.2,((0,([],([],0))),s1.2.2.2.2)))),()))))) λ_=>bd (VN ((((s1.2.2.2.2.1,s1.2.2.2.2.2.1),s1.2.2.2.2.2.2),g.1))) λe=>br (Ry e.2.2 0) (λ_=>some (.dn ((1,((0,(s1.2.1,(e.2.2,((0,([],([],0))),s1.2.2.2.2)))),()))))) λ_=>some (.nx ((s1.1,(SF .i64 s1.2.1 1,(s1.2.2.1,(s1.2.2.2.1,(e.1.1.1,(e.1.1.2,e.1.2))))))))) λ_=>some (.dn ((0,(s1,()))))) ((0,(0,(0,((0,([],([],0))),(x.1.1.1,(x.1.1.2,x.1.2)))))))) λb=>br (neq b.1 0) (λ_=>some ((((b.2.1.2.2.2.2.1,b.2.1.2.2.2.2.2.1),b.2.1.2.2.2.2.2.2),(x.2,0)))) λ_=>some ((((b.2.1.2.2.2.1.1,b.2.1.2.2.2.1.2.1),b.2.1.2.2.2.1.2.2),(b.2.1.1,b.2.1.2.2.1)))) λ_=>br (Ry d.2 0) (λ_=>some ((((0,[]),([],0)),(0,d.2)))) λ_=>bd (loop (λ(a:(Int×(Int×(Int×(qL×qL)))))=>br (S8 a.2.1 x.2) (λ_=>bd (U6 (((a.2.2.2.2.1,a.2.2.2.2.2.1),a.2.2.2.2.2.2))) λh=>br (Oa h.2 4) (λ_=>some (.dn ((1,((a.2.1,(a.2.1,(0,(a.2.2.2.2,a.2.2.2.2)))),()))))) λ_=>br (Ry h.2 0) (λ_=>some (.dn ((1,((0,(a.2.1,(h.2,((0,([],([],0))),a.2.2.2.2)))),()))))) λ_=>bd (VN ((((a.2.2.2.2.1,a.2.2.2.2.2.1),a.2.2.2.2.2.2),h.1))) λf=>br (Ry f.2.2 0) (λ_=>some (.dn ((1,((0,(a.2.1,(f.2.2,((0,([],([],0))),a.2.2.2.2)))),()))))) λ_=>some (.nx ((a.1,(SF .i64 a.2.1 1,(a.2.2.1,(a.2.2.2.1,(f.1.1.1,(f.1.1.2,f.1.2))))))))) λ_=>some (.dn ((0,(a,()))))) ((0,(0,(0,((0,([],([],0))),(x.1.1.1,(x.1.1.2,x.1.2)))))))) λc=>br (neq c.1 0) (λ_=>some ((((c.2.1.2.2.2.2.1,c.2.1.2.2.2.2.2.1),c.2.1.2.2.2.2.2.2),(x.2,0)))) λ_=>some ((((c.2.1.2.2.2.1.1,c.2.1.2.2.2.1.2.1),c.2.1.2.2.2.1.2.2),(c.2.1.1,c.2.1.2.2.1)))
def WM (x:qS):Option (qS×(Int×Int)) :=
 bd (Wo x) λa=>br (Ry a.2 0) (λ_=>some ((((0,[]),([],0)),(0,a.2)))) λ_=>bd (Wx (x,a.1)) λb=>some b
def WR (x:(qS×Int)):Option Bool :=
 bd (Xq x.1) λn=>br n (λ_=>bd (Ve ()) λo=>some o) λ_=>bd (YI x.1) λp=>br (Hg p) (λ_=>bd (Ve ()) λq=>some q) λ_=>br (S6 x.2 40) (λ_=>br (S7 x.2 1000000) (λ_=>bd (Ve ()) λr=>some r) λ_=>bd (XO x) λj=>bd (Wx x) λk=>bd (VM (j.1,k.1)) λs=>br (Hg s) (λ_=>some false) λ_=>br (Ry j.2.1 k.2.1) (λ_=>some false) λ_=>br (Ry j.2.2 k.2.2) (λ_=>some false) λ_=>bd (V2 x.1) λl=>bd (WM x.1) λm=>bd (VM (l.1,m.1)) λe=>br e (λ_=>br (Oa l.2.1 m.2.1) (λ_=>br (Oa l.2.2 m.2.2) (λ_=>bd (Ve ()) λf=>some f) λ_=>some false) λ_=>some false) λ_=>some false) λ_=>bd (XO x) λa=>bd (Wx x) λb=>bd (VM (a.1,b.1)) λg=>br (Hg g) (λ_=>some false) λ_=>br (Ry a.2.1 b.2.1) (λ_=>some false) λ_=>br (Ry a.2.2 b.2.2) (λ_=>some false) λ_=>bd (V2 x.1) λc=>bd (WM x.1) λd=>bd (VM (c.1,d.1)) λh=>br h (λ_=>br (Oa c.2.1 d.2.1) (λ_=>br (Oa c.2.2 d.2.2) (λ_=>bd (Ve ()) λi=>some i) λ_=>some false) λ_=>some false) λ_=>some false
end
end Go.Proofs.YtfipnhjfbebeiaaGreatDoor.Pl
