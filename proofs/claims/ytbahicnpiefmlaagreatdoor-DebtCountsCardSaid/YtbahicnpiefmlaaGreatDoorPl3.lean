/- Functions of the program and of the specification as plain functions, and laws about them. No condition. -/
import Derived.Test.YtbahicnpiefmlaaGreatDoorPl2
import Derived.KernelRfl
set_option linter.all false
namespace Go.Proofs.YtbahicnpiefmlaaGreatDoor.Pl
section
open Go Sv
theorem su {s t:Th} {n:Nat} {j:Job} {b:Bool} (v:VSt s) (F:StepF s n j t b) {i:Nat} (a:i≠n) (f:(To s.1.2 i).length=2):To t.1.2 i=To s.1.2 i/\Uq t.2.1 (i:Int)=Uq s.2.1 (i:Int):=by
 by_cases k:0<UL s.1 j
 ·obtain ⟨_,e1,_,e2⟩:=F.read k;exact ⟨by rw [e1],by rw [e2,if_neg a]⟩
 ·obtain ⟨_,e1,_,e2,e3,g⟩:=F.inst (by omega)
  have e : ¬ (Uo j≠[]/\i=Yo s j):=λ⟨c,hi⟩=>by
   rcases e3 with e3 | ⟨e3,_,h⟩
   ·exact a (by rw [hi,e3])
   ·have:=h c;rw [<- e3,<- hi] at this;omega
  have c:To t.1.2 i=To s.1.2 i:=by rw [e2,if_neg e,if_neg a]
  refine ⟨c,?_⟩;obtain ⟨j',d⟩:=v.hasJob f;rw [g,c,if_pos f,if_neg a,d];rfl
theorem sv {s0 s:Th} (g:Gd s0 s) (e:XW s=0) {i:Nat} (b:(To s.1.2 i).length=2) (f:aN s≠((i:Int),true)):(To (Ya s).1.2 i).length=2:=by
 obtain ⟨n,j,d,k,h,hc,F,_⟩:=X5 g e;by_cases a:i=n
 ·subst a;by_cases c:0<UL s.1 j
  ·rw [(F.read c).2.1];exact b
  ·exact absurd (Prod.ext d (F.inst (by omega)).1) f
 ·rw [(su g.1 F a b).1];exact b
def bm (a:Int):Nat->Nat->Th->Int×Int
 | 0,_,_=>(0,0)
 | k+1,n,s=>if XW s≠0 then (0,XW s) else if aN s=(a,true) then (((n+1:Nat):Int),0) else bm a k (n+1) (Ya s)
def NAt (s0:Th) (a:Int) (T:Int×Int) (k n:Nat) (s:Th):Prop:=Gd s0 s/\oB 2000 s<k/\n+k<=60000/\T=bm a k n s /\ ∃ i:Nat,a=(i:Int)/\(To s.1.2 i).length=2
theorem NAt.fail {s0 s:Th} {d:Int} {T:Int×Int} {k n:Nat} (a:NAt s0 d T k n s) (e:XW s≠0):T=(0,XW s):=by
 obtain ⟨_,f,_,c,_⟩:=a;obtain ⟨b,rfl⟩ : ∃ b,k=b+1:=⟨k-1,by omega⟩;rw [c];simp [bm,e]
theorem NAt.hit {s0 s:Th} {c:Int} {T:Int×Int} {k n:Nat} (a:NAt s0 c T k n s) (e:XW s=0) (h:aN s=(c,true)):T=(((n+1:Nat):Int),0):=by
 obtain ⟨_,f,_,d,_⟩:=a;obtain ⟨b,rfl⟩ : ∃ b,k=b+1:=⟨k-1,by omega⟩;rw [d];simp [bm,e,h]
theorem NAt.next {s0 s:Th} {d:Int} {T:Int×Int} {k n:Nat} (a:NAt s0 d T k n s) (e:XW s=0) (h:aN s≠(d,true)) : ∃ b,k=b+1/\NAt s0 d T b (n+1) (Ya s)/\oB 2000 (Ya s)<oB 2000 s:=by
 obtain ⟨c,m,o,j,i,f,l⟩:=a;obtain ⟨b,rfl⟩ : ∃ b,k=b+1:=⟨k-1,by omega⟩;obtain ⟨_,_,_,_,_,_,_,g⟩:=X5 c e;have p:=(eZ c c.2.2 e).1;refine ⟨b,rfl,⟨g,by omega,by omega,?_,i,f,sv c e l (by rw [<- f];exact h)⟩,by omega⟩;rw [j];simp [bm,e,h]
end
section
open Go Sv
end
section
open Go Sv
end
section
open Go Sv
set_option maxRecDepth 1000000
end
section
open Go Sv
end
section
open Go Sv
end
section
open Go Sv
set_option maxRecDepth 100000
end
section
open Go Sv
end
section
open Go Sv
set_option maxRecDepth 100000
end
section
open Go Sv
set_option maxRecDepth 100000
end
section
open Go Sv
end
section
open Go Sv
set_option maxRecDepth 100000
end
section
open Go Sv
end
section
open Go Sv
end
section
open Go Sv
end
section
open Go Sv
end
section
open Go Sv
end
section
open Go Sv
end
section
open Go Sv
end
section
open Go Sv
def Vz (x:qS):Option (Int×(Int×Int)) :=
 bd (Us x) λa=>br (Rx a.2 0) (λ_=>some ((0,(0,a.2)))) λ_=>bd (WY x.1) λb=>some b
def Vy (x:qS):Option (Int×Int) :=
 bd (Vz x) λa=>br (Rx a.2.2 0) (λ_=>some (0,a.2.2)) λ_=>some ((SF .i64 a.2.1 (SE .i64 a.1 1),0))
def WU (x:qS):Option (Int×Int) :=
 bd (Vz x) λa=>br (Rx a.2.2 0) (λ_=>some (0,a.2.2)) λ_=>some ((SE .i64 (SF .i64 4 (SE .i64 a.1 x.1.1)) (SF .i64 2 (Ki (AS x.1.2))),0))
def Yw (x:(qS×Int)):Option (qS×(Int×Int)) :=
 br (Oa x.2 0) (λ_=>some ((x.1,(0,0)))) λ_=>bd (loop (λ(s0:(qL×((Int×Int)×(Int×(qL×Int)))))=>bd (YU (((s0.1.1,s0.1.2.1),s0.1.2.2))) λc=>br (Oa c.2 4) (λ_=>some (.dn ((0,((s0.1,((1,0),s0.2.2)),()))))) λ_=>br (Oa c.2 0) (λ_=>bd (VW ((((s0.1.1,s0.1.2.1),s0.1.2.2),c.1))) λb=>br (Rx b.2.2 0) (λ_=>some (.dn ((0,(((0,([],([],0))),((2,b.2.2),s0.2.2)),()))))) λ_=>br (Oa (SJ .i64 s0.2.2.2.2 1) 0) (λ_=>some (.dn ((1,(((b.1.1.1,(b.1.1.2,b.1.2)),((0,0),(SE .i64 s0.2.2.1 1,((b.1.1.1,(b.1.1.2,b.1.2)),SJ .i64 s0.2.2.2.2 1)))),()))))) λ_=>some (.nx (((b.1.1.1,(b.1.1.2,b.1.2)),((0,0),(SE .i64 s0.2.2.1 1,((b.1.1.1,(b.1.1.2,b.1.2)),SJ .i64 s0.2.2.2.2 1))))))) λ_=>br (Rx c.2 0) (λ_=>some (.dn ((0,(((0,([],([],0))),((2,c.2),s0.2.2)),()))))) λ_=>br (Oa (SJ .i64 s0.2.2.2.2 1) 0) (λ_=>some (.dn ((1,((s0.1,((0,0),(SE .i64 s0.2.2.1 1,(s0.1,SJ .i64 s0.2.2.2.2 1)))),()))))) λ_=>some (.nx ((s0.1,((0,0),(SE .i64 s0.2.2.1 1,(s0.1,SJ .i64 s0.2.2.2.2 1))))))) (((x.1.1.1,(x.1.1.2,x.1.2)),((0,0),(0,((x.1.1.1,(x.1.1.2,x.1.2)),x.2)))))) λa=>br (neq a.1 0) (λ_=>br (Oa a.2.1.2.1.1 0) (λ_=>some ((((a.2.1.2.2.2.1.1,a.2.1.2.2.2.1.2.1),a.2.1.2.2.2.1.2.2),(a.2.1.2.2.1,0)))) λ_=>br (Oa a.2.1.2.1.1 1) (λ_=>some ((((a.2.1.2.2.2.1.1,a.2.1.2.2.2.1.2.1),a.2.1.2.2.2.1.2.2),(a.2.1.2.2.1,0)))) λ_=>some ((((0,[]),([],0)),(0,a.2.1.2.1.2)))) λ_=>br (Oa a.2.1.2.1.1 0) (λ_=>some ((((a.2.1.2.2.2.1.1,a.2.1.2.2.2.1.2.1),a.2.1.2.2.2.1.2.2),(a.2.1.2.2.1,0)))) λ_=>br (Oa a.2.1.2.1.1 1) (λ_=>some ((((a.2.1.2.2.2.1.1,a.2.1.2.2.2.1.2.1),a.2.1.2.2.2.1.2.2),(a.2.1.2.2.1,0)))) λ_=>some ((((0,[]),([],0)),(0,a.2.1.2.1.2)))
def Zu (x:(qS×Int)):Option (qS×(Int×Int)) :=
 bd (Us x.1) λa=>br (Rx a.2 0) (λ_=>some ((((0,[]),([],0)),(0,a.2)))) λ_=>br (S7 x.2 0) (λ_=>some ((((0,[]),([],0)),(0,7)))) λ_=>br (S5 x.2 1000000) (λ_=>some ((((0,[]),([],0)),(0,7)))) λ_=>bd (Yw x) λb=>some b
def Yp (x:qS):Option (qS×(Int×Int)) :=
 bd (Us x) λa=>br (Rx a.2 0) (λ_=>some ((((0,[]),([],0)),(0,a.2)))) λ_=>bd (Yw ((x,(-1)))) λb=>some b
def WV (x:qS):Option (Bool×Int) :=
 bd (VX x) λa=>br (Oa a.2 0) (λ_=>some ((Oa (Ki (AS a.1)) 0,a.2))) λ_=>some (false,a.2)
def Ww (x:Unit):Option Bool :=
 bd (YM ()) λi=>bd (Zv i) λa=>br (Rx a.2 0) (λ_=>some false) λ_=>bd (Xb a.1) λd=>bd (WM (a.1,0)) λe=>bd (Vy a.1) λf=>bd (WU a.1) λg=>br (Rx d.1 4) (λ_=>some false) λ_=>br (Rx d.2 0) (λ_=>some false) λ_=>br (Rx e.1 4) (λ_=>some false) λ_=>br (Rx e.2 0) (λ_=>some false) λ_=>br (Rx f.1 8) (λ_=>some false) λ_=>br (Rx f.2 0) (λ_=>some false) λ_=>br (Rx g.1 22) (λ_=>some false) λ_=>br (Rx g.2 0) (λ_=>some false) λ_=>bd (Zu (a.1,3)) λc=>bd (Yp c.1) λb=>bd (WV b.1) λh=>br (Oa c.2.1 3) (λ_=>br (Oa c.2.2 0) (λ_=>br (Oa b.2.1 1) (λ_=>br (Oa b.2.2 0) (λ_=>br h.1 (λ_=>br (Oa h.2 0) (λ_=>some (Oa (Ki (AS b.1.2.1)) 0)) λ_=>some false) λ_=>some false) λ_=>some false) λ_=>some false) λ_=>some false) λ_=>some false
def WK (x:qS):Option (Int×Int) :=
 bd (U8 x) λa=>br (Rx a.2 0) (λ_=>some (0,a.2)) λ_=>bd (WH x.1) λb=>some ((SF .i64 b.2.1 (SE .i64 b.1 1),0))
def W5 (x:qS):Option (Int×Int) :=
 bd (U8 x) λa=>br (Rx a.2 0) (λ_=>some (0,a.2)) λ_=>bd (WH x.1) λb=>some ((SE .i64 (SF .i64 4 (SE .i64 b.1 x.1.1)) (SF .i64 2 (Ki (AS x.1.2))),0))
def XD (x:qS):Option (Bool×Int) :=
 bd (VH x) λa=>br (Oa a.2 0) (λ_=>some ((Oa (Ki (AS a.1)) 0,a.2))) λ_=>some (false,a.2)
def Vi (x:(qS×Int)):Option Bool :=
 bd (XM x.1) λl=>br l (λ_=>bd (Ww ()) λm=>some m) λ_=>bd (WM x) λd=>bd (Ve x) λe=>br (Rx d.1 e.1) (λ_=>some false) λ_=>br (Rx d.2 e.2) (λ_=>some false) λ_=>bd (Xb x.1) λf=>bd (Xj x.1) λg=>bd (Vy x.1) λh=>bd (WK x.1) λi=>br (Rx f.1 g.1) (λ_=>some false) λ_=>br (Rx f.2 g.2) (λ_=>some false) λ_=>br (Rx h.1 i.1) (λ_=>some false) λ_=>br (Rx h.2 i.2) (λ_=>some false) λ_=>bd (WU x.1) λj=>bd (W5 x.1) λk=>bd (WV x.1) λa=>bd (XD x.1) λb=>br (Oa j.1 k.1) (λ_=>br (Oa j.2 k.2) (λ_=>br (beq a.1 b.1) (λ_=>br (Oa a.2 b.2) (λ_=>bd (Ww ()) λc=>some c) λ_=>some false) λ_=>some false) λ_=>some false) λ_=>some false
end
end Go.Proofs.YtbahicnpiefmlaaGreatDoor.Pl
