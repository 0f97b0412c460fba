/- Functions of the program and of the specification as plain functions, and laws about them. No condition. -/
import Derived.Test.YtfipnhjfbebeiaaGreatDoorPl2
import Derived.KernelRfl
set_option linter.all false
namespace Go.Proofs.YtfipnhjfbebeiaaGreatDoor.Pl
section
open Go Sv
theorem uT {s t:Th} {n:Nat} {j:Job} {b:Bool} (v:VSt s) (F:StepF s n j t b) {i:Nat} (a:i≠n) (f:(Tq s.1.2 i).length=2):Tq t.1.2 i=Tq s.1.2 i/\Uk t.2.1 (i:Int)=Uk s.2.1 (i:Int):=by
 by_cases g:0<UA s.1 j
 ·obtain ⟨_,e1,_,e2⟩:=F.read g;exact ⟨by rw [e1],by rw [e2,if_neg a]⟩
 ·obtain ⟨_,e1,_,e2,e3,e4⟩:=F.inst (by omega)
  have e : ¬ (Uo j≠[]/\i=YO s j):=λ⟨c,hi⟩=>by
   rcases e3 with e3 | ⟨e3,_,e5⟩
   ·exact a (by rw [hi,e3])
   ·have:=e5 c;rw [<- e3,<- hi] at this;omega
  have c:Tq t.1.2 i=Tq s.1.2 i:=by rw [e2,if_neg e,if_neg a]
  refine ⟨c,?_⟩;obtain ⟨j',d⟩:=v.hasJob f;rw [e4,c,if_pos f,if_neg a,d];rfl
theorem uU {s0 s:Th} (g:Gd s0 s) (e:VT s=0) {i:Nat} (b:(Tq s.1.2 i).length=2) (f:bT s≠((i:Int),true)):(Tq (XK s).1.2 i).length=2:=by
 obtain ⟨n,j,d,k,h,hc,F,_⟩:=Ww g e;by_cases a:i=n
 ·subst a;by_cases c:0<UA s.1 j
  ·rw [(F.read c).2.1];exact b
  ·exact absurd (Prod.ext d (F.inst (by omega)).1) f
 ·rw [(uT g.1 F a b).1];exact b
def dM (a:Int):Nat->Nat->Th->Int×Int
 | 0,_,_=>(0,0)
 | k+1,n,s=>if VT s≠0 then (0,VT s) else if bT s=(a,true) then (((n+1:Nat):Int),0) else dM a k (n+1) (XK s)
theorem aH {s:Th} (v:VSt s):YC 2000 s<=48024:=by
 have b:=j0 2000 v;have a:=ak v.lev;have:=Nat.mul_le_mul_right 2001 a;omega
def NAt (s0:Th) (a:Int) (T:Int×Int) (k n:Nat) (s:Th):Prop:=Gd s0 s/\YC 2000 s<k/\n+k<=60000/\T=dM a k n s /\ ∃ i:Nat,a=(i:Int)/\(Tq s.1.2 i).length=2
theorem NAt.fail {s0 s:Th} {d:Int} {T:Int×Int} {k n:Nat} (a:NAt s0 d T k n s) (e:VT s≠0):T=(0,VT s):=by
 obtain ⟨_,f,_,c,_⟩:=a;obtain ⟨b,rfl⟩ : ∃ b,k=b+1:=⟨k-1,by omega⟩;rw [c];simp [dM,e]
theorem NAt.hit {s0 s:Th} {c:Int} {T:Int×Int} {k n:Nat} (a:NAt s0 c T k n s) (e:VT s=0) (h:bT s=(c,true)):T=(((n+1:Nat):Int),0):=by
 obtain ⟨_,f,_,d,_⟩:=a;obtain ⟨b,rfl⟩ : ∃ b,k=b+1:=⟨k-1,by omega⟩;rw [d];simp [dM,e,h]
theorem NAt.next {s0 s:Th} {d:Int} {T:Int×Int} {k n:Nat} (a:NAt s0 d T k n s) (e:VT s=0) (h:bT s≠(d,true)) : ∃ b,k=b+1/\NAt s0 d T b (n+1) (XK s)/\YC 2000 (XK s)<YC 2000 s:=by
 obtain ⟨c,m,o,j,i,f,l⟩:=a;obtain ⟨b,rfl⟩ : ∃ b,k=b+1:=⟨k-1,by omega⟩;obtain ⟨_,_,_,_,_,_,_,g⟩:=Ww c e;have p:=(Zv c c.2.2 e).1;refine ⟨b,rfl,⟨g,by omega,by omega,?_,i,f,uU c e l (by rw [<- f];exact h)⟩,by omega⟩;rw [j];simp [dM,e,h]
end
section
open Go Sv
end
section
open Go Sv
end
section
open Go Sv
set_option maxRecDepth 1000000
end
section
open Go Sv
end
section
open Go Sv
end
section
open Go Sv
set_option maxRecDepth 100000
end
section
open Go Sv
end
section
open Go Sv
set_option maxRecDepth 100000
end
section
open Go Sv
set_option maxRecDepth 100000
end
section
open Go Sv
@[reducible] def tE:Ty:=.pair .str (.pair .str (.pair .bool (.int .i64)))
@[reducible] def tJb:Ty:=.pair (.pair (.int .i64) (.sl true (.sl true (.pair (.int .i64) (.sl true tE))))) (.pair (.sl true (.pair (.int .i64) (.pair (.pair (.sl false (.sl true tE)) (.pair (.sl false (.int .i64)) (.pair (.sl true (.pair .str .bool)) (.pair (.sl false (.int .i64)) (.int .i64))))) (.pair (.pair .bool (.pair .str .bool)) (.pair (.sl true tE) (.int .i64)))))) (.int .i64))
end
section
open Go Sv
set_option maxRecDepth 100000
theorem jp {L:Tl} (v:VLev L) (h:UE L.2.flatten<=2000):(LF L).length<=1000000:=by
 have f:=List.length_filter_le VN (aS (UU L.2) []);have b:=ad (UU L.2) []
 have g:UE (UU L.2)<=120000:=by
  have:=gI (l:=UU L.2) (λr a=>by
   unfold UU at a;obtain ⟨rs,c,d⟩:=List.mem_flatMap.1 a;obtain ⟨i,hi⟩:=List.getElem?_of_mem c;have e:r∈Tq L.2 i:=by unfold Tq;rw [hi];exact List.mem_reverse.1 d
   exact ((v.own i).2 r e).vl.len)
  have j:=YK L.2 v.two;have:=v.len;omega
 unfold LF;simp only [List.length_nil] at b;omega
end
section
open Go Sv
theorem ZT {s:Th} : ∀ {l:List Int},VH s l=none -> ∀ x∈l,¬ (WA false (λs j=>(Vg s.1 j,0)) s x).1=true
 | [],_,x,h=>by cases h
 | d::l,e,x,h=>by
  unfold VH at e;by_cases hd:(WA false (λs j=>(Vg s.1 j,0)) s d).1=true
  ·rw [if_pos hd] at e;cases e
  ·rw [if_neg hd] at e;rcases List.mem_cons.1 h with e1 | h1
   ·rw [e1];exact hd
   ·exact ZT e x h1
def Lo (s:Th):Prop := ∀ i,8<=i->Tq s.1.2 i=[]
theorem si {s:Th} (lo:Lo s) {d:Int} (h:d∈To 0 s.1.2):d<8:=by
 obtain ⟨n,c,f,e,a⟩:=aV h;rw [e];by_cases b:8<=n
 ·have:=lo n b;unfold Tq at this;rw [a] at this;cases this
 ·omega
theorem jx {s0 s:Th} (g:Gd s0 s) (lo:Lo s) (w:s.2.2<=1000000):VT s=4\/VT s=0:=by
 have v:=g.1;have e:(Tk s).2=0:=Tu.2 v
 have m:(Ur s).2≠9:=by
  unfold Ur;rw [if_neg (by simp [e])];by_cases a:To 0 s.1.2=[]
  ·rw [if_pos a];decide
  ·rw [if_neg a];have u:0<(To 0 s.1.2).length:=List.length_pos_iff.2 a;obtain ⟨d,hd⟩ : ∃ d,(To 0 s.1.2)[(To 0 s.1.2).length-1]? = some d:=⟨_,List.getElem?_eq_getElem (by omega)⟩;have q:=List.mem_of_getElem? hd;have hc:=gu v hd (by omega) (by have:=si lo q;omega);rw [dz v.sm] at hc;have l:=Option.some.inj hc;cases c:VH s (To 0 s.1.2) with
   | some x=>exact (by decide : ¬ ((0:Int)=9))
   | none=>exact absurd (by rw [l]) (ZT c d q)
 unfold VT;rcases Ze v with h | h | h
 ·left;rw [if_pos (by rw [h.1];decide),h.1]
 ·exact absurd h m
 ·right;rw [if_neg (by simp [h.1])];obtain ⟨j,n,k,hd,t,r,_⟩:=v.atDue h.2;unfold WO;rw [if_neg (by simp [e]),k]
  have b:Vg s.1 j=true:=by
   have f:=h.1;unfold Ur at f;rw [if_neg (by simp [e]),if_neg (λa=>by rw [a] at h;cases h.2)] at f
   have p:(Ur s).1=(match VH s (To 0 s.1.2) with | some d=>(d,(0:Int)) | none=>(0,9)).1:=by
    unfold Ur;rw [if_neg (by simp [e]),if_neg (λa=>by rw [a] at h;cases h.2)];rfl
   cases c:VH s (To 0 s.1.2) with
   | none=>rw [c] at f;cases f
   | some x =>
    rw [c] at p;have i:(Ur s).1=x:=p;obtain ⟨_,_,_,o,_⟩:=Yg c;rw [i] at k;unfold WA at o;rw [if_neg (by simp [e]),k] at o;exact o
  show (Xi s j).2.2=0;unfold Xi;rw [if_neg (by simp [b])];by_cases a:0<UA s.1 j
  ·rw [if_pos a]
  ·rw [if_neg a];unfold ZB;rw [if_neg (by simp [b];omega),if_neg (by omega)]
theorem zA {n:Nat} (h:6<=n):(64:Int)<=2 ^ n:=by
 obtain ⟨k,rfl⟩ : ∃ k,n=6+k:=⟨n-6,by omega⟩
 have:(1:Int)<=2 ^ k:=by
  have:0<(2:Int) ^ k:=Int.pow_pos (by decide);omega
 rw [Int.pow_add];omega
theorem pZ {s:Th} (v:VSt s) (i:jP s.1) {n:Nat} {j:Job} (h:JobAt s.1 n j):(Uo j).length<=UE s.1.2.flatten:=by
 have a:=i n;obtain ⟨e,f,c,k,g,b,l,t,m,o⟩:=h;have d:=Xx.1 g;rw [d] at a;have p:=a e (by simp);have q:=a f (by simp);have:=(eV o m c l (by omega)).2;have r:=cI d;rw [b];show (Va f.2 e.2 c k).2.2.1.length<=_;omega
theorem sq {s0 s:Th} (g:Gd s0 s) (z:UE s.1.2.flatten<=60) (lo:Lo s) (e:VT s=0):Lo (XK s)/\s.2.2<=(XK s).2.2/\(XK s).2.2<=s.2.2+1:=by
 obtain ⟨n,j,_,A,a,_,F,_⟩:=Ww g e;by_cases k:0<UA s.1 j
 ·obtain ⟨_,c,d,_⟩:=F.read k;refine ⟨λi hi=>by rw [c];exact lo i hi,by omega,by omega⟩
 ·obtain ⟨_,c,d,m,y,_⟩:=F.inst (by omega)
  have l:(XK s).2.2=s.2.2\/(XK s).2.2=s.2.2+1:=by
   rw [d];unfold YD;split
   ·exact .inl rfl
   ·exact .inr rfl
  refine ⟨λi hi => ?_,by omega,by omega⟩;rw [m i]
  have q:n<8:=by
   by_cases h:8<=n
   ·have:=lo n h;obtain ⟨_,_,_,_,o,_⟩:=a;unfold Tq at this;rw [o] at this;cases this
   ·omega
  by_cases t:Uo j=[]
  ·rw [if_neg (λh=>h.1 t),if_neg (by omega)];exact lo i hi
  ·have x:YO s j<=7:=by
    obtain ⟨B,C,b,D⟩:=a.out g.1.lev (λr w=>Yf g.2.2 _ r w);unfold YO;by_cases hs:Vn s.1 j=true
    ·rw [if_pos hs,b,Int.toNat_natCast];omega
    ·rw [if_neg hs,b,Int.toNat_natCast]
     have f : ¬ 6<=n:=λf=>hs (by
      unfold Vn Us;rw [b,Int.toNat_natCast];refine decide_eq_true ?_;have hc:=pZ g.1 (Yf g.2.2) a;have u:=zA f;have p:=g.1.lev.B1
      have:(64:Int)<=s.1.1*2 ^ n:=by
       have:=Int.mul_le_mul p u (by decide) (by omega);omega
      show ((Uo j).length:Int)<=_
      omega)
     omega
   rw [if_neg (λh=>by omega),if_neg (by omega)];exact lo i hi
end
section
open Go Sv
theorem bz {s0:Th} : ∀ {n:Nat} {s:Th},Gd s0 s->UE s.1.2.flatten<=60->Lo s->s.2.2+n<=1000001->(Ug n s).2.2=0/\Lo (Ug n s).1/\(Ug n s).1.2.2<=s.2.2+n
 | 0,s,g,hN,lo,hn=>⟨rfl,lo,by show s.2.2<=_;omega⟩
 | n+1,s,g,hN,lo,hn=>by
  unfold Ug;by_cases b:VT s=4
  ·rw [if_pos b];exact ⟨rfl,lo,by show s.2.2<=_;omega⟩
  ·rw [if_neg b];have a:VT s=0:=(jx g lo (by omega)).resolve_left b;rw [if_neg (by simp [a])];obtain ⟨_,_,_,_,_,_,_,c⟩:=Ww g a;obtain ⟨_,d⟩:=Zv (N:=60) g hN a;obtain ⟨e,i,j⟩:=sq g hN lo a;obtain ⟨f,h,k⟩:=bz (n:=n) c d e (by omega);exact ⟨f,h,by show (Ug n (XK s)).1.2.2<=_;omega⟩
theorem ga {f:Nat->Nat} {n:Nat} : ∀ {m:Nat},n<m->f n<=Wf f m
 | m+1,h=>by
  show f n<=Wf f m+f m;by_cases e:n=m
  ·rw [e];omega
  ·have:=ga (f:=f) (n:=n) (m:=m) (by omega);omega
theorem j8 {s:Th} {N:Nat} (v:VSt s) (q:UE s.1.2.flatten<=N) (h:YC N s=0):s.2.1=[]:=by
 have hd:To 0 s.1.2=[]:=by
  cases e:To 0 s.1.2 with
  | nil=>rfl
  | cons d l =>
   have p:d∈To 0 s.1.2:=by rw [e];simp
   obtain ⟨j,n,c,g,o,k,r⟩:=v.atDue p;have b:n<12:=by have:=v.lev.len;omega
   obtain ⟨u,w,i,t,_⟩:=k.rd;have hc:=cI i
   have a:cX N s n<=YC N s:=by
    unfold YC;exact ga (f:=cX N s) b
   have m:Uk s.2.1 (n:Int)=some j:=by rw [<- g,<- eB v,c]
   unfold cX kC at a;rw [m,i] at a;simp only [List.length_cons,List.length_nil] at a;omega
 have:=v.due;rw [hd] at this;exact List.map_eq_nil_iff.1 this
theorem pW {s:Th} (v:VSt s) (h:s.2.1=[]):VT s=4:=by
 have a:(Tk s).2=0:=Tu.2 v;have hd:To 0 s.1.2=[]:=by rw [<- v.due,h];rfl
 have e:Ur s=(0,4):=by
  unfold Ur;rw [if_neg (by simp [a]),if_pos hd]
 unfold VT;rw [e,if_pos (by decide)]
theorem dj {s:Th} (v:VSt s) (h:s.2.1=[]) : ∀ n,Ug n s=(s,([],0))
 | 0=>rfl
 | n+1=>by unfold Ug;rw [if_pos (pW v h)]
theorem bx {s0 s:Th} {N R:Nat} (g:Gd s0 s) (a:UE s.1.2.flatten<=N) (f:YC N s<=R) (h:(Ug R s).2.2=0):(Ug R s).1.2.1=[]:=by
 obtain ⟨i,j,c,d,e⟩:=ZH (n:=R) g a;by_cases b:(Ug R s).2.1.length<R
 ·exact e h b
 ·exact j8 c.1 d (by omega)
theorem iJ {s0 s:Th} {N R:Nat} (g:Gd s0 s) (a:UE s.1.2.flatten<=N) (c:YC N s<=R) (k:Nat):Ug (R+k) s=Ug R s:=by
 rw [di];by_cases h:(Ug R s).2.2=0
 ·have hd:=bx g a c h;have b:=(ZH (n:=R) g a).2.2.1;rw [if_neg (by simp [h]),dj b.1 hd];simp only [List.append_nil];rw [<- h]
 ·rw [if_pos h]
end
section
open Go Sv
def dA (s:Th) (i:Nat):Nat:=match Uk s.2.1 (i:Int) with
 | some j=>UE (Tq s.1.2 i)-pB j+1
 | none=>0
theorem sX {s:Th} (v:VSt s) (i:Nat):dA s i=if (Tq s.1.2 i).length=2 then Yv s (i:Int) else 0:=by
 unfold dA Yv;rw [eB v];by_cases h:(Tq s.1.2 i).length=2
 ·rw [if_pos h];obtain ⟨j,a⟩:=v.hasJob h;rw [a];obtain ⟨d,e,c,_,b,_⟩:=(v.jobAt a).rd;show UE (Tq s.1.2 i)-pB j+1=UA s.1 j+1;rw [b,c,VA,VA];simp only [UE,List.map_nil,List.sum_nil];omega
 ·rw [if_neg h,v.noJob h]
theorem eF {s:Th} (v:VSt s):ai s<=UE s.1.2.flatten+s.1.2.length:=by
 unfold ai
 have e : ∀ (ls:List (List UK)) (i:Nat) (f:Int->Nat),(∀ n,(Tq ls n).length=2->f ((i+n:Nat):Int)<=UE (Tq ls n)+1)->((To i ls).map f).sum<=UE ls.flatten+ls.length:=by
  intro ls
  induction ls with
  | nil=>intro i f _;simp [To]
  | cons rs ls g =>
   intro i f h;have j:=g (i+1) f λn c=>by rw [show i+1+n=i+(n+1) by omega];exact h (n+1) c
   rw [XL,List.map_append,List.sum_append,List.flatten_cons,U1,List.length_cons]
   have k:(((if rs.length=2 then [(i:Int)] else []):List Int).map f).sum<=UE rs+1:=by
    by_cases b:rs.length=2
    ·rw [if_pos b];have d:=h 0 b;have a:f (i:Int)<=UE rs+1:=d;simpa using a
    ·rw [if_neg b];simp
   omega
 refine e _ _ _ λn c => ?_;rw [Nat.zero_add];have:=sX v n;rw [if_pos c] at this;rw [<- this];unfold dA;split
 ·omega
 ·omega
end
section
open Go Sv
end
section
open Go Sv
end
section
open Go Sv
end
section
open Go Sv
end
section
open Go Sv
def WI (x:qS):Option (Int×(Int×Int)) :=
 bd (U3 x) λa=>br (Ry a.2 0) (λ_=>some ((0,(0,a.2)))) λ_=>bd (W3 x.1) λb=>some b
def WH (x:qS):Option (Int×Int) :=
 bd (WI x) λa=>br (Ry a.2.2 0) (λ_=>some (0,a.2.2)) λ_=>some ((SG .i64 a.2.1 (SF .i64 a.1 1),0))
def W0 (x:qS):Option (Int×Int) :=
 bd (WI x) λa=>br (Ry a.2.2 0) (λ_=>some (0,a.2.2)) λ_=>some ((SF .i64 (SG .i64 4 (SF .i64 a.1 x.1.1)) (SG .i64 2 (Ki (AS x.1.2))),0))
def Wn (x:(qS×Int)):Option (qS×(Int×Int)) :=
 br (Oa x.2 0) (λ_=>some ((x.1,(0,0)))) λ_=>bd (loop (λ(s0:(qL×((Int×Int)×(Int×(qL×Int)))))=>bd (U7 (((s0.1.1,s0.1.2.1),s0.1.2.2))) λc=>br (Oa c.2 4) (λ_=>some (.dn ((0,((s0.1,((1,0),s0.2.2)),()))))) λ_=>br (Oa c.2 0) (λ_=>bd (Uw ((((s0.1.1,s0.1.2.1),s0.1.2.2),c.1))) λb=>br (Ry b.2.2 0) (λ_=>some (.dn ((0,(((0,([],([],0))),((2,b.2.2),s0.2.2)),()))))) λ_=>br (Oa (SK .i64 s0.2.2.2.2 1) 0) (λ_=>some (.dn ((1,(((b.1.1.1,(b.1.1.2,b.1.2)),((0,0),(SF .i64 s0.2.2.1 1,((b.1.1.1,(b.1.1.2,b.1.2)),SK .i64 s0.2.2.2.2 1)))),()))))) λ_=>some (.nx (((b.1.1.1,(b.1.1.2,b.1.2)),((0,0),(SF .i64 s0.2.2.1 1,((b.1.1.1,(b.1.1.2,b.1.2)),SK .i64 s0.2.2.2.2 1))))))) λ_=>br (Ry c.2 0) (λ_=>some (.dn ((0,(((0,([],([],0))),((2,c.2),s0.2.2)),()))))) λ_=>br (Oa (SK .i64 s0.2.2.2.2 1) 0) (λ_=>some (.dn ((1,((s0.1,((0,0),(SF .i64 s0.2.2.1 1,(s0.1,SK .i64 s0.2.2.2.2 1)))),()))))) λ_=>some (.nx ((s0.1,((0,0),(SF .i64 s0.2.2.1 1,(s0.1,SK .i64 s0.2.2.2.2 1))))))) (((x.1.1.1,(x.1.1.2,x.1.2)),((0,0),(0,((x.1.1.1,(x.1.1.2,x.1.2)),x.2)))))) λa=>br (neq a.1 0) (λ_=>br (Oa a.2.1.2.1.1 0) (λ_=>some ((((a.2.1.2.2.2.1.1,a.2.1.2.2.2.1.2.1),a.2.1.2.2.2.1.2.2),(a.2.1.2.2.1,0)))) λ_=>br (Oa a.2.1.2.1.1 1) (λ_=>some ((((a.2.1.2.2.2.1.1,a.2.1.2.2.2.1.2.1),a.2.1.2.2.2.1.2.2),(a.2.1.2.2.1,0)))) λ_=>some ((((0,[]),([],0)),(0,a.2.1.2.1.2)))) λ_=>br (Oa a.2.1.2.1.1 0) (λ_=>some ((((a.2.1.2.2.2.1.1,a.2.1.2.2.2.1.2.1),a.2.1.2.2.2.1.2.2),(a.2.1.2.2.1,0)))) λ_=>br (Oa a.2.1.2.1.1 1) (λ_=>some ((((a.2.1.2.2.2.1.1,a.2.1.2.2.2.1.2.1),a.2.1.2.2.2.1.2.2),(a.2.1.2.2.1,0)))) λ_=>some ((((0,[]),([],0)),(0,a.2.1.2.1.2)))
def X6 (x:(qS×Int)):Option (qS×(Int×Int)) :=
 bd (U3 x.1) λa=>br (Ry a.2 0) (λ_=>some ((((0,[]),([],0)),(0,a.2)))) λ_=>br (S8 x.2 0) (λ_=>some ((((0,[]),([],0)),(0,7)))) λ_=>br (S6 x.2 1000000) (λ_=>some ((((0,[]),([],0)),(0,7)))) λ_=>bd (Wn x) λb=>some b
def V1 (x:qS):Option (qS×(Int×Int)) :=
 bd (U3 x) λa=>br (Ry a.2 0) (λ_=>some ((((0,[]),([],0)),(0,a.2)))) λ_=>bd (Wn ((x,(-1)))) λb=>some b
def Y9 (x:qS):Option (Bool×Int) :=
 bd (Vo x) λa=>br (Oa a.2 0) (λ_=>some ((Oa (Ki (AS a.1)) 0,a.2))) λ_=>some (false,a.2)
def VO (x:Unit):Option Bool :=
 bd (Yw ()) λi=>bd (al i) λa=>br (Ry a.2 0) (λ_=>some false) λ_=>bd (X4 a.1) λd=>bd (X5 (a.1,0)) λe=>bd (WH a.1) λf=>bd (W0 a.1) λg=>br (Ry d.1 4) (λ_=>some false) λ_=>br (Ry d.2 0) (λ_=>some false) λ_=>br (Ry e.1 4) (λ_=>some false) λ_=>br (Ry e.2 0) (λ_=>some false) λ_=>br (Ry f.1 8) (λ_=>some false) λ_=>br (Ry f.2 0) (λ_=>some false) λ_=>br (Ry g.1 22) (λ_=>some false) λ_=>br (Ry g.2 0) (λ_=>some false) λ_=>bd (X6 (a.1,3)) λc=>bd (V1 c.1) λb=>bd (Y9 b.1) λh=>br (Oa c.2.1 3) (λ_=>br (Oa c.2.2 0) (λ_=>br (Oa b.2.1 1) (λ_=>br (Oa b.2.2 0) (λ_=>br h.1 (λ_=>br (Oa h.2 0) (λ_=>some (Oa (Ki (AS b.1.2.1)) 0)) λ_=>some false) λ_=>some false) λ_=>some false) λ_=>some false) λ_=>some false) λ_=>some false
def YI (x:qS):Option Bool :=
 bd (loop (λs0=>br (S8 s0.2 (Ki (AS x.1.2))) (λ_=>bd (loop (λs1=>R1 s0.2 λa=>ix x.1.2 a λf=>br (S8 s1.2 (Ki (AS f))) (λ_=>R1 s0.2 λb=>ix x.1.2 b λg=>R1 s1.2 λc=>ix g c λh=>some (.nx ((SF .i64 s1.1 (Ki (AS h.2)),SF .i64 s1.2 1)))) λ_=>some (.dn ((0,(s1,()))))) (s0.1,0)) λd=>some (.nx (d.2.1.1,SF .i64 s0.2 1))) λ_=>some (.dn ((0,(s0,()))))) (0,0)) λe=>some (S7 e.2.1.1 60)
def VI (x:qS):Option Bool :=
 bd (U5 x) λr=>bd (Xn x) λs=>br s (λ_=>bd (VO ()) λt=>some t) λ_=>br (Ry r.2 0) (λ_=>bd (VO ()) λu=>some u) λ_=>bd (YI x) λw=>br (Hg w) (λ_=>bd (VO ()) λy=>some y) λ_=>br (S6 x.2.2 900000) (λ_=>bd (VO ()) λz=>some z) λ_=>br (S6 (Ki (AS x.1.2)) 8) (λ_=>bd (VO ()) λA=>some A) λ_=>bd (X4 x) λp=>bd (W0 x) λq=>bd (WH x) λc=>bd (V1 x) λa=>br (Ry p.2 0) (λ_=>some false) λ_=>br (Ry q.2 0) (λ_=>some false) λ_=>br (Ry c.2 0) (λ_=>some false) λ_=>br (Ry a.2.2 0) (λ_=>some false) λ_=>br (S6 p.1 q.1) (λ_=>some false) λ_=>br (S6 a.2.1 c.1) (λ_=>some false) λ_=>bd (U5 a.1) λh=>br (Ry h.2 0) (λ_=>some false) λ_=>br (Ry (Ki (AS a.1.2.1)) 0) (λ_=>some false) λ_=>bd (loop (λb=>br (S8 b.1 (Ki (AS a.1.1.2))) (λ_=>R1 b.1 λg=>ix a.1.1.2 g λo=>br (S6 (Ki (AS o)) 1) (λ_=>some (.dn ((0,((b.1,false),()))))) λ_=>some (.nx (SF .i64 b.1 1,b.2))) λ_=>some (.dn ((1,(b,()))))) (0,false)) λf=>br (neq f.1 0) (λ_=>some f.2.1.2) λ_=>bd (V1 a.1) λd=>bd (X6 (x,c.1)) λe=>br (Oa d.2.2 0) (λ_=>br (Oa d.2.1 0) (λ_=>bd (XE (d.1,a.1)) λi=>br i (λ_=>br (Oa e.2.2 0) (λ_=>br (Oa e.2.1 a.2.1) (λ_=>bd (XE (e.1,a.1)) λj=>br j (λ_=>bd (Xd a.1.1) λk=>bd (Xd x.1) λl=>bd (Vs (k,l)) λm=>br m (λ_=>bd (VO ()) λn=>some n) λ_=>some false) λ_=>some false) λ_=>some false) λ_=>some false) λ_=>some false) λ_=>some false) λ_=>some false
end
end Go.Proofs.YtfipnhjfbebeiaaGreatDoor.Pl
