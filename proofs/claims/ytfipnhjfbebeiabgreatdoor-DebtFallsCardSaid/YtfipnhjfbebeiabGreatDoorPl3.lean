/- Functions of the program and of the specification as plain functions, and laws about them. No condition. -/
import Derived.Test.YtfipnhjfbebeiabGreatDoorPl2
import Derived.KernelRfl
set_option linter.all false
open List renaming length_cons->ci, length_nil->cP, map_append->nn, sum_append->yk
open Nat renaming zero_add->ee
open Int renaming toNat_natCast->bl
namespace Go.Proofs.YtfipnhjfbebeiabGreatDoor.Pl
section
open Go Sv
theorem ui {s t:Th} {n:Nat} {j:Job} {b:Bool} (v:VSt s) (F:StepF s n j t b) {i:Nat} (a:i≠n) (f:(To s.1.2 i).length=2):To t.1.2 i=To s.1.2 i/\Uk t.2.1 (i:Int)=Uk s.2.1 (i:Int):=by
 by_cases h:0<UA s.1 j
 ·obtain ⟨_,e1,_,e2⟩:=F.read h;exact ⟨by rw [e1],by rw [e2,if_neg a]⟩
 ·obtain ⟨_,e1,_,e2,e3,g⟩:=F.inst (by omega)
  have e : ¬ (Uo j≠[]/\i=YM s j):=λ⟨c,hi⟩=>by
   rcases e3 with e3 | ⟨e3,_,e5⟩
   ·exact a (by rw [hi,e3])
   ·have:=e5 c;rw [<- e3,<- hi] at this;omega
  have c:To t.1.2 i=To s.1.2 i:=by rw [e2,if_neg e,if_neg a]
  refine ⟨c,?_⟩;obtain ⟨j',d⟩:=v.hasJob f;rw [g,c,if_pos f,if_neg a,d];rfl
theorem uj {s0 s:Th} (g:Gd s0 s) (e:VU s=0) {i:Nat} (b:(To s.1.2 i).length=2) (f:bF s≠((i:Int),true)):(To (Wy s).1.2 i).length=2:=by
 obtain ⟨n,j,d,k,h,hc,F,_⟩:=WU g e;by_cases a:i=n
 ·subst a;by_cases c:0<UA s.1 j
  ·rw [(F.read c).2.1];exact b
  ·exact absurd (Prod.ext d (F.inst (by omega)).1) f
 ·rw [(ui g.1 F a b).1];exact b
def dV (a:Int):Nat->Nat->Th->Int×Int
 | 0,_,_=>(0,0)
 | k+1,n,s=>if VU s≠0 then (0,VU s) else if bF s=(a,true) then (((n+1:Nat):Int),0) else dV a k (n+1) (Wy s)
theorem aI {s:Th} (v:VSt s):YB 2000 s<=48024:=by
 have b:=kD 2000 v;have a:=ao v.lev;have:=Nat.mul_le_mul_right 2001 a;omega
def NAt (s0:Th) (a:Int) (T:Int×Int) (k n:Nat) (s:Th):Prop:=Gd s0 s/\YB 2000 s<k/\n+k<=60000/\T=dV a k n s /\ ∃ i:Nat,a=(i:Int)/\(To s.1.2 i).length=2
theorem NAt.fail {s0 s:Th} {d:Int} {T:Int×Int} {k n:Nat} (a:NAt s0 d T k n s) (e:VU s≠0):T=(0,VU s):=by
 obtain ⟨_,f,_,c,_⟩:=a;obtain ⟨b,rfl⟩ : ∃ b,k=b+1:=⟨k-1,by omega⟩;rw [c];simp [dV,e]
theorem NAt.hit {s0 s:Th} {c:Int} {T:Int×Int} {k n:Nat} (a:NAt s0 c T k n s) (e:VU s=0) (h:bF s=(c,true)):T=(((n+1:Nat):Int),0):=by
 obtain ⟨_,f,_,d,_⟩:=a;obtain ⟨b,rfl⟩ : ∃ b,k=b+1:=⟨k-1,by omega⟩;rw [d];simp [dV,e,h]
theorem NAt.next {s0 s:Th} {d:Int} {T:Int×Int} {k n:Nat} (a:NAt s0 d T k n s) (e:VU s=0) (h:bF s≠(d,true)) : ∃ b,k=b+1/\NAt s0 d T b (n+1) (Wy s)/\YB 2000 (Wy s)<YB 2000 s:=by
 obtain ⟨c,m,o,j,i,f,l⟩:=a;obtain ⟨b,rfl⟩ : ∃ b,k=b+1:=⟨k-1,by omega⟩;obtain ⟨_,_,_,_,_,_,_,g⟩:=WU c e;have p:=(Zy c c.2.2 e).1;refine ⟨b,rfl,⟨g,by omega,by omega,?_,i,f,uj c e l (by rw [<- f];exact h)⟩,by omega⟩;rw [j];simp [dV,e,h]
end
section
open Go Sv
end
section
open Go Sv
end
section
open Go Sv
set_option maxRecDepth 1000000
end
section
open Go Sv
theorem si {a:Int} (h : -9223372036854775808<=a/\a<=9223372036854775807):TS .i64 a=a:=by
 have:=Sh (a:=a) (b:=0) (by omega);unfold SF at this;rw [Int.add_zero] at this;exact this
end
section
open Go Sv
end
section
open Go Sv
set_option maxRecDepth 100000
end
section
open Go Sv
end
section
open Go Sv
set_option maxRecDepth 100000
end
section
open Go Sv
set_option maxRecDepth 100000
end
section
open Go Sv
@[reducible] def tE:Ty:=.pair .str (.pair .str (.pair .bool (.int .i64)))
@[reducible] def tJb:Ty:=.pair (.pair (.int .i64) (.sl true (.sl true (.pair (.int .i64) (.sl true tE))))) (.pair (.sl true (.pair (.int .i64) (.pair (.pair (.sl false (.sl true tE)) (.pair (.sl false (.int .i64)) (.pair (.sl true (.pair .str .bool)) (.pair (.sl false (.int .i64)) (.int .i64))))) (.pair (.pair .bool (.pair .str .bool)) (.pair (.sl true tE) (.int .i64)))))) (.int .i64))
theorem sY {b:Int} (h:RG (.int .u8) b):0<=b/\b<=255:=by
 have a:(decide (IntKind.min .u8<=b)&&decide (b<=IntKind.max .u8))=true:=h;rw [Bool.and_eq_true,decide_eq_true_eq,decide_eq_true_eq] at a;exact a
end
section
open Go Sv
set_option maxRecDepth 100000
theorem uo {L:Tl} (v:VLev L) (h:UB L.2.flatten<=2000):(LF L).length<=1000000:=by
 have f:=List.length_filter_le VO (aW (UV L.2) []);have b:=ai (UV L.2) []
 have g:UB (UV L.2)<=120000:=by
  have:=gR (l:=UV L.2) (λr a=>by
   unfold UV at a;obtain ⟨rs,c,d⟩:=List.mem_flatMap.1 a;obtain ⟨i,hi⟩:=List.getElem?_of_mem c;have e:r∈To L.2 i:=by unfold To;rw [hi];exact List.mem_reverse.1 d
   exact ((v.own i).2 r e).vl.len)
  have j:=YK L.2 v.two;have:=v.len;omega
 unfold LF;simp only [cP] at b;omega
end
section
open Go Sv
theorem ZW {s:Th} : ∀ {l:List Int},VJ s l=none -> ∀ x∈l,¬ (WA false (λs j=>(Vh s.1 j,0)) s x).1=true
 | [],_,x,h=>by cases h
 | d::l,e,x,h=>by
  unfold VJ at e;by_cases hd:(WA false (λs j=>(Vh s.1 j,0)) s d).1=true
  ·rw [if_pos hd] at e;cases e
  ·rw [if_neg hd] at e;rcases List.mem_cons.1 h with e1 | h1
   ·rw [e1];exact hd
   ·exact ZW e x h1
def Lo (s:Th):Prop := ∀ i,8<=i->To s.1.2 i=[]
theorem sy {s:Th} (lo:Lo s) {d:Int} (h:d∈Tp 0 s.1.2):d<8:=by
 obtain ⟨n,c,f,e,a⟩:=aZ h;rw [e];by_cases b:8<=n
 ·have:=lo n b;unfold To at this;rw [a] at this;cases this
 ·omega
theorem dW {s0 s:Th} (g:Gd s0 s) (lo:Lo s) (w:s.2.2<=1000000):VU s=4\/VU s=0:=by
 have v:=g.1;have e:(Tk s).2=0:=Ts.2 v
 have m:(Ut s).2≠9:=by
  unfold Ut;rw [if_neg (by simp [e])];by_cases a:Tp 0 s.1.2=[]
  ·rw [if_pos a];decide
  ·rw [if_neg a];have u:0<(Tp 0 s.1.2).length:=List.length_pos_iff.2 a;obtain ⟨d,hd⟩ : ∃ d,(Tp 0 s.1.2)[(Tp 0 s.1.2).length-1]? = some d:=⟨_,List.getElem?_eq_getElem (by omega)⟩;have q:=List.mem_of_getElem? hd;have hc:=hG v hd (by omega) (by have:=sy lo q;omega);rw [eC v.sm] at hc;have l:=Option.some.inj hc;cases c:VJ s (Tp 0 s.1.2) with
   | some x=>exact (by decide : ¬ ((0:Int)=9))
   | none=>exact absurd (by rw [l]) (ZW c d q)
 unfold VU;rcases Zh v with h | h | h
 ·left;rw [if_pos (by rw [h.1];decide),h.1]
 ·exact absurd h m
 ·right;rw [if_neg (by simp [h.1])];obtain ⟨j,n,k,hd,t,r,_⟩:=v.atDue h.2;unfold V1;rw [if_neg (by simp [e]),k]
  have b:Vh s.1 j=true:=by
   have f:=h.1;unfold Ut at f;rw [if_neg (by simp [e]),if_neg (λa=>by rw [a] at h;cases h.2)] at f
   have p:(Ut s).1=(match VJ s (Tp 0 s.1.2) with | some d=>(d,(0:Int)) | none=>(0,9)).1:=by
    unfold Ut;rw [if_neg (by simp [e]),if_neg (λa=>by rw [a] at h;cases h.2)];rfl
   cases c:VJ s (Tp 0 s.1.2) with
   | none=>rw [c] at f;cases f
   | some x =>
    rw [c] at p;have i:(Ut s).1=x:=p;obtain ⟨_,_,_,o,_⟩:=Yj c;rw [i] at k;unfold WA at o;rw [if_neg (by simp [e]),k] at o;exact o
  show (Xf s j).2.2=0;unfold Xf;rw [if_neg (by simp [b])];by_cases a:0<UA s.1 j
  ·rw [if_pos a]
  ·rw [if_neg a];unfold ZD;rw [if_neg (by simp [b];omega),if_neg (by omega)]
theorem zG {n:Nat} (h:6<=n):(64:Int)<=2 ^ n:=by
 obtain ⟨k,rfl⟩ : ∃ k,n=6+k:=⟨n-6,by omega⟩
 have:(1:Int)<=2 ^ k:=by
  have:0<(2:Int) ^ k:=Int.pow_pos (by decide);omega
 rw [Int.pow_add];omega
theorem po {s:Th} (v:VSt s) (i:jV s.1) {n:Nat} {j:Job} (h:JobAt s.1 n j):(Uo j).length<=UB s.1.2.flatten:=by
 have a:=i n;obtain ⟨e,f,c,k,g,b,l,t,m,o⟩:=h;have d:=Xw.1 g;rw [d] at a;have p:=a e (by simp);have q:=a f (by simp);have:=(ei o m c l (by omega)).2;have r:=cQ d;rw [b];show (Vb f.2 e.2 c k).2.2.1.length<=_;omega
theorem tC {s0 s:Th} (g:Gd s0 s) (z:UB s.1.2.flatten<=60) (lo:Lo s) (e:VU s=0):Lo (Wy s)/\s.2.2<=(Wy s).2.2/\(Wy s).2.2<=s.2.2+1:=by
 obtain ⟨n,j,_,A,a,_,F,_⟩:=WU g e;by_cases k:0<UA s.1 j
 ·obtain ⟨_,c,d,_⟩:=F.read k;refine ⟨λi hi=>by rw [c];exact lo i hi,by omega,by omega⟩
 ·obtain ⟨_,c,d,m,y,_⟩:=F.inst (by omega)
  have l:(Wy s).2.2=s.2.2\/(Wy s).2.2=s.2.2+1:=by
   rw [d];unfold YC;split
   ·exact .inl rfl
   ·exact .inr rfl
  refine ⟨λi hi => ?_,by omega,by omega⟩;rw [m i]
  have q:n<8:=by
   by_cases h:8<=n
   ·have:=lo n h;obtain ⟨_,_,_,_,o,_⟩:=a;unfold To at this;rw [o] at this;cases this
   ·omega
  by_cases t:Uo j=[]
  ·rw [if_neg (λh=>h.1 t),if_neg (by omega)];exact lo i hi
  ·have x:YM s j<=7:=by
    obtain ⟨B,C,b,D⟩:=a.out g.1.lev (λr w=>Yi g.2.2 _ r w);unfold YM;by_cases hs:Vo s.1 j=true
    ·rw [if_pos hs,b,bl];omega
    ·rw [if_neg hs,b,bl]
     have f : ¬ 6<=n:=λf=>hs (by
      unfold Vo Uv;rw [b,bl];refine decide_eq_true ?_;have hc:=po g.1 (Yi g.2.2) a;have u:=zG f;have p:=g.1.lev.B1
      have:(64:Int)<=s.1.1*2 ^ n:=by
       have:=Int.mul_le_mul p u (by decide) (by omega);omega
      show ((Uo j).length:Int)<=_
      omega)
     omega
   rw [if_neg (λh=>by omega),if_neg (by omega)];exact lo i hi
end
section
open Go Sv
theorem aL {s0:Th} : ∀ {n:Nat} {s:Th},Gd s0 s->UB s.1.2.flatten<=60->Lo s->s.2.2+n<=1000001->(UR n s).2.2=0/\Lo (UR n s).1/\(UR n s).1.2.2<=s.2.2+n
 | 0,s,g,hN,lo,hn=>⟨rfl,lo,by show s.2.2<=_;omega⟩
 | n+1,s,g,hN,lo,hn=>by
  unfold UR;by_cases b:VU s=4
  ·rw [if_pos b];exact ⟨rfl,lo,by show s.2.2<=_;omega⟩
  ·rw [if_neg b];have a:VU s=0:=(dW g lo (by omega)).resolve_left b;rw [if_neg (by simp [a])];obtain ⟨_,_,_,_,_,_,_,c⟩:=WU g a;obtain ⟨_,d⟩:=Zy (N:=60) g hN a;obtain ⟨e,i,j⟩:=tC g hN lo a;obtain ⟨f,h,k⟩:=aL (n:=n) c d e (by omega);exact ⟨f,h,by show (UR n (Wy s)).1.2.2<=_;omega⟩
theorem gn {f:Nat->Nat} {n:Nat} : ∀ {m:Nat},n<m->f n<=Uq f m
 | m+1,h=>by
  show f n<=Uq f m+f m;by_cases e:n=m
  ·rw [e];omega
  ·have:=gn (f:=f) (n:=n) (m:=m) (by omega);omega
theorem kG {s:Th} {N:Nat} (v:VSt s) (q:UB s.1.2.flatten<=N) (h:YB N s=0):s.2.1=[]:=by
 have hd:Tp 0 s.1.2=[]:=by
  cases e:Tp 0 s.1.2 with
  | nil=>rfl
  | cons d l =>
   have p:d∈Tp 0 s.1.2:=by rw [e];simp
   obtain ⟨j,n,c,g,o,k,r⟩:=v.atDue p;have b:n<12:=by have:=v.lev.len;omega
   obtain ⟨u,w,i,t,_⟩:=k.rd;have hc:=cQ i
   have a:cg N s n<=YB N s:=by
    unfold YB;exact gn (f:=cg N s) b
   have m:Uk s.2.1 (n:Int)=some j:=by rw [<- g,<- eK v,c]
   unfold cg kK at a;rw [m,i] at a;simp only [ci,cP] at a;omega
 have:=v.due;rw [hd] at this;exact List.map_eq_nil_iff.1 this
theorem pk {s:Th} (v:VSt s) (h:s.2.1=[]):VU s=4:=by
 have a:(Tk s).2=0:=Ts.2 v;have hd:Tp 0 s.1.2=[]:=by rw [<- v.due,h];rfl
 have e:Ut s=(0,4):=by
  unfold Ut;rw [if_neg (by simp [a]),if_pos hd]
 unfold VU;rw [e,if_pos (by decide)]
theorem dw {s:Th} (v:VSt s) (h:s.2.1=[]) : ∀ n,UR n s=(s,([],0))
 | 0=>rfl
 | n+1=>by unfold UR;rw [if_pos (pk v h)]
theorem cE {s0 s:Th} {N R:Nat} (g:Gd s0 s) (a:UB s.1.2.flatten<=N) (f:YB N s<=R) (h:(UR R s).2.2=0):(UR R s).1.2.1=[]:=by
 obtain ⟨i,j,c,d,e⟩:=Yc (n:=R) g a;by_cases b:(UR R s).2.1.length<R
 ·exact e h b
 ·exact kG c.1 d (by omega)
theorem iS {s0 s:Th} {N R:Nat} (g:Gd s0 s) (a:UB s.1.2.flatten<=N) (c:YB N s<=R) (k:Nat):UR (R+k) s=UR R s:=by
 rw [bO];by_cases h:(UR R s).2.2=0
 ·have hd:=cE g a c h;have b:=(Yc (n:=R) g a).2.2.1;rw [if_neg (by simp [h]),dw b.1 hd];simp only [List.append_nil];rw [<- h]
 ·rw [if_pos h]
end
section
open Go Sv
theorem cJ (f:Nat->Nat) : ∀ m,Uq f (m+1)=f 0+Uq (λi=>f (i+1)) m
 | 0=>by simp [Uq]
 | m+1=>by
  show Uq f (m+1)+f (m+1)=f 0+(Uq (λi=>f (i+1)) m+f (m+1));rw [cJ f m];omega
theorem d9 {f:Nat->Nat} : ∀ {m:Nat},(∀ i,i<m->f i=0)->Uq f m=0
 | 0,_=>rfl
 | m+1,h=>by
  show Uq f m+f m=0;rw [d9 λi hi=>h i (by omega),h m (by omega)]
theorem bW {f g:Nat->Nat} : ∀ {m:Nat},(∀ i,i<m->g i=f i)->Uq g m=Uq f m
 | 0,_=>rfl
 | m+1,h=>by
  show Uq g m+g m=Uq f m+f m;rw [bW λi hi=>h i (by omega),h m (by omega)]
theorem ZS {f g:Nat->Nat} {n:Nat} (b:g n+1=f n) : ∀ {m:Nat},n<m->(∀ i,i<m->i≠n->g i=f i)->Uq g m+1=Uq f m
 | m+1,h,he=>by
  show Uq g m+g m+1=Uq f m+f m;by_cases e:n=m
  ·subst e;rw [bW λi hi=>he i (by omega) (by omega)];omega
  ·have:=ZS (f:=f) (g:=g) b (m:=m) (by omega) λi hi a=>he i (by omega) a;have:=he m (by omega) (by omega);omega
theorem cS (f:Int->Nat) : ∀ (ls:List (List UJ)) (i m:Nat),ls.length<=m->((Tp i ls).map f).sum=Uq (λn=>if (To ls n).length=2 then f ((i+n:Nat):Int) else 0) m
 | [],i,m,_=>(d9 λn _=>by simp [To]).symm
 | rs::ls,i,0,h=>by simp at h
 | rs::ls,i,m+1,h=>by
  rw [Wm,nn,yk,cS f ls (i+1) m (by simpa using h),cJ];refine congr (congrArg HAdd.hAdd ?_) (bW λn _ => ?_)
  ·show _=if rs.length=2 then _ else 0
   by_cases a:rs.length=2
   ·rw [if_pos a,if_pos a];simp
   ·rw [if_neg a,if_neg a];rfl
  ·rw [show i+1+n=i+(n+1) by omega];rfl
def dA (s:Th) (i:Nat):Nat:=match Uk s.2.1 (i:Int) with
 | some j=>UB (To s.1.2 i)-pH j+1
 | none=>0
theorem jl {s:Th} (v:VSt s) (i:Nat):dA s i=if (To s.1.2 i).length=2 then Yx s (i:Int) else 0:=by
 unfold dA Yx;rw [eK v];by_cases h:(To s.1.2 i).length=2
 ·rw [if_pos h];obtain ⟨j,a⟩:=v.hasJob h;rw [a];obtain ⟨d,e,c,_,b,_⟩:=(v.jobAt a).rd;show UB (To s.1.2 i)-pH j+1=UA s.1 j+1;rw [b,c,U2,U2];simp only [UB,List.map_nil,List.sum_nil];omega
 ·rw [if_neg h,v.noJob h]
theorem YP {s:Th} (v:VSt s):X2 s=Uq (dA s) 12:=by
 unfold X2;rw [cS _ _ 0 12 v.lev.len];refine bW λi _ => ?_;rw [jl v,ee]
theorem dQ {s:Th} (v:VSt s):s.2.1.length=Uq (λi=>if (To s.1.2 i).length=2 then 1 else 0) 12:=by
 have:=cS (λ_=>1) s.1.2 0 12 v.lev.len;rw [<- this,v.jlen];generalize Tp 0 s.1.2=l
 induction l with
 | nil=>rfl
 | cons x l a=>rw [List.map_cons,List.sum_cons,ci,<- a];omega
theorem eM {s:Th} (v:VSt s):X2 s<=UB s.1.2.flatten+s.1.2.length:=by
 unfold X2
 have e : ∀ (ls:List (List UJ)) (i:Nat) (f:Int->Nat),(∀ n,(To ls n).length=2->f ((i+n:Nat):Int)<=UB (To ls n)+1)->((Tp i ls).map f).sum<=UB ls.flatten+ls.length:=by
  intro ls
  induction ls with
  | nil=>intro i f _;simp [Tp]
  | cons rs ls g =>
   intro i f h;have j:=g (i+1) f λn c=>by rw [show i+1+n=i+(n+1) by omega];exact h (n+1) c
   rw [Wm,nn,yk,List.flatten_cons,U5,ci]
   have k:(((if rs.length=2 then [(i:Int)] else []):List Int).map f).sum<=UB rs+1:=by
    by_cases b:rs.length=2
    ·rw [if_pos b];have d:=h 0 b;have a:f (i:Int)<=UB rs+1:=d;simpa using a
    ·rw [if_neg b];simp
   omega
 refine e _ _ _ λn c => ?_;rw [ee];have:=jl v n;rw [if_pos c] at this;rw [<- this];unfold dA;split
 ·omega
 ·omega
theorem gz {s t:Th} {n:Nat} {j:Job} {b:Bool} (v:VSt s) (g:VSt t) (p:n<12) (E:JobAt s.1 n j) (F:StepF s n j t b):X2 t+1=X2 s\/(b=true/\t.2.1.length=s.2.1.length):=by
 obtain ⟨N,O,B,S,P,f⟩:=E.rd;have hc:UB (To s.1.2 n)=N.2.length+O.2.length:=by rw [B,U2,U2];simp [UB]
 by_cases y:0<UA s.1 j
 ·left;obtain ⟨_,z,_,A⟩:=F.read y;rw [YP v,YP g];refine ZS (n:=n) ?_ p λi _ hi => ?_
  ·unfold dA;rw [A n,if_pos rfl,F.job,z];simp only;rw [f y,hc];omega
  ·unfold dA;rw [A i,if_neg hi,z]
 ·obtain ⟨G,_,_,k,q,D⟩:=F.inst (by omega)
  have l:dA s n=1:=by
   unfold dA;rw [F.job];simp only;rw [hc];omega
  have d : ∀ i,i≠n->To t.1.2 i=To s.1.2 i->dA t i=dA s i:=λi hi I=>by
   unfold dA;rw [D i,I];by_cases o:(To s.1.2 i).length=2
   ·rw [if_pos o,if_neg hi];obtain ⟨j',r⟩:=v.hasJob o;rw [r];rfl
   ·rw [if_neg o,v.noJob o]
  have e:(To t.1.2 n).length≠2->dA t n=0:=λh=>by unfold dA;rw [g.noJob h]
  by_cases c:Uo j≠[]/\YM s j≠n
  ·have w:YM s j=n+1:=q.resolve_left c.2 |>.1;have C:=(q.resolve_left c.2).2.1;have u:=(q.resolve_left c.2).2.2 c.1
   have e1:To t.1.2 (n+1)=To s.1.2 (n+1)++[(s.2.2,Uo j)]:=by
    rw [k,if_pos ⟨c.1,w.symm⟩,if_neg (by omega)]
   have x:To t.1.2 n=[]:=by rw [k,if_neg (by omega),if_pos rfl]
   have e2 : ∀ i,i≠n->i≠n+1->To t.1.2 i=To s.1.2 i:=λi hi J=>by rw [k,if_neg (by omega),if_neg hi]
   by_cases m:(To s.1.2 (n+1)).length=1
   ·right;refine ⟨G,?_⟩
    have K:Uq (λi=>if (To t.1.2 i).length=2 then 1 else 0) 12=Uq (λi=>if i=n+1 then 1 else if i=n then 0 else if (To s.1.2 i).length=2 then 1 else 0) 12:=bW λi _=>by
     by_cases a:i=n+1
     ·subst a;rw [e1,if_pos (by simp [m]),if_pos rfl]
     ·by_cases hi:i=n
      ·subst hi;rw [x,if_neg (by simp),if_neg a,if_pos rfl]
      ·rw [e2 i hi a,if_neg a,if_neg hi]
    have L:Uq (λi=>if i=n+1 then 0 else if i=n then 0 else if (To s.1.2 i).length=2 then 1 else 0) 12+1=Uq (λi=>if i=n+1 then 1 else if i=n then 0 else if (To s.1.2 i).length=2 then 1 else 0) 12:=ZS (n:=n+1) (by simp) (by omega) λi _ hi=>by rw [if_neg hi,if_neg hi]
    have M:Uq (λi=>if i=n+1 then 0 else if i=n then 0 else if (To s.1.2 i).length=2 then 1 else 0) 12+1=Uq (λi=>if (To s.1.2 i).length=2 then 1 else 0) 12:=ZS (n:=n) (by rw [B];simp) p λi _ hi=>by
     by_cases a:i=n+1
     ·subst a;rw [if_pos rfl,if_neg (by omega)]
     ·rw [if_neg a,if_neg hi]
    rw [dQ v,dQ g,K,<- L,M]
   ·left;rw [YP v,YP g];refine ZS (n:=n) (by rw [l,e (by rw [x];simp)]) p λi _ hi => ?_;by_cases a:i=n+1
    ·subst a;have U:(To s.1.2 (n+1)).length=0:=by omega
     unfold dA;rw [v.noJob (by omega),g.noJob (by rw [e1];simp;omega)]
    ·exact d i hi (e2 i hi a)
  ·left;rw [YP v,YP g];refine ZS (n:=n) ?_ p λi _ hi=>d i hi ?_
   ·rw [l,e ?_];rw [k];split
    ·rw [if_pos rfl];simp
    ·rw [if_pos rfl];simp
   ·rw [k,if_neg (λh=>c ⟨h.1,by omega⟩),if_neg hi]
end
section
open Go Sv
end
section
open Go Sv
end
section
open Go Sv
end
section
open Go Sv
end
section
open Go Sv
def WH (x:qS):Option (Int×(Int×Int)) :=
 bd (U7 x) λa=>br (Ry a.2 0) (λ_=>some ((0,(0,a.2)))) λ_=>bd (W4 x.1) λb=>some b
def W1 (x:qS):Option (Int×Int) :=
 bd (WH x) λa=>br (Ry a.2.2 0) (λ_=>some (0,a.2.2)) λ_=>some ((SG .i64 a.2.1 (SF .i64 a.1 1),0))
def Xi (x:qS):Option (Int×Int) :=
 bd (WH x) λa=>br (Ry a.2.2 0) (λ_=>some (0,a.2.2)) λ_=>some ((SF .i64 (SG .i64 4 (SF .i64 a.1 x.1.1)) (SG .i64 2 (Ki (AS x.1.2))),0))
def Wo (x:(qS×Int)):Option (qS×(Int×Int)) :=
 br (Oa x.2 0) (λ_=>some ((x.1,(0,0)))) λ_=>bd (loop (λ(s0:(qL×((Int×Int)×(Int×(qL×Int)))))=>bd (Uz (((s0.1.1,s0.1.2.1),s0.1.2.2))) λc=>br (Oa c.2 4) (λ_=>some (.dn ((0,((s0.1,((1,0),s0.2.2)),()))))) λ_=>br (Oa c.2 0) (λ_=>bd (Ur ((((s0.1.1,s0.1.2.1),s0.1.2.2),c.1))) λb=>br (Ry b.2.2 0) (λ_=>some (.dn ((0,(((0,([],([],0))),((2,b.2.2),s0.2.2)),()))))) λ_=>br (Oa (SK .i64 s0.2.2.2.2 1) 0) (λ_=>some (.dn ((1,(((b.1.1.1,(b.1.1.2,b.1.2)),((0,0),(SF .i64 s0.2.2.1 1,((b.1.1.1,(b.1.1.2,b.1.2)),SK .i64 s0.2.2.2.2 1)))),()))))) λ_=>some (.nx (((b.1.1.1,(b.1.1.2,b.1.2)),((0,0),(SF .i64 s0.2.2.1 1,((b.1.1.1,(b.1.1.2,b.1.2)),SK .i64 s0.2.2.2.2 1))))))) λ_=>br (Ry c.2 0) (λ_=>some (.dn ((0,(((0,([],([],0))),((2,c.2),s0.2.2)),()))))) λ_=>br (Oa (SK .i64 s0.2.2.2.2 1) 0) (λ_=>some (.dn ((1,((s0.1,((0,0),(SF .i64 s0.2.2.1 1,(s0.1,SK .i64 s0.2.2.2.2 1)))),()))))) λ_=>some (.nx ((s0.1,((0,0),(SF .i64 s0.2.2.1 1,(s0.1,SK .i64 s0.2.2.2.2 1))))))) (((x.1.1.1,(x.1.1.2,x.1.2)),((0,0),(0,((x.1.1.1,(x.1.1.2,x.1.2)),x.2)))))) λa=>br (neq a.1 0) (λ_=>br (Oa a.2.1.2.1.1 0) (λ_=>some ((((a.2.1.2.2.2.1.1,a.2.1.2.2.2.1.2.1),a.2.1.2.2.2.1.2.2),(a.2.1.2.2.1,0)))) λ_=>br (Oa a.2.1.2.1.1 1) (λ_=>some ((((a.2.1.2.2.2.1.1,a.2.1.2.2.2.1.2.1),a.2.1.2.2.2.1.2.2),(a.2.1.2.2.1,0)))) λ_=>some ((((0,[]),([],0)),(0,a.2.1.2.1.2)))) λ_=>br (Oa a.2.1.2.1.1 0) (λ_=>some ((((a.2.1.2.2.2.1.1,a.2.1.2.2.2.1.2.1),a.2.1.2.2.2.1.2.2),(a.2.1.2.2.1,0)))) λ_=>br (Oa a.2.1.2.1.1 1) (λ_=>some ((((a.2.1.2.2.2.1.1,a.2.1.2.2.2.1.2.1),a.2.1.2.2.2.1.2.2),(a.2.1.2.2.1,0)))) λ_=>some ((((0,[]),([],0)),(0,a.2.1.2.1.2)))
def Wn (x:(qS×Int)):Option (qS×(Int×Int)) :=
 bd (U7 x.1) λa=>br (Ry a.2 0) (λ_=>some ((((0,[]),([],0)),(0,a.2)))) λ_=>br (S8 x.2 0) (λ_=>some ((((0,[]),([],0)),(0,7)))) λ_=>br (S6 x.2 1000000) (λ_=>some ((((0,[]),([],0)),(0,7)))) λ_=>bd (Wo x) λb=>some b
def XQ (x:qS):Option (qS×(Int×Int)) :=
 bd (U7 x) λa=>br (Ry a.2 0) (λ_=>some ((((0,[]),([],0)),(0,a.2)))) λ_=>bd (Wo ((x,(-1)))) λb=>some b
def ZB (x:qS):Option (Bool×Int) :=
 bd (Vp x) λa=>br (Oa a.2 0) (λ_=>some ((Oa (Ki (AS a.1)) 0,a.2))) λ_=>some (false,a.2)
def Us (x:Unit):Option Bool :=
 bd (Yy ()) λi=>bd (ap i) λa=>br (Ry a.2 0) (λ_=>some false) λ_=>bd (XL a.1) λd=>bd (X4 (a.1,0)) λe=>bd (W1 a.1) λf=>bd (Xi a.1) λg=>br (Ry d.1 4) (λ_=>some false) λ_=>br (Ry d.2 0) (λ_=>some false) λ_=>br (Ry e.1 4) (λ_=>some false) λ_=>br (Ry e.2 0) (λ_=>some false) λ_=>br (Ry f.1 8) (λ_=>some false) λ_=>br (Ry f.2 0) (λ_=>some false) λ_=>br (Ry g.1 22) (λ_=>some false) λ_=>br (Ry g.2 0) (λ_=>some false) λ_=>bd (Wn (a.1,3)) λc=>bd (XQ c.1) λb=>bd (ZB b.1) λh=>br (Oa c.2.1 3) (λ_=>br (Oa c.2.2 0) (λ_=>br (Oa b.2.1 1) (λ_=>br (Oa b.2.2 0) (λ_=>br h.1 (λ_=>br (Oa h.2 0) (λ_=>some (Oa (Ki (AS b.1.2.1)) 0)) λ_=>some false) λ_=>some false) λ_=>some false) λ_=>some false) λ_=>some false) λ_=>some false
def YH (x:qS):Option Bool :=
 bd (loop (λs0=>br (S8 s0.2 (Ki (AS x.1.2))) (λ_=>bd (loop (λs1=>R1 s0.2 λa=>ix x.1.2 a λf=>br (S8 s1.2 (Ki (AS f))) (λ_=>R1 s0.2 λb=>ix x.1.2 b λg=>R1 s1.2 λc=>ix g c λh=>some (.nx ((SF .i64 s1.1 (Ki (AS h.2)),SF .i64 s1.2 1)))) λ_=>some (.dn ((0,(s1,()))))) (s0.1,0)) λd=>some (.nx (d.2.1.1,SF .i64 s0.2 1))) λ_=>some (.dn ((0,(s0,()))))) (0,0)) λe=>some (S7 e.2.1.1 60)
def VD (x:(qS×(Int×Int))):Option Bool :=
 bd (VQ x.1) λm=>bd (Xl x.1) λn=>br n (λ_=>bd (Us ()) λo=>some o) λ_=>br (Ry m.2 0) (λ_=>bd (Us ()) λp=>some p) λ_=>bd (YH x.1) λq=>br (Hg q) (λ_=>bd (Us ()) λr=>some r) λ_=>br (S6 x.1.2.2 900000) (λ_=>bd (Us ()) λs=>some s) λ_=>br (S6 (Ki (AS x.1.1.2)) 8) (λ_=>bd (Us ()) λt=>some t) λ_=>bd (Wn ((x.1,TS .i64 (TA .u8 (Oe ([x.2.1,x.2.2]) 0) 20)))) λl=>bd (Wn ((l.1,TS .i64 (TA .u8 (Oe ([x.2.1,x.2.2]) 1) 20)))) λf=>bd (Wn ((x.1,SF .i64 (TS .i64 (TA .u8 (Oe ([x.2.1,x.2.2]) 0) 20)) (TS .i64 (TA .u8 (Oe ([x.2.1,x.2.2]) 1) 20))))) λb=>br (Ry l.2.2 0) (λ_=>some false) λ_=>br (Ry f.2.2 0) (λ_=>some false) λ_=>br (Ry b.2.2 0) (λ_=>some false) λ_=>br (Ry (SF .i64 l.2.1 f.2.1) b.2.1) (λ_=>some false) λ_=>bd (Xu (f.1,b.1)) λg=>br (Hg g) (λ_=>some false) λ_=>bd (Uz f.1) λc=>br (Ry c.2 0) (λ_=>br (Oa c.2 4) (λ_=>bd (Us ()) λh=>some h) λ_=>some false) λ_=>bd (Ur (f.1,c.1)) λa=>bd (XL f.1) λd=>bd (XL a.1) λe=>br (Ry a.2.2 0) (λ_=>some false) λ_=>br (Ry d.2 0) (λ_=>some false) λ_=>br (Ry e.2 0) (λ_=>some false) λ_=>br a.2.1 (λ_=>br (Oa (Ki (AS a.1.2.1)) (Ki (AS f.1.2.1))) (λ_=>bd (Us ()) λi=>some i) λ_=>br (Oa e.1 (SK .i64 d.1 1)) (λ_=>bd (Us ()) λj=>some j) λ_=>some false) λ_=>br (Oa e.1 (SK .i64 d.1 1)) (λ_=>bd (Us ()) λk=>some k) λ_=>some false
end
end Go.Proofs.YtfipnhjfbebeiabGreatDoor.Pl
