/- Functions of the program and of the specification as plain functions, and laws about them. No condition. -/
import Derived.Test.YtfipnhjfbebeiabGreatDoorPl3
import Derived.KernelRfl
set_option linter.all false
namespace Go.Proofs.YtfipnhjfbebeiabGreatDoor.Pl
section
open Go Sv
def th (n:Nat) (s:Th):Th×(Int×Int):=if (U5 n s).2.2≠0 then (zS,(0,(U5 n s).2.2)) else ((U5 n s).1,(((U5 n s).2.1.length:Int),0))
abbrev wS:=Int×(List (List UN)×(List Job×Int))
abbrev wR:=wS×((Int×Int)×(Int×(wS×Int)))
def tf (s:Th) (n m:Int):wR:=(wQ s,((0,0),(n,(wQ s,m))))
def DAt (s0:Th) (T:Th×(Nat×Int)) (k n:Nat) (m:Int) (s:Th):Prop :=
 Gd s0 s/\n+k<=1100000/\T=((U5 k s).1,(n+(U5 k s).2.1.length,(U5 k s).2.2))/\((m=(k:Int)/\0<k)\/(m = -1-(n:Int)/\Yb 2000 s<k))
theorem DAt.pos {s0 s:Th} {T:Th×(Nat×Int)} {k n:Nat} {m:Int} (a:DAt s0 T k n m s) : ∃ b,k=b+1:=by
 obtain ⟨_,_,_,h⟩:=a;exact ⟨k-1,by omega⟩
theorem DAt.none {s0 s:Th} {T:Th×(Nat×Int)} {k n:Nat} {m:Int} (a:DAt s0 T k n m s) (e:Vd s=4):T=(s,(n,0)):=by
 obtain ⟨b,rfl⟩:=a.pos;rw [a.2.2.1];simp [U5,e]
theorem DAt.fail {s0 s:Th} {T:Th×(Nat×Int)} {k n:Nat} {m:Int} (a:DAt s0 T k n m s) (c:Vd s≠4) (b:Vd s≠0):T=(s,(n,Vd s)):=by
 obtain ⟨d,rfl⟩:=a.pos;rw [a.2.2.1];simp [U5,c,b]
theorem DAt.step {s0 s:Th} {T:Th×(Nat×Int)} {k n:Nat} {m:Int} (a:DAt s0 T k n m s) (e:Vd s=0) :
  (m-1=0/\T=(YM s,(n+1,0)))\/(m-1≠0 /\ ∃ b,DAt s0 T b (n+1) (m-1) (YM s)):=by
 obtain ⟨b,rfl⟩:=a.pos;obtain ⟨g,o,i,c⟩:=a;obtain ⟨_,_,_,_,_,_,_,h⟩:=Wb g e;have p:=(aR g g.2.2 e).1
 have d:T=((U5 b (YM s)).1,(n+1+(U5 b (YM s)).2.1.length,(U5 b (YM s)).2.2)):=by
  rw [i];simp [U5,e];omega
 by_cases f:m-1=0
 ·refine .inl ⟨f,?_⟩;have l:b=0:=by omega
  rw [d,l];rfl
 ·refine .inr ⟨f,b,h,by omega,d,?_⟩;rcases c with ⟨c,j⟩ | ⟨c,j⟩
  ·exact .inl ⟨by omega,by omega⟩
  ·exact .inr ⟨by omega,by omega⟩
def DEnd (T:Th×(Nat×Int)) (r:Nat×(wR×Unit)):Prop :=
 (T.2.2=0/\(r.2.1.2.1.1=0\/r.2.1.2.1.1=1)/\r.2.1.2.2.1=(T.2.1:Int)/\r.2.1.2.2.2.1=wQ T.1)\/(T.2.2≠0/\r.2.1.2.1=(2,T.2.2))
theorem DEnd.fin {T:Th×(Nat×Int)} {r:Nat×(wR×Unit)} (h:DEnd T r) :
  (br (Oa r.2.1.2.1.1 0) (λ_=>some ((((r.2.1.2.2.2.1.1,r.2.1.2.2.2.1.2.1),r.2.1.2.2.2.1.2.2),(r.2.1.2.2.1,(0:Int))))) λ_=>br (Oa r.2.1.2.1.1 1) (λ_=>some ((((r.2.1.2.2.2.1.1,r.2.1.2.2.2.1.2.1),r.2.1.2.2.2.1.2.2),(r.2.1.2.2.1,0)))) λ_=>some ((((0,[]),([],0)),(0,r.2.1.2.1.2))))=some (if T.2.2≠0 then (zS,(0,T.2.2)) else (T.1,((T.2.1:Int),0))):=by
 rcases h with ⟨a,h2,b,c⟩ | ⟨a,h2⟩
 ·rw [if_neg (by simp [a]),c,b,TK,TK];rcases h2 with h2 | h2
  ·rw [if_pos h2];rfl
  ·rw [if_neg (by rw [h2];decide),if_pos h2];rfl
 ·rw [if_pos a,h2,TK,if_neg (show ¬ ((2:Int)=0) by decide),TK,if_neg (show ¬ ((2:Int)=1) by decide)];rfl
theorem tK {s0 s:Th} {T:Th×(Nat×Int)} {k:Nat} {m:Int} (i:m≠0) (a:DAt s0 T k 0 m s):Xy (s,m)=some (if T.2.2≠0 then (zS,(0,T.2.2)) else (T.1,((T.2.1:Int),0))):=by
 unfold Xy;rw [TK,if_neg i];refine pR (λc => ∃ k t n m,c=tf t (n:Nat) m/\DAt s0 T k n m t) (DEnd T) (λc=>Yb 2000 ((c.1.1,c.1.2.1),c.1.2.2)) ⟨k,s,0,m,rfl,a⟩ ?_ ?_ ?_
 ·show Yb 2000 s<_;have:=aC a.1.1;omega
 ·rintro c ⟨k,t,n,m,rfl,a⟩;have b:=a.1;have j:SF .i64 (n:Int) 1=((n+1:Nat):Int):=Tu (by have:=a.2.1;omega);have hs:SK .i64 m 1=m-1:=Sj (by have:=a.2.1;have:=a.2.2.2;omega);rcases uo b with ⟨e1,e2⟩ | ⟨e1,e2,e3,e4⟩ | ⟨e1,e2,e3⟩
  ·refine .inr ⟨(0,((wQ t,((1,0),(tf t n m).2.2)),())),?_,.inl ⟨by rw [a.none e1],.inr rfl,by rw [a.none e1];rfl,by rw [a.none e1];rfl⟩⟩;show bd (VA t) _=_;rw [(aA b).1,Sx,TK,if_pos e2];rfl
  ·refine .inr ⟨(0,((((0,([],([],0))):wS),((2,Vd t),(tf t n m).2.2)),())),?_,.inr ⟨by rw [a.fail e1 e2];exact e2,by rw [a.fail e1 e2]⟩⟩;show bd (VA t) _=_;rw [(aA b).1,Sx,TK,if_neg e3,TK];rcases e4 with e4 | ⟨e4,e5⟩
   ·rw [if_neg (by rw [e4];exact e2),TQ,if_neg (by rw [e4];exact e2),e4]
   ·rw [if_pos e4];show bd (Uy (t,(VG t).1)) _=_;rw [(dh b _).1,Sx,TQ,if_neg (by rw [e5];exact e2),e5]
  ·have o:=(aR b b.2.2 e1).1;have h : ∀ {γ:Type} (x y:Unit->Option γ),br (Oa (SK .i64 m 1) 0) x y=if m-1=0 then x () else y ():=λx y=>by rw [hs,TK]
   have key : ∀ {R},R=(if m-1=0 then some (LR.dn (1,(tf (YM t) ((n+1:Nat):Int) (m-1),()))) else some (LR.nx (tf (YM t) ((n+1:Nat):Int) (m-1))))->(∃ s',R=some (.nx s')/\(∃ k t n m,s'=tf t (n:Nat) m/\DAt s0 T k n m t)/\Yb 2000 ((s'.1.1,s'.1.2.1),s'.1.2.2)<Yb 2000 t)\/(∃ x,R=some (.dn x)/\DEnd T x):=fun {R} e=>by
    rcases a.step e1 with ⟨f,d⟩ | ⟨f,l,d⟩
    ·rw [if_pos f] at e;exact .inr ⟨_,e,.inl ⟨by rw [d],.inl rfl,by rw [d];rfl,by rw [d];rfl⟩⟩
    ·rw [if_neg f] at e;exact .inl ⟨_,e,⟨l,_,_,_,rfl,d⟩,by show Yb 2000 (YM t)<_;omega⟩
   refine key ?_;show bd (VA t) _=_;rw [(aA b).1,Sx,TK,if_neg (by rw [e2];decide),TK,if_pos e2];show bd (Uy (t,(VG t).1)) _=_;rw [(dh b _).1,Sx,TQ,if_pos e3];refine (h _ _).trans ?_;rw [<- j,<- hs];rfl
 ·intro r g;rw [pT];split
  ·exact g.fin
  ·exact g.fin
theorem qA {s0 s:Th} (g:Gd s0 s):Xy (s,-1)=some (th (Yb 2000 s+1) s):=by
 have a:=aC g.1;have:=tK (s0:=s0) (s:=s) (T:=((U5 (Yb 2000 s+1) s).1,(0+(U5 (Yb 2000 s+1) s).2.1.length,(U5 (Yb 2000 s+1) s).2.2))) (k:=Yb 2000 s+1) (m := -1) (by omega) ⟨g,by omega,rfl,.inr ⟨by omega,by omega⟩⟩;rw [this];simp only [Nat.zero_add];rfl
def VO (s:Th):Th×(Int×Int):=if (Tk s).2≠0 then (zS,(0,(Tk s).2)) else th (Yb 2000 s+1) s
theorem gj {s:Th} (m:Sm s) (hc:VSt s->UH s.1.2.flatten<=2000):XQ s=some (VO s):=by
 unfold XQ VO;rw [ua m,Sx,TQ];by_cases a:(Tk s).2=0;rotate_left
 ·rw [if_neg a,if_pos a];rfl
 rw [if_pos a,if_neg (by simp [a])];have v:=Ts.1 a;rw [qA (s0:=s) ⟨v,rfl,hc v⟩];rfl
end
section
open Go Sv
def db (s:Th):Bool×Int:=if (Tk s).2≠0 then (false,(Tk s).2) else (decide (Tp 0 s.1.2=[]),0)
theorem kS {n c:Nat} (a:n<=24) (hc:c<=1000000):SG .i64 (n:Int) (SF .i64 (c:Int) 1)=((n*(c+1):Nat):Int):=by
 have h:n*(c+1)<=24*1000001:=Nat.mul_le_mul a (by omega);rw [Tu (by omega),Si]
 ·exact (Int.natCast_mul _ _).symm
 ·rw [<- Int.natCast_mul];omega
end
section
open Go Sv
end
section
open Go Sv
theorem gJ {s:Th} (v:VSt s) (h:s.2.1=[]):Tp 0 s.1.2=[]:=by rw [<- v.due,h];rfl
end
section
open Go Sv
theorem Hn {f:Wz} (h:Un f=0):(Tk f.2).2=0:=by
 unfold Un at h;by_cases a:(W0 f.1).2=0
 ·rw [if_neg (show ¬ (W0 f.1).2≠0 by simp [a])] at h;by_cases b:(Tk f.2).2=0
  ·exact b
  ·rw [if_pos b] at h;exact absurd h b
 ·rw [if_pos a] at h;exact absurd h a
theorem bM {L:Tl} (v:VLev L):bz L=((UH L.2.flatten:Int),((L.2.flatten.length:Int),0)):=by
 unfold bz;rw [if_neg (by simp [Wa v])]
def gH (f:Wz):Int×(Int×Int):=if Un f≠0 then (0,(0,Un f)) else ((Vr f.2:Int),(((UH f.2.1.2.flatten+f.2.1.2.length:Nat):Int),0))
theorem gA {f:Wz} (m:Sm f.2):VP f=some (gH f):=by
 unfold VP gH;rw [ZZ m,Sx,TQ];by_cases a:Un f=0;rotate_left
 ·rw [if_neg a,TQ,if_neg a,if_pos a]
 have b:=Hn a;have v:=Ts.1 b;obtain ⟨s1,s2⟩:=Yf v.lev;have c:=v.lev.len;rw [if_pos a,if_neg (show ¬ Un f≠0 by simp [a]),jV m,if_neg (show ¬ (Tk f.2).2≠0 by simp [b]),Sx,TQ,if_pos rfl,cY _ m.lv m.rs,bM v.lev,Sx,TQ,if_pos rfl];unfold Ud;simp only [Tq,Tn];rw [Sx,Sh (by omega)]
 congr 3
def qY (B w:Int):Int:=if w=0 then 0 else (jU B w 11:Int)+1
def sv (f:Wz) (w:Int):Nat->Bool
 | 0=>S7 (Vr f.2:Int) ((UH f.2.1.2.flatten+f.2.1.2.length:Nat):Int)
 | 1=>S7 (f.2.1.2.flatten.length:Int) (2*(f.2.1.2.length:Int))
 | 2=>S7 ((UH f.2.1.2.flatten+f.1.2.length:Nat):Int) w
 | 3=>S7 (f.2.1.2.length:Int) (qY f.2.1.1 w)
 | _=>ZD f.2.1.1 0 f.2.1.2
def dy (f:Wz) (w:Int):List Int×Int:=if Un f≠0 then ([],Un f) else if w<0\/w>1000000000 then ([],7) else (Ze (sv f w) 5,0)
theorem gu {f:Wz} (h:Un f=0):f.1.2.length<=16:=by
 unfold Un at h;by_cases a:(W0 f.1).2=0
 ·unfold W0 at a;by_cases b:f.1.1<1\/f.1.1>16
  ·rw [if_pos b] at a;cases a
  rw [if_neg b] at a;by_cases c:(f.1.2.length:Int)>f.1.1
  ·rw [if_pos c] at a;cases a
  ·omega
 ·rw [if_pos a] at h;exact absurd h a
theorem zG {k:Nat} (h:k<5):k=0\/k=1\/k=2\/k=3\/k=4:=by omega
theorem jX {f:Wz} (m:Sm f.2) (w:Int):WO (f,w)=some (dy f w):=by
 unfold WO dy;rw [ZZ m,Sx,TQ];by_cases a:Un f=0;rotate_left
 ·rw [if_neg a,TQ,if_neg a,if_pos a]
 have d:=Hn a;have v:=Ts.1 d;obtain ⟨s1,s2⟩:=Yf v.lev;have h:=v.lev.len;have g:=gu a;rw [if_pos a,if_neg (show ¬ Un f≠0 by simp [a]),jV m,if_neg (show ¬ (Tk f.2).2≠0 by simp [d]),Sx,TQ,if_pos rfl,cY _ m.lv m.rs,bM v.lev,Sx,TQ,if_pos rfl,TP,TM];by_cases b:w<0
 ·rw [if_pos b,if_pos (.inl b)]
 rw [if_neg b];by_cases c:w>1000000000
 ·rw [if_pos c,if_pos (.inr c)]
 rw [if_neg c,if_neg (show ¬ (w<0\/w>1000000000) by omega)];unfold Ud;simp only [Sx,bc v.lev,Tq,show AS f.2.1.2=f.2.1.2.length from rfl,show AS f.1.2=f.1.2.length from rfl,g9 ⟨v.lev.B1,v.lev.B2⟩ (w:=w) ⟨by omega,by omega⟩];refine UI (Y8 (r:=(0,((Ze (sv f w) 5,((5:Nat):Int)),()))) (λk=>(Ze (sv f w) k,(k:Int))) 5 rfl (by omega) (λk e => ?_) rfl) rfl;simp only;rw [TP,if_pos (by omega),Ti];rcases zG e with rfl | rfl | rfl | rfl | rfl
 ·rw [Sy,if_pos rfl];exact aX (k:=0) (by omega) _ (by rw [Sh (by omega)];unfold sv;congr 1)
 ·rw [Sy,if_neg (by omega),Sy,if_pos rfl];exact aX (k:=1) (by omega) _ (by rw [Si (by omega)];rfl)
 ·rw [Sy,if_neg (by omega),Sy,if_neg (by omega),Sy,if_pos rfl];exact aX (k:=2) (by omega) _ (by rw [Sh (by omega)];unfold sv;congr 1)
 ·rw [Sy,if_neg (by omega),Sy,if_neg (by omega),Sy,if_neg (by omega),Sy,if_pos rfl,TK,if_pos rfl];exact aX (k:=3) (by omega) _ rfl
 ·rw [Sy,if_neg (by omega),Sy,if_neg (by omega),Sy,if_neg (by omega),Sy,if_neg (by omega),S1,if_pos rfl];exact UI (bc v.lev) (aX (k:=4) (by omega) _ rfl)
theorem pQ:Uv ()=some true:=by kernel_rfl
end
section
open Go Sv
theorem pY (f:Wz) (a : ∀ rs∈f.2.1.2,∀ r∈rs,r.2.length<=9223372036854775807) : ∃ b,YC f=some b/\(b=false->Sm f.2/\(VLev f.2.1->UH f.2.1.2.flatten<=40)/\f.1.2.length<=20):=by
 unfold YC;simp only [Tq,Tn]
 obtain ⟨r,o,d⟩:=Y7 (l:=f.1.2) (σ:=Unit) (s:=((0:Int),false)) 25 (by omega) (λk _=>((k:Int),false)) (λ_ _=>True) (λ(r:Nat×((Int×Bool)×Unit))=>r.1=1\/(r.1=0/\r.2.1.2=true))
  (f:=λs0=>br (S8 s0.1 (f.1.2.length:Int)) (λ_=>br (S8 s0.1 25) (λ_=>R1 s0.1 λm=>ix f.1.2 m λq=>br (S6 (Mj q.1:Int) 100) (λ_=>some (.dn ((0,((s0.1,true),()))))) λ_=>R1 s0.1 λn=>ix f.1.2 n λt=>br (S6 (Mj t.2.1:Int) 100) (λ_=>some (.dn ((0,((s0.1,true),()))))) λ_=>some (.nx (SF .i64 s0.1 1,s0.2))) λ_=>some (.dn ((1,(s0,()))))) λ_=>some (.dn ((1,(s0,())))))
  () rfl trivial (λk _ h g _=>⟨_,(jk (c:=25) h g _ _ _ rfl),.inl rfl⟩) (λk x _ a g _=>by
   simp only;have i:=(List.getElem?_eq_some_iff.1 a).1;rw [rl i,Sc,show S8 (k:Int) 25=true from dE g,Sc,Ti,TC a,TM,Ti,TC a,TM,Tu (by omega)]
   repeat' split
   all_goals first | exact .inr ⟨_,rfl,.inr ⟨rfl,rfl⟩⟩ | exact .inl ⟨(),rfl,trivial⟩)
 rw [o,Sx,Sy];rcases d with d | ⟨d,p⟩
 ·rw [if_neg (show ¬ r.1=0 by omega)];obtain ⟨b,e,j⟩:=jo f.2 a;rw [e,Sx];cases b with
  | true=>exact ⟨_,rfl,λh=>by cases h⟩
  | false =>
   refine ⟨_,rfl,λh=>⟨(j rfl).1,(j rfl).2,?_⟩⟩;unfold S6 at h;simp at h;omega
 ·rw [if_pos d,p];exact ⟨_,rfl,λh=>by cases h⟩
theorem ec {f g:Nat->Nat} {n:Nat} (a:f n<=g n+1) : ∀ {m:Nat},(∀ i,i<m->i≠n->f i<=g i)->U2 f m<=U2 g m+1
 | 0,_=>Nat.zero_le _
 | m+1,h=>by
  show U2 f m+f m<=U2 g m+g m+1;by_cases e:n=m
  ·subst e;have:=aG (f:=g) (g:=f) (m:=n) λi hi=>h i (by omega) (by omega);omega
  ·have:=ec a (m:=m) λi hi=>h i (by omega);have:=h m (by omega) (λx=>e x.symm);omega
theorem jm {s t:Th} {n:Nat} {j:Job} {b:Bool} (v:VSt s) (z:VSt t) (q:JobAt s.1 n j) (F:StepF s n j t b):Vr s<=Vr t+1:=by
 obtain ⟨x,y,w,C,B,a⟩:=q.rd;have hc:UH (To s.1.2 n)=x.2.length+y.2.length:=by rw [w,VS,VS];simp [UH]
 rw [cr v,cr z];by_cases g:0<UA s.1 j
 ·obtain ⟨_,h,_,k⟩:=F.read g;refine ec (n:=n) ?_ λi _ hi => ?_
  ·unfold dA;rw [k n,if_pos rfl,F.job,h];simp only;rw [a g,hc];omega
  ·unfold dA;rw [k i,if_neg hi,h];exact Nat.le_refl _
 ·obtain ⟨A,_,_,m,o,p⟩:=F.inst (by omega)
  have u:dA s n=1:=by
   unfold dA;rw [F.job];simp only;rw [hc];omega
  refine ec (n:=n) (by omega) λi _ hi => ?_;by_cases d:(To s.1.2 i).length=2
  ·have r:To t.1.2 i=To s.1.2 i:=by
    rw [m,if_neg hi];by_cases c:Ur j≠[]/\i=Ya s j
    ·exfalso;have l:=o.resolve_left (λe=>hi (by rw [c.2,e]));have:=l.2.2 c.1;rw [<- l.1,<- c.2] at this;omega
    ·rw [if_neg c]
   refine Nat.le_of_eq ?_;unfold dA;rw [p i,r,if_pos d,if_neg hi];obtain ⟨j',f⟩:=v.hasJob d;rw [f];rfl
  ·unfold dA;rw [v.noJob d];exact Nat.zero_le _
theorem bg {s0:Th} : ∀ {n:Nat} {s:Th},Gd s0 s->Vr s<=(U5 n s).2.1.length+Vr (U5 n s).1
 | 0,s,g=>by simp [U5]
 | n+1,s,g=>by
  unfold U5;by_cases c:Vd s=4
  ·rw [if_pos c];simp
  ·rw [if_neg c];by_cases a:Vd s=0
   ·rw [if_neg (by simp [a])];obtain ⟨_,_,_,_,d,_,F,b⟩:=Wb g a;have e:=jm g.1 b.1 d F;have f:=bg (n:=n) b;simp only [List.length_cons];omega
   ·rw [if_pos a];simp
theorem un {s0 s:Th} (g:Gd s0 s) (e:Vd s=0):(YM s).1.1=s.1.1:=by
 obtain ⟨_,_,_,_,c,_,F,b⟩:=Wb g e;rename_i n j _ _ _;by_cases a:0<UA s.1 j
 ·rw [(F.read a).2.1]
 ·rw [(F.inst (by omega)).2.1];unfold Vk;split<;>rfl
theorem ka {s0:Th} : ∀ {n:Nat} {s:Th},Gd s0 s->(U5 n s).1.1.1=s.1.1
 | 0,s,g=>rfl
 | n+1,s,g=>by
  unfold U5;by_cases b:Vd s=4
  ·rw [if_pos b]
  ·rw [if_neg b];by_cases a:Vd s=0
   ·rw [if_neg (by simp [a])];obtain ⟨_,_,_,_,_,_,_,c⟩:=Wb g a;exact (ka (n:=n) c).trans (un g a)
   ·rw [if_pos a]
def zb:Wz:=((0,[]),zS)
def xH (f:Wz):Wz×(Int×Int):=if (VO f.2).2.2≠0 then (zb,(0,(VO f.2).2.2)) else ((f.1,(VO f.2).1),((VO f.2).2.1,0))
def d6 (f:Wz):Wz×(Int×Int):=if Un f≠0 then (zb,(0,Un f)) else xH f
theorem eW {s:Th} (hc:VSt s->UH s.1.2.flatten<=2000) : ∃ n:Nat,(VO s).2.1=(n:Int)/\n<=60000:=by
 unfold VO;by_cases h:(Tk s).2=0
 ·rw [if_neg (by simp [h])];have v:=Ts.1 h;have l:=(ZE (n:=Yb 2000 s+1) (N:=2000) (s0:=s) ⟨v,rfl,hc v⟩ (hc v)).1;have:=aC v;unfold th;split
  ·exact ⟨0,rfl,by omega⟩
  ·exact ⟨_,rfl,by omega⟩
 ·rw [if_pos h];exact ⟨0,rfl,by omega⟩
theorem jY {f:Wz} (m:Sm f.2) (hc:VSt f.2->UH f.2.1.2.flatten<=2000):Vv f=some (d6 f):=by
 unfold Vv d6 xH;rw [ZZ m,Sx,TQ];by_cases a:Un f=0;rotate_left
 ·rw [if_neg a,if_pos a];rfl
 obtain ⟨n,c,d⟩:=eW hc;rw [if_pos a,if_neg (show ¬ Un f≠0 by simp [a]),gj m hc,Sx,TK,TK,TQ,TQ,TK];have hi:SF .i64 0 (VO f.2).2.1=(VO f.2).2.1:=by rw [c,Sh (by omega)];omega
 by_cases b:(VO f.2).2.2=0
 ·simp only [b,if_true,hi,ne_eq,not_true_eq_false,if_false]
 ·simp only [b,if_false,ne_eq,not_false_eq_true,if_true];rfl
theorem d7 {f:Wz} (a:Un f=0) (l:UH f.2.1.2.flatten<=60) (c:(VO f.2).2.2=0) :
  ∃ (t:Th) (n:Nat),VO f.2=(t,((n:Int),0))/\Gd f.2 t/\UH t.1.2.flatten<=60/\t.2.1=[]/\n<=f.2.1.2.flatten.length*(UH f.2.1.2.flatten+1)/\Vr f.2<=n/\Un (f.1,t)=0/\t.1.1=f.2.1.1/\VO t=(t,(0,0)):=by
 have e:=Hn a;have v:=Ts.1 e;have G:Gd f.2 f.2:=⟨v,rfl,by omega⟩
 have i:(U5 (Yb 2000 f.2+1) f.2).2.2=0:=by
  unfold VO th at c;rw [if_neg (by simp [e])] at c;by_cases h:(U5 (Yb 2000 f.2+1) f.2).2.2=0
  ·exact h
  ·rw [if_pos h] at c;exact absurd c h
 have p:=kG (UH f.2.1.2.flatten) v;have o:=ZE (n:=Yb 2000 f.2+1) (N:=UH f.2.1.2.flatten) G (Nat.le_refl _);have g:=ZE (n:=Yb 2000 f.2+1) (N:=60) G l;have hd:=iM (N:=2000) (R:=Yb 2000 f.2+1) G (by omega) (by omega) i;have j:=ka (n:=Yb 2000 f.2+1) G;have m:=bg (n:=Yb 2000 f.2+1) G;have b:=g.2.2.1.1
 have k:Vr (U5 (Yb 2000 f.2+1) f.2).1=0:=by
  unfold Vr;rw [gJ b hd];rfl
 refine ⟨(U5 (Yb 2000 f.2+1) f.2).1,(U5 (Yb 2000 f.2+1) f.2).2.1.length,?_,g.2.2.1,g.2.2.2.1,hd,by omega,by omega,?_,j,?_⟩
 ·unfold VO th;rw [if_neg (by simp [e]),if_neg (by simp [i])]
 ·unfold Un at a ⊢;by_cases d:(W0 f.1).2=0;rotate_left
  ·rw [if_pos d] at a;exact absurd a d
  rw [if_neg (by simp [d]),if_neg (by simp [e])] at a;rw [if_neg (by simp [d]),if_neg (by simp [Ts.2 b])];show (if f.1.1≠(U5 (Yb 2000 f.2+1) f.2).1.1.1 then (6:Int) else 0)=0
  rw [j];exact a
 ·unfold VO th;rw [if_neg (by simp [Ts.2 b]),kc b hd,if_neg (by simp)];rfl
theorem aB {ks:Nat->Bool} (b:ks 0=true) (c:ks 1=true) : ∀ n x,x∈Ze ks n->2<x
 | 0,x,h=>by cases h
 | n+1,x,h=>by
  unfold Ze jd at h;by_cases a:ks n=true
  ·rw [if_pos a] at h;exact aB b c n x h
  ·rw [if_neg a] at h;rcases List.mem_append.1 h with h | h
   ·exact aB b c n x h
   ·have:=List.mem_singleton.1 h;have:n≠0:=λe=>a (by rw [e];exact b);have:n≠1:=λe=>a (by rw [e];exact c);omega
theorem jr {a b:Int} (h:a<=b):S7 a b=true:=by unfold S7;simpa using h
theorem jq {L:Tl} (v:VLev L):L.2.flatten.length<=2*L.2.length:=by
 have h:=v.two;generalize L.2=l at h
 induction l with
 | nil=>simp
 | cons rs l b =>
  have c:=h rs (by simp);have d:=b λx a=>h x (by simp [a]);rw [List.flatten_cons,List.length_append,List.length_cons];omega
theorem boundsDebt {f:Wz} (C : ∀ rs∈f.2.1.2,∀ r∈rs,r.2.length<=9223372036854775807):VV f=some true:=by
 unfold VV;obtain ⟨b,e,w⟩:=pY f C;rw [e,Sx,pQ];cases b with
 | true=>rfl
 | false =>
  obtain ⟨m,a,_⟩:=w rfl;have hc:VSt f.2->UH f.2.1.2.flatten<=2000:=λv=>by have:=a v.lev;omega
  rw [R7,gA m,Sx,TQ];unfold gH;by_cases c:Un f=0;rotate_left
  ·rw [if_pos c,if_neg c];rfl
  have p:=Hn c;have v:=Ts.1 p;have u:=a v.lev;have z:=dz v;have A:=v.lev.len;have j:=cz v.lev;have s:=jq v.lev;rw [if_neg (show ¬ Un f≠0 by simp [c]),if_pos rfl,iG v.lev,Sx,kJ m,Sx,if_neg (show ¬ (Tk f.2).2≠0 by simp [p]),jX m,Sx];unfold dy;rw [if_neg (show ¬ Un f≠0 by simp [c]),if_neg (by omega)];simp only [Tq,Tn];rw [TQ,if_pos rfl,TQ,if_pos rfl,TQ,if_pos rfl,TQ,if_pos rfl,TM,if_neg (by omega)];have e1:SF .i64 (UH f.2.1.2.flatten:Int) (f.2.1.2.length:Int)=((UH f.2.1.2.flatten+f.2.1.2.length:Nat):Int):=by rw [Sh (by omega)];omega
  rw [e1,TQ,if_pos rfl]
  have key:(bd (Vv f) λi=>br (Ry i.2.2 0) (λ_=>bd (some true) λI=>some I) λ_=>bd (VP i.1) λg=>br (Oa g.2.2 0) (λ_=>br (Oa g.1 0) (λ_=>br (S7 i.2.1 (SG .i64 (f.2.1.2.flatten.length:Int) (SF .i64 (UH f.2.1.2.flatten:Int) 1))) (λ_=>br (Oa (Vr f.2:Int) 0) (λ_=>bd (some true) λk=>some k) λ_=>br (Rx i.2.1 (Vr f.2:Int)) (λ_=>bd (some true) λo=>some o) λ_=>some false) λ_=>some false) λ_=>some false) λ_=>some false)=some true:=by
   rw [jY m hc,Sx,TQ];unfold d6 xH;rw [if_neg (show ¬ Un f≠0 by simp [c])];by_cases h:(VO f.2).2.2=0;rotate_left
   ·rw [if_pos h,if_neg h];rfl
   obtain ⟨t,n,E,q,J,F,K,L,G,M,N⟩:=d7 c (by omega) h;have D:Sm (f.1,t).2:=q.1.sm;rw [if_neg (show ¬ (VO f.2).2.2≠0 by simp [h]),if_pos rfl,E,gA D,Sx];unfold gH;have y:Vr t=0:=by unfold Vr;rw [gJ q.1 F];rfl
   rw [if_neg (show ¬ Un (f.1,t)≠0 by simp [G]),TK,if_pos rfl,TK,if_pos (show ((Vr (f.1,t).2:Nat):Int)=0 by show (Vr t:Int)=0;omega),kS j (by omega),TN,if_pos (by simp only;omega),TK,TL];split
   ·rfl
   ·rw [if_pos (by simp only;omega)];rfl
  have d:=aB (ks:=sv f 1000000000) (jr (by omega)) (jr (by omega)) 5;rw [TM];cases B:Ze (sv f 1000000000) 5 with
  | nil =>
   rw [if_neg (show ¬ ((([]:List Int).length:Int)>0) by decide)];exact key
  | cons x l =>
   have:=d x (by rw [B];simp);rw [if_pos (by simp only [List.length_cons];omega),TC (x:=x) rfl,TN,if_neg (by omega)];exact key
theorem dx {x:Wz} (h:RI [(true,.pair (.pair (.int .i64) (.sl true tE)) zZ)] x):VV x=some true:=boundsDebt (uf h.2)
end
end Go.Proofs.YtfipnhjfbebeiabGreatDoor.Pl
