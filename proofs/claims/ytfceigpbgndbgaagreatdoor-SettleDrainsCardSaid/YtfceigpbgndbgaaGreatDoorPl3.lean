/- Functions of the program and of the specification as plain functions, and laws about them. No condition. -/
import Derived.Test.YtfceigpbgndbgaaGreatDoorPl2
import Derived.KernelRfl
set_option linter.all false
open List renaming getElem?_eq_some_iff->a8, getElem?_of_mem->eo, length_cons->ci, mem_of_getElem?->bo, mem_of_mem_take->nP, take_add_one->gM
open Option renaming some->zo
open Bool renaming true->zt, false->zf
namespace Go.Proofs.YtfceigpbgndbgaaGreatDoor.Pl
section
open Go Sv
theorem zH{s t:UX}{n:Nat}{j:Job}{b:Bool}(v:VSt s)(F:StepF s n j t b){i:Nat}(a:i≠n)(f:(Ud s.1.2 i).length=2):Ud t.1.2 i=Ud s.1.2 i/\VQ t.2.1 (i:Int)=VQ s.2.1 (i:Int):=by
 by_cases h:0<Uo s.1 j
 ·obtain⟨_,e1,_,e2⟩:=F.read h;exact⟨by rw[e1],by rw[e2,zx a]⟩
 ·obtain⟨_,e1,_,e2,e3,g⟩:=F.inst (by omega)
  have e:¬ (Vc j≠[]/\i=Zk s j):=λ⟨c,hi⟩=>by
   rcases e3 with e3|⟨e3,_,e5⟩
   ·exact a (by rw[hi,e3])
   ·have:=e5 c;rw[<- e3,<- hi]at this;omega
  have c:Ud t.1.2 i=Ud s.1.2 i:=by rw[e2,zx e,zx a]
  refine⟨c,?_⟩;obtain⟨j',d⟩:=v.hasJob f;rw[g,c,zy f,zx a,d];rfl
theorem zK{s0 s:UX}(g:Gd s0 s)(e:WE s=0){i:Nat}(b:(Ud s.1.2 i).length=2)(f:cm s≠((i:Int),zt)):(Ud (YL s).1.2 i).length=2:=by
 obtain⟨n,j,d,k,h,hc,F,_⟩:=W3 g e;by_cases a:i=n
 ·subst a;by_cases c:0<Uo s.1 j
  ·rw[(F.read c).2.1];exact b
  ·exact absurd (Prod.ext d (F.inst (by omega)).1) f
 ·rw[(zH g.1 F a b).1];exact b
def fL(a:Int):Nat->Nat->UX->Int×Int
 |0,_,_=>(0,0)
 |k+1,n,s=>if WE s≠0 then(0,WE s)else if cm s=(a,zt)then(((n+1:Nat):Int),0)else fL a k (n+1) (YL s)
theorem bg{s:UX}(v:VSt s):Yf 2000 s<=48024:=by
 have b:=gZ 2000 v;have a:=bB v.lev;have:=Nat.mul_le_mul_right 2001 a;omega
def NAt(s0:UX)(a:Int)(T:Int×Int)(k n:Nat)(s:UX):Prop:=Gd s0 s/\Yf 2000 s<k/\n+k<=60000/\T=fL a k n s /\ ∃ i:Nat,a=(i:Int)/\(Ud s.1.2 i).length=2
theorem NAt.fail{s0 s:UX}{d:Int}{T:Int×Int}{k n:Nat}(a:NAt s0 d T k n s)(e:WE s≠0):T=(0,WE s):=by
 obtain⟨_,f,_,c,_⟩:=a;obtain⟨b,rfl⟩:∃ b,k=b+1:=⟨k-1,by omega⟩;rw[c];simp[fL,e]
theorem NAt.hit{s0 s:UX}{c:Int}{T:Int×Int}{k n:Nat}(a:NAt s0 c T k n s)(e:WE s=0)(h:cm s=(c,zt)):T=(((n+1:Nat):Int),0):=by
 obtain⟨_,f,_,d,_⟩:=a;obtain⟨b,rfl⟩:∃ b,k=b+1:=⟨k-1,by omega⟩;rw[d];simp[fL,e,h]
theorem NAt.next{s0 s:UX}{d:Int}{T:Int×Int}{k n:Nat}(a:NAt s0 d T k n s)(e:WE s=0)(h:cm s≠(d,zt)):∃ b,k=b+1/\NAt s0 d T b (n+1) (YL s)/\Yf 2000 (YL s)<Yf 2000 s:=by
 obtain⟨c,m,o,j,i,f,l⟩:=a;obtain⟨b,rfl⟩:∃ b,k=b+1:=⟨k-1,by omega⟩;obtain⟨_,_,_,_,_,_,_,g⟩:=W3 c e;have p:=(cI c c.2.2 e).1;refine⟨b,rfl,⟨g,by omega,by omega,?_,i,f,zK c e l (by rw[<- f];exact h)⟩,by omega⟩;rw[j];simp[fL,e,h]
end
section
open Go Sv
end
section
open Go Sv
theorem jT(l:List UZ)(b:Bool)(m:b=zf):∃ r,loop (β:=Nat×((Int×Bool)×Unit)) (λa=>br (Tk a.1 (l.length:Int)) (λ_=>br (Tk a.1 50) (λ_=>SW a.1 λn=>ix l n λi=>br (Ti (NA i.1:Int) 100) (λ_=>zo (.dn ((0,((a.1,zt),()))))) λ_=>SW a.1 λg=>ix l g λj=>br (Ti (NA j.2.1:Int) 100) (λ_=>zo (.dn ((0,((a.1,zt),()))))) λ_=>zo (.nx (So .i64 a.1 1,a.2))) λ_=>zo (.dn ((1,(a,()))))) λ_=>zo (.dn ((1,(a,()))))) ((0:Int),b)=zo r/\((r.1=1/\r.2.1.2=zf)\/(r.1=0/\r.2.1.2=zt)):=by
 subst m
 exact aD (l:=l) (σ:=Unit) 50 (by omega) (λk _=>((k:Int),zf)) (λ_ _=>True) (λ(r:Nat×((Int×Bool)×Unit))=>(r.1=1/\r.2.1.2=zf)\/(r.1=0/\r.2.1.2=zt)) () rfl trivial (λk _ h d _=>⟨_,(mv (c:=50) h d _ _ _ rfl),.inl ⟨rfl,rfl⟩⟩) (λk x _ f d _=>by
  simp only;have e:=(a8.1 f).1;rw[rl e,TB,show Tk (k:Int) 50=zt from fH d,TB,UY,Tq f,UF,UY,Tq f,UF,Uh (by omega)]
  repeat' split
  all_goals first|exact .inr ⟨_,rfl,.inr ⟨rfl,rfl⟩⟩|exact .inl ⟨(),rfl,trivial⟩)
def Bnd(n:Int)(rs:List Uy):Prop:=0<=n/\n<=1000000000 /\ ∀ r∈rs,r.2.length<=5000
theorem eh{rs:List Uy}{k:Nat}(h:∀ r∈rs,r.2.length<=5000)(d:k<=20):Uj (rs.take k)<=100000:=by
 have b:=dv (l:=rs.take k) λr a=>h r (nP a);have c:(rs.take k).length<=k:=by rw[List.length_take];omega
 omega
theorem ka{L:List (List Uy)}{i:Nat}{rs:List Uy}(hi:L[i]?=zo rs)(n:Int)(b:Bool)(B:b=zf):∃ r,loop (β:=Nat×((Int×(Int×Bool))×Unit)) (λs1=>SW (i:Int) λC=>ix L C λI=>br (Tk s1.2.1 (I.length:Int)) (λ_=>br (Tk s1.2.1 9) (λ_=>SW (i:Int) λD=>ix L D λJ=>SW s1.2.1 λE=>ix J E λf=>bd (loop (λa=>br (Tk a.1 (f.2.length:Int)) (λ_=>br (Tk a.1 50) (λ_=>SW a.1 λF=>ix f.2 F λw=>br (Ti (NA w.1:Int) 100) (λ_=>zo (.dn (((0:Nat),((a.1,zt),()))))) λ_=>SW a.1 λt=>ix f.2 t λy=>br (Ti (NA y.2.1:Int) 100) (λ_=>zo (.dn ((0,((a.1,zt),()))))) λ_=>zo (.nx (So .i64 a.1 1,a.2))) λ_=>zo (.dn ((1,(a,()))))) λ_=>zo (.dn ((1,(a,()))))) ((0:Int),s1.2.2)) λe=>br (neq e.1 0) (λ_=>zo (.dn ((1,((So .i64 s1.1 (f.2.length:Int),(s1.2.1,e.2.1.2)),()))))) λ_=>zo (.nx ((So .i64 s1.1 (f.2.length:Int),(So .i64 s1.2.1 1,e.2.1.2))))) λ_=>zo (.dn ((0,(s1,()))))) λ_=>zo (.dn ((0,(s1,()))))) (n,((0:Int),b))=zo r/\((r.1=0/\r.2.1.2.2=zf/\(rs.length<=8->Bnd n rs->r.2.1.1=n+(Uj rs:Int)))\/(r.1=1/\r.2.1.2.2=zt)):=by
 subst B
 exact aD (l:=rs) (σ:=Int) 9 (by omega) (λk m=>(m,((k:Int),zf))) (λk m=>Bnd n rs->m=n+(Uj (rs.take k):Int)) (λ(r:Nat×((Int×(Int×Bool))×Unit))=>(r.1=0/\r.2.1.2.2=zf/\(rs.length<=8->Bnd n rs->r.2.1.1=n+(Uj rs:Int)))\/(r.1=1/\r.2.1.2.2=zt)) n rfl (λ_=>by simp[Uj]) (λk m h p o=>⟨_,by
  rw[UY,Tq hi];exact(mv (c:=9) h p _ _ _ rfl),.inl ⟨rfl,rfl,λP d=>by
   have q:k=rs.length:=by omega
   subst q;have:=o d;rw[List.take_length]at this
   exact this⟩⟩) (λk x m g p o=>by
  simp only;have s:=(a8.1 g).1;obtain⟨r,G,j⟩:=jT x.2 zf rfl;rw[UY,Tq hi,rl s,TB,show Tk (k:Int) 9=zt from fH p,TB,UY,Tq hi,UY,Tq g,G,TW,TX,Uh (by omega)];rcases j with⟨j,u⟩|⟨j,u⟩
  ·rw[zx (by omega),u];refine .inl ⟨_,rfl,λd=> ?_⟩;have z:=o d
   have A:Uj (rs.take (k+1))=Uj (rs.take k)+x.2.length:=by
    rw[gM,g,VY];simp[Uj]
   have K:=d.2.2 x (bo g);have M:=eh (k:=k) d.2.2 (by omega);have N:=d.1;have O:=d.2.1;show So .i64 m (x.2.length:Int)=_;rw[TE (by omega),z,A];omega
  ·rw[zy j,u];exact .inr ⟨_,rfl,.inr ⟨rfl,rfl⟩⟩)
theorem my(s:UX)(o:∀ rs∈s.1.2,∀ r∈rs,r.2.length<=9223372036854775807):∃ b,Yd s=zo b/\(b=zf->Sm s/\(VLev s.1->Uj s.1.2.flatten<=40)):=by
 unfold Yd;simp only[Uf,Uc]
 obtain⟨r,Z,u⟩:=aD (l:=s.1.2) (σ:=Int) (s:=((0:Int),(zf,(0:Int)))) 20 (by omega) (λk n=>(n,(zf,(k:Int)))) (λk n=>(∀ i rs,i<k->s.1.2[i]?=zo rs->rs.length<=8)/\(VLev s.1->n=(Uj (s.1.2.take k).flatten:Int))) (λ(r:Nat×((Int×(Bool×Int))×Unit))=>(r.1=0/\r.2.1.2.1=zf/\(∀ i rs,i<20->s.1.2[i]?=zo rs->rs.length<=8)/\(VLev s.1->s.1.2.length<=15->r.2.1.1=(Uj s.1.2.flatten:Int)))\/(r.1=1/\r.2.1.2.1=zt))
  (f:=λs0=>br (Tk s0.2.2 (s.1.2.length:Int)) (λ_=>br (Tk s0.2.2 20) (λ_=>bd (loop (λs1=>SW s0.2.2 λk2=>ix s.1.2 k2 λx3=>br (Tk s1.2.1 (x3.length:Int)) (λ_=>br (Tk s1.2.1 9) (λ_=>SW s0.2.2 λk4=>ix s.1.2 k4 λx5=>SW s1.2.1 λk6=>ix x5 k6 λL=>bd (loop (λq=>br (Tk q.1 (L.2.length:Int)) (λ_=>br (Tk q.1 50) (λ_=>SW q.1 λk9=>ix L.2 k9 λx10=>br (Ti (NA x10.1:Int) 100) (λ_=>zo (.dn (((0:Nat),((q.1,zt),()))))) λ_=>SW q.1 λW=>ix L.2 W λx12=>br (Ti (NA x12.2.1:Int) 100) (λ_=>zo (.dn ((0,((q.1,zt),()))))) λ_=>zo (.nx (So .i64 q.1 1,q.2))) λ_=>zo (.dn ((1,(q,()))))) λ_=>zo (.dn ((1,(q,()))))) ((0:Int),s1.2.2)) λF=>br (neq F.1 0) (λ_=>zo (.dn (((1:Nat),((So .i64 s1.1 (L.2.length:Int),(s1.2.1,F.2.1.2)),()))))) λ_=>zo (.nx ((So .i64 s1.1 (L.2.length:Int),(So .i64 s1.2.1 1,F.2.1.2))))) λ_=>zo (.dn ((0,(s1,()))))) λ_=>zo (.dn ((0,(s1,()))))) ((s0.1,((0:Int),s0.2.1)))) λp=>br (neq p.1 0) (λ_=>SW s0.2.2 λX=>ix s.1.2 X λx16=>br (Ti (x16.length:Int) 8) (λ_=>zo (.dn (((1:Nat),((p.2.1.1,(zt,s0.2.2)),()))))) λ_=>zo (.nx ((p.2.1.1,(p.2.1.2.2,So .i64 s0.2.2 1))))) λ_=>zo (.dn ((1,((p.2.1.1,(p.2.1.2.2,s0.2.2)),()))))) λ_=>zo (.dn ((0,(s0,()))))) λ_=>zo (.dn ((0,(s0,())))))
  0 rfl ⟨λi rs h=>by omega,λ_=>by simp[Uj]⟩ (λk n h t I=>⟨_,(mv (c:=20) h t _ _ _ rfl),.inl ⟨rfl,rfl,λi rs hi o=>I.1 i rs (by have:=(a8.1 o).1;omega) o,λB h15=>by
   have:=I.2 B;rw[List.take_of_length_le (by omega)]at this
   exact this⟩⟩) (λk rs n o t I=>by
   simp only;have z:=(a8.1 o).1;obtain⟨r,Z,u⟩:=ka o n zf rfl;rw[rl z,TB,show Tk (k:Int) 20=zt from fH t,TB,Z,TW,TX,UY,Tq o,UF,Uh (by omega)];rcases u with⟨u,E,q4⟩|⟨u,E⟩
   ·rw[zy u];by_cases P:(rs.length:Int)>8
    ·rw[zy P];exact .inr ⟨_,rfl,.inr ⟨rfl,rfl⟩⟩
    ·rw[zx P,E];refine .inl ⟨_,rfl,λi rs' hi C=> ?_,λB=> ?_⟩
     ·by_cases h:i=k
      ·subst h;rw[o]at C;cases C;omega
      ·exact I.1 i rs' (by omega) C
     ·have w:=I.2 B
      have A:∀ l:List (List Uy),(∀ rs∈l,rs∈s.1.2) -> ∀ r∈l.flatten,r.2.length<=5000:=λl hl r S=>by
       obtain⟨rs1,h3,h4⟩:=List.mem_flatten.1 S;obtain⟨i,hi⟩:=eo (hl rs1 h3);have N:r∈Ud s.1.2 i:=by unfold Ud;rw[hi];exact h4
       exact((B.own i).2 r N).vl.len
      have M:Uj (s.1.2.take (k+1)).flatten=Uj (s.1.2.take k).flatten+Uj rs:=by
       rw[gM,o,List.flatten_append,VY];simp
      have h3:=eh (k:=20) (rs:=(s.1.2.take k).flatten) (A _ λrs h=>nP h)
      have h4:(s.1.2.take k).flatten.length<=1000:=by
       have N:∀ l:List (List Uy),(∀ rs∈l,rs.length<=2)->l.flatten.length<=2*l.length:=by
        intro l
        induction l with
        |nil=>intro _;simp
        |cons x l ih=>
         intro h;have h6:=h x (by simp);have h7:=ih λy C=>h y (by simp[C]);simp only[List.flatten_cons,List.length_append,ci];omega
       have:=N (s.1.2.take k) λrs h=>B.two rs (nP h);have P:(s.1.2.take k).length<=20:=by simp;omega
       omega
      have N:=dv (A (s.1.2.take k) λrs h=>nP h);have h6:Bnd n rs:=⟨by omega,by omega,λr S=>A [rs] (λx U=>by rw[List.mem_singleton.1 U];exact bo o) r (by simpa using S)⟩;show r.2.1.1=_;rw[q4 (by omega) h6,w,M];omega
   ·rw[zx (by omega),E];exact .inr ⟨_,rfl,.inr ⟨rfl,rfl⟩⟩)
 refine(λh=>h) ?_;have fin:∀ {K:(Nat×((Int×(Bool×Int))×Unit))->Option Bool},(∃ b,K r=zo b/\(b=zf->Sm s/\(VLev s.1->Uj s.1.2.flatten<=40))) -> ∀ {m:Option (Nat×((Int×(Bool×Int))×Unit))},m=zo r -> ∃ b,bd m K=zo b/\(b=zf->Sm s/\(VLev s.1->Uj s.1.2.flatten<=40)):=λh _ e=>by subst e;exact h
 refine fin ?_ Z;rw[TX];rcases u with⟨u,E,q4,q5⟩|⟨u,E⟩
 rotate_left
 ·rw[zx (by omega),E];exact⟨_,rfl,λh=>by cases h⟩
 rw[zy u,E]
 obtain⟨r2,p1,O⟩:=aD (l:=s.2.1) (σ:=Unit) (s:=(zf,(0:Int))) 20 (by omega) (λk _=>(zf,(k:Int))) (λ_ _=>True) (λ(r:Nat×((Bool×Int)×Unit))=>r.1=1\/(r.1=0/\r.2.1.1=zt))
  (f:=λa=>br (Tk a.2 (s.2.1.length:Int)) (λ_=>br (Tk a.2 20) (λ_=>SW a.2 λY=>ix s.2.1 Y λg=>br (Ti (g.2.1.1.length:Int) 20) (λ_=>zo (.dn ((0,((zt,a.2),()))))) λ_=>br (Ti (g.2.1.2.1.length:Int) 100) (λ_=>zo (.dn ((0,((zt,a.2),()))))) λ_=>br (Ti (g.2.1.2.2.1.length:Int) 100) (λ_=>zo (.dn ((0,((zt,a.2),()))))) λ_=>br (Ti (g.2.1.2.2.2.1.length:Int) 100) (λ_=>zo (.dn ((0,((zt,a.2),()))))) λ_=>bd (loop (λd=>br (Tk d.1 (g.2.1.1.length:Int)) (λ_=>SW d.1 λD=>ix g.2.1.1 D λG=>zo (.nx ((So .i64 d.1 1,So .i64 d.2 (G.length:Int))))) λ_=>zo (.dn (((0:Nat),(d,()))))) (((0:Int),(g.2.2.2.1.length:Int)))) λr24=>br (Ti r24.2.1.2 200) (λ_=>zo (.dn ((0,((zt,a.2),()))))) λ_=>zo (.nx (a.1,So .i64 a.2 1))) λ_=>zo (.dn ((1,(a,()))))) λ_=>zo (.dn ((1,(a,())))))
  () rfl trivial (λk _ h t _=>⟨_,(mv (c:=20) h t _ _ _ rfl),.inl rfl⟩) (λk j _ o t _=>by
   simp only;have z:=(a8.1 o).1;rw[rl z,TB,show Tk (k:Int) 20=zt from fH t,TB,UY,Tq o,UF];by_cases w:(j.2.1.1.length:Int)>20
   ·rw[zy w];exact .inr ⟨_,rfl,.inr ⟨rfl,rfl⟩⟩
   rw[zx w]
   obtain⟨r3,t1,_⟩:=Xj (l:=j.2.1.1) (σ:=Int) (s:=((0:Int),(j.2.2.2.1.length:Int))) (λk n=>((k:Int),n)) (λ_ _ _=>True) (λ(_:Nat×((Int×Int)×Unit))=>True)
    (f:=λd=>br (Tk d.1 (j.2.1.1.length:Int)) (λ_=>SW d.1 λD=>ix j.2.1.1 D λG=>zo (.nx ((So .i64 d.1 1,So .i64 d.2 (G.length:Int))))) λ_=>zo (.dn (((0:Nat),(d,())))))
    (j.2.2.2.1.length:Int) rfl (by omega) trivial (λn _=>⟨_,by rw[re];rfl,trivial⟩) (λk y m n hd C t _=>.inl ⟨So .i64 n (y.length:Int),by rw[rl t,TB,UY,Tq C,Uh (by omega)],trivial⟩)
   rw[t1,TW,UF,UF,UF,UF,Uh (by omega)]
   repeat' split
   all_goals first|exact .inr ⟨_,rfl,.inr ⟨rfl,rfl⟩⟩|exact .inl ⟨(),rfl,trivial⟩)
 rw[p1,TW,TX];rcases O with O|⟨O,p3⟩
 rotate_left
 ·rw[zy O,p3];exact⟨_,rfl,λh=>by cases h⟩
 rw[zx (by omega),UF,UF];by_cases w:r.2.1.1>40
 ·rw[zy w];exact⟨_,rfl,λh=>by cases h⟩
 rw[zx w];by_cases M:(s.1.2.length:Int)>15
 ·rw[zy M];exact⟨_,rfl,λh=>by cases h⟩
 rw[zx M];refine⟨_,rfl,λh=>⟨⟨by omega,λrs J=>⟨?_,o rs J⟩,?_⟩,λB=>by have:=q5 B (by omega);omega⟩⟩
 ·obtain⟨i,hi⟩:=eo J;have:=q4 i rs (by have:=(a8.1 hi).1;omega) hi;omega
 ·unfold Ti at h;simp at h;omega
end
section
open Go Sv
set_option maxRecDepth 1000000
end
section
open Go Sv
end
section
open Go Sv
end
section
open Go Sv
set_option maxRecDepth 100000
end
section
open Go Sv
end
section
open Go Sv
set_option maxRecDepth 100000
def lst(a:jU):List Int:=[a.1,a.2.1,a.2.2.1,a.2.2.2.1,a.2.2.2.2.1,a.2.2.2.2.2.1,a.2.2.2.2.2.2.1,a.2.2.2.2.2.2.2.1,a.2.2.2.2.2.2.2.2.1,a.2.2.2.2.2.2.2.2.2.1,a.2.2.2.2.2.2.2.2.2.2.1,a.2.2.2.2.2.2.2.2.2.2.2]
end
section
open Go Sv
set_option maxRecDepth 100000
end
section
open Go Sv
@[reducible] def tE:Ty:=.pair .str (.pair .str (.pair .bool (.int .i64)))
@[reducible] def tJb:Ty:=.pair (.pair (.int .i64) (.sl zt (.sl zt (.pair (.int .i64) (.sl zt tE))))) (.pair (.sl zt (.pair (.int .i64) (.pair (.pair (.sl zf (.sl zt tE)) (.pair (.sl zf (.int .i64)) (.pair (.sl zt (.pair .str .bool)) (.pair (.sl zf (.int .i64)) (.int .i64))))) (.pair (.pair .bool (.pair .str .bool)) (.pair (.sl zt tE) (.int .i64)))))) (.int .i64))
theorem zG{s:UX}(h:Ri tJb s):∀ rs∈s.1.2,∀ r∈rs,r.2.length<=9223372036854775807:=by
 obtain⟨⟨_,d,c⟩,_⟩:=h;exact λrs b r a=>((c rs b).2 r a).2.1
end
section
open Go Sv
set_option maxRecDepth 100000
end
section
open Go Sv
end
section
open Go Sv
theorem jz{f:Nat->Nat}{n:Nat}:∀ {m:Nat},n<m->f n<=Vm f m
 |m+1,h=>by
  show f n<=Vm f m+f m;by_cases e:n=m
  ·rw[e];omega
  ·have:=jz (f:=f) (n:=n) (m:=m) (by omega);omega
theorem nQ{s:UX}{N:Nat}(v:VSt s)(q:Uj s.1.2.flatten<=N)(h:Yf N s=0):s.2.1=[]:=by
 have hd:Ug 0 s.1.2=[]:=by
  cases e:Ug 0 s.1.2 with
  |nil=>rfl
  |cons d l=>
   have p:d∈Ug 0 s.1.2:=by rw[e];simp
   obtain⟨j,n,c,g,o,k,r⟩:=v.atDue p;have b:n<12:=by have:=v.lev.len;omega
   obtain⟨u,w,i,t,_⟩:=k.rd;have hc:=jc i
   have a:eI N s n<=Yf N s:=by
    unfold Yf;exact jz (f:=eI N s) b
   have m:VQ s.2.1 (n:Int)=zo j:=by rw[<- g,<- gH v,c]
   unfold eI nV at a;rw[m,i]at a;simp only[ci,List.length_nil]at a;omega
 have:=v.due;rw[hd]at this;exact List.map_eq_nil_iff.1 this
theorem te{s:UX}(v:VSt s)(h:s.2.1=[]):WE s=4:=by
 have a:(Ua s).2=0:=Ue.2 v;have hd:Ug 0 s.1.2=[]:=by rw[<- v.due,h];rfl
 have e:Vq s=(0,4):=by
  unfold Vq;rw[zx (by simp[a]),zy hd]
 unfold WE;rw[e,zy (by decide)]
theorem fo{s:UX}(v:VSt s)(h:s.2.1=[]):∀ n,VA n s=(s,([],0))
 |0=>rfl
 |n+1=>by unfold VA;rw[zy (te v h)]
theorem de{s0 s:UX}{N R:Nat}(g:Gd s0 s)(a:Uj s.1.2.flatten<=N)(f:Yf N s<=R)(h:(VA R s).2.2=0):(VA R s).1.2.1=[]:=by
 obtain⟨i,j,c,d,e⟩:=ZC (n:=R) g a;by_cases b:(VA R s).2.1.length<R
 ·exact e h b
 ·exact nQ c.1 d (by omega)
theorem kZ{s0 s:UX}{N R:Nat}(g:Gd s0 s)(a:Uj s.1.2.flatten<=N)(c:Yf N s<=R)(k:Nat):VA (R+k) s=VA R s:=by
 rw[fm];by_cases h:(VA R s).2.2=0
 ·have hd:=de g a c h;have b:=(ZC (n:=R) g a).2.2.1;rw[zx (by simp[h]),fo b.1 hd];simp only[List.append_nil];rw[<- h]
 ·rw[zy h]
end
section
open Go Sv
theorem dk(f:Nat->Nat):∀ m,Vm f (m+1)=f 0+Vm (λi=>f (i+1)) m
 |0=>by simp[Vm]
 |m+1=>by
  show Vm f (m+1)+f (m+1)=f 0+(Vm (λi=>f (i+1)) m+f (m+1));rw[dk f m];omega
theorem f9{f:Nat->Nat}:∀ {m:Nat},(∀ i,i<m->f i=0)->Vm f m=0
 |0,_=>rfl
 |m+1,h=>by
  show Vm f m+f m=0;rw[f9 λi hi=>h i (by omega),h m (by omega)]
theorem g9{f g:Nat->Nat}:∀ {m:Nat},(∀ i,i<m->g i=f i)->Vm g m=Vm f m
 |0,_=>rfl
 |m+1,h=>by
  show Vm g m+g m=Vm f m+f m;rw[g9 λi hi=>h i (by omega),h m (by omega)]
theorem jd(f:Int->Nat):∀ (ls:List (List Uy)) (i m:Nat),ls.length<=m->((Ug i ls).map f).sum=Vm (λn=>if(Ud ls n).length=2 then f ((i+n:Nat):Int)else 0) m
 |[],i,m,_=>(f9 λn _=>by simp[Ud]).symm
 |rs::ls,i,0,h=>by simp at h
 |rs::ls,i,m+1,h=>by
  rw[Yz,List.map_append,List.sum_append,jd f ls (i+1) m (by simpa using h),dk];refine congr (congrArg HAdd.hAdd ?_) (g9 λn _=> ?_)
  ·show _=if rs.length=2 then _ else 0
   by_cases a:rs.length=2
   ·rw[zy a,zy a];simp
   ·rw[zx a,zx a];rfl
  ·rw[show i+1+n=i+(n+1) by omega];rfl
def dA(s:UX)(i:Nat):Nat:=match VQ s.2.1 (i:Int)with
 |some j=>Uj (Ud s.1.2 i)-sv j+1
 |none=>0
theorem wm{s:UX}(v:VSt s)(i:Nat):dA s i=if(Ud s.1.2 i).length=2 then bp s (i:Int)else 0:=by
 unfold dA bp;rw[gH v];by_cases h:(Ud s.1.2 i).length=2
 ·rw[zy h];obtain⟨j,a⟩:=v.hasJob h;rw[a];obtain⟨d,e,c,_,b,_⟩:=(v.jobAt a).rd;show Uj (Ud s.1.2 i)-sv j+1=Uo s.1 j+1;rw[b,c,Vz,Vz];simp only[Uj,List.map_nil,List.sum_nil];omega
 ·rw[zx h,v.noJob h]
theorem ej{s:UX}(v:VSt s):ay s=Vm (dA s) 12:=by
 unfold ay;rw[jd _ _ 0 12 v.lev.len];refine g9 λi _=> ?_;rw[wm v,Nat.zero_add]
end
section
open Go Sv
end
section
open Go Sv
def Wl(x:qF):Option qF:=
 zo x
def Zp(x:(Uy×Uy)):Option Bool:=
 br (O3 x.1.1 x.2.1) (λ_=>bd (We (x.1.2,x.2.2)) λa=>zo a) λ_=>zo zf
def Wn(x:(qF×qF)):Option Bool:=
 bd (Zp (x.1.1,x.2.1)) λa=>br a (λ_=>bd (XM (x.1.2,x.2.2)) λb=>zo b) λ_=>zo zf
def Yu(x:qF):Option Bool:=
 br (SR 0 (Kx (AR x.2.1.2))) (λ_=>zo zf) λ_=>ix x.2.1.2 0 λa=>zo (O3 (Kx (AR a)) 2)
def Yt(x:qF):Option (qF×Int):=
 bd (XZ x) λb=>br (SS b 0) (λ_=>zo ((((0,[]),((0,[]),([],0))),b))) λ_=>br (O3 (Kx (AR x.1.2)) 0) (λ_=>zo (x,0)) λ_=>bd (Yu x) λc=>br c (λ_=>zo ((((0,[]),((0,[]),([],0))),10))) λ_=>bd (X5 (x.2,x.1.2)) λa=>br (SS a.2 0) (λ_=>zo ((((0,[]),((0,[]),([],0))),a.2))) λ_=>zo ((((x.1.1,[]),a.1),0))
def Wq(x:qF):Option (qF×Int):=
 bd (WF x.1) λc=>br (SS c.2 0) (λ_=>zo ((((0,[]),((0,[]),([],0))),c.2))) λ_=>bd (VV x.2) λd=>br (SS d.2 0) (λ_=>zo ((((0,[]),((0,[]),([],0))),d.2))) λ_=>br (SS x.1.1 x.2.1.1) (λ_=>zo ((((0,[]),((0,[]),([],0))),6))) λ_=>br (O3 (Kx (AR x.1.2)) 0) (λ_=>bd (Wl x) λe=>zo (e,0)) λ_=>bd (WB (x.2.1,0)) λa=>br (SS a.2 0) (λ_=>zo ((((0,[]),((0,[]),([],0))),a.2))) λ_=>br (Hl a.1) (λ_=>zo ((((0,[]),((0,[]),([],0))),10))) λ_=>bd (XI (x.2,x.1.2)) λb=>br (SS b.2 0) (λ_=>zo ((((0,[]),((0,[]),([],0))),b.2))) λ_=>bd (Wl (((x.1.1,[]),b.1))) λf=>zo (f,0)
end
section
open Go Sv
end
section
open Go Sv
end
section
open Go Sv
def Y6(x:qS):Option (Int×(Int×Int)):=
 bd (VV x) λa=>br (SS a.2 0) (λ_=>zo ((0,(0,a.2)))) λ_=>bd (Y8 x.1) λb=>zo b
def Z5(x:qS):Option (Int×Int):=
 bd (Y6 x) λa=>br (SS a.2.2 0) (λ_=>zo (0,a.2.2)) λ_=>zo ((Sp .i64 a.2.1 (So .i64 a.1 1),0))
def Y7(x:(qS×Int)):Option (qS×(Int×Int)):=
 br (O3 x.2 0) (λ_=>zo ((x.1,(0,0)))) λ_=>bd (loop (λ(s0:(qL×((Int×Int)×(Int×(qL×Int)))))=>bd (Vw (((s0.1.1,s0.1.2.1),s0.1.2.2))) λc=>br (O3 c.2 4) (λ_=>zo (.dn ((0,((s0.1,((1,0),s0.2.2)),()))))) λ_=>br (O3 c.2 0) (λ_=>bd (Vh ((((s0.1.1,s0.1.2.1),s0.1.2.2),c.1))) λb=>br (SS b.2.2 0) (λ_=>zo (.dn ((0,(((0,([],([],0))),((2,b.2.2),s0.2.2)),()))))) λ_=>br (O3 (Ss .i64 s0.2.2.2.2 1) 0) (λ_=>zo (.dn ((1,(((b.1.1.1,(b.1.1.2,b.1.2)),((0,0),(So .i64 s0.2.2.1 1,((b.1.1.1,(b.1.1.2,b.1.2)),Ss .i64 s0.2.2.2.2 1)))),()))))) λ_=>zo (.nx (((b.1.1.1,(b.1.1.2,b.1.2)),((0,0),(So .i64 s0.2.2.1 1,((b.1.1.1,(b.1.1.2,b.1.2)),Ss .i64 s0.2.2.2.2 1))))))) λ_=>br (SS c.2 0) (λ_=>zo (.dn ((0,(((0,([],([],0))),((2,c.2),s0.2.2)),()))))) λ_=>br (O3 (Ss .i64 s0.2.2.2.2 1) 0) (λ_=>zo (.dn ((1,((s0.1,((0,0),(So .i64 s0.2.2.1 1,(s0.1,Ss .i64 s0.2.2.2.2 1)))),()))))) λ_=>zo (.nx ((s0.1,((0,0),(So .i64 s0.2.2.1 1,(s0.1,Ss .i64 s0.2.2.2.2 1))))))) (((x.1.1.1,(x.1.1.2,x.1.2)),((0,0),(0,((x.1.1.1,(x.1.1.2,x.1.2)),x.2)))))) λa=>br (neq a.1 0) (λ_=>br (O3 a.2.1.2.1.1 0) (λ_=>zo ((((a.2.1.2.2.2.1.1,a.2.1.2.2.2.1.2.1),a.2.1.2.2.2.1.2.2),(a.2.1.2.2.1,0)))) λ_=>br (O3 a.2.1.2.1.1 1) (λ_=>zo ((((a.2.1.2.2.2.1.1,a.2.1.2.2.2.1.2.1),a.2.1.2.2.2.1.2.2),(a.2.1.2.2.1,0)))) λ_=>zo ((((0,[]),([],0)),(0,a.2.1.2.1.2)))) λ_=>br (O3 a.2.1.2.1.1 0) (λ_=>zo ((((a.2.1.2.2.2.1.1,a.2.1.2.2.2.1.2.1),a.2.1.2.2.2.1.2.2),(a.2.1.2.2.1,0)))) λ_=>br (O3 a.2.1.2.1.1 1) (λ_=>zo ((((a.2.1.2.2.2.1.1,a.2.1.2.2.2.1.2.1),a.2.1.2.2.2.1.2.2),(a.2.1.2.2.1,0)))) λ_=>zo ((((0,[]),([],0)),(0,a.2.1.2.1.2)))
def Vs(x:qS):Option (qS×(Int×Int)):=
 bd (VV x) λa=>br (SS a.2 0) (λ_=>zo ((((0,[]),([],0)),(0,a.2)))) λ_=>bd (Y7 ((x,(-1)))) λb=>zo b
def Xg(x:qS):Option (Int×Int):=
 bd (VZ x) λa=>br (SS a.2 0) (λ_=>zo (0,a.2)) λ_=>bd (YX x.1) λb=>zo ((Sp .i64 b.2.1 (So .i64 b.1 1),0))
def ZN(x:(qS×Int)):Option (qS×(Int×Int)):=
 bd (VZ x.1) λd=>br (O3 d.2 0) (λ_=>br (Tk x.2 0) (λ_=>zo ((((0,[]),([],0)),(0,7)))) λ_=>br (Ti x.2 1000000) (λ_=>zo ((((0,[]),([],0)),(0,7)))) λ_=>br (SS d.2 0) (λ_=>zo ((((0,[]),([],0)),(0,d.2)))) λ_=>bd (loop (λ(s1:(Int×(Int×(Int×(qL×qL)))))=>br (Tk s1.2.1 x.2) (λ_=>bd (Vu (((s1.2.2.2.2.1,s1.2.2.2.2.2.1),s1.2.2.2.2.2.2))) λg=>br (O3 g.2 4) (λ_=>zo (.dn ((1,((s1.2.1,(s1.2.1,(0,(s1.2.2.2.2,s1.2.2.2.2)))),()))))) λ_=>br (SS g.2 0) (λ_=>zo (.dn ((1,((0,(s1.2.1,(g.2,((0,([],([],0))),s1.2.2.2.2)))),()))))) λ_=>bd (WA ((((s1.2.2.2.2.1,s1.2.2.2.2.2.1),s1.2.2.2.2.2.2),g.1))) λe=>br (SS e.2.2 0) (λ_=>zo (.dn ((1,((0,(s1.2.1,(e.2.2,((0,([],([],0))),s1.2.2.2.2)))),()))))) λ_=>zo (.nx ((s1.1,(So .i64 s1.2.1 1,(s1.2.2.1,(s1.2.2.2.1,(e.1.1.1,(e.1.1.2,e.1.2))))))))) λ_=>zo (.dn ((0,(s1,()))))) ((0,(0,(0,((0,([],([],0))),(x.1.1.1,(x.1.1.2,x.1.2)))))))) λb=>br (neq b.1 0) (λ_=>zo ((((b.2.1.2.2.2.2.1,b.2.1.2.2.2.2.2.1),b.2.1.2.2.2.2.2.2),(x.2,0)))) λ_=>zo ((((b.2.1.2.2.2.1.1,b.2.1.2.2.2.1.2.1),b.2.1.2.2.2.1.2.2),(b.2.1.1,b.2.1.2.2.1)))) λ_=>br (SS d.2 0) (λ_=>zo ((((0,[]),([],0)),(0,d.2)))) λ_=>bd (loop (λ(a:(Int×(Int×(Int×(qL×qL)))))=>br (Tk a.2.1 x.2) (λ_=>bd (Vu (((a.2.2.2.2.1,a.2.2.2.2.2.1),a.2.2.2.2.2.2))) λh=>br (O3 h.2 4) (λ_=>zo (.dn ((1,((a.2.1,(a.2.1,(0,(a.2.2.2.2,a.2.2.2.2)))),()))))) λ_=>br (SS h.2 0) (λ_=>zo (.dn ((1,((0,(a.2.1,(h.2,((0,([],([],0))),a.2.2.2.2)))),()))))) λ_=>bd (WA ((((a.2.2.2.2.1,a.2.2.2.2.2.1),a.2.2.2.2.2.2),h.1))) λf=>br (SS f.2.2 0) (λ_=>zo (.dn ((1,((0,(a.2.1,(f.2.2,((0,([],([],0))),a.2.2.2.2)))),()))))) λ_=>zo (.nx ((a.1,(So .i64 a.2.1 1,(a.2.2.1,(a.2.2.2.1,(f.1.1.1,(f.1.1.2,f.1.2))))))))) λ_=>zo (.dn ((0,(a,()))))) ((0,(0,(0,((0,([],([],0))),(x.1.1.1,(x.1.1.2,x.1.2)))))))) λc=>br (neq c.1 0) (λ_=>zo ((((c.2.1.2.2.2.2.1,c.2.1.2.2.2.2.2.1),c.2.1.2.2.2.2.2.2),(x.2,0)))) λ_=>zo ((((c.2.1.2.2.2.1.1,c.2.1.2.2.2.1.2.1),c.2.1.2.2.2.1.2.2),(c.2.1.1,c.2.1.2.2.1)))
def X7(x:qS):Option (qS×(Int×Int)):=
 bd (Xg x) λa=>br (SS a.2 0) (λ_=>zo ((((0,[]),([],0)),(0,a.2)))) λ_=>bd (ZN (x,a.1)) λb=>zo b
def YA(x:qF):Option (qF×(Int×Int)):=
 bd (Wc x) λb=>br (SS b 0) (λ_=>zo ((((0,[]),((0,[]),([],0))),(0,b)))) λ_=>bd (Vs x.2) λa=>br (O3 a.2.2 0) (λ_=>br (O3 a.2.2 0) (λ_=>br (SS a.2.2 0) (λ_=>zo ((((0,[]),((0,[]),([],0))),(0,a.2.2)))) λ_=>zo (((x.1,a.1),(So .i64 0 a.2.1,0)))) λ_=>br (SS a.2.2 0) (λ_=>zo ((((0,[]),((0,[]),([],0))),(0,a.2.2)))) λ_=>zo (((x.1,a.1),(So .i64 0 a.2.1,0)))) λ_=>br (O3 a.2.2 0) (λ_=>br (SS a.2.2 0) (λ_=>zo ((((0,[]),((0,[]),([],0))),(0,a.2.2)))) λ_=>zo ((x,(0,0)))) λ_=>br (SS a.2.2 0) (λ_=>zo ((((0,[]),((0,[]),([],0))),(0,a.2.2)))) λ_=>zo ((x,(0,0)))
def Z7(x:qF):Option Bool:=
 bd (loop (λs0=>br (Tk s0.1 (Kx (AR x.1.2))) (λ_=>br (Tk s0.1 25) (λ_=>SW s0.1 λb=>ix x.1.2 b λe=>br (Ti (Kx (NA e.1)) 100) (λ_=>zo (.dn ((0,((s0.1,zt),()))))) λ_=>SW s0.1 λc=>ix x.1.2 c λf=>br (Ti (Kx (NA f.2.1)) 100) (λ_=>zo (.dn ((0,((s0.1,zt),()))))) λ_=>zo (.nx (So .i64 s0.1 1,s0.2))) λ_=>zo (.dn ((1,(s0,()))))) λ_=>zo (.dn ((1,(s0,()))))) (0,zf)) λa=>br (neq a.1 0) (λ_=>zo a.2.1.2) λ_=>bd (Yd x.2) λd=>br d (λ_=>zo zt) λ_=>zo (Ti (Kx (AR x.1.2)) 20)
def YP(_:Unit):Option Bool:=zo zt
def Wt(x:qF):Option (qF×(Int×Int)):=
 bd (X7 x.2) λa=>br (SS a.2.2 0) (λ_=>zo ((((0,[]),((0,[]),([],0))),(0,a.2.2)))) λ_=>zo (((x.1,a.1),(a.2.1,0)))
def Xa(x:qF):Option (qF×(Int×Int)):=
 bd (XZ x) λa=>br (SS a 0) (λ_=>zo ((((0,[]),((0,[]),([],0))),(0,a)))) λ_=>bd (Wt x) λb=>zo b
def YB(x:qF):Option (qF×(Int×Int)):=
 bd (Wc x) λh=>br (SS h 0) (λ_=>zo ((((0,[]),((0,[]),([],0))),(0,h)))) λ_=>bd (Vs x.2) λa=>br (O3 a.2.2 0) (λ_=>br (O3 a.2.2 0) (λ_=>bd (Wq (x.1,a.1)) λf=>br (O3 f.2 0) (λ_=>br (O3 f.2 0) (λ_=>bd (Vs f.1.2) λb=>br (O3 b.2.2 0) (λ_=>br (O3 b.2.2 0) (λ_=>br (SS b.2.2 0) (λ_=>zo ((((0,[]),((0,[]),([],0))),(0,b.2.2)))) λ_=>zo (((f.1.1,b.1),(So .i64 (So .i64 0 a.2.1) b.2.1,0)))) λ_=>br (SS b.2.2 0) (λ_=>zo ((((0,[]),((0,[]),([],0))),(0,b.2.2)))) λ_=>zo (((f.1.1,b.1),(So .i64 (So .i64 0 a.2.1) b.2.1,0)))) λ_=>br (O3 b.2.2 0) (λ_=>br (SS b.2.2 0) (λ_=>zo ((((0,[]),((0,[]),([],0))),(0,b.2.2)))) λ_=>zo ((f.1,(So .i64 0 a.2.1,0)))) λ_=>br (SS b.2.2 0) (λ_=>zo ((((0,[]),((0,[]),([],0))),(0,b.2.2)))) λ_=>zo ((f.1,(So .i64 0 a.2.1,0)))) λ_=>br (SS f.2 0) (λ_=>zo ((((0,[]),((0,[]),([],0))),(0,f.2)))) λ_=>zo ((f.1,(So .i64 0 a.2.1,0)))) λ_=>br (O3 f.2 0) (λ_=>bd (Vs a.1) λc=>br (O3 c.2.2 0) (λ_=>br (O3 c.2.2 0) (λ_=>br (SS c.2.2 0) (λ_=>zo ((((0,[]),((0,[]),([],0))),(0,c.2.2)))) λ_=>zo (((x.1,c.1),(So .i64 (So .i64 0 a.2.1) c.2.1,0)))) λ_=>br (SS c.2.2 0) (λ_=>zo ((((0,[]),((0,[]),([],0))),(0,c.2.2)))) λ_=>zo (((x.1,c.1),(So .i64 (So .i64 0 a.2.1) c.2.1,0)))) λ_=>br (O3 c.2.2 0) (λ_=>br (SS c.2.2 0) (λ_=>zo ((((0,[]),((0,[]),([],0))),(0,c.2.2)))) λ_=>zo (((x.1,a.1),(So .i64 0 a.2.1,0)))) λ_=>br (SS c.2.2 0) (λ_=>zo ((((0,[]),((0,[]),([],0))),(0,c.2.2)))) λ_=>zo (((x.1,a.1),(So .i64 0 a.2.1,0)))) λ_=>br (SS f.2 0) (λ_=>zo ((((0,[]),((0,[]),([],0))),(0,f.2)))) λ_=>zo (((x.1,a.1),(So .i64 0 a.2.1,0)))) λ_=>br (SS a.2.2 0) (λ_=>zo ((((0,[]),((0,[]),([],0))),(0,a.2.2)))) λ_=>zo (((x.1,a.1),(So .i64 0 a.2.1,0)))) λ_=>br (O3 a.2.2 0) (λ_=>bd (Wq x) λg=>br (O3 g.2 0) (λ_=>br (O3 g.2 0) (λ_=>bd (Vs g.1.2) λd=>br (O3 d.2.2 0) (λ_=>br (O3 d.2.2 0) (λ_=>br (SS d.2.2 0) (λ_=>zo ((((0,[]),((0,[]),([],0))),(0,d.2.2)))) λ_=>zo (((g.1.1,d.1),(So .i64 0 d.2.1,0)))) λ_=>br (SS d.2.2 0) (λ_=>zo ((((0,[]),((0,[]),([],0))),(0,d.2.2)))) λ_=>zo (((g.1.1,d.1),(So .i64 0 d.2.1,0)))) λ_=>br (O3 d.2.2 0) (λ_=>br (SS d.2.2 0) (λ_=>zo ((((0,[]),((0,[]),([],0))),(0,d.2.2)))) λ_=>zo ((g.1,(0,0)))) λ_=>br (SS d.2.2 0) (λ_=>zo ((((0,[]),((0,[]),([],0))),(0,d.2.2)))) λ_=>zo ((g.1,(0,0)))) λ_=>br (SS g.2 0) (λ_=>zo ((((0,[]),((0,[]),([],0))),(0,g.2)))) λ_=>zo ((g.1,(0,0)))) λ_=>br (O3 g.2 0) (λ_=>bd (Vs x.2) λe=>br (O3 e.2.2 0) (λ_=>br (O3 e.2.2 0) (λ_=>br (SS e.2.2 0) (λ_=>zo ((((0,[]),((0,[]),([],0))),(0,e.2.2)))) λ_=>zo (((x.1,e.1),(So .i64 0 e.2.1,0)))) λ_=>br (SS e.2.2 0) (λ_=>zo ((((0,[]),((0,[]),([],0))),(0,e.2.2)))) λ_=>zo (((x.1,e.1),(So .i64 0 e.2.1,0)))) λ_=>br (O3 e.2.2 0) (λ_=>br (SS e.2.2 0) (λ_=>zo ((((0,[]),((0,[]),([],0))),(0,e.2.2)))) λ_=>zo ((x,(0,0)))) λ_=>br (SS e.2.2 0) (λ_=>zo ((((0,[]),((0,[]),([],0))),(0,e.2.2)))) λ_=>zo ((x,(0,0)))) λ_=>br (SS g.2 0) (λ_=>zo ((((0,[]),((0,[]),([],0))),(0,g.2)))) λ_=>zo ((x,(0,0)))) λ_=>br (SS a.2.2 0) (λ_=>zo ((((0,[]),((0,[]),([],0))),(0,a.2.2)))) λ_=>zo ((x,(0,0)))
def X8(x:qF):Option (qF×(Int×Int)):=
 bd (Xa x) λa=>br (SS a.2.2 0) (λ_=>zo ((((0,[]),((0,[]),([],0))),(0,a.2.2)))) λ_=>bd (Yt a.1) λb=>br (SS b.2 0) (λ_=>zo ((((0,[]),((0,[]),([],0))),(0,b.2)))) λ_=>zo ((b.1,(a.2.1,0)))
def YY(x:qF):Option (qF×(Int×Int)):=
 bd (X8 x) λa=>br (SS a.2.2 0) (λ_=>zo ((((0,[]),((0,[]),([],0))),(0,a.2.2)))) λ_=>bd (Wt a.1) λb=>br (SS b.2.2 0) (λ_=>zo ((((0,[]),((0,[]),([],0))),(0,b.2.2)))) λ_=>zo ((b.1,(So .i64 a.2.1 b.2.1,0)))
def Vx(x:qF):Option Bool:=
 bd (Z7 x) λe=>br e (λ_=>bd (YP ()) λf=>zo f) λ_=>bd (YA x) λa=>bd (Xa x) λb=>bd (Wn (a.1,b.1)) λg=>br (Hl g) (λ_=>zo zf) λ_=>br (SS a.2.1 b.2.1) (λ_=>zo zf) λ_=>br (SS a.2.2 b.2.2) (λ_=>zo zf) λ_=>bd (YB x) λc=>bd (YY x) λd=>bd (Wn (c.1,d.1)) λh=>br h (λ_=>br (O3 c.2.1 d.2.1) (λ_=>br (O3 c.2.2 d.2.2) (λ_=>bd (YP ()) λi=>zo i) λ_=>zo zf) λ_=>zo zf) λ_=>zo zf
end
end Go.Proofs.YtfceigpbgndbgaaGreatDoor.Pl
