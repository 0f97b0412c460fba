/- Functions of the program and of the specification as plain functions, and laws about them. No condition. -/
import Derived.Test.YtfceigpbgndbgaaGreatDoorPl2
import Derived.KernelRfl
set_option linter.all false
open List renaming getElem?_eq_some_iff->a8, getElem?_of_mem->eg, length_cons->ci, mem_of_getElem?->bo, mem_of_mem_take->nb, take_add_one->gw
open Option renaming some->zo, none->zn
open Bool renaming true->zt, false->zf
namespace Go.Proofs.YtfceigpbgndbgaaGreatDoor.Pl
section
open Go Sv
theorem w6{s t:UX}{n:Nat}{j:Job}{b:Bool}(v:VSt s)(F:StepF s n j t b){i:Nat}(a:i≠n)(f:(Ud s.1.2 i).length=2):Ud t.1.2 i=Ud s.1.2 i/\VN t.2.1 (i:Int)=VN s.2.1 (i:Int):=by
 by_cases g:0<Un s.1 j
 ·obtain⟨_,e1,_,e2⟩:=F.read g;exact⟨by rw[e1],by rw[e2,zx a]⟩
 ·obtain⟨_,e1,_,e2,e3,e4⟩:=F.inst (by omega)
  have e:¬ (VU j≠[]/\i=ZT s j):=λ⟨c,hi⟩=>by
   rcases e3 with e3|⟨e3,_,e5⟩
   ·exact a (by rw[hi,e3])
   ·have:=e5 c;rw[<- e3,<- hi]at this;omega
  have c:Ud t.1.2 i=Ud s.1.2 i:=by rw[e2,zx e,zx a]
  refine⟨c,?_⟩;obtain⟨j',d⟩:=v.hasJob f;rw[e4,c,zy f,zx a,d];rfl
theorem w7{s0 s:UX}(g:Gd s0 s)(e:Vz s=0){i:Nat}(b:(Ud s.1.2 i).length=2)(f:cm s≠((i:Int),zt)):(Ud (ZC s).1.2 i).length=2:=by
 obtain⟨n,j,d,k,h,hc,F,_⟩:=Ww g e;by_cases a:i=n
 ·subst a;by_cases c:0<Un s.1 j
  ·rw[(F.read c).2.1];exact b
  ·exact absurd (Prod.ext d (F.inst (by omega)).1) f
 ·rw[(w6 g.1 F a b).1];exact b
def ei(a:Int):Nat->Nat->UX->Int×Int
 |0,_,_=>(0,0)
 |k+1,n,s=>if Vz s≠0 then(0,Vz s)else if cm s=(a,zt)then(((n+1:Nat):Int),0)else ei a k (n+1) (ZC s)
theorem bI{s:UX}(v:VSt s):ZD 2000 s<=48024:=by
 have b:=lT 2000 v;have a:=ae v.lev;have:=Nat.mul_le_mul_right 2001 a;omega
def NAt(s0:UX)(a:Int)(T:Int×Int)(k n:Nat)(s:UX):Prop:=Gd s0 s/\ZD 2000 s<k/\n+k<=60000/\T=ei a k n s /\ ∃ i:Nat,a=(i:Int)/\(Ud s.1.2 i).length=2
theorem NAt.fail{s0 s:UX}{d:Int}{T:Int×Int}{k n:Nat}(a:NAt s0 d T k n s)(e:Vz s≠0):T=(0,Vz s):=by
 obtain⟨_,f,_,c,_⟩:=a;obtain⟨b,rfl⟩:∃ b,k=b+1:=⟨k-1,by omega⟩;rw[c];simp[ei,e]
theorem NAt.hit{s0 s:UX}{c:Int}{T:Int×Int}{k n:Nat}(a:NAt s0 c T k n s)(e:Vz s=0)(h:cm s=(c,zt)):T=(((n+1:Nat):Int),0):=by
 obtain⟨_,f,_,d,_⟩:=a;obtain⟨b,rfl⟩:∃ b,k=b+1:=⟨k-1,by omega⟩;rw[d];simp[ei,e,h]
theorem NAt.next{s0 s:UX}{d:Int}{T:Int×Int}{k n:Nat}(a:NAt s0 d T k n s)(e:Vz s=0)(h:cm s≠(d,zt)):∃ b,k=b+1/\NAt s0 d T b (n+1) (ZC s)/\ZD 2000 (ZC s)<ZD 2000 s:=by
 obtain⟨c,m,o,j,i,f,l⟩:=a;obtain⟨b,rfl⟩:∃ b,k=b+1:=⟨k-1,by omega⟩;obtain⟨_,_,_,_,_,_,_,g⟩:=Ww c e;have p:=(bc c c.2.2 e).1;refine⟨b,rfl,⟨g,by omega,by omega,?_,i,f,w7 c e l (by rw[<- f];exact h)⟩,by omega⟩;rw[j];simp[ei,e,h]
end
section
open Go Sv
end
section
open Go Sv
theorem iY(l:List UZ)(b:Bool)(m:b=zf):∃ r,loop (β:=Nat×((Int×Bool)×Unit)) (λa=>br (Tk a.1 (l.length:Int)) (λ_=>br (Tk a.1 50) (λ_=>SW a.1 λn=>ix l n λi=>br (Ti (NA i.1:Int) 100) (λ_=>zo (.dn ((0,((a.1,zt),()))))) λ_=>SW a.1 λg=>ix l g λj=>br (Ti (NA j.2.1:Int) 100) (λ_=>zo (.dn ((0,((a.1,zt),()))))) λ_=>zo (.nx (So .i64 a.1 1,a.2))) λ_=>zo (.dn ((1,(a,()))))) λ_=>zo (.dn ((1,(a,()))))) ((0:Int),b)=zo r/\((r.1=1/\r.2.1.2=zf)\/(r.1=0/\r.2.1.2=zt)):=by
 subst m
 exact Zz (l:=l) (σ:=Unit) 50 (by omega) (λk _=>((k:Int),zf)) (λ_ _=>True) (λ(r:Nat×((Int×Bool)×Unit))=>(r.1=1/\r.2.1.2=zf)\/(r.1=0/\r.2.1.2=zt)) () rfl trivial (λk _ h d _=>⟨_,(kz (c:=50) h d _ _ _ rfl),.inl ⟨rfl,rfl⟩⟩) (λk x _ f d _=>by
  simp only;have e:=(a8.1 f).1;rw[rl e,TB,show Tk (k:Int) 50=zt from eY d,TB,UY,Tq f,UF,UY,Tq f,UF,Uh (by omega)]
  repeat' split
  all_goals first|exact .inr ⟨_,rfl,.inr ⟨rfl,rfl⟩⟩|exact .inl ⟨(),rfl,trivial⟩)
def zB(n:Int)(rs:List Uy):Prop:=0<=n/\n<=1000000000 /\ ∀ r∈rs,r.2.length<=5000
theorem eE{rs:List Uy}{k:Nat}(h:∀ r∈rs,r.2.length<=5000)(d:k<=20):Uj (rs.take k)<=100000:=by
 have b:=dS (l:=rs.take k) λr a=>h r (nb a);have c:(rs.take k).length<=k:=by rw[List.length_take];omega
 omega
theorem jc{L:List (List Uy)}{i:Nat}{rs:List Uy}(hi:L[i]?=zo rs)(n:Int)(b:Bool)(B:b=zf):∃ r,loop (β:=Nat×((Int×(Int×Bool))×Unit)) (λs1=>SW (i:Int) λC=>ix L C λI=>br (Tk s1.2.1 (I.length:Int)) (λ_=>br (Tk s1.2.1 9) (λ_=>SW (i:Int) λD=>ix L D λJ=>SW s1.2.1 λE=>ix J E λf=>bd (loop (λa=>br (Tk a.1 (f.2.length:Int)) (λ_=>br (Tk a.1 50) (λ_=>SW a.1 λF=>ix f.2 F λw=>br (Ti (NA w.1:Int) 100) (λ_=>zo (.dn (((0:Nat),((a.1,zt),()))))) λ_=>SW a.1 λt=>ix f.2 t λy=>br (Ti (NA y.2.1:Int) 100) (λ_=>zo (.dn ((0,((a.1,zt),()))))) λ_=>zo (.nx (So .i64 a.1 1,a.2))) λ_=>zo (.dn ((1,(a,()))))) λ_=>zo (.dn ((1,(a,()))))) ((0:Int),s1.2.2)) λe=>br (neq e.1 0) (λ_=>zo (.dn ((1,((So .i64 s1.1 (f.2.length:Int),(s1.2.1,e.2.1.2)),()))))) λ_=>zo (.nx ((So .i64 s1.1 (f.2.length:Int),(So .i64 s1.2.1 1,e.2.1.2))))) λ_=>zo (.dn ((0,(s1,()))))) λ_=>zo (.dn ((0,(s1,()))))) (n,((0:Int),b))=zo r/\((r.1=0/\r.2.1.2.2=zf/\(rs.length<=8->zB n rs->r.2.1.1=n+(Uj rs:Int)))\/(r.1=1/\r.2.1.2.2=zt)):=by
 subst B
 exact Zz (l:=rs) (σ:=Int) 9 (by omega) (λk m=>(m,((k:Int),zf))) (λk m=>zB n rs->m=n+(Uj (rs.take k):Int)) (λ(r:Nat×((Int×(Int×Bool))×Unit))=>(r.1=0/\r.2.1.2.2=zf/\(rs.length<=8->zB n rs->r.2.1.1=n+(Uj rs:Int)))\/(r.1=1/\r.2.1.2.2=zt)) n rfl (λ_=>by simp[Uj]) (λk m h p o=>⟨_,by
  rw[UY,Tq hi];exact(kz (c:=9) h p _ _ _ rfl),.inl ⟨rfl,rfl,λP d=>by
   have q:k=rs.length:=by omega
   subst q;have:=o d;rw[List.take_length]at this
   exact this⟩⟩) (λk x m g p o=>by
  simp only;have s:=(a8.1 g).1;obtain⟨r,G,j⟩:=iY x.2 zf rfl;rw[UY,Tq hi,rl s,TB,show Tk (k:Int) 9=zt from eY p,TB,UY,Tq hi,UY,Tq g,G,TW,TX,Uh (by omega)];rcases j with⟨j,u⟩|⟨j,u⟩
  ·rw[zx (by omega),u];refine .inl ⟨_,rfl,λd=> ?_⟩;have z:=o d
   have A:Uj (rs.take (k+1))=Uj (rs.take k)+x.2.length:=by
    rw[gw,g,VT];simp[Uj]
   have K:=d.2.2 x (bo g);have M:=eE (k:=k) d.2.2 (by omega);have N:=d.1;have O:=d.2.1;show So .i64 m (x.2.length:Int)=_;rw[TE (by omega),z,A];omega
  ·rw[zy j,u];exact .inr ⟨_,rfl,.inr ⟨rfl,rfl⟩⟩)
theorem lB(s:UX)(o:∀ rs∈s.1.2,∀ r∈rs,r.2.length<=9223372036854775807):∃ b,YU s=zo b/\(b=zf->Sm s/\(VLev s.1->Uj s.1.2.flatten<=40)):=by
 unfold YU;simp only[Ug,Uc]
 obtain⟨r,Z,u⟩:=Zz (l:=s.1.2) (σ:=Int) (s:=((0:Int),(zf,(0:Int)))) 20 (by omega) (λk n=>(n,(zf,(k:Int)))) (λk n=>(∀ i rs,i<k->s.1.2[i]?=zo rs->rs.length<=8)/\(VLev s.1->n=(Uj (s.1.2.take k).flatten:Int))) (λ(r:Nat×((Int×(Bool×Int))×Unit))=>(r.1=0/\r.2.1.2.1=zf/\(∀ i rs,i<20->s.1.2[i]?=zo rs->rs.length<=8)/\(VLev s.1->s.1.2.length<=15->r.2.1.1=(Uj s.1.2.flatten:Int)))\/(r.1=1/\r.2.1.2.1=zt))
  (f:=λs0=>br (Tk s0.2.2 (s.1.2.length:Int)) (λ_=>br (Tk s0.2.2 20) (λ_=>bd (loop (λs1=>SW s0.2.2 λk2=>ix s.1.2 k2 λx3=>br (Tk s1.2.1 (x3.length:Int)) (λ_=>br (Tk s1.2.1 9) (λ_=>SW s0.2.2 λk4=>ix s.1.2 k4 λx5=>SW s1.2.1 λk6=>ix x5 k6 λL=>bd (loop (λq=>br (Tk q.1 (L.2.length:Int)) (λ_=>br (Tk q.1 50) (λ_=>SW q.1 λk9=>ix L.2 k9 λx10=>br (Ti (NA x10.1:Int) 100) (λ_=>zo (.dn (((0:Nat),((q.1,zt),()))))) λ_=>SW q.1 λW=>ix L.2 W λx12=>br (Ti (NA x12.2.1:Int) 100) (λ_=>zo (.dn ((0,((q.1,zt),()))))) λ_=>zo (.nx (So .i64 q.1 1,q.2))) λ_=>zo (.dn ((1,(q,()))))) λ_=>zo (.dn ((1,(q,()))))) ((0:Int),s1.2.2)) λF=>br (neq F.1 0) (λ_=>zo (.dn (((1:Nat),((So .i64 s1.1 (L.2.length:Int),(s1.2.1,F.2.1.2)),()))))) λ_=>zo (.nx ((So .i64 s1.1 (L.2.length:Int),(So .i64 s1.2.1 1,F.2.1.2))))) λ_=>zo (.dn ((0,(s1,()))))) λ_=>zo (.dn ((0,(s1,()))))) ((s0.1,((0:Int),s0.2.1)))) λp=>br (neq p.1 0) (λ_=>SW s0.2.2 λX=>ix s.1.2 X λx16=>br (Ti (x16.length:Int) 8) (λ_=>zo (.dn (((1:Nat),((p.2.1.1,(zt,s0.2.2)),()))))) λ_=>zo (.nx ((p.2.1.1,(p.2.1.2.2,So .i64 s0.2.2 1))))) λ_=>zo (.dn ((1,((p.2.1.1,(p.2.1.2.2,s0.2.2)),()))))) λ_=>zo (.dn ((0,(s0,()))))) λ_=>zo (.dn ((0,(s0,())))))
  0 rfl ⟨λi rs h=>by omega,λ_=>by simp[Uj]⟩ (λk n h t I=>⟨_,(kz (c:=20) h t _ _ _ rfl),.inl ⟨rfl,rfl,λi rs hi o=>I.1 i rs (by have:=(a8.1 o).1;omega) o,λB h15=>by
   have:=I.2 B;rw[List.take_of_length_le (by omega)]at this
   exact this⟩⟩) (λk rs n o t I=>by
   simp only;have z:=(a8.1 o).1;obtain⟨r,Z,u⟩:=jc o n zf rfl;rw[rl z,TB,show Tk (k:Int) 20=zt from eY t,TB,Z,TW,TX,UY,Tq o,UF,Uh (by omega)];rcases u with⟨u,E,q4⟩|⟨u,E⟩
   ·rw[zy u];by_cases P:(rs.length:Int)>8
    ·rw[zy P];exact .inr ⟨_,rfl,.inr ⟨rfl,rfl⟩⟩
    ·rw[zx P,E];refine .inl ⟨_,rfl,λi rs' hi C=> ?_,λB=> ?_⟩
     ·by_cases h:i=k
      ·subst h;rw[o]at C;cases C;omega
      ·exact I.1 i rs' (by omega) C
     ·have w:=I.2 B
      have A:∀ l:List (List Uy),(∀ rs∈l,rs∈s.1.2) -> ∀ r∈l.flatten,r.2.length<=5000:=λl hl r S=>by
       obtain⟨rs1,h3,h4⟩:=List.mem_flatten.1 S;obtain⟨i,hi⟩:=eg (hl rs1 h3);have N:r∈Ud s.1.2 i:=by unfold Ud;rw[hi];exact h4
       exact((B.own i).2 r N).vl.len
      have M:Uj (s.1.2.take (k+1)).flatten=Uj (s.1.2.take k).flatten+Uj rs:=by
       rw[gw,o,List.flatten_append,VT];simp
      have h3:=eE (k:=20) (rs:=(s.1.2.take k).flatten) (A _ λrs h=>nb h)
      have h4:(s.1.2.take k).flatten.length<=1000:=by
       have N:∀ l:List (List Uy),(∀ rs∈l,rs.length<=2)->l.flatten.length<=2*l.length:=by
        intro l
        induction l with
        |nil=>intro _;simp
        |cons x l ih=>
         intro h;have h6:=h x (by simp);have h7:=ih λy C=>h y (by simp[C]);simp only[List.flatten_cons,List.length_append,ci];omega
       have:=N (s.1.2.take k) λrs h=>B.two rs (nb h);have P:(s.1.2.take k).length<=20:=by simp;omega
       omega
      have N:=dS (A (s.1.2.take k) λrs h=>nb h);have h6:zB n rs:=⟨by omega,by omega,λr S=>A [rs] (λx U=>by rw[List.mem_singleton.1 U];exact bo o) r (by simpa using S)⟩;show r.2.1.1=_;rw[q4 (by omega) h6,w,M];omega
   ·rw[zx (by omega),E];exact .inr ⟨_,rfl,.inr ⟨rfl,rfl⟩⟩)
 refine(λh=>h) ?_;have fin:∀ {K:(Nat×((Int×(Bool×Int))×Unit))->Option Bool},(∃ b,K r=zo b/\(b=zf->Sm s/\(VLev s.1->Uj s.1.2.flatten<=40))) -> ∀ {m:Option (Nat×((Int×(Bool×Int))×Unit))},m=zo r -> ∃ b,bd m K=zo b/\(b=zf->Sm s/\(VLev s.1->Uj s.1.2.flatten<=40)):=λh _ e=>by subst e;exact h
 refine fin ?_ Z;rw[TX];rcases u with⟨u,E,q4,q5⟩|⟨u,E⟩
 rotate_left
 ·rw[zx (by omega),E];exact⟨_,rfl,λh=>by cases h⟩
 rw[zy u,E]
 obtain⟨r2,p1,O⟩:=Zz (l:=s.2.1) (σ:=Unit) (s:=(zf,(0:Int))) 20 (by omega) (λk _=>(zf,(k:Int))) (λ_ _=>True) (λ(r:Nat×((Bool×Int)×Unit))=>r.1=1\/(r.1=0/\r.2.1.1=zt))
  (f:=λa=>br (Tk a.2 (s.2.1.length:Int)) (λ_=>br (Tk a.2 20) (λ_=>SW a.2 λY=>ix s.2.1 Y λg=>br (Ti (g.2.1.1.length:Int) 20) (λ_=>zo (.dn ((0,((zt,a.2),()))))) λ_=>br (Ti (g.2.1.2.1.length:Int) 100) (λ_=>zo (.dn ((0,((zt,a.2),()))))) λ_=>br (Ti (g.2.1.2.2.1.length:Int) 100) (λ_=>zo (.dn ((0,((zt,a.2),()))))) λ_=>br (Ti (g.2.1.2.2.2.1.length:Int) 100) (λ_=>zo (.dn ((0,((zt,a.2),()))))) λ_=>bd (loop (λd=>br (Tk d.1 (g.2.1.1.length:Int)) (λ_=>SW d.1 λD=>ix g.2.1.1 D λG=>zo (.nx ((So .i64 d.1 1,So .i64 d.2 (G.length:Int))))) λ_=>zo (.dn (((0:Nat),(d,()))))) (((0:Int),(g.2.2.2.1.length:Int)))) λr24=>br (Ti r24.2.1.2 200) (λ_=>zo (.dn ((0,((zt,a.2),()))))) λ_=>zo (.nx (a.1,So .i64 a.2 1))) λ_=>zo (.dn ((1,(a,()))))) λ_=>zo (.dn ((1,(a,())))))
  () rfl trivial (λk _ h t _=>⟨_,(kz (c:=20) h t _ _ _ rfl),.inl rfl⟩) (λk j _ o t _=>by
   simp only;have z:=(a8.1 o).1;rw[rl z,TB,show Tk (k:Int) 20=zt from eY t,TB,UY,Tq o,UF];by_cases w:(j.2.1.1.length:Int)>20
   ·rw[zy w];exact .inr ⟨_,rfl,.inr ⟨rfl,rfl⟩⟩
   rw[zx w]
   obtain⟨r3,t1,_⟩:=Xg (l:=j.2.1.1) (σ:=Int) (s:=((0:Int),(j.2.2.2.1.length:Int))) (λk n=>((k:Int),n)) (λ_ _ _=>True) (λ(_:Nat×((Int×Int)×Unit))=>True)
    (f:=λd=>br (Tk d.1 (j.2.1.1.length:Int)) (λ_=>SW d.1 λD=>ix j.2.1.1 D λG=>zo (.nx ((So .i64 d.1 1,So .i64 d.2 (G.length:Int))))) λ_=>zo (.dn (((0:Nat),(d,())))))
    (j.2.2.2.1.length:Int) rfl (by omega) trivial (λn _=>⟨_,by rw[re];rfl,trivial⟩) (λk y m n hd C t _=>.inl ⟨So .i64 n (y.length:Int),by rw[rl t,TB,UY,Tq C,Uh (by omega)],trivial⟩)
   rw[t1,TW,UF,UF,UF,UF,Uh (by omega)]
   repeat' split
   all_goals first|exact .inr ⟨_,rfl,.inr ⟨rfl,rfl⟩⟩|exact .inl ⟨(),rfl,trivial⟩)
 rw[p1,TW,TX];rcases O with O|⟨O,p3⟩
 rotate_left
 ·rw[zy O,p3];exact⟨_,rfl,λh=>by cases h⟩
 rw[zx (by omega),UF,UF];by_cases w:r.2.1.1>40
 ·rw[zy w];exact⟨_,rfl,λh=>by cases h⟩
 rw[zx w];by_cases M:(s.1.2.length:Int)>15
 ·rw[zy M];exact⟨_,rfl,λh=>by cases h⟩
 rw[zx M];refine⟨_,rfl,λh=>⟨⟨by omega,λrs J=>⟨?_,o rs J⟩,?_⟩,λB=>by have:=q5 B (by omega);omega⟩⟩
 ·obtain⟨i,hi⟩:=eg J;have:=q4 i rs (by have:=(a8.1 hi).1;omega) hi;omega
 ·unfold Ti at h;simp at h;omega
end
section
open Go Sv
set_option maxRecDepth 1000000
end
section
open Go Sv
end
section
open Go Sv
end
section
open Go Sv
set_option maxRecDepth 100000
end
section
open Go Sv
end
section
open Go Sv
set_option maxRecDepth 100000
def lst(a:ib):List Int:=[a.1,a.2.1,a.2.2.1,a.2.2.2.1,a.2.2.2.2.1,a.2.2.2.2.2.1,a.2.2.2.2.2.2.1,a.2.2.2.2.2.2.2.1,a.2.2.2.2.2.2.2.2.1,a.2.2.2.2.2.2.2.2.2.1,a.2.2.2.2.2.2.2.2.2.2.1,a.2.2.2.2.2.2.2.2.2.2.2]
end
section
open Go Sv
set_option maxRecDepth 100000
end
section
open Go Sv
@[reducible] def tE:Ty:=.pair .str (.pair .str (.pair .bool (.int .i64)))
@[reducible] def tJb:Ty:=.pair (.pair (.int .i64) (.sl zt (.sl zt (.pair (.int .i64) (.sl zt tE))))) (.pair (.sl zt (.pair (.int .i64) (.pair (.pair (.sl zf (.sl zt tE)) (.pair (.sl zf (.int .i64)) (.pair (.sl zt (.pair .str .bool)) (.pair (.sl zf (.int .i64)) (.int .i64))))) (.pair (.pair .bool (.pair .str .bool)) (.pair (.sl zt tE) (.int .i64)))))) (.int .i64))
theorem wy{s:UX}(h:Ri tJb s):∀ rs∈s.1.2,∀ r∈rs,r.2.length<=9223372036854775807:=by
 obtain⟨⟨_,d,c⟩,_⟩:=h;exact λrs b r a=>((c rs b).2 r a).2.1
end
section
open Go Sv
set_option maxRecDepth 100000
theorem jd:Yd=VB:=rfl
theorem je(l:List UZ)(h:l.length<=1000000):Yd (l,l)=zo zt:=by
 rw[jd,XC l l (by omega)];simp
end
section
open Go Sv
theorem aG{s:UX}:∀ {l:List Int},V0 s l=zn -> ∀ x∈l,¬ (Wf zf (λs j=>(WH s.1 j,0)) s x).1=zt
 |[],_,x,h=>by cases h
 |d::l,e,x,h=>by
  unfold V0 at e;by_cases hd:(Wf zf (λs j=>(WH s.1 j,0)) s d).1=zt
  ·rw[zy hd]at e;cases e
  ·rw[zx hd]at e;rcases List.mem_cons.1 h with e1|h1
   ·rw[e1];exact hd
   ·exact aG e x h1
theorem rL{s:UX}(v:VSt s)(i:kh s.1){n:Nat}{j:Job}(h:JobAt s.1 n j):(VU j).length<=Uj s.1.2.flatten:=by
 have a:=i n;obtain⟨e,f,c,k,g,b,l,q,v0,v1⟩:=h;have d:=X9.1 g;rw[d]at a;have m:=a e (by simp);have o:=a f (by simp);have:=(gG v1 v0 c l (by omega)).2;have p:=dT d;rw[b];show(WG f.2 e.2 c k).2.2.1.length<=_;omega
end
section
open Go Sv
theorem jA{f:Nat->Nat}{n:Nat}:∀ {m:Nat},n<m->f n<=Vj f m
 |m+1,h=>by
  show f n<=Vj f m+f m;by_cases e:n=m
  ·rw[e];omega
  ·have:=jA (f:=f) (n:=n) (m:=m) (by omega);omega
theorem lV{s:UX}{N:Nat}(v:VSt s)(q:Uj s.1.2.flatten<=N)(h:ZD N s=0):s.2.1=[]:=by
 have hd:Uf 0 s.1.2=[]:=by
  cases e:Uf 0 s.1.2 with
  |nil=>rfl
  |cons d l=>
   have p:d∈Uf 0 s.1.2:=by rw[e];simp
   obtain⟨j,n,c,g,o,k,r⟩:=v.atDue p;have b:n<12:=by have:=v.lev.len;omega
   obtain⟨u,w,i,t,_⟩:=k.rd;have hc:=dT i
   have a:dl N s n<=ZD N s:=by
    unfold ZD;exact jA (f:=dl N s) b
   have m:VN s.2.1 (n:Int)=zo j:=by rw[<- g,<- fm v,c]
   unfold dl lY at a;rw[m,i]at a;simp only[ci,List.length_nil]at a;omega
 have:=v.due;rw[hd]at this;exact List.map_eq_nil_iff.1 this
theorem rI{s:UX}(v:VSt s)(h:s.2.1=[]):Vz s=4:=by
 have a:(Ua s).2=0:=Ue.2 v;have hd:Uf 0 s.1.2=[]:=by rw[<- v.due,h];rfl
 have e:Va s=(0,4):=by
  unfold Va;rw[zx (by simp[a]),zy hd]
 unfold Vz;rw[e,zy (by decide)]
theorem lw{s:UX}(v:VSt s)(h:s.2.1=[]):∀ n,Vg n s=(s,([],0))
 |0=>rfl
 |n+1=>by unfold Vg;rw[zy (rI v h)]
theorem ja{s0 s:UX}{N R:Nat}(g:Gd s0 s)(a:Uj s.1.2.flatten<=N)(f:ZD N s<=R)(h:(Vg R s).2.2=0):(Vg R s).1.2.1=[]:=by
 obtain⟨i,j,c,d,e⟩:=ZR (n:=R) g a;by_cases b:(Vg R s).2.1.length<R
 ·exact e h b
 ·exact lV c.1 d (by omega)
end
section
open Go Sv
theorem dL(f:Nat->Nat):∀ m,Vj f (m+1)=f 0+Vj (λi=>f (i+1)) m
 |0=>by simp[Vj]
 |m+1=>by
  show Vj f (m+1)+f (m+1)=f 0+(Vj (λi=>f (i+1)) m+f (m+1));rw[dL f m];omega
theorem fZ{f:Nat->Nat}:∀ {m:Nat},(∀ i,i<m->f i=0)->Vj f m=0
 |0,_=>rfl
 |m+1,h=>by
  show Vj f m+f m=0;rw[fZ λi hi=>h i (by omega),h m (by omega)]
theorem gV{f g:Nat->Nat}:∀ {m:Nat},(∀ i,i<m->g i=f i)->Vj g m=Vj f m
 |0,_=>rfl
 |m+1,h=>by
  show Vj g m+g m=Vj f m+f m;rw[gV λi hi=>h i (by omega),h m (by omega)]
theorem ik(f:Int->Nat):∀ (ls:List (List Uy)) (i m:Nat),ls.length<=m->((Uf i ls).map f).sum=Vj (λn=>if(Ud ls n).length=2 then f ((i+n:Nat):Int)else 0) m
 |[],i,m,_=>(fZ λn _=>by simp[Ud]).symm
 |rs::ls,i,0,h=>by simp at h
 |rs::ls,i,m+1,h=>by
  rw[YC,List.map_append,List.sum_append,ik f ls (i+1) m (by simpa using h),dL];refine congr (congrArg HAdd.hAdd ?_) (gV λn _=> ?_)
  ·show _=if rs.length=2 then _ else 0
   by_cases a:rs.length=2
   ·rw[zy a,zy a];simp
   ·rw[zx a,zx a];rfl
  ·rw[show i+1+n=i+(n+1) by omega];rfl
def dA(s:UX)(i:Nat):Nat:=match VN s.2.1 (i:Int)with
 |some j=>Uj (Ud s.1.2 i)-ql j+1
 |none=>0
theorem um{s:UX}(v:VSt s)(i:Nat):dA s i=if(Ud s.1.2 i).length=2 then bR s (i:Int)else 0:=by
 unfold dA bR;rw[fm v];by_cases h:(Ud s.1.2 i).length=2
 ·rw[zy h];obtain⟨j,a⟩:=v.hasJob h;rw[a];obtain⟨d,e,c,_,b,_⟩:=(v.jobAt a).rd;show Uj (Ud s.1.2 i)-ql j+1=Un s.1 j+1;rw[b,c,Vt,Vt];simp only[Uj,List.map_nil,List.sum_nil];omega
 ·rw[zx h,v.noJob h]
theorem eG{s:UX}(v:VSt s):ab s=Vj (dA s) 12:=by
 unfold ab;rw[ik _ _ 0 12 v.lev.len];refine gV λi _=> ?_;rw[um v,Nat.zero_add]
end
section
open Go Sv
end
section
open Go Sv
def Wi(x:qF):Option qF:=
 zo x
def ZZ(x:(Uy×Uy)):Option Bool:=
 br (O3 x.1.1 x.2.1) (λ_=>bd (WZ (x.1.2,x.2.2)) λa=>zo a) λ_=>zo zf
def X2(x:(qF×qF)):Option Bool:=
 bd (ZZ (x.1.1,x.2.1)) λa=>br a (λ_=>bd (XI (x.1.2,x.2.2)) λb=>zo b) λ_=>zo zf
def Wl(x:qF):Option (qF×Int):=
 bd (WV x.1) λc=>br (SS c.2 0) (λ_=>zo ((((0,[]),((0,[]),([],0))),c.2))) λ_=>bd (VP x.2) λd=>br (SS d.2 0) (λ_=>zo ((((0,[]),((0,[]),([],0))),d.2))) λ_=>br (SS x.1.1 x.2.1.1) (λ_=>zo ((((0,[]),((0,[]),([],0))),6))) λ_=>br (O3 (Kx (AR x.1.2)) 0) (λ_=>bd (Wi x) λe=>zo (e,0)) λ_=>bd (V5 (x.2.1,0)) λa=>br (SS a.2 0) (λ_=>zo ((((0,[]),((0,[]),([],0))),a.2))) λ_=>br (Hl a.1) (λ_=>zo ((((0,[]),((0,[]),([],0))),10))) λ_=>bd (XD (x.2,x.1.2)) λb=>br (SS b.2 0) (λ_=>zo ((((0,[]),((0,[]),([],0))),b.2))) λ_=>bd (Wi (((x.1.1,[]),b.1))) λf=>zo (f,0)
end
section
open Go Sv
end
section
open Go Sv
end
section
open Go Sv
def Yp(x:qS):Option (Int×(Int×Int)):=
 bd (VP x) λa=>br (SS a.2 0) (λ_=>zo ((0,(0,a.2)))) λ_=>bd (Yr x.1) λb=>zo b
def Zq(x:qS):Option (Int×Int):=
 bd (Yp x) λa=>br (SS a.2.2 0) (λ_=>zo (0,a.2.2)) λ_=>zo ((Sp .i64 a.2.1 (So .i64 a.1 1),0))
def Yq(x:(qS×Int)):Option (qS×(Int×Int)):=
 br (O3 x.2 0) (λ_=>zo ((x.1,(0,0)))) λ_=>bd (loop (λ(s0:(qL×((Int×Int)×(Int×(qL×Int)))))=>bd (Vp (((s0.1.1,s0.1.2.1),s0.1.2.2))) λc=>br (O3 c.2 4) (λ_=>zo (.dn ((0,((s0.1,((1,0),s0.2.2)),()))))) λ_=>br (O3 c.2 0) (λ_=>bd (Vd ((((s0.1.1,s0.1.2.1),s0.1.2.2),c.1))) λb=>br (SS b.2.2 0) (λ_=>zo (.dn ((0,(((0,([],([],0))),((2,b.2.2),s0.2.2)),()))))) λ_=>br (O3 (Ss .i64 s0.2.2.2.2 1) 0) (λ_=>zo (.dn ((1,(((b.1.1.1,(b.1.1.2,b.1.2)),((0,0),(So .i64 s0.2.2.1 1,((b.1.1.1,(b.1.1.2,b.1.2)),Ss .i64 s0.2.2.2.2 1)))),()))))) λ_=>zo (.nx (((b.1.1.1,(b.1.1.2,b.1.2)),((0,0),(So .i64 s0.2.2.1 1,((b.1.1.1,(b.1.1.2,b.1.2)),Ss .i64 s0.2.2.2.2 1))))))) λ_=>br (SS c.2 0) (λ_=>zo (.dn ((0,(((0,([],([],0))),((2,c.2),s0.2.2)),()))))) λ_=>br (O3 (Ss .i64 s0.2.2.2.2 1) 0) (λ_=>zo (.dn ((1,((s0.1,((0,0),(So .i64 s0.2.2.1 1,(s0.1,Ss .i64 s0.2.2.2.2 1)))),()))))) λ_=>zo (.nx ((s0.1,((0,0),(So .i64 s0.2.2.1 1,(s0.1,Ss .i64 s0.2.2.2.2 1))))))) (((x.1.1.1,(x.1.1.2,x.1.2)),((0,0),(0,((x.1.1.1,(x.1.1.2,x.1.2)),x.2)))))) λa=>br (neq a.1 0) (λ_=>br (O3 a.2.1.2.1.1 0) (λ_=>zo ((((a.2.1.2.2.2.1.1,a.2.1.2.2.2.1.2.1),a.2.1.2.2.2.1.2.2),(a.2.1.2.2.1,0)))) λ_=>br (O3 a.2.1.2.1.1 1) (λ_=>zo ((((a.2.1.2.2.2.1.1,a.2.1.2.2.2.1.2.1),a.2.1.2.2.2.1.2.2),(a.2.1.2.2.1,0)))) λ_=>zo ((((0,[]),([],0)),(0,a.2.1.2.1.2)))) λ_=>br (O3 a.2.1.2.1.1 0) (λ_=>zo ((((a.2.1.2.2.2.1.1,a.2.1.2.2.2.1.2.1),a.2.1.2.2.2.1.2.2),(a.2.1.2.2.1,0)))) λ_=>br (O3 a.2.1.2.1.1 1) (λ_=>zo ((((a.2.1.2.2.2.1.1,a.2.1.2.2.2.1.2.1),a.2.1.2.2.2.1.2.2),(a.2.1.2.2.1,0)))) λ_=>zo ((((0,[]),([],0)),(0,a.2.1.2.1.2)))
def Vn(x:qS):Option (qS×(Int×Int)):=
 bd (VP x) λa=>br (SS a.2 0) (λ_=>zo ((((0,[]),([],0)),(0,a.2)))) λ_=>bd (Yq ((x,(-1)))) λb=>zo b
def Xc(x:qS):Option (Int×Int):=
 bd (V8 x) λa=>br (SS a.2 0) (λ_=>zo (0,a.2)) λ_=>bd (YQ x.1) λb=>zo ((Sp .i64 b.2.1 (So .i64 b.1 1),0))
def W4(x:qF):Option (qF×(Int×Int)):=
 bd (WX x) λb=>br (SS b 0) (λ_=>zo ((((0,[]),((0,[]),([],0))),(0,b)))) λ_=>bd (Vn x.2) λa=>br (O3 a.2.2 0) (λ_=>br (O3 a.2.2 0) (λ_=>br (SS a.2.2 0) (λ_=>zo ((((0,[]),((0,[]),([],0))),(0,a.2.2)))) λ_=>zo (((x.1,a.1),(So .i64 0 a.2.1,0)))) λ_=>br (SS a.2.2 0) (λ_=>zo ((((0,[]),((0,[]),([],0))),(0,a.2.2)))) λ_=>zo (((x.1,a.1),(So .i64 0 a.2.1,0)))) λ_=>br (O3 a.2.2 0) (λ_=>br (SS a.2.2 0) (λ_=>zo ((((0,[]),((0,[]),([],0))),(0,a.2.2)))) λ_=>zo ((x,(0,0)))) λ_=>br (SS a.2.2 0) (λ_=>zo ((((0,[]),((0,[]),([],0))),(0,a.2.2)))) λ_=>zo ((x,(0,0)))
def Zs(x:qF):Option Bool:=
 bd (loop (λs0=>br (Tk s0.1 (Kx (AR x.1.2))) (λ_=>br (Tk s0.1 25) (λ_=>SW s0.1 λb=>ix x.1.2 b λe=>br (Ti (Kx (NA e.1)) 100) (λ_=>zo (.dn ((0,((s0.1,zt),()))))) λ_=>SW s0.1 λc=>ix x.1.2 c λf=>br (Ti (Kx (NA f.2.1)) 100) (λ_=>zo (.dn ((0,((s0.1,zt),()))))) λ_=>zo (.nx (So .i64 s0.1 1,s0.2))) λ_=>zo (.dn ((1,(s0,()))))) λ_=>zo (.dn ((1,(s0,()))))) (0,zf)) λa=>br (neq a.1 0) (λ_=>zo a.2.1.2) λ_=>bd (YU x.2) λd=>br d (λ_=>zo zt) λ_=>zo (Ti (Kx (AR x.1.2)) 20)
def Wn(_:Unit):Option Bool:=zo zt
def W5(x:qF):Option (qF×(Int×Int)):=
 bd (WX x) λh=>br (SS h 0) (λ_=>zo ((((0,[]),((0,[]),([],0))),(0,h)))) λ_=>bd (Vn x.2) λa=>br (O3 a.2.2 0) (λ_=>br (O3 a.2.2 0) (λ_=>bd (Wl (x.1,a.1)) λf=>br (O3 f.2 0) (λ_=>br (O3 f.2 0) (λ_=>bd (Vn f.1.2) λb=>br (O3 b.2.2 0) (λ_=>br (O3 b.2.2 0) (λ_=>br (SS b.2.2 0) (λ_=>zo ((((0,[]),((0,[]),([],0))),(0,b.2.2)))) λ_=>zo (((f.1.1,b.1),(So .i64 (So .i64 0 a.2.1) b.2.1,0)))) λ_=>br (SS b.2.2 0) (λ_=>zo ((((0,[]),((0,[]),([],0))),(0,b.2.2)))) λ_=>zo (((f.1.1,b.1),(So .i64 (So .i64 0 a.2.1) b.2.1,0)))) λ_=>br (O3 b.2.2 0) (λ_=>br (SS b.2.2 0) (λ_=>zo ((((0,[]),((0,[]),([],0))),(0,b.2.2)))) λ_=>zo ((f.1,(So .i64 0 a.2.1,0)))) λ_=>br (SS b.2.2 0) (λ_=>zo ((((0,[]),((0,[]),([],0))),(0,b.2.2)))) λ_=>zo ((f.1,(So .i64 0 a.2.1,0)))) λ_=>br (SS f.2 0) (λ_=>zo ((((0,[]),((0,[]),([],0))),(0,f.2)))) λ_=>zo ((f.1,(So .i64 0 a.2.1,0)))) λ_=>br (O3 f.2 0) (λ_=>bd (Vn a.1) λc=>br (O3 c.2.2 0) (λ_=>br (O3 c.2.2 0) (λ_=>br (SS c.2.2 0) (λ_=>zo ((((0,[]),((0,[]),([],0))),(0,c.2.2)))) λ_=>zo (((x.1,c.1),(So .i64 (So .i64 0 a.2.1) c.2.1,0)))) λ_=>br (SS c.2.2 0) (λ_=>zo ((((0,[]),((0,[]),([],0))),(0,c.2.2)))) λ_=>zo (((x.1,c.1),(So .i64 (So .i64 0 a.2.1) c.2.1,0)))) λ_=>br (O3 c.2.2 0) (λ_=>br (SS c.2.2 0) (λ_=>zo ((((0,[]),((0,[]),([],0))),(0,c.2.2)))) λ_=>zo (((x.1,a.1),(So .i64 0 a.2.1,0)))) λ_=>br (SS c.2.2 0) (λ_=>zo ((((0,[]),((0,[]),([],0))),(0,c.2.2)))) λ_=>zo (((x.1,a.1),(So .i64 0 a.2.1,0)))) λ_=>br (SS f.2 0) (λ_=>zo ((((0,[]),((0,[]),([],0))),(0,f.2)))) λ_=>zo (((x.1,a.1),(So .i64 0 a.2.1,0)))) λ_=>br (SS a.2.2 0) (λ_=>zo ((((0,[]),((0,[]),([],0))),(0,a.2.2)))) λ_=>zo (((x.1,a.1),(So .i64 0 a.2.1,0)))) λ_=>br (O3 a.2.2 0) (λ_=>bd (Wl x) λg=>br (O3 g.2 0) (λ_=>br (O3 g.2 0) (λ_=>bd (Vn g.1.2) λd=>br (O3 d.2.2 0) (λ_=>br (O3 d.2.2 0) (λ_=>br (SS d.2.2 0) (λ_=>zo ((((0,[]),((0,[]),([],0))),(0,d.2.2)))) λ_=>zo (((g.1.1,d.1),(So .i64 0 d.2.1,0)))) λ_=>br (SS d.2.2 0) (λ_=>zo ((((0,[]),((0,[]),([],0))),(0,d.2.2)))) λ_=>zo (((g.1.1,d.1),(So .i64 0 d.2.1,0)))) λ_=>br (O3 d.2.2 0) (λ_=>br (SS d.2.2 0) (λ_=>zo ((((0,[]),((0,[]),([],0))),(0,d.2.2)))) λ_=>zo ((g.1,(0,0)))) λ_=>br (SS d.2.2 0) (λ_=>zo ((((0,[]),((0,[]),([],0))),(0,d.2.2)))) λ_=>zo ((g.1,(0,0)))) λ_=>br (SS g.2 0) (λ_=>zo ((((0,[]),((0,[]),([],0))),(0,g.2)))) λ_=>zo ((g.1,(0,0)))) λ_=>br (O3 g.2 0) (λ_=>bd (Vn x.2) λe=>br (O3 e.2.2 0) (λ_=>br (O3 e.2.2 0) (λ_=>br (SS e.2.2 0) (λ_=>zo ((((0,[]),((0,[]),([],0))),(0,e.2.2)))) λ_=>zo (((x.1,e.1),(So .i64 0 e.2.1,0)))) λ_=>br (SS e.2.2 0) (λ_=>zo ((((0,[]),((0,[]),([],0))),(0,e.2.2)))) λ_=>zo (((x.1,e.1),(So .i64 0 e.2.1,0)))) λ_=>br (O3 e.2.2 0) (λ_=>br (SS e.2.2 0) (λ_=>zo ((((0,[]),((0,[]),([],0))),(0,e.2.2)))) λ_=>zo ((x,(0,0)))) λ_=>br (SS e.2.2 0) (λ_=>zo ((((0,[]),((0,[]),([],0))),(0,e.2.2)))) λ_=>zo ((x,(0,0)))) λ_=>br (SS g.2 0) (λ_=>zo ((((0,[]),((0,[]),([],0))),(0,g.2)))) λ_=>zo ((x,(0,0)))) λ_=>br (SS a.2.2 0) (λ_=>zo ((((0,[]),((0,[]),([],0))),(0,a.2.2)))) λ_=>zo ((x,(0,0)))
def XQ(x:qF):Option Bool:=
 bd (loop (λs0=>br (Tk s0.1 (Kx (AR x.2.1.2))) (λ_=>SW s0.1 λd=>ix x.2.1.2 d λa=>bd (Xz (x.2.1.1,s0.1)) λb=>br (Ti (Kx (AR a)) 1) (λ_=>zo (.dn ((0,((s0.1,zf),()))))) λ_=>br (SS b.2 0) (λ_=>zo (.dn ((0,((s0.1,zf),()))))) λ_=>br (O3 (Kx (AR a)) 1) (λ_=>ix a 0 λe=>br (Ti (Kx (AR e.2)) b.1) (λ_=>zo (.dn ((0,((s0.1,zf),()))))) λ_=>zo (.nx (So .i64 s0.1 1,s0.2))) λ_=>zo (.nx (So .i64 s0.1 1,s0.2))) λ_=>zo (.dn ((1,(s0,()))))) (0,zf)) λc=>br (neq c.1 0) (λ_=>zo c.2.1.2) λ_=>zo (O3 (Kx (AR x.2.2.1)) 0)
def V1(x:qF):Option Bool:=
 bd (Zs x) λj=>br j (λ_=>bd (Wn ()) λk=>zo k) λ_=>bd (W4 x) λb=>br (SS b.2.2 0) (λ_=>br (O3 b.2.1 0) (λ_=>bd (Wn ()) λl=>zo l) λ_=>zo zf) λ_=>bd (Xc x.2) λi=>bd (W4 b.1) λh=>br (SS i.2 0) (λ_=>zo zf) λ_=>br (SS h.2.2 0) (λ_=>zo zf) λ_=>br (Ti b.2.1 i.1) (λ_=>zo zf) λ_=>br (SS h.2.1 0) (λ_=>zo zf) λ_=>bd (XQ b.1) λm=>br (Hl m) (λ_=>zo zf) λ_=>bd (X2 (b.1,h.1)) λn=>br (Hl n) (λ_=>zo zf) λ_=>bd (Yd (b.1.1.2,x.1.2)) λo=>br (Hl o) (λ_=>zo zf) λ_=>bd (W5 x) λc=>br (SS c.2.2 0) (λ_=>br (O3 c.2.2 5) (λ_=>br (O3 c.2.1 0) (λ_=>bd (Wn ()) λd=>zo d) λ_=>zo zf) λ_=>zo zf) λ_=>bd (W5 c.1) λa=>br (O3 a.2.2 0) (λ_=>br (O3 a.2.1 0) (λ_=>bd (XQ c.1) λe=>br e (λ_=>br (O3 (Kx (AR c.1.1.2)) 0) (λ_=>bd (X2 (c.1,a.1)) λf=>br f (λ_=>bd (Wn ()) λg=>zo g) λ_=>zo zf) λ_=>zo zf) λ_=>zo zf) λ_=>zo zf) λ_=>zo zf
end
end Go.Proofs.YtfceigpbgndbgaaGreatDoor.Pl
