/- Functions of the program and of the specification as plain functions, and laws about them. No condition. -/
import Derived.Test.YtfceigpbgndbgaaGreatDoorPl4
set_option linter.all false
open Option renaming some->zo
open Bool renaming true->zt, false->zf
namespace Go.Proofs.YtfceigpbgndbgaaGreatDoor.Pl
open Go Sv
theorem xe{n:Nat}(h:11<=n):(2048:Int)<=2 ^ n:=by
 obtain⟨k,rfl⟩:∃ k,n=11+k:=⟨n-11,by omega⟩
 have:(1:Int)<=2 ^ k:=by
  have:0<(2:Int) ^ k:=Int.pow_pos (by decide);omega
 rw[Int.pow_add];omega
theorem rJ{s0 s:UX}(g:Gd s0 s):Vz s=4\/Vz s=0\/Vz s=5:=by
 have v:=g.1;have c:(Ua s).2=0:=Ue.2 v;have y:=v.lev.B1
 have r:(Va s).2≠9:=by
  unfold Va;rw[zx (by simp[c])];by_cases a:Uf 0 s.1.2=[]
  ·rw[zy a];decide
  ·rw[zx a];have D:0<(Uf 0 s.1.2).length:=List.length_pos_iff.2 a;obtain⟨d,hd⟩:∃ d,(Uf 0 s.1.2)[(Uf 0 s.1.2).length-1]?=zo d:=⟨_,List.getElem?_eq_getElem (by omega)⟩;have w:=List.mem_of_getElem? hd
   have hc:(Wf zf (λs j=>(WH s.1 j,0)) s d).1=zt:=by
    by_cases l:d<11
    ·have hc:=jL v hd (by omega) l;rw[fe v.sm]at hc;have p:=Option.some.inj hc;rw[p]
    ·obtain⟨j,n,e,z,q,i,_⟩:=v.atDue w;have E:=rL v (Z8 g.2.2) i;have A:=g.2.2;unfold Wf;rw[zx (by simp[c]),e];show WH s.1 j=zt
     have hs:WT s.1 j=zt:=by
      unfold WT VJ;rw[decide_eq_true_iff];have B:=xe (n:=j.1.toNat) (by omega);have o:(1:Int)*2 ^ j.1.toNat<=s.1.1*2 ^ j.1.toNat:=Int.mul_le_mul_of_nonneg_right y (by omega);have C:((VU j).length:Int)<=2000:=by omega
      show((VU j).length:Int)<=_;omega
     unfold WH;rw[hs];simp
   cases f:V0 s (Uf 0 s.1.2)with
   |some x=>exact(by decide:¬ ((0:Int)=9))
   |none=>exact absurd hc (aG f d w)
 unfold Vz;rcases aQ v with h|h|h
 ·left;rw[zy (by rw[h.1];decide),h.1]
 ·exact absurd h r
 ·right;rw[zx (by simp[h.1])];obtain⟨j,n,e,hd,q,i,_⟩:=v.atDue h.2;unfold XB;rw[zx (by simp[c]),e]
  have b:WH s.1 j=zt:=by
   have k:=h.1;unfold Va at k;rw[zx (by simp[c]),zx (λa=>by rw[a]at h;cases h.2)]at k
   have u:(Va s).1=(match V0 s (Uf 0 s.1.2)with|some d=>(d,(0:Int))|none=>(0,9)).1:=by
    unfold Va;rw[zx (by simp[c]),zx (λa=>by rw[a]at h;cases h.2)];rfl
   cases f:V0 s (Uf 0 s.1.2)with
   |none=>rw[f]at k;cases k
   |some x=>
    rw[f]at u;have m:(Va s).1=x:=u;obtain⟨_,_,_,t,_⟩:=ZX f;rw[m]at e;unfold Wf at t;rw[zx (by simp[c]),e]at t;exact t
  show(YX s j).2.2=0\/(YX s j).2.2=5;unfold YX;rw[zx (by simp[b])];by_cases a:0<Un s.1 j
  ·rw[zy a];exact .inl rfl
  ·rw[zx a];unfold Zv;rw[zx (by simp[b];omega)];by_cases o:s.2.2>1000000/\VU j≠[]
   ·rw[zy o];exact .inr rfl
   ·rw[zx o];exact .inl rfl
theorem fR{s0:UX}:∀ {n:Nat} {s:UX},Gd s0 s->(Vg n s).2.2=0\/(Vg n s).2.2=5
 |0,s,g=>.inl rfl
 |n+1,s,g=>by
  unfold Vg;by_cases b:Vz s=4
  ·rw[zy b];exact .inl rfl
  ·rw[zx b];by_cases a:Vz s=0
   ·rw[zx (by simp[a])];obtain⟨_,_,_,_,_,_,_,c⟩:=Ww g a;exact fR (n:=n) c
   ·rw[zy a];rcases rJ g with h|h|h
    ·exact absurd h b
    ·exact absurd h a
    ·exact .inr h
theorem gS{s:UX}(v:VSt s)(hc:Uj s.1.2.flatten<=2000):(U4 s).2.2=0\/(U4 s).2.2=5:=by
 unfold U4 sL;rw[zx (by simp[Ue.2 v])];have:=fR (n:=ZD 2000 s+1) (s:=s) (s0:=s) ⟨v,rfl,hc⟩;by_cases h:(Vg (ZD 2000 s+1) s).2.2=0
 ·rw[zx (by simp[h])];exact .inl rfl
 ·rw[zy h];exact this
theorem gR{s:UX}(v:VSt s)(hc:Uj s.1.2.flatten<=2000):Uj (U4 s).1.1.2.flatten<=Uj s.1.2.flatten:=by
 unfold U4 sL;rw[zx (by simp[Ue.2 v])];split
 ·show Uj []<=_;simp[Uj]
 ·exact(ZR (n:=ZD 2000 s+1) (N:=Uj s.1.2.flatten) (s0:=s) ⟨v,rfl,hc⟩ (Nat.le_refl _)).2.2.2.1
theorem fG{f:VZ}(v:VSt f.2)(h:f.2.2.1=[]):XQ f=zo zt:=by
 unfold XQ;simp only[Ug,Uc];have j:=v.lev.len;refine Uw (YV (r:=(1,(((f.2.1.2.length:Int),zf),()))) (λk=>((k:Int),zf)) f.2.1.2.length rfl (by omega) (λk c=> ?_) (by simp only;rw[re];rfl)) ?_
 ·have b:f.2.1.2[k]?=zo f.2.1.2[k]:=List.getElem?_eq_getElem c;have g:=iw v h b;have e:=(v.lev.lev k _ b).2;simp only;rw[rl c,TB,UY,Tq b,fC v.lev (by omega),TW,UF,zx (by omega),UI,zy rfl,UD,Uh (by omega)];by_cases a:((f.2.1.2[k]).length:Int)=1
  ·rw[zy a];cases d:f.2.1.2[k]with
   |nil=>rw[d]at a;cases a
   |cons r rs=>
    have i:=(e r (by rw[d];simp)).le;rw[show ix (r::rs) 0=λK=>K r from rfl];simp only;rw[UF,zx (by omega)]
  ·rw[zx a]
 ·simp only;rw[TX,zx (show ¬ (1=0) by omega),h];rfl
theorem bS{f:VZ}(a:Uo f=0)(h:U4 f.2=(f.2,(0,0))):Wg f=(f,(0,0)):=by
 unfold Wg dV;rw[zx (by simp[a]),h];rfl
theorem eP{f:VZ}(c:Uo f=0)(h:U4 f.2=(f.2,(0,0)))(d:f.1.2=[]):Xe f=(f,(0,0)):=by
 have hd:=bS c h
 have hs:V9 f=(f,0):=by
  unfold V9;rw[zx (by simp[c]),zy (by rw[d];rfl)]
 have b:cp f=(f,(0,0)):=by
  unfold cp;rw[hd];simp only;rw[zx (by simp),hs];simp only;rw[zx (by simp)]
 have a:dV f=(f,(0,0)):=by
  unfold dV;rw[h];rfl
 unfold Xe;rw[b];simp only;rw[zx (by simp),a];rfl
theorem eQ{f:VZ}(c:Uo f=0)(D:Uj f.2.1.2.flatten<=40)(m:(U4 f.2).2.2=0) :
  ((Xe f).2.2=5/\(Xe f).2.1=0) \/ ∃ g:VZ,(Xe f).1=g/\(Xe f).2.2=0/\Uo g=0/\g.1=(f.1.1,[])/\g.2.2.1=[]/\U4 g.2=(g.2,(0,0))/\Uj g.2.1.2.flatten<=60:=by
 have v:=(YI c).2.1;have E:=fy c;rcases ac c (λ_=>by omega)with⟨h,_⟩|⟨t,n,y,j,z,K,A,L,M,k,N⟩
 ·exact absurd m h
 have p:Uj t.1.2.flatten<=40:=by
  have:=gR v (by omega);rw[y]at this;simp only at this;omega
 have C:(Ud t.1.2 0).length<=1:=by
  unfold Ud;cases q:t.1.2[0]? with
  |none=>simp
  |some rs=>exact iw z A q
 by_cases hs:(V9 (f.1,t)).2=0;rotate_left
 ·left
  have o:(V9 (f.1,t)).2=5:=by
   rcases cY k with⟨_,h⟩|⟨_,h,_⟩|⟨_,_,_,h⟩|⟨_,_,_,_,h⟩
   ·rw[h]at hs;exact absurd rfl hs
   ·simp only at h;omega
   ·exact h
   ·rw[h]at hs;exact absurd rfl hs
  have a:cp f=(iZ,(0,5)):=by
   unfold cp;rw[j];simp only;rw[zx (by simp),zy hs,o]
  unfold Xe;rw[a,zy (by simp)];exact⟨rfl,rfl⟩
 obtain⟨s1,s2,l⟩:=dH k hs;simp only at l s2
 have a:cp f=((V9 (f.1,t)).1,((n:Int),0)):=by
  unfold cp;rw[j];simp only;rw[zx (by simp),zx (by simp[hs])]
 generalize (V9 (f.1,t)).1=g at s1 s2 l a;have B:=(YI s1).2.1;rcases gS B (by omega)with e|e5
 ·right;rcases ac s1 (λ_=>by omega)with⟨h,_⟩|⟨d,n2,r,F,G,s,u,I,J,w,x⟩
  ·exact absurd e h
  have b:dV g=((g.1,d),((n2:Int),0)):=by
   unfold dV;rw[zx (by simp[e]),r]
  have i:Xe f=((g.1,d),(So .i64 (n:Int) (n2:Int),0)):=by
   unfold Xe;rw[a];simp only;rw[zx (by simp),b];simp only;rw[zx (by simp)]
  refine⟨(g.1,d),by rw[i],by rw[i],w,s2,u,x,s⟩
 ·left
  have b:dV g=(iZ,(0,5)):=by
   unfold dV;rw[zy (by rw[e5];simp),e5]
  unfold Xe;rw[a];simp only;rw[zx (by simp),b,zy (by simp)];exact⟨rfl,rfl⟩
theorem settleRests{f:VZ}(u:∀ rs∈f.2.1.2,∀ r∈rs,r.2.length<=9223372036854775807):V1 f=zo zt:=by
 unfold V1;rw[lC];obtain⟨b,e,s⟩:=qz f u;rw[e,TW,qq];cases b with
 |true=>rfl
 |false=>
  obtain⟨m,a,C⟩:=s rfl;have hc:VSt f.2->Uj f.2.1.2.flatten<=2000:=λv=>by have:=a v.lev;omega
  have l:VSt f.2->Uj f.2.1.2.flatten<=60:=λv=>by have:=a v.lev;omega
  rw[Sd,dy m hc,TW,UI];by_cases c:Uo f=0;rotate_left
  ·have hd:Wg f=(iZ,(0,Uo f)):=by unfold Wg;rw[zy c]
   rw[hd,zx c,UD,zy rfl];rfl
  have v:=(YI c).2.1;have d:=a v.lev;rcases ac c l with⟨o,p⟩|⟨t,n,x,y,j,D,z,E,F,A,B⟩
  ·rw[p,zx o,UD,zy rfl];rfl
  have w:=HZ c;have h:Wg (f.1,t)=((f.1,t),(0,0)):=bS A B;rw[y];simp only;rw[zy trivial,fB m,TW,dy j.sm (λ_=>by simp only;omega),TW,h];unfold fH;have q:=ae v.lev;rw[zx (show ¬ (Ua f.2).2≠0 by simp[w])];simp only;rw[UI,zy rfl,UI,zy rfl,UF,zx (by omega),UI,zy rfl,fG j z,TW,U2,TB,ly (by simp only;omega) (.inr j),TW,U2,TB,je _ (by omega),TW,U2,TB,dz m l,TW,UI];rcases eQ c d (by rw[x])with⟨e1,e2⟩|⟨g,e1,e2,e3,e4,e5,e6,e7⟩
  ·rw[zx (by rw[e1];decide),UD,zy e1,UD,zy e2];rfl
  ·have k:=(YI e3).2.1;have i:VSt g.2->Uj g.2.1.2.flatten<=60:=λ_=>e7;rw[zy e2,e1,dz k.sm i,TW,eP e3 e6 (by rw[e4])];simp only;rw[UD,zy rfl,UD,zy rfl,fG k e5,TW,TB,e4];simp only[Ug,Uc];rw[UD,zy (by simp),ly (by rw[e4];simp) (.inr k),TW,TB];rfl
theorem gQ{x:VZ}(h:Rj [(zt,.pair (.pair (.int .i64) (.sl zt tE)) tJb)] x):V1 x=zo zt:=settleRests (wy h.2)
end Go.Proofs.YtfceigpbgndbgaaGreatDoor.Pl
