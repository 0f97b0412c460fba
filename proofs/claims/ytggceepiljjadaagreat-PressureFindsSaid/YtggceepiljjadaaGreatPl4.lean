/- Functions of the program and of the specification as plain functions, and laws about them. No condition. -/
import Derived.Test.YtggceepiljjadaaGreatPl3
import Derived.KernelRfl
set_option linter.all false
open List renaming filter_cons->sp, getElem?_eq_getElem->ci, getElem?_eq_some_iff->a8, getElem?_of_mem->en, getElem?_take->lc, getElem_mem->tw, getLast?_eq_getElem?->nb, length_append->gl, length_filter_le->hI, length_nil->dc, length_take->hM, map_cons->ns, mem_cons->ee, mem_map->ox, mem_map_of_mem->nn, nil_append->gs, nodup_cons->oj
open Nat renaming zero_add->ey
open Option renaming none_or->l4
open Bool renaming not_false->yn, not_true->yw, or_false->zr
namespace Go.Proofs.YtggceepiljjadaaGreat.Pl
section
open Go Sv
end
section
open Go Sv
set_option maxRecDepth 100000
end
section
open Go Sv
end
section
open Go Sv
set_option maxRecDepth 100000
end
section
open Go Sv
set_option maxRecDepth 100000
end
section
open Go Sv
@[reducible] def tE:Ty:=.pair .str (.pair .str (.pair .bool (.int .i64)))
@[reducible] def tJb:Ty:=.pair (.pair (.int .i64) (.sl true (.sl true (.pair (.int .i64) (.sl true tE))))) (.pair (.sl true (.pair (.int .i64) (.pair (.pair (.sl false (.sl true tE)) (.pair (.sl false (.int .i64)) (.pair (.sl true (.pair .str .bool)) (.pair (.sl false (.int .i64)) (.int .i64))))) (.pair (.pair .bool (.pair .str .bool)) (.pair (.sl true tE) (.int .i64)))))) (.int .i64))
end
section
open Go Sv
set_option maxRecDepth 100000
end
section
open Go Sv
end
section
open Go Sv
end
section
open Go Sv
def U9(x:Unit):Option Bool:=
 bd (ZJ 1) λd=>bd (ZC d.1) λt=>br (Rw d.2 0) (λ_=>some false) λ_=>br (Rw t.2 0) (λ_=>some false) λ_=>br (Rw t.1 3) (λ_=>some false) λ_=>bd (loop (λ(s2:(Bool×(Int×(Int×((List TZ)×qL)))))=>br (Sz s2.2.1 3) (λ_=>Rz s2.2.1 λm=>br (neq m 0) (λ_=>bd (WS (([(97:UInt8)],SC .i64 s2.2.1 1))) λu=>bd (UR ((((s2.2.2.1,s2.2.2.2.1),((s2.2.2.2.2.1,s2.2.2.2.2.2.1),s2.2.2.2.2.2.2)),[u]))) λf=>br (Rw f.2.2 0) (λ_=>some (.dn ((0,((false,s2.2),()))))) λ_=>Rz s2.2.1 λr=>gd (KI r 3) λ_=>br (Rw f.2.1 (Ob ([1,2,2]) r)) (λ_=>some (.dn ((0,((false,s2.2),()))))) λ_=>some (.nx ((s2.1,(SC .i64 s2.2.1 1,(f.1.1.1,(f.1.1.2,(f.1.2.1.1,(f.1.2.1.2,f.1.2.2))))))))) λ_=>br (neq m 1) (λ_=>bd (WS (([(98:UInt8)],SC .i64 s2.2.1 1))) λw=>bd (UR ((((s2.2.2.1,s2.2.2.2.1),((s2.2.2.2.2.1,s2.2.2.2.2.2.1),s2.2.2.2.2.2.2)),[w]))) λg=>br (Rw g.2.2 0) (λ_=>some (.dn ((0,((false,s2.2),()))))) λ_=>Rz s2.2.1 λs=>gd (KI s 3) λ_=>br (Rw g.2.1 (Ob ([1,2,2]) s)) (λ_=>some (.dn ((0,((false,s2.2),()))))) λ_=>some (.nx ((s2.1,(SC .i64 s2.2.1 1,(g.1.1.1,(g.1.1.2,(g.1.2.1.1,(g.1.2.1.2,g.1.2.2))))))))) λ_=>br (neq m 2) (λ_=>bd (WS (([(99:UInt8)],SC .i64 s2.2.1 1))) λn=>bd (UR ((((s2.2.2.1,s2.2.2.2.1),((s2.2.2.2.2.1,s2.2.2.2.2.2.1),s2.2.2.2.2.2.2)),[n]))) λb=>br (Rw b.2.2 0) (λ_=>some (.dn ((0,((false,s2.2),()))))) λ_=>Rz s2.2.1 λh=>gd (KI h 3) λ_=>br (Rw b.2.1 (Ob ([1,2,2]) h)) (λ_=>some (.dn ((0,((false,s2.2),()))))) λ_=>some (.nx ((s2.1,(SC .i64 s2.2.1 1,(b.1.1.1,(b.1.1.2,(b.1.2.1.1,(b.1.2.1.2,b.1.2.2))))))))) λ_=>gd (neq m 3) λ_=>bd (WS (([(100:UInt8)],SC .i64 s2.2.1 1))) λo=>bd (UR ((((s2.2.2.1,s2.2.2.2.1),((s2.2.2.2.2.1,s2.2.2.2.2.2.1),s2.2.2.2.2.2.2)),[o]))) λc=>br (Rw c.2.2 0) (λ_=>some (.dn ((0,((false,s2.2),()))))) λ_=>Rz s2.2.1 λi=>gd (KI i 3) λ_=>br (Rw c.2.1 (Ob ([1,2,2]) i)) (λ_=>some (.dn ((0,((false,s2.2),()))))) λ_=>some (.nx ((s2.1,(SC .i64 s2.2.1 1,(c.1.1.1,(c.1.1.2,(c.1.2.1.1,(c.1.2.1.2,c.1.2.2))))))))) λ_=>some (.dn ((1,(s2,()))))) ((false,(0,(d.1.1.1,(d.1.1.2,(d.1.2.1.1,(d.1.2.1.2,d.1.2.2)))))))) λa=>br (neq a.1 0) (λ_=>some a.2.1.1) λ_=>bd (WS (([(100:UInt8)],4))) λe=>bd (Yb ((((a.2.1.2.2.1,a.2.1.2.2.2.1),((a.2.1.2.2.2.2.1,a.2.1.2.2.2.2.2.1),a.2.1.2.2.2.2.2.2)),[e]))) λj=>bd (ZB ((((a.2.1.2.2.1,a.2.1.2.2.2.1),((a.2.1.2.2.2.2.1,a.2.1.2.2.2.2.2.1),a.2.1.2.2.2.2.2.2)),[e]))) λk=>bd (UR ((((a.2.1.2.2.1,a.2.1.2.2.2.1),((a.2.1.2.2.2.2.1,a.2.1.2.2.2.2.2.1),a.2.1.2.2.2.2.2.2)),[e]))) λp=>bd (WS (([(99:UInt8)],4))) λq=>bd (UR ((((a.2.1.2.2.1,a.2.1.2.2.2.1),((a.2.1.2.2.2.2.1,a.2.1.2.2.2.2.2.1),a.2.1.2.2.2.2.2.2)),[q]))) λl=>br j.1 (λ_=>br (OX j.2 0) (λ_=>br k.1 (λ_=>br (OX k.2 0) (λ_=>br (OX p.2.2 10) (λ_=>br (OX l.2.2 0) (λ_=>br (OX (Kh (AS l.1.1.2)) 1) (λ_=>some (OX (Kh (AS a.2.1.2.2.2.2.2.2.1)) 1)) λ_=>some false) λ_=>some false) λ_=>some false) λ_=>some false) λ_=>some false) λ_=>some false) λ_=>some false
def W1(x:qF):Option (List TZ):=
 gd (CF (AS x.1.2) 1048576) λ_=>bd (YJ x.2.1) λq=>bd (loop (λ(s1:((List TZ)×Int))=>br (Sz s1.2 (Kh (AS q))) (λ_=>bd (loop (λs2=>br (Sz s2.1 (Kh (AS x.1.2))) (λ_=>br s2.2 (λ_=>some (.nx (SC .i64 s2.1 1,true))) λ_=>Rz s2.1 λD=>ix x.1.2 D λI=>Rz s1.2 λE=>ix q E λJ=>some (.nx (SC .i64 s2.1 1,seq I.1 J.1))) λ_=>some (.dn ((0,(s2,()))))) (0,false)) λG=>br (He G.2.1.2) (λ_=>Rz s1.2 λF=>ix q F λC=>gd (CF (BF (AS s1.1) (AS [C])) 1048576) λ_=>some (.nx (Ig s1.1 [C],SC .i64 s1.2 1))) λ_=>some (.nx (s1.1,SC .i64 s1.2 1))) λ_=>some (.dn ((0,(s1,()))))) (x.1.2,0)) λb=>bd (loop (λ(d:(List TZ))=>br (Sz (Kh (AS d)) (Kh (AS b.2.1.1))) (λ_=>bd (loop (λa=>br (Sz a.2 (Kh (AS b.2.1.1))) (λ_=>br (OX (Kh (AS d)) 0) (λ_=>br (Sz a.1 0) (λ_=>some (.nx (a.2,SC .i64 a.2 1))) λ_=>Rz a.2 λf=>gd (KI f (AS b.2.1.1)) λ_=>ix b.2.1.1 f λt=>Rz a.1 λg=>gd (KI g (AS b.2.1.1)) λ_=>ix b.2.1.1 g λu=>br (SP t.1 u.1) (λ_=>some (.nx (a.2,SC .i64 a.2 1))) λ_=>some (.nx (a.1,SC .i64 a.2 1))) λ_=>Rz a.2 λh=>gd (KI h (AS b.2.1.1)) λ_=>ix b.2.1.1 h λw=>Rz (SG .i64 (Kh (AS d)) 1) λi=>gd (KI i (AS d)) λ_=>ix d i λy=>br (SP y.1 w.1) (λ_=>br (Sz a.1 0) (λ_=>some (.nx (a.2,SC .i64 a.2 1))) λ_=>Rz a.2 λj=>gd (KI j (AS b.2.1.1)) λ_=>ix b.2.1.1 j λz=>Rz a.1 λk=>gd (KI k (AS b.2.1.1)) λ_=>ix b.2.1.1 k λA=>br (SP z.1 A.1) (λ_=>some (.nx (a.2,SC .i64 a.2 1))) λ_=>some (.nx (a.1,SC .i64 a.2 1))) λ_=>some (.nx (a.1,SC .i64 a.2 1))) λ_=>some (.dn ((0,(a,()))))) (((-1),0))) λr=>Rz r.2.1.1 λl=>gd (KI l (AS b.2.1.1)) λ_=>ix b.2.1.1 l λo=>gd (CF (BF (AS d) (AS [o])) 1048576) λ_=>some (.nx (Ig d [o]))) λ_=>some (.dn ((0,(d,()))))) []) λe=>bd (loop (λ(c:UA)=>br (Sz c.1 (Kh (AS e.2.1))) (λ_=>Rz c.1 λm=>gd (KI m (AS e.2.1)) λ_=>ix e.2.1 m λB=>br (He B.2.2.1) (λ_=>Rz c.1 λn=>gd (KI n (AS e.2.1)) λ_=>ix e.2.1 n λp=>gd (CF (BF (AS c.2) (AS [p])) 1048576) λ_=>some (.nx (SC .i64 c.1 1,Ig c.2 [p]))) λ_=>some (.nx (SC .i64 c.1 1,c.2))) λ_=>some (.dn ((0,(c,()))))) (0,[])) λs=>some s.2.1.2
def Xs(x:((List TZ)×TZ)):Option (List TZ):=
 bd (loop (λ(s0:(Int×((List TZ)×Bool)))=>br (Sz s0.1 (Kh (AS x.1))) (λ_=>Rz s0.1 λh=>ix x.1 h λm=>br (He (SP m.1 x.2.1)) (λ_=>br (He s0.2.2) (λ_=>gd (CF (BF (AS s0.2.1) (AS [x.2])) 1048576) λ_=>Rz s0.1 λi=>ix x.1 i λn=>br (He (seq n.1 x.2.1)) (λ_=>Rz s0.1 λj=>ix x.1 j λg=>gd (CF (BF (AS (Ig s0.2.1 [x.2])) (AS [g])) 1048576) λ_=>some (.nx ((SC .i64 s0.1 1,(Ig (Ig s0.2.1 [x.2]) [g],true))))) λ_=>some (.nx ((SC .i64 s0.1 1,(Ig s0.2.1 [x.2],true))))) λ_=>Rz s0.1 λk=>ix x.1 k λo=>br (He (seq o.1 x.2.1)) (λ_=>Rz s0.1 λl=>ix x.1 l λb=>gd (CF (BF (AS s0.2.1) (AS [b])) 1048576) λ_=>some (.nx ((SC .i64 s0.1 1,(Ig s0.2.1 [b],s0.2.2))))) λ_=>some (.nx (SC .i64 s0.1 1,s0.2))) λ_=>Rz s0.1 λd=>ix x.1 d λf=>br (He (seq f.1 x.2.1)) (λ_=>Rz s0.1 λe=>ix x.1 e λc=>gd (CF (BF (AS s0.2.1) (AS [c])) 1048576) λ_=>some (.nx ((SC .i64 s0.1 1,(Ig s0.2.1 [c],s0.2.2))))) λ_=>some (.nx (SC .i64 s0.1 1,s0.2))) λ_=>some (.dn ((0,(s0,()))))) ((0,([],x.2.2.2.1)))) λa=>br (He a.2.1.2.2) (λ_=>gd (CF (BF (AS a.2.1.2.1) (AS [x.2])) 1048576) λ_=>some (Ig a.2.1.2.1 [x.2])) λ_=>some a.2.1.2.1
def U3(x:(qF×(List TZ))):Option Bool:=
 bd (Xr x.1) λo=>br o (λ_=>bd (U9 ()) λp=>some p) λ_=>bd (V4 x.2) λq=>br q (λ_=>bd (U9 ()) λr=>some r) λ_=>br (Sx (Kh (AS x.2)) 25) (λ_=>bd (U9 ()) λs=>some s) λ_=>br (Sx x.1.2.2.2 900000) (λ_=>bd (U9 ()) λt=>some t) λ_=>bd (Vj x.1) λu=>br (Rw u 0) (λ_=>bd (U9 ()) λw=>some w) λ_=>bd (W1 x.1) λy=>bd (loop (λ(a:((List TZ)×(Bool×(Int×(Int×((List TZ)×qL))))))=>br (Sz a.2.2.1 (Kh (AS x.2))) (λ_=>Rz a.2.2.1 λj=>ix x.2 j λd=>bd (UR ((((a.2.2.2.1,a.2.2.2.2.1),((a.2.2.2.2.2.1,a.2.2.2.2.2.2.1),a.2.2.2.2.2.2.2)),[(d.1,(d.2.1,(d.2.2.1,SC .i64 1000 a.2.2.1)))]))) λb=>br (OX b.2.2 0) (λ_=>bd (Xs ((a.1,(d.1,(d.2.1,(d.2.2.1,SC .i64 1000 a.2.2.1)))))) λg=>bd (VP b.1.2) λh=>br (OX h.2 0) (λ_=>bd (Ux (b.1.2,h.1)) λe=>br (Rw e.2.2 0) (λ_=>some (.dn ((0,((g,(false,(a.2.2.1,(b.1.1.1,(b.1.1.2,(b.1.2.1.1,(b.1.2.1.2,b.1.2.2))))))),()))))) λ_=>some (.nx ((g,(a.2.1,(SC .i64 a.2.2.1 1,(b.1.1.1,(b.1.1.2,(e.1.1.1,(e.1.1.2,e.1.2)))))))))) λ_=>some (.nx ((g,(a.2.1,(SC .i64 a.2.2.1 1,(b.1.1.1,(b.1.1.2,(b.1.2.1.1,(b.1.2.1.2,b.1.2.2)))))))))) λ_=>bd (VP (((a.2.2.2.2.2.1,a.2.2.2.2.2.2.1),a.2.2.2.2.2.2.2))) λi=>br (OX i.2 0) (λ_=>bd (Ux ((((a.2.2.2.2.2.1,a.2.2.2.2.2.2.1),a.2.2.2.2.2.2.2),i.1))) λf=>br (Rw f.2.2 0) (λ_=>some (.dn ((0,((a.1,(false,a.2.2)),()))))) λ_=>some (.nx ((a.1,(a.2.1,(SC .i64 a.2.2.1 1,(a.2.2.2.1,(a.2.2.2.2.1,(f.1.1.1,(f.1.1.2,f.1.2)))))))))) λ_=>some (.nx ((a.1,(a.2.1,(SC .i64 a.2.2.1 1,a.2.2.2)))))) λ_=>some (.dn ((1,(a,()))))) ((y,(false,(0,(x.1.1.1,(x.1.1.2,(x.1.2.1.1,(x.1.2.1.2,x.1.2.2))))))))) λc=>br (neq c.1 0) (λ_=>some c.2.1.2.1) λ_=>bd (Vj (((c.2.1.2.2.2.1,c.2.1.2.2.2.2.1),((c.2.1.2.2.2.2.2.1,c.2.1.2.2.2.2.2.2.1),c.2.1.2.2.2.2.2.2.2)))) λk=>br (OX k 0) (λ_=>bd (W1 (((c.2.1.2.2.2.1,c.2.1.2.2.2.2.1),((c.2.1.2.2.2.2.2.1,c.2.1.2.2.2.2.2.2.1),c.2.1.2.2.2.2.2.2.2)))) λl=>bd (Vv (l,c.2.1.1)) λm=>br m (λ_=>bd (U9 ()) λn=>some n) λ_=>some false) λ_=>some false
end
section
open Go Sv
def ba(b:List TZ)(e:TZ):Bool:=b.any λy=>seq y.1 e.1
theorem gQ{b:List TZ}{e:TZ}:ba b e=true <-> ∃ y∈b,y.1=e.1:=by
 unfold ba;rw[List.any_eq_true];constructor
 ·rintro⟨y,c,a⟩;exact⟨y,c,by unfold seq at a;simpa using a⟩
 ·rintro⟨y,c,a⟩;exact⟨y,c,by unfold seq;simpa using a⟩
def WY(f:Ut):List TZ:=f.1.2++(LD f.2.1).filter λe=> !ba f.1.2 e
def Wf(f:Ut):List TZ:=((WY f).foldl VN []).filter UF
theorem dO{l:List TZ}(a:(l.map (·.1)).Nodup){y:TZ}(h:y∈l):UK l y.1=some y:=by
 induction l with
 |nil=>cases h
 |cons x l b=>
  rw[ns,oj]at a;rw[Tu];rcases ee.1 h with rfl|h
  ·rw[if_pos rfl]
  ·rw[if_neg (λe=>a.1 (by rw[e];exact nn h)),b a.2 h]
theorem ZV:∀ {l:List TZ} {p:Option V8},Asc p l->(l.map (·.1)).Nodup
 |[],_,_=>by simp
 |x::l,p,h=>by
  rw[ns,oj];refine⟨λc=> ?_,ZV h.2⟩;obtain⟨y,a,b⟩:=ox.1 c;exact Xk (X6 h.2 y a) b.symm
theorem iG(L:Te)(k:V8):UK (LD L) k=(Un (UJ L.2) k).filter UF:=by
 have a:=λk=>Zw k (UJ L.2) [] trivial;unfold LD;rw[W2 UF k (a []).1,(a k).2];rfl
theorem dU(L:Te):Asc none (LD L):=XP UF (Zw [] (UJ L.2) [] trivial).1
theorem cD(f:Ut):Asc none (Wf f):=XP UF (ZU [] (WY f) [] trivial).1
theorem iH(f:Ut)(k:V8):UK (WY f) k=(UK f.1.2 k).or (UK (LD f.2.1) k):=by
 unfold WY;rw[ZK];cases h:UK f.1.2 k with
 |some e=>rfl
 |none=>
  rw[l4,l4,W2 _ k (dU _)];cases a:UK (LD f.2.1) k with
  |none=>rfl
  |some e=>
   have g:=(bA a).1
   have:ba f.1.2 e=false:=by
    cases d:ba f.1.2 e with
    |false=>rfl
    |true=>
     obtain⟨y,b,c⟩:=gQ.1 d;unfold UK at h;have:=List.find?_eq_none.1 h y b;simp[c,g]at this
   rw[Option.filter_some,this];rfl
theorem Yw(f:Ut)(k:V8):UK (Wf f) k=((UK f.1.2 k).or (Un (UJ f.2.1.2) k)).filter UF:=by
 unfold Wf;rw[W2 UF k (ZU k (WY f) [] trivial).1,(ZU k (WY f) [] trivial).2,iH,iG];show(((none:Option TZ)).or _).filter UF=_;rw[l4];cases UK f.1.2 k with
 |some e=>rfl
 |none=>
  rw[l4,l4];cases Un (UJ f.2.1.2) k with
  |none=>rfl
  |some e=>
   rw[Option.filter_some];by_cases h:UF e=true
   ·rw[if_pos h,Option.filter_some,if_pos h]
   ·rw[if_neg h];rfl
theorem bL(x:TZ)(k:V8):∀ {l:List TZ} {p:Option V8},Asc p l->UK (Ww l x) k=if x.1=k then some x else UK l k
 |[],_,_=>by rw[dg,Xi];rfl
 |y::l,p,h=>by
  rw[cL];by_cases c:SP y.1 x.1=true
  ·rw[if_pos c,Tu,Tu,bL x k h.2];by_cases a:y.1=k
   ·rw[if_pos a,if_pos a,if_neg (λb=>Xk c (a.trans b.symm))]
   ·rw[if_neg a,if_neg a]
  ·rw[if_neg c];by_cases a:y.1=x.1
   ·rw[if_pos a,Tu,Tu];by_cases b:x.1=k
    ·rw[if_pos b,if_pos b]
    ·rw[if_neg b,if_neg b,if_neg (λd=>b (a.symm.trans d))]
   ·rw[if_neg a,Tu]
theorem kJ{s:Tb}(v:VSt s){l:List TZ}(c:(Th s.1.2 0).length<2)(d:kR [] (Uf s.1.1 0) (s.2.2,l)=0)(k:V8):Un (UJ (Zk s l).2) k=(UK l k).or (Un (UJ s.1.2) k):=by
 have a:=(ai v c d).len;have b:=v.lev.len;rw[Yg k _ (11+1) (by omega),Yg k s.1.2 (11+1) (by omega)];unfold Zv
 rw[X9 (f:=λj=>Un (Th (Zk s l).2 j).reverse k) (g:=λj=>Un (Th s.1.2 j).reverse k) 11 (0+1) (λj e _=>by
  show Un (Th (Zk s l).2 j).reverse k=_
  rw[Zx,if_neg (by omega)])]
 show(Un (Th (Zk s l).2 0).reverse k).or _=_;rw[Zx,if_pos rfl,List.reverse_append];show((UK l k).or (Un (Th s.1.2 0).reverse k)).or _=_;rw[Option.or_assoc]
theorem qY{b:UA}{x:TZ}(h:Bf b)(g:(Yl b [x]).2.2=true):(Yl b [x]).1=Ww b.2 x/\Bf (b.1,Ww b.2 x)\/kE x≠0:=by
 by_cases d:kE x=0;rotate_left
 ·exact .inr d
 left;have c:=aA b.2 x;by_cases a:YT b.2 x.1=true
 ·refine⟨by unfold Yl bj;rw[if_pos a];rfl,h.m1,h.m2,?_,λy hy=> ?_,ZS x h.asc (λ_ h=>by cases h)⟩
  ·rw[if_pos a]at c;have:=h.len;simp only;omega
  ·rcases de hy with rfl|hy
   ·exact d
   ·exact h.ok y hy
 ·have e:=pN h a;by_cases f:(b.2.length:Int)=b.1
  ·rw[if_pos f]at e;rw[e]at g;cases g
  ·rw[if_neg f]at e;exact⟨by rw[e],jv h d a (by have:=h.len;omega)⟩
theorem gp{f:Ut}(G:UY f=0)(N:f.2.2.2<=1000000){x:TZ}(e:(ji f [x]).2.2=0) :
  UY (ji f [x]).1=0/\(ji f [x]).1.2.2.2<=f.2.2.2+1/\Uw (ji f [x]).1.2.1.2.flatten<=Uw f.2.1.2.flatten+16 /\ ∀ k,UK (Wf (ji f [x]).1) k=if x.1=k then(some x).filter UF else UK (Wf f) k:=by
 obtain⟨L,v,D⟩:=Xm G;have d:=dE L;have I:=d.m1;have J:=d.m2;have O:=d.len;have M:=(v.lev.own 0).1;unfold ji at e ⊢;by_cases u:YV f [x]=0;rotate_left
 ·rw[if_pos u]at e;exact absurd e u
 rw[if_neg (by simp[u])]at e ⊢
 have j:kE x=0:=by
  have:=(bo u).2.2.2;by_cases j:kE x=0
  ·exact j
  ·exact absurd this (by show(if kE x≠0 then kE x else XO [])≠0;rw[if_pos j];exact j)
 by_cases B:(Yl f.1 [x]).2.2=true
 ·rw[if_pos B];rcases qY d B with⟨w1,K⟩|w1
  rotate_left
  ·exact absurd j w1
  rw[w1];refine⟨kA K v D,by show f.2.2.2<=_;omega,by show Uw f.2.1.2.flatten<=_;omega,λk=> ?_⟩;rw[Yw,Yw];show((UK (Ww f.1.2 x) k).or (Un (UJ f.2.1.2) k)).filter UF=_;rw[bL x k d.asc];by_cases a:x.1=k
  ·rw[if_pos a,if_pos a];rfl
  ·rw[if_neg a,if_neg a]
 rw[if_neg B]at e ⊢;by_cases C:f.1.2.length=0
 ·rw[if_pos C]at e;cases e
 rw[if_neg C]at e ⊢;by_cases w:bx f=true
 ·rw[if_pos w]at e;cases e
 rw[if_neg w]at e ⊢;by_cases i:(bc f.2 f.1.2).2=0;rotate_left
 ·rw[if_pos i]at e;exact absurd e i
 rw[if_neg (by simp[i])]at e ⊢
 have o:(Th f.2.1.2 0).length<2:=by
  unfold bx at w;simpa using w
 have s:VL f.1.2:=⟨by omega,d.ok,d.asc⟩
 have h:kR [] (Uf f.2.1.1 0) (f.2.2.2,f.1.2)=0:=by
  unfold bc at i;rw[if_neg (by simp[Tl.2 v]),if_neg (by omega),if_neg (by simp[YW.2 s])]at i;by_cases z:kR [] (Uf f.2.1.1 0) (f.2.2.2,f.1.2)=0
  ·exact z
  ·rw[if_pos z]at i;exact absurd i z
 have m:bc f.2 f.1.2=(YP f.2 (Zk f.2 f.1.2) (f.2.2.2+1) (-1),0):=by
  unfold bc;rw[if_neg (by simp[Tl.2 v]),if_neg (by omega),if_neg (by simp[YW.2 s]),if_neg (by simp[h])]
 have g:Bf (f.1.1,([]:List TZ)):=⟨I,J,by simp only[dc];omega,by simp,trivial⟩;have r:¬ YT ([]:List TZ) x.1=true:=by simp[YT]
 have t:=pN (b:=(f.1.1,[])) (x:=x) g r;rw[if_neg (by simp only[dc];omega)]at t
 have n:Zl (f.1.1,[]) [x]=0:=by
  unfold Zl;rw[if_neg (by simp[qc g]),if_neg (by simp)];show(if kE x≠0 then kE x else 0)=0
  rw[j];rfl
 have c:=dC n;rw[t,if_pos rfl]at c;rw[m,c,if_neg (by simp)];have A:=pV v (l:=f.1.2) o h (by omega);refine⟨kA (jv g j r (by simp only[dc];omega)) A D,?_,?_,λk=> ?_⟩
 ·show f.2.2.2+1<=_;omega
 ·show Uw (Zk f.2 f.1.2).2.flatten<=_;obtain⟨p,q,E,F⟩:=XQ f.2.1 0 (Th f.2.1.2 0++[(f.2.2.2,f.1.2)]);have y:(Zk f.2 f.1.2).2.flatten=p++(Th f.2.1.2 0++[(f.2.2.2,f.1.2)]++q):=F;rw[E,y,U2,U2,U2,U2,U2,Vm];simp only[Uw,List.map_nil,List.sum_nil];omega
 ·rw[Yw,Yw];show((UK (Ww [] x) k).or (Un (UJ (Zk f.2 f.1.2).2) k)).filter UF=_;rw[bL x k (l:=[]) (p:=none) trivial,kJ v o h];by_cases a:x.1=k
  ·rw[if_pos a,if_pos a];rfl
  ·rw[if_neg a,if_neg a];rfl
end
section
open Go Sv
theorem g9{α β γ σ S:Type}{l:List α}(mk:Nat->σ->S)(I:List α->Nat->σ->Prop)(Q:β->Prop){f:S->Option (LR S β)}{s:S}{K:β->Option γ}{R:Option γ}(a:σ)(c:s=mk 0 a)(g:l.length<=9223372036854775807)(hi:I l 0 a)
  (h:∀ a,I [] l.length a -> ∃ r,f (mk l.length a)=some (.dn r)/\Q r)
  (hc:∀ k x m a,l.drop k=x::m->l[k]?=some x->k<l.length->I (x::m) k a->(∃ b,f (mk k a)=some (.nx (mk (k+1) b))/\I m (k+1) b) \/ ∃ r,f (mk k a)=some (.dn r)/\Q r) (d:∀ r,Q r->K r=R):bd (loop f s) K=R:=by
 obtain⟨r,e,q⟩:=Vy mk I Q a c g hi h hc;rw[e];exact d r q
def gY(x:TZ):Bool->List TZ->List TZ
 |d,[]=>if d=true then[]else[x]
 |d,y::l=>(if SP y.1 x.1=false/\d=false then[x]else[])++((if y.1=x.1 then[]else[y])++gY x (d || !SP y.1 x.1) l)
theorem p9(l:List TZ)(x:TZ)(u:l.length<=500000):Xs (l,x)=some (gY x x.2.2.1 l):=by
 unfold Xs;simp only[Tf,Td];obtain⟨T,p⟩:∃ T,T=gY x x.2.2.1 l:=⟨_,rfl⟩;rw[<- p];refine g9 (l:=l) (σ:=List TZ×Bool) (λk h=>((k:Int),h)) (λm k h=>h.1++gY x h.2 m=T/\h.1.length<=2*k) (λ(r:Nat×((Int×(List TZ×Bool))×Unit))=>r.2.1.2.1++gY x r.2.1.2.2 []=T/\r.2.1.2.1.length<=1000000) ([],x.2.2.1) rfl (by omega) ⟨p.symm,by simp⟩ ?_ ?_ ?_
 ·rintro⟨o,d⟩ ⟨b,g⟩;refine⟨(0,(((l.length:Int),(o,d)),())),?_,b,by simp only at g ⊢;omega⟩;simp only;rw[re];rfl
 ·rintro k y m ⟨o,d⟩ t f s ⟨b,g⟩;refine .inl ?_;simp only at b g ⊢;rw[rl s,SW,Ta,S4 f,UI,WP];have hi:SC .i64 (k:Int) 1=((k+1:Nat):Int):=Ti (by omega);have i:∀ {β:Type} (z:TZ) (c:Unit->Option β),gd (CF (BF o.length [z].length) 1048576) c=c ():=λz c=>Tk (by simp[BF];omega) c;have q:∀ {β:Type} (z w:TZ) (c:Unit->Option β),gd (CF (BF (Ig o [w]).length [z].length) 1048576) c=c ():=λz w c=>Tk (by simp[BF,Ig];omega) c;unfold gY at b;have j:∀ {β:Type} (a c:Unit->Option β),br (He (seq y.1 x.1)) a c=if y.1=x.1 then c ()else a ():=λa c=>by rw[UI,V2]
  by_cases hs:SP y.1 x.1=true
  ·rw[if_pos hs,Ta,S4 f,j];rw[hs,if_neg (by simp)]at b;simp only[yw,zr,gs]at b;by_cases e:y.1=x.1
   ·rw[if_pos e,hi];rw[if_pos e]at b;exact⟨(o,d),rfl,by simpa using b,by simp only;omega⟩
   ·rw[if_neg e,Ta,S4 f,i,hi];rw[if_neg e]at b;exact⟨(o++[y],d),rfl,by simpa using b,by simp;omega⟩
  ·rw[if_neg hs,UI,TL];have n:SP y.1 x.1=false:=by simpa using hs
   rw[n]at b;simp only[yn,Bool.or_true,true_and]at b;cases d with
   |true=>
    rw[if_pos rfl,Ta,S4 f,j];rw[if_neg (by simp),gs]at b;by_cases e:y.1=x.1
    ·rw[if_pos e,hi];rw[if_pos e]at b;exact⟨(o,true),rfl,by simpa using b,by simp only;omega⟩
    ·rw[if_neg e,Ta,S4 f,i,hi];rw[if_neg e]at b;exact⟨(o++[y],true),rfl,by simpa using b,by simp;omega⟩
   |false=>
    rw[if_neg (by simp),i,Ta,S4 f,j];rw[if_pos rfl]at b;by_cases e:y.1=x.1
    ·rw[if_pos e,hi];rw[if_pos e]at b;exact⟨(o++[x],true),rfl,by simpa using b,by simp;omega⟩
    ·rw[if_neg e,Ta,S4 f,q,hi];rw[if_neg e]at b;exact⟨(o++[x]++[y],true),rfl,by simpa using b,by simp;omega⟩
 ·rintro⟨_,⟨_,o,d⟩,_⟩ ⟨b,g⟩;simp only at b g ⊢;rw[UI,TL];cases d with
  |true=>rw[if_pos rfl,<- b];simp[gY]
  |false=>rw[if_neg (by simp),Tk (by simp[BF];omega),<- b];rfl
theorem ak(x:TZ):∀ {l:List TZ} {p:Option V8} {d:Bool},Asc p l->(d=false -> ∀ q,p=some q->SP q x.1=true)->Asc p (gY x d l) /\ ∀ k,UK (gY x d l) k=if x.1=k then(if d=true then none else some x)else UK l k
 |[],p,d,h,hd=>by
  unfold gY;cases d with
  |true=>exact⟨trivial,λk=>by rw[if_pos rfl,if_pos rfl];split<;>rfl⟩
  |false=>
   rw[if_neg (by simp)];exact⟨⟨hd rfl,trivial⟩,λk=>by rw[Xi,if_neg (show ¬ false=true by simp)];rfl⟩
 |y::l,p,d,⟨n,m⟩,hd=>by
  unfold gY;by_cases hs:SP y.1 x.1=true
  ·have f:¬ y.1=x.1:=Xk hs;rw[hs,if_neg (by simp),if_neg f];simp only[yw,zr,gs,List.cons_append];obtain⟨a,b⟩:=ak x (d:=d) m (λ_ q g=>by cases g;exact hs);refine⟨⟨n,a⟩,λk=> ?_⟩;rw[Tu,b,Tu];by_cases c:y.1=k
   ·rw[if_pos c,if_pos c,if_neg (λe=>f (c.trans e.symm))]
   ·rw[if_neg c,if_neg c]
  ·have i:SP y.1 x.1=false:=by simpa using hs
   rw[i];simp only[yn,Bool.or_true,true_and];by_cases f:y.1=x.1
   ·rw[if_pos f,gs];obtain⟨a,b⟩:=ak x (d:=true) m (λh=>by cases h)
    have b':∀ k,¬ x.1=k->UK (gY x true l) k=UK (y::l) k:=λk c=>by
     rw[b,if_neg c,Tu,if_neg (λe=>c (f.symm.trans e))]
    cases d with
    |true=>
     rw[if_neg (by simp),gs];refine⟨a.weak λq g=>⟨y.1,rfl,Ur (n q g)⟩,λk=> ?_⟩;by_cases c:x.1=k
     ·rw[b,if_pos c,if_pos c]
     ·rw[b' k c,if_neg c]
    |false=>
     rw[if_pos rfl,List.singleton_append];refine⟨⟨hd rfl,by rw[<- f];exact a⟩,λk=> ?_⟩;rw[Tu,if_neg (show ¬ false=true by simp)];by_cases c:x.1=k
     ·rw[if_pos c,if_pos c]
     ·rw[if_neg c,if_neg c,b' k c]
   ·rw[if_neg f];have j:SP x.1 y.1=true:=ZA i f;obtain⟨a,b⟩:=ak x (d:=true) m (λh=>by cases h)
    have o:UK (y::l) x.1=none:=X4 λz hz=>by
     rcases ee.1 hz with e|hz
     ·rw[e];exact f
     ·exact λe=>Xk (VD j (X6 m z hz)) e.symm
    have b':∀ k,UK ([y]++gY x true l) k=if x.1=k then none else UK (y::l) k:=λk=>by
     rw[List.singleton_append,Tu,b,Tu];by_cases c:x.1=k
     ·rw[if_pos c,if_pos c,if_neg (λe=>f (e.trans c.symm))];rfl
     ·rw[if_neg c,if_neg c]
    cases d with
    |true=>
     rw[if_neg (by simp),gs];refine⟨⟨n,a⟩,λk=> ?_⟩;rw[b',if_pos rfl]
    |false=>
     rw[if_pos rfl];refine⟨⟨hd rfl,λq g=>by cases g;exact j,a⟩,λk=> ?_⟩;rw[List.singleton_append,Tu,b',if_neg (show ¬ false=true by simp)];by_cases c:x.1=k
     ·rw[if_pos c,if_pos c]
     ·rw[if_neg c,if_neg c,if_neg c]
end
section
open Go Sv
theorem cz(x:TZ):∀ {l:List TZ},(∀ y∈l,y.1≠x.1)->(VN l x).length=l.length+1 /\ ∀ y,y∈VN l x<->y=x\/y∈l
 |[],_=>by unfold VN;simp
 |z::l,h=>by
  unfold VN;obtain⟨a,b⟩:=cz x (l:=l) λy d=>h y (by simp[d]);by_cases c:SP z.1 x.1=true
  ·rw[if_pos c];refine⟨by simp[a],λy=> ?_⟩;rw[ee,b,ee];constructor
   ·rintro (h|h|h)
    ·exact .inr (.inl h)
    ·exact .inl h
    ·exact .inr (.inr h)
   ·rintro (h|h|h)
    ·exact .inr (.inl h)
    ·exact .inl h
    ·exact .inr (.inr h)
  ·rw[if_neg c,if_neg (h z (by simp))];exact⟨rfl,λy=>ee⟩
theorem dM:∀ {R l:List TZ},(R.map (·.1)).Nodup->(∀ x∈R,∀ y∈l,y.1≠x.1)->(R.foldl VN l).length=l.length+R.length /\ ∀ y,y∈R.foldl VN l<->y∈l\/y∈R
 |[],l,_,_=>⟨rfl,λy=>by simp⟩
 |x::R,l,hn,hd=>by
  rw[ns,oj]at hn;obtain⟨a,b⟩:=cz x (l:=l) (hd x (by simp))
  obtain⟨c,d⟩:=dM (R:=R) (l:=VN l x) hn.2 λz f y hy=>by
   rcases(b y).1 hy with rfl|hy
   ·exact λe=>hn.1 (by rw[e];exact nn f)
   ·exact hd z (by simp[f]) y hy
  rw[List.foldl_cons];refine⟨by rw[c,a,List.length_cons];omega,λy=> ?_⟩;rw[d,b,ee];constructor
  ·rintro ((h|h)|h)
   ·exact .inr (.inl h)
   ·exact .inl h
   ·exact .inr (.inr h)
  ·rintro (h|h|h)
   ·exact .inl (.inr h)
   ·exact .inl (.inl h)
   ·exact .inr h
structure Srt (R T:List TZ):Prop where
 len:T.length=R.length
 asc:Asc none T
 mem:∀ y,y∈T<->y∈R
theorem sv{R:List TZ}(h:(R.map (·.1)).Nodup):Srt R (R.foldl VN []):=by
 obtain⟨a,b⟩:=dM (R:=R) (l:=[]) h (λ_ _ _ h=>by cases h);exact⟨by simpa using a,(ZU [] R [] trivial).1,λy=>by rw[b];simp⟩
def YK(o:List TZ)(y:TZ):Prop:=∀ z,o.getLast?=some z->SP z.1 y.1=true
structure Best (R o:List TZ) (c:Nat) (y:TZ):Prop where
 at':R[c]?=some y
 lt:YK o y
theorem aZ{T:List TZ}{n:Nat}(a:n<=T.length){z:TZ}(h:(T.take n).getLast?=some z):∃ m,n=m+1/\T[m]?=some z:=by
 cases n with
 |zero=>simp at h
 |succ m=>
  refine⟨m,rfl,?_⟩;rw[nb,hM,Nat.min_eq_left a]at h;simpa using h
theorem d7{R T:List TZ}(s:Srt R T){n:Nat}(c:n<T.length):YK (T.take n) T[n]/\T[n]∈R /\ ∀ y∈R,YK (T.take n) y->SP y.1 T[n].1=false:=by
 refine⟨λz d=> ?_,(s.mem _).1 (tw c),λy j g=> ?_⟩
 ·obtain⟨m,rfl,b⟩:=aZ (by omega) d;exact aH s.asc (Nat.lt_succ_self m) b (ci c)
 ·obtain⟨i,hi⟩:=en ((s.mem y).2 j);by_cases h:i<n
  ·exfalso
   have f:T.take n≠[]:=λe=>by
    have:=congrArg List.length e;rw[hM,dc]at this;omega
   obtain⟨z,d⟩:∃ z,(T.take n).getLast?=some z:=⟨_,List.getLast?_eq_some_getLast f⟩;have a:=g z d;obtain⟨m,rfl,b⟩:=aZ (by omega) d;by_cases e:i=m
   ·subst e;rw[b]at hi;cases hi;rw[Vk]at a;cases a
   ·have:=aH s.asc (show i<m by omega) hi b;rw[Ur this]at a;cases a
  ·by_cases e:i=n
   ·subst e;rw[ci c]at hi;cases hi;exact Vk _
   ·exact Ur (aH s.asc (show n<i by omega) (ci c) hi)
theorem su{R T:List TZ}(s:Srt R T){n:Nat}(d:n<T.length){y:TZ}(f:y∈R)(l:YK (T.take n) y)(m:∀ z∈R,YK (T.take n) z->SP z.1 y.1=false):y=T[n]:=by
 obtain⟨i,j,k⟩:=d7 s d;have a:=m _ j i;have b:=k y f l
 have e:y.1=T[n].1:=by
  rcases aE y.1 T[n].1 with h|h|h
  ·rw[h]at b;cases b
  ·exact h
  ·rw[h]at a;cases a
 have n1:=ZV s.asc;have c:=dO n1 ((s.mem y).2 f);have g:=dO n1 (tw d);rw[e,g]at c;exact(Option.some.inj c).symm
def BInv(R o:List TZ)(i:Nat)(b:Int):Prop:=
 (b = -1 /\ ∀ j<i,∀ y,R[j]?=some y -> ¬ YK o y) \/ ∃ (c:Nat) (y:TZ),b=(c:Int)/\c<i/\R[c]?=some y/\YK o y /\ ∀ j<i,∀ z,R[j]?=some z->YK o z->SP z.1 y.1=false
theorem BInv.skip{R o:List TZ}{i:Nat}{b:Int}{x:TZ}(h:BInv R o i b)(r:R[i]?=some x)(q:¬ YK o x):BInv R o (i+1) b:=by
 have key:∀ j<i+1,∀ z,R[j]?=some z->YK o z->j<i:=λj f z d a=>by
  by_cases e:j=i
  ·subst e;rw[r]at d;cases d;exact absurd a q
  ·omega
 rcases h with⟨g,k⟩|⟨c,y,g,k,m,n,p⟩
 ·exact .inl ⟨g,λj f y l a=>k j (key j f y l a) y l a⟩
 ·exact .inr ⟨c,y,g,by omega,m,n,λj f z d a=>p j (key j f z d a) z d a⟩
theorem BInv.first{R o:List TZ}{i:Nat}{x:TZ}(h:BInv R o i (-1))(d:R[i]?=some x)(g:YK o x):BInv R o (i+1) (i:Int):=by
 rcases h with⟨_,f⟩|⟨c,y,k,_⟩
 ·refine .inr ⟨i,x,rfl,by omega,d,g,λj l z b a=> ?_⟩;by_cases e:j=i
  ·subst e;rw[d]at b;cases b;exact Vk _
  ·exact absurd a (f j (by omega) z b)
 ·omega
theorem BInv.better{R o:List TZ}{i c:Nat}{x y:TZ}(h:BInv R o i (c:Int))(g:R[i]?=some x)(n:YK o x)(p:R[c]?=some y)(hs:SP x.1 y.1=true):BInv R o (i+1) (i:Int):=by
 rcases h with⟨l,_⟩|⟨k,t,l,q,f,r,m⟩
 ·omega
 ·obtain rfl:c=k:=by omega
  rw[p]at f;cases f;refine .inr ⟨i,x,rfl,by omega,g,n,λj s z b a=> ?_⟩;by_cases e:j=i
  ·subst e;rw[g]at b;cases b;exact Vk _
  ·have:=m j (by omega) z b a;cases d:SP z.1 x.1 with
   |false=>rfl
   |true=>rw[VD d hs]at this;cases this
theorem BInv.stay{R o:List TZ}{i c:Nat}{x y:TZ}(h:BInv R o i (c:Int))(n:R[i]?=some x)(f:R[c]?=some y)(hs:SP x.1 y.1=false):BInv R o (i+1) (c:Int):=by
 rcases h with⟨k,_⟩|⟨g,r,k,p,d,l,m⟩
 ·omega
 ·obtain rfl:c=g:=by omega
  rw[f]at d;cases d;refine .inr ⟨c,y,rfl,by omega,f,l,λj q z b a=> ?_⟩;by_cases e:j=i
  ·subst e;rw[n]at b;cases b;exact hs
  ·exact m j (by omega) z b a
theorem km{R T:List TZ}(s:Srt R T)(hR:R.length<=500000){γ:Type}{K:Nat×(List TZ×Unit)->Option γ}{Q:Option γ}(hk:∀ r:Nat×(List TZ×Unit),r.2.1=T->K r=Q) :
  bd (loop (λ(e:(List TZ))=>br (Sz (e.length:Int) (R.length:Int)) (λ_=>bd (loop (β:=Nat×((Int×Int)×Unit)) (λa=>br (Sz a.2 (R.length:Int)) (λ_=>br (OX (e.length:Int) 0) (λ_=>br (Sz a.1 0) (λ_=>some (.nx (a.2,SC .i64 a.2 1))) λ_=>Rz a.2 λg=>gd (KI g R.length) λ_=>ix R g λu=>Rz a.1 λk=>gd (KI k R.length) λ_=>ix R k λA=>br (SP u.1 A.1) (λ_=>some (.nx (a.2,SC .i64 a.2 1))) λ_=>some (.nx (a.1,SC .i64 a.2 1))) λ_=>Rz a.2 λM=>gd (KI M R.length) λ_=>ix R M λx18=>Rz (SG .i64 (e.length:Int) 1) λN=>gd (KI N e.length) λ_=>ix e N λx20=>br (SP x20.1 x18.1) (λ_=>br (Sz a.1 0) (λ_=>some (.nx (a.2,SC .i64 a.2 1))) λ_=>Rz a.2 λO=>gd (KI O R.length) λ_=>ix R O λx22=>Rz a.1 λP=>gd (KI P R.length) λ_=>ix R P λx24=>br (SP x22.1 x24.1) (λ_=>some (.nx (a.2,SC .i64 a.2 1))) λ_=>some (.nx (a.1,SC .i64 a.2 1))) λ_=>some (.nx (a.1,SC .i64 a.2 1))) λ_=>some (.dn ((0,(a,()))))) (((-1),0))) λr25=>Rz r25.2.1.1 λS=>gd (KI S R.length) λ_=>ix R S λW=>gd (CF (BF e.length [W].length) 1048576) λ_=>some (.nx (Ig e [W]))) λ_=>some (.dn ((0,(e,()))))) []) K=Q:=by
 have G:=s.len;refine pX (λo=>∃ n,o=T.take n/\n<=T.length) (λr=>r.2.1=T) (λo=>R.length-o.length) ⟨0,by simp,by omega⟩ (by simp;omega) ?_ hk;rintro o ⟨n,rfl,hn⟩;have X:(T.take n).length=n:=by rw[hM];omega
 by_cases h:n<T.length;rotate_left
 ·have hnn:n=T.length:=by omega
  subst hnn;refine .inr ⟨(0,(T.take T.length,())),?_,by simp⟩;rw[X,G,re];rfl
 refine .inl ⟨T.take (n+1),?_,⟨n+1,rfl,by omega⟩,by rw[X,hM];omega⟩;rw[X,TH,if_pos (by omega)]
 have d:∀ y:TZ,YK (T.take n) y<->n=0 \/ ∃ z,T[n-1]?=some z/\SP z.1 y.1=true:=λy=>by
  constructor
  ·intro hy;by_cases B:n=0
   ·exact .inl B
   ·refine .inr ⟨T[n-1]'(by omega),ci _,hy _ ?_⟩;rw[nb,X];rw[lc,if_pos (by omega),ci (by omega)]
  ·rintro (B|⟨z,p,f⟩) w hw
   ·subst B;simp at hw
   ·obtain⟨m,rfl,hm⟩:=aZ (by omega) hw;have:m+1-1=m:=rfl;rw[this,hm]at p;cases p;exact f
 refine g9 (l:=R) (σ:=Int) (λi b=>(b,(i:Int))) (λ_ i b=>BInv R (T.take n) i b) (λ(r:Nat×((Int×Int)×Unit))=>BInv R (T.take n) R.length r.2.1.1) (-1) rfl (by omega) (.inl ⟨rfl,λj D=>by omega⟩) ?_ ?_ ?_
 ·intro b C;exact⟨_,by simp only;rw[re];rfl,C⟩
 ·intro i x m b hd E hi C;refine .inl ?_;simp only;have F:SC .i64 (i:Int) 1=((i+1:Nat):Int):=Ti (by omega)
  have q:YK (T.take n) x -> ∃ U,(br (Sz b 0) (λ_=>some (LR.nx (β:=Nat×((Int×Int)×Unit)) ((i:Int),SC .i64 (i:Int) 1))) λ_=>Rz (i:Int) λg=>gd (KI g R.length) λ_=>ix R g λu=>Rz b λk=>gd (KI k R.length) λ_=>ix R k λA=>br (SP u.1 A.1) (λ_=>some (.nx ((i:Int),SC .i64 (i:Int) 1))) λ_=>some (.nx (b,SC .i64 (i:Int) 1)))=some (LR.nx (U,((i+1:Nat):Int)))/\BInv R (T.take n) (i+1) U:=λI=>by
   rw[TH,F];rcases C with⟨rfl,f⟩|⟨c,y,rfl,f,t,Y,Z⟩
   ·rw[if_pos (by omega)];exact⟨_,rfl,BInv.first (.inl ⟨rfl,f⟩) E I⟩
   ·have hB:BInv R (T.take n) i (c:Int):=.inr ⟨c,y,rfl,f,t,Y,Z⟩;rw[if_neg (by omega),Ta,az hi,S4 E,Ta,az (by omega),S4 t,WP];by_cases hs:SP x.1 y.1=true
    ·rw[if_pos hs];exact⟨_,rfl,hB.better E I t hs⟩
    ·rw[if_neg hs];exact⟨_,rfl,hB.stay E t (by simpa using hs)⟩
  rw[rl hi,SW,TD];by_cases B:n=0
  ·rw[if_pos (by omega)];exact q ((d x).2 (.inl B))
  ·have L:T[n-1]?=some (T[n-1]'(by omega)):=ci _;have hz2:(T.take n)[n-1]?=some (T[n-1]'(by omega)):=by rw[lc,if_pos (by omega),L]
   have J:SG .i64 (n:Int) 1=((n-1:Nat):Int):=by rw[Sd (by omega)];omega
   rw[if_neg (by omega),Ta,az hi,S4 E,J,Ta,az (by omega),S4 hz2,WP];by_cases hs:SP (T[n-1]'(by omega)).1 x.1=true
   ·rw[if_pos hs];exact q ((d x).2 (.inr ⟨_,L,hs⟩))
   ·rw[if_neg hs,F];refine⟨b,rfl,BInv.skip C E λhl2=> ?_⟩;rcases(d x).1 hl2 with p|⟨z,p,f⟩
    ·exact B p
    ·rw[L]at p;cases p;exact hs f
 ·rintro r C;obtain⟨t1,t2,t3⟩:=d7 s h;rcases C with⟨p,f⟩|⟨c,y,p,f,t,Y,Z⟩
  ·obtain⟨j,D⟩:=en t2;exact absurd t1 (f j (a8.1 D).1 _ D)
  ·have hy:=su s h (List.mem_of_getElem? t) Y λz L hlz=>by
    obtain⟨j,D⟩:=en L;exact Z j (a8.1 D).1 z D hlz
   rw[p,Ta,az f,S4 t,Tk (by simp[BF];omega),hy];unfold Ig;rw[List.take_add_one,ci h];rfl
end
section
open Go Sv
theorem aO{L:Te}:(LD L).length<=Uw L.2.flatten:=by
 unfold LD;have a:=aq (UJ L.2) [];have b:=hI UF (ae (UJ L.2) []);have c:=(Yy L.2).1;simp only[dc,ey]at a;omega
theorem dy{f:Ut}(h:Asc none f.1.2):((WY f).map (·.1)).Nodup:=by
 unfold WY;rw[List.map_append,List.nodup_append];refine⟨ZV h,ZV (XP _ (dU _)),λa k b l e=> ?_⟩;obtain⟨y,d,g⟩:=ox.1 k;obtain⟨z,i,j⟩:=ox.1 l;have c:=(List.mem_filter.1 i).2;have:ba f.1.2 z=true:=gQ.2 ⟨y,d,by rw[g,j,e]⟩;rw[this]at c;cases c
theorem kB{b R:List TZ}(p:b.length<=1000){i:Nat}{e:TZ}(d:R[i]?=some e){γ:Type}{K:Nat×((Int×Bool)×Unit)->Option γ}{Q:Option γ}(c:∀ r:Nat×((Int×Bool)×Unit),r.2.1.2=ba b e->K r=Q) :
  bd (loop (β:=Nat×((Int×Bool)×Unit)) (λs2=>br (Sz s2.1 (b.length:Int)) (λ_=>br s2.2 (λ_=>some (.nx (SC .i64 s2.1 1,true))) λ_=>Rz s2.1 λg=>ix b g λn=>Rz (i:Int) λj=>ix R j λo=>some (.nx (SC .i64 s2.1 1,seq n.1 o.1))) λ_=>some (.dn ((0,(s2,()))))) (0,false)) K=Q:=by
 refine g9 (l:=b) (σ:=Bool) (λk h=>((k:Int),h)) (λm _ h=>(h||ba m e)=ba b e) (λr=>r.2.1.2=ba b e) false rfl (by omega) (by simp) ?_ ?_ c
 ·intro h a;exact⟨_,by simp only;rw[re];rfl,by simpa[ba]using a⟩
 ·intro k x m h q f c a;refine .inl ?_;simp only;rw[rl c,SW,TL,Ti (by omega)];cases h with
  |true=>
   rw[if_pos rfl];exact⟨true,rfl,by simpa using a⟩
  |false=>
   rw[if_neg (by simp),Ta,S4 f,Ta,S4 d];refine⟨seq x.1 e.1,rfl,?_⟩;rw[<- a];simp[ba]
theorem cw{f:Ut}(u:UY f=0)(hc:Uw f.2.1.2.flatten<=2000):W1 f=some (Wf f):=by
 obtain⟨I,v,J⟩:=Xm u;have j:=dE I;have B:=j.len;have A:=j.m2;have D:(LD f.2.1).length<=Uw f.2.1.2.flatten:=aO
 have y:(WY f).length<=2016:=by
  unfold WY;rw[gl];have:=hI (λe=> !ba f.1.2 e) (LD f.2.1);omega
 have s:=sv (dy (f:=f) j.asc);obtain⟨T,p⟩:∃ T,T=(WY f).foldl VN []:=⟨_,rfl⟩;rw[<- p]at s;have z:=s.len;have w:Wf f=T.filter UF:=by unfold Wf;rw[p]
 rw[w];unfold W1;simp only[Tf,Td];rw[Tk (by omega),sT v.lev,Sn];refine g9 (l:=LD f.2.1) (σ:=List TZ) (λi o=>(o,(i:Int))) (λm i o=>o++m.filter (λe=> !ba f.1.2 e)=WY f/\o.length<=16+i) (λ(r:Nat×((List TZ×Int)×Unit))=>r.2.1.1=WY f) f.1.2 rfl (by omega) ⟨rfl,by omega⟩ ?_ ?_ ?_
 ·rintro o ⟨a,h⟩;exact⟨_,by simp only;rw[re];rfl,by simpa using a⟩
 ·rintro i e m o C q hi ⟨a,h⟩;refine .inl ?_;simp only;rw[rl hi,SW]
  have key:∃ b,(br (He (ba f.1.2 e)) (λ_=>Rz (i:Int) λG=>ix (LD f.2.1) G λt=>gd (CF (BF o.length [t].length) 1048576) λ_=>some (LR.nx (β:=Nat×((List TZ×Int)×Unit)) (Ig o [t],SC .i64 (i:Int) 1))) λ_=>some (.nx (o,SC .i64 (i:Int) 1)))=some (LR.nx (b,((i+1:Nat):Int)))/\b++m.filter (λe=> !ba f.1.2 e)=WY f/\b.length<=16+(i+1):=by
   rw[sp]at a;rw[UI,TL,Ti (by omega)];cases d:ba f.1.2 e with
   |true=>
    rw[d,if_neg (by simp)]at a;rw[if_pos rfl];exact⟨o,rfl,a,by omega⟩
   |false=>
    rw[d,if_pos (by simp)]at a;rw[if_neg (by simp),Ta,S4 q,Tk (by simp[BF];omega)];exact⟨o++[e],rfl,by simpa using a,by simp;omega⟩
  obtain⟨b,E,F⟩:=key;refine⟨b,?_,F⟩;refine kB (by omega) q λr c=> ?_;rw[c];exact E
 ·intro r c;rw[c];refine km s (by omega) λr c=> ?_;rw[c];refine g9 (l:=T) (σ:=List TZ) (λk o=>((k:Int),o)) (λm k o=>o++m.filter UF=T.filter UF/\o.length<=k) (λ(r:Nat×((Int×List TZ)×Unit))=>r.2.1.2=T.filter UF) [] rfl (by omega) ⟨rfl,by simp⟩ ?_ ?_ ?_
  ·rintro o ⟨a,h⟩;exact⟨_,by simp only;rw[re];rfl,by simpa using a⟩
  ·rintro k x m o C d n ⟨a,h⟩;refine .inl ?_;simp only;rw[sp]at a;rw[rl n,SW,Ta,az n,S4 d,UI,TL,Ti (by omega)];cases g:x.2.2.1 with
   |true=>
    rw[if_neg (by unfold UF;rw[g];simp)]at a;rw[if_pos rfl];exact⟨o,rfl,a,by omega⟩
   |false=>
    rw[if_pos (by unfold UF;rw[g];simp)]at a;rw[if_neg (by simp),Ta,az n,S4 d,Tk (by simp[BF];omega)];exact⟨o++[x],rfl,by simpa using a,by simp;omega⟩
  ·intro r c;rw[c]
theorem sy{s:Tb}(v:VSt s)(q:s.2.2<=1000000)(b:(Vc s).2=0):(Wo s (Vc s).1).2.2=0:=by
 have f:(Tc s).2=0:=Tl.2 v;rcases bI v with h|h|h
 ·rw[h.1]at b;cases b
 ·rw[h]at b;cases b
 ·obtain⟨j,n,i,p,o,m,_⟩:=v.atDue h.2;unfold Wo;rw[if_neg (by simp[f]),i]
  have a:V9 s.1 j=true:=by
   have e:=h.1;unfold Vc at e;rw[if_neg (by simp[f]),if_neg (λc=>by rw[c]at h;cases h.2)]at e
   have l:(Vc s).1=(match Vo s (Tj 0 s.1.2)with|some d=>(d,(0:Int))|none=>(0,9)).1:=by
    unfold Vc;rw[if_neg (by simp[f]),if_neg (λc=>by rw[c]at h;cases h.2)];rfl
   cases k:Vo s (Tj 0 s.1.2)with
   |none=>rw[k]at e;cases e
   |some x=>
    rw[k]at l;have g:(Vc s).1=x:=l;obtain⟨_,_,_,b,_⟩:=Yq k;rw[g]at i;unfold W3 at b;rw[if_neg (by simp[f]),i]at b;exact b
  show(YN s j).2.2=0;unfold YN;rw[if_neg (by simp[a])];by_cases c:0<UD s.1 j
  ·rw[if_pos c]
  ·rw[if_neg c];unfold Zg;rw[if_neg (by simp[a];omega),if_neg (by omega)]
theorem ie{f:Ut}(g:UY f=0)(hc:Uw f.2.1.2.flatten<=2000)(h:f.2.2.2<=1000000)(d:(Vc f.2).2=0) :
  (Wo f.2 (Vc f.2).1).2.2=0/\UY (f.1,YF f.2)=0/\(YF f.2).2.2<=f.2.2.2+1/\Uw (YF f.2).1.2.flatten<=Uw f.2.1.2.flatten/\Wf (f.1,YF f.2)=Wf f:=by
 obtain⟨i,v,k⟩:=Xm g;have hs:=sy v h d;have G:Gd f.2 f.2:=⟨v,rfl,hc⟩;have e:YU f.2=0:=by unfold YU;rw[if_neg (by simp[d])];exact hs
 obtain⟨n,j,_,_,l,_,F,a⟩:=Yh G e
 have c:(YF f.2).1.1=f.2.1.1/\(YF f.2).2.2<=f.2.2.2+1:=by
  by_cases b:0<UD f.2.1 j
  ·rw[(F.read b).2.1];exact⟨rfl,by rw[(F.read b).2.2.1];omega⟩
  ·rw[(F.inst (by omega)).2.1,(F.inst (by omega)).2.2.1];refine⟨by unfold Vb;split<;>rfl,?_⟩;unfold YE;split<;>omega
 refine⟨hs,kA (dE i) a.1 (by show f.1.1=_;rw[c.1];exact k),c.2,(gW G (Nat.le_refl _) e).2,?_⟩;unfold Wf WY;show((f.1.2++(LD (YF f.2).1).filter λe=> !ba f.1.2 e).foldl VN []).filter UF=_;rw[a.2.1]
theorem gF{f:Ut}(g:UY f=0)(i:f.2.2.2<=1000000){x:TZ}(e:(ji f [x]).2.2=0):gY x x.2.2.1 (Wf f)=Wf (ji f [x]).1:=by
 obtain⟨_,_,_,h⟩:=gp g i e;obtain⟨a,b⟩:=ak x (d:=x.2.2.1) (cD f) (λ_ q j=>by cases j);refine cU a (cD _) λk=> ?_;rw[b,h];by_cases c:x.1=k
 ·rw[if_pos c,if_pos c,Option.filter_some];unfold UF;cases x.2.2.1<;>rfl
 ·rw[if_neg c,if_neg c]
theorem kn:U9 ()=some true:=by kernel_rfl
end
section
open Go Sv
abbrev tR:=((List TZ)×(Bool×(Int×(Int×((List TZ)×(Int×((List (List UA))×((List Job)×Int))))))))
def py(k:Nat)(f:Ut):tR:=(Wf f,(false,((k:Int),(f.1.1,(f.1.2,(f.2.1.1,(f.2.1.2,f.2.2)))))))
def gw(k:Nat)(f:Ut):Prop:=UY f=0/\f.2.2.2<=900000+2*(k:Int)/\Uw f.2.1.2.flatten<=720+16*k
theorem gZ{g:Ut}{k:Nat}(c:UY g=0)(n:g.2.2.2<=900001+2*(k:Int))(hc:Uw g.2.1.2.flatten<=736+16*k)(m:k<25) :
  ∃ e,gw (k+1) e/\(bd (VP g.2) λb=>br (OX b.2 0) (λ_=>bd (Ux (g.2,b.1)) λa=>br (Rw a.2.2 0) (λ_=>some (LR.dn (α:=tR) (β:=Nat×(tR×Unit)) ((0,((Wf g,(false,((k:Int),(g.1.1,(g.1.2,(g.2.1.1,(g.2.1.2,g.2.2))))))),()))))) λ_=>some (.nx ((Wf g,(false,(((k+1:Nat):Int),(g.1.1,(g.1.2,(a.1.1.1,(a.1.1.2,a.1.2)))))))))) λ_=>some (.nx ((Wf g,(false,(((k+1:Nat):Int),(g.1.1,(g.1.2,(g.2.1.1,(g.2.1.2,g.2.2))))))))))
   = some (.nx (py (k+1) e)):=by
 obtain⟨o,v,p⟩:=Xm c;have G:Gd g.2 g.2:=⟨v,rfl,by omega⟩;rw[(iU G).1,Sn,TD];by_cases d:(Vc g.2).2=0;rotate_left
 ·rw[if_neg d];exact⟨g,⟨c,by omega,by omega⟩,rfl⟩
 rw[if_pos d,(ko G _).1,Sn,TI];obtain⟨f,h,j,l,i⟩:=ie c (by omega) (by omega) d;rw[if_pos f];refine⟨(g.1,YF g.2),⟨h,by show(YF g.2).2.2<=_;omega,by show Uw (YF g.2).1.2.flatten<=_;omega⟩,?_⟩;unfold py;rw[i];rfl
theorem pressureFinds{x:Ut×List TZ}(U:x.2.length<=9223372036854775807):U3 x=some true:=by
 obtain⟨f,l⟩:=x;unfold U3;obtain⟨c,e,hc⟩:=iO f;obtain⟨G,e2,u⟩:=aR l;rw[e,Sn,kn];simp only[Tf,Td];cases c with
 |true=>rfl
 |false=>
  rw[R5,e2,Sn];cases G with
  |true=>rfl
  |false=>
   obtain⟨m,D,W⟩:=hc rfl;have F:=u rfl;rw[R5,TF];by_cases j:(l.length:Int)>25
   ·rw[if_pos j];rfl
   rw[if_neg j,TF];by_cases C:f.2.2.2>900000
   ·rw[if_pos C];rfl
   rw[if_neg C,ad m,Sn,TI];by_cases i:UY f=0;rotate_left
   ·rw[if_neg i];rfl
   have v:=(Xm i).2.1
   have S:Uw f.2.1.2.flatten<=720:=by
    have q:=j7 v.lev
    have d:=iB (l:=f.2.1.2.flatten) λr z=>by
     obtain⟨rs,P,D⟩:=List.mem_flatten.1 z;exact W rs P r D
    omega
   rw[if_pos i,cw i (by omega),Sn];refine g9 (l:=l) (σ:=Ut) py (λ_ k f=>gw k f) (λ(r:Nat×(tR×Unit))=>r.1=1 /\ ∃ (k:Nat) (g:Ut),r.2.1=py k g/\gw k g/\k<=25) f rfl U ⟨i,by omega,by omega⟩ ?_ ?_ ?_
   ·intro g w;refine⟨(1,(py l.length g,())),?_,rfl,l.length,g,rfl,w,by omega⟩;unfold py;simp only;rw[re,R5]
   ·intro k x ms g hd X E w;refine .inl ?_;obtain⟨h,g1,g2⟩:=w;obtain⟨_,vg,_⟩:=Xm h;have n:SC .i64 1000 (k:Int)=1000+(k:Int):=Sb (by omega);have hi:SC .i64 (k:Int) 1=((k+1:Nat):Int):=Ti (by omega);obtain⟨y,Y⟩:∃ y:TZ,y=(x.1,(x.2.1,(x.2.2.1,1000+(k:Int)))):=⟨_,rfl⟩;have o:∀ {R:Option (LR tR (Nat×(tR×Unit)))},(∃ b,gw (k+1) b/\R=some (.nx (py (k+1) b))) -> ∃ p,R=some (.nx (py (k+1) p))/\gw (k+1) p:=λ⟨b,q,d⟩=>⟨b,d,q⟩;refine o ?_;unfold py;simp only;rw[rl E,SW,Ta,S4 X,n,<- Y,hi];have O:UR (g,[y])=some (ji g [y]):=jp vg.sm (by simp)
    have a:(Wf g).length<=500000:=by
     unfold Wf;have q:=hI UF ((WY g).foldl VN []);have d:=YZ (WY g) [];have I:=hI (λe=> !ba g.1.2 e) (LD g.2.1);have J:=aO (L:=g.2.1);have K:=j9 h;have M:(WY g).length=g.1.2.length+((LD g.2.1).filter λe=> !ba g.1.2 e).length:=by unfold WY;rw[gl]
     simp only[dc,ey]at d;omega
    show ∃ b,gw (k+1) b/\(bd (UR (g,[y])) λr12=>_)=_;rw[O,Sn,TD];by_cases s:(ji g [y]).2.2=0
    ·obtain⟨w1,w2,w3,_⟩:=gp h (by omega) s;rw[if_pos s,p9 _ _ a,gF h (by omega) s,Sn];exact gZ w1 (by omega) (by omega) (by omega)
    ·rw[if_neg s];exact gZ h (by omega) (by omega) (by omega)
   ·rintro r ⟨r1,k,g,r2,⟨t,p1,p2⟩,E⟩;have Z:Sm g.2:=(Xm t).2.1.sm;rw[pY,if_neg (by omega),r2];have N:Vj g=some 0:=by rw[ad Z,t]
    show(bd (Vj g) λA=>br (OX A 0) (λ_=>bd (W1 g) λB=>bd (Vv (B,Wf g)) λr21=>_) λ_=>some false)=_;rw[N,Sn,TD,if_pos rfl,cw t (by omega),Sn]
    have a:(Wf g).length<=9223372036854775807:=by
     unfold Wf;have q:=hI UF ((WY g).foldl VN []);have d:=YZ (WY g) [];have I:=hI (λe=> !ba g.1.2 e) (LD g.2.1);have J:=aO (L:=g.2.1);have K:=j9 t;have M:(WY g).length=g.1.2.length+((LD g.2.1).filter λe=> !ba g.1.2 e).length:=by unfold WY;rw[gl]
     simp only[dc,ey]at d;omega
    rw[cr _ a,Sn,SW];rfl
theorem j0{x:Ut×List TZ}(h:RE [(true,.pair (.pair (.int .i64) (.sl true tE)) tJb),(false,.sl true tE)] x):U3 x=some true:=pressureFinds h.2.1
end
end Go.Proofs.YtggceepiljjadaaGreat.Pl
