/- Functions of the program and of the specification as plain functions, and laws about them. No condition. -/
import Derived.Test.YtoefnfbpoabinaaGreatDoorPl0
set_option linter.all false
open List renaming append_assoc->hM, append_nil->iP, drop_zero->tk, getElem?_eq_none->a9, getElem?_eq_some_iff->a8, getElem_mem->o5, head?_drop->o3, length_cons->dc, length_nil->eb, mem_cons->l4, mem_of_getElem?->bl, tail_drop->ns
open Nat renaming le_refl->ee, lt_of_not_le->nb
open Int renaming zero_add->x8
open Bool renaming and_eq_true->ox, false_eq_true->ll, or_eq_true->yk
open Option renaming some->zo, none->zn
open Bool renaming true->zt, false->zf
namespace Go.Proofs.YtoefnfbpoabinaaGreatDoor.Pl
section
open Go Sv
abbrev gR:=(Int×(Int×(Int×iv)))
def bmp(a:iv)(k l:Nat):iv:=
 (Uv (neq l 0) (TI .i64 (ID [a.1,a.2.1,a.2.2.1,a.2.2.2.1,a.2.2.2.2.1,a.2.2.2.2.2.1,a.2.2.2.2.2.2.1,a.2.2.2.2.2.2.2.1,a.2.2.2.2.2.2.2.2.1,a.2.2.2.2.2.2.2.2.2.1,a.2.2.2.2.2.2.2.2.2.2.1,a.2.2.2.2.2.2.2.2.2.2.2] k) 1) a.1,(Uv (neq l 1) (TI .i64 (ID [a.1,a.2.1,a.2.2.1,a.2.2.2.1,a.2.2.2.2.1,a.2.2.2.2.2.1,a.2.2.2.2.2.2.1,a.2.2.2.2.2.2.2.1,a.2.2.2.2.2.2.2.2.1,a.2.2.2.2.2.2.2.2.2.1,a.2.2.2.2.2.2.2.2.2.2.1,a.2.2.2.2.2.2.2.2.2.2.2] k) 1) a.2.1,(Uv (neq l 2) (TI .i64 (ID [a.1,a.2.1,a.2.2.1,a.2.2.2.1,a.2.2.2.2.1,a.2.2.2.2.2.1,a.2.2.2.2.2.2.1,a.2.2.2.2.2.2.2.1,a.2.2.2.2.2.2.2.2.1,a.2.2.2.2.2.2.2.2.2.1,a.2.2.2.2.2.2.2.2.2.2.1,a.2.2.2.2.2.2.2.2.2.2.2] k) 1) a.2.2.1,(Uv (neq l 3) (TI .i64 (ID [a.1,a.2.1,a.2.2.1,a.2.2.2.1,a.2.2.2.2.1,a.2.2.2.2.2.1,a.2.2.2.2.2.2.1,a.2.2.2.2.2.2.2.1,a.2.2.2.2.2.2.2.2.1,a.2.2.2.2.2.2.2.2.2.1,a.2.2.2.2.2.2.2.2.2.2.1,a.2.2.2.2.2.2.2.2.2.2.2] k) 1) a.2.2.2.1,(Uv (neq l 4) (TI .i64 (ID [a.1,a.2.1,a.2.2.1,a.2.2.2.1,a.2.2.2.2.1,a.2.2.2.2.2.1,a.2.2.2.2.2.2.1,a.2.2.2.2.2.2.2.1,a.2.2.2.2.2.2.2.2.1,a.2.2.2.2.2.2.2.2.2.1,a.2.2.2.2.2.2.2.2.2.2.1,a.2.2.2.2.2.2.2.2.2.2.2] k) 1) a.2.2.2.2.1,(Uv (neq l 5) (TI .i64 (ID [a.1,a.2.1,a.2.2.1,a.2.2.2.1,a.2.2.2.2.1,a.2.2.2.2.2.1,a.2.2.2.2.2.2.1,a.2.2.2.2.2.2.2.1,a.2.2.2.2.2.2.2.2.1,a.2.2.2.2.2.2.2.2.2.1,a.2.2.2.2.2.2.2.2.2.2.1,a.2.2.2.2.2.2.2.2.2.2.2] k) 1) a.2.2.2.2.2.1,(Uv (neq l 6) (TI .i64 (ID [a.1,a.2.1,a.2.2.1,a.2.2.2.1,a.2.2.2.2.1,a.2.2.2.2.2.1,a.2.2.2.2.2.2.1,a.2.2.2.2.2.2.2.1,a.2.2.2.2.2.2.2.2.1,a.2.2.2.2.2.2.2.2.2.1,a.2.2.2.2.2.2.2.2.2.2.1,a.2.2.2.2.2.2.2.2.2.2.2] k) 1) a.2.2.2.2.2.2.1,(Uv (neq l 7) (TI .i64 (ID [a.1,a.2.1,a.2.2.1,a.2.2.2.1,a.2.2.2.2.1,a.2.2.2.2.2.1,a.2.2.2.2.2.2.1,a.2.2.2.2.2.2.2.1,a.2.2.2.2.2.2.2.2.1,a.2.2.2.2.2.2.2.2.2.1,a.2.2.2.2.2.2.2.2.2.2.1,a.2.2.2.2.2.2.2.2.2.2.2] k) 1) a.2.2.2.2.2.2.2.1,(Uv (neq l 8) (TI .i64 (ID [a.1,a.2.1,a.2.2.1,a.2.2.2.1,a.2.2.2.2.1,a.2.2.2.2.2.1,a.2.2.2.2.2.2.1,a.2.2.2.2.2.2.2.1,a.2.2.2.2.2.2.2.2.1,a.2.2.2.2.2.2.2.2.2.1,a.2.2.2.2.2.2.2.2.2.2.1,a.2.2.2.2.2.2.2.2.2.2.2] k) 1) a.2.2.2.2.2.2.2.2.1,(Uv (neq l 9) (TI .i64 (ID [a.1,a.2.1,a.2.2.1,a.2.2.2.1,a.2.2.2.2.1,a.2.2.2.2.2.1,a.2.2.2.2.2.2.1,a.2.2.2.2.2.2.2.1,a.2.2.2.2.2.2.2.2.1,a.2.2.2.2.2.2.2.2.2.1,a.2.2.2.2.2.2.2.2.2.2.1,a.2.2.2.2.2.2.2.2.2.2.2] k) 1) a.2.2.2.2.2.2.2.2.2.1,(Uv (neq l 10) (TI .i64 (ID [a.1,a.2.1,a.2.2.1,a.2.2.2.1,a.2.2.2.2.1,a.2.2.2.2.2.1,a.2.2.2.2.2.2.1,a.2.2.2.2.2.2.2.1,a.2.2.2.2.2.2.2.2.1,a.2.2.2.2.2.2.2.2.2.1,a.2.2.2.2.2.2.2.2.2.2.1,a.2.2.2.2.2.2.2.2.2.2.2] k) 1) a.2.2.2.2.2.2.2.2.2.2.1,Uv (neq l 11) (TI .i64 (ID [a.1,a.2.1,a.2.2.1,a.2.2.2.1,a.2.2.2.2.1,a.2.2.2.2.2.1,a.2.2.2.2.2.2.1,a.2.2.2.2.2.2.2.1,a.2.2.2.2.2.2.2.2.1,a.2.2.2.2.2.2.2.2.2.1,a.2.2.2.2.2.2.2.2.2.2.1,a.2.2.2.2.2.2.2.2.2.2.2] k) 1) a.2.2.2.2.2.2.2.2.2.2.2)))))))))))
def YB(x:((List U7)×(List U7))):Option Bool:=
 br (Sx (K7 (AQ x.1)) (K7 (AQ x.2))) (λ_=>zo zf) λ_=>bd (loop (λs0=>br (UV s0.1 (K7 (AQ x.1))) (λ_=>S1 s0.1 λd=>ix x.1 d λa=>S1 s0.1 λe=>ix x.2 e λb=>br (IG (OM (seq a.1 b.1) (OM (seq a.2.1 b.2.1) (OM (beq a.2.2.1 b.2.2.1) (OM (PC a.2.2.2 b.2.2.2) zt))))) (λ_=>zo (.dn ((0,((s0.1,zf),()))))) λ_=>zo (.nx (TI .i64 s0.1 1,s0.2))) λ_=>zo (.dn ((1,(s0,()))))) (0,zf)) λc=>br (neq c.1 0) (λ_=>zo c.2.1.2) λ_=>zo zt
end
section
open Go Sv
def Ym(x:qF):Option (List U7):=
 gd (B2 (AQ x.1.2) 1048576) λ_=>bd (ZI x.2.1) λq=>bd (loop (λ(s1:((List U7)×Int))=>br (UV s1.2 (K7 (AQ q))) (λ_=>bd (loop (λs2=>br (UV s2.1 (K7 (AQ x.1.2))) (λ_=>br s2.2 (λ_=>zo (.nx (TI .i64 s2.1 1,zt))) λ_=>S1 s2.1 λD=>ix x.1.2 D λI=>S1 s1.2 λE=>ix q E λJ=>zo (.nx (TI .i64 s2.1 1,seq I.1 J.1))) λ_=>zo (.dn ((0,(s2,()))))) (0,zf)) λG=>br (IG G.2.1.2) (λ_=>S1 s1.2 λF=>ix q F λC=>gd (B2 (A0 (AQ s1.1) (AQ [C])) 1048576) λ_=>zo (.nx (If s1.1 [C],TI .i64 s1.2 1))) λ_=>zo (.nx (s1.1,TI .i64 s1.2 1))) λ_=>zo (.dn ((0,(s1,()))))) (x.1.2,0)) λb=>bd (loop (λ(d:(List U7))=>br (UV (K7 (AQ d)) (K7 (AQ b.2.1.1))) (λ_=>bd (loop (λa=>br (UV a.2 (K7 (AQ b.2.1.1))) (λ_=>br (PC (K7 (AQ d)) 0) (λ_=>br (UV a.1 0) (λ_=>zo (.nx (a.2,TI .i64 a.2 1))) λ_=>S1 a.2 λf=>gd (I8 f (AQ b.2.1.1)) λ_=>ix b.2.1.1 f λt=>S1 a.1 λg=>gd (I8 g (AQ b.2.1.1)) λ_=>ix b.2.1.1 g λu=>br (TZ t.1 u.1) (λ_=>zo (.nx (a.2,TI .i64 a.2 1))) λ_=>zo (.nx (a.1,TI .i64 a.2 1))) λ_=>S1 a.2 λh=>gd (I8 h (AQ b.2.1.1)) λ_=>ix b.2.1.1 h λw=>S1 (TM .i64 (K7 (AQ d)) 1) λi=>gd (I8 i (AQ d)) λ_=>ix d i λy=>br (TZ y.1 w.1) (λ_=>br (UV a.1 0) (λ_=>zo (.nx (a.2,TI .i64 a.2 1))) λ_=>S1 a.2 λj=>gd (I8 j (AQ b.2.1.1)) λ_=>ix b.2.1.1 j λz=>S1 a.1 λk=>gd (I8 k (AQ b.2.1.1)) λ_=>ix b.2.1.1 k λA=>br (TZ z.1 A.1) (λ_=>zo (.nx (a.2,TI .i64 a.2 1))) λ_=>zo (.nx (a.1,TI .i64 a.2 1))) λ_=>zo (.nx (a.1,TI .i64 a.2 1))) λ_=>zo (.dn ((0,(a,()))))) (((-1),0))) λr=>S1 r.2.1.1 λl=>gd (I8 l (AQ b.2.1.1)) λ_=>ix b.2.1.1 l λo=>gd (B2 (A0 (AQ d) (AQ [o])) 1048576) λ_=>zo (.nx (If d [o]))) λ_=>zo (.dn ((0,(d,()))))) []) λe=>bd (loop (λ(c:VU)=>br (UV c.1 (K7 (AQ e.2.1))) (λ_=>S1 c.1 λm=>gd (I8 m (AQ e.2.1)) λ_=>ix e.2.1 m λB=>br (IG B.2.2.1) (λ_=>S1 c.1 λn=>gd (I8 n (AQ e.2.1)) λ_=>ix e.2.1 n λp=>gd (B2 (A0 (AQ c.2) (AQ [p])) 1048576) λ_=>zo (.nx (TI .i64 c.1 1,If c.2 [p]))) λ_=>zo (.nx (TI .i64 c.1 1,c.2))) λ_=>zo (.dn ((0,(c,()))))) (0,[])) λs=>zo s.2.1.2
end
section
open Go Sv
def aG(x:qF):Option Bool:=
 bd (loop (λs0=>br (UV s0.1 (K7 (AQ x.1.2))) (λ_=>br (UV s0.1 25) (λ_=>S1 s0.1 λb=>ix x.1.2 b λe=>br (UT (K7 (NH e.1)) 100) (λ_=>zo (.dn ((0,((s0.1,zt),()))))) λ_=>S1 s0.1 λc=>ix x.1.2 c λf=>br (UT (K7 (NH f.2.1)) 100) (λ_=>zo (.dn ((0,((s0.1,zt),()))))) λ_=>zo (.nx (TI .i64 s0.1 1,s0.2))) λ_=>zo (.dn ((1,(s0,()))))) λ_=>zo (.dn ((1,(s0,()))))) (0,zf)) λa=>br (neq a.1 0) (λ_=>zo a.2.1.2) λ_=>bd (Yj x.2) λd=>br d (λ_=>zo zt) λ_=>zo (UT (K7 (AQ x.1.2)) 20)
def YU(_:Unit):Option Bool:=zo zt
end
section
open Go Sv
end
section
open Go Sv
def Xt(x:VA):Option ((List VU)×Int):=
 bd (WC x) λb=>br (Sx b.2.2 0) (λ_=>zo ([],b.2.2)) λ_=>bd (loop (λ(s1:(Int×(List VU)))=>br (UV s1.1 (K7 (AQ x.2))) (λ_=>S1 s1.1 λe=>ix x.2 e λc=>bd (loop (λ(a:(Int×(List VU)))=>br (Sw a.1 0) (λ_=>S1 a.1 λf=>ix c f λd=>gd (B2 (A0 (AQ a.2) (AQ [d])) 1048576) λ_=>zo (.nx (TM .i64 a.1 1,If a.2 [d]))) λ_=>zo (.dn ((0,(a,()))))) ((TM .i64 (K7 (AQ c)) 1,s1.2))) λg=>zo (.nx (TI .i64 s1.1 1,g.2.1.2))) λ_=>zo (.dn ((0,(s1,()))))) (0,[])) λh=>zo (h.2.1.2,0)
def V0(x:U7):Option Bool:=
 zo x.2.2.1
def YG(x:qF):Option ((List U7)×Int):=
 bd (Xt x.2.1) λA=>br (Sx A.2 0) (λ_=>zo ([],A.2)) λ_=>bd (loop (λ(s1:(Int×((List VI)×(List U7))))=>br (UV s1.1 (K7 (AQ x.1.2))) (λ_=>S1 s1.1 λY=>ix x.1.2 Y λB=>br (IG (TS (Mx ((λS=>(λU=>seq S U))) s1.2.1 B.1) zf)) (λ_=>gd (B2 (A0 (AQ s1.2.2) (AQ [B])) 1048576) λ_=>zo (.nx ((TI .i64 s1.1 1,(Iq ((λW=>(λX=>seq W X))) s1.2.1 B.1 zt,If s1.2.2 [B]))))) λ_=>zo (.nx (TI .i64 s1.1 1,s1.2))) λ_=>zo (.dn ((0,(s1,()))))) ((0,([],[])))) λZ=>bd (loop (λ(u:(Int×((List VI)×(List U7))))=>br (UV u.1 (K7 (AQ A.1))) (λ_=>S1 u.1 λG=>ix A.1 G λw=>bd (loop (λ(g:(Int×((List VI)×(List U7))))=>br (UV g.1 (K7 (AQ w.2))) (λ_=>S1 g.1 λI=>ix w.2 I λm=>br (IG (TS (Mx ((λC=>(λD=>seq C D))) g.2.1 m.1) zf)) (λ_=>gd (B2 (A0 (AQ g.2.2) (AQ [m])) 1048576) λ_=>zo (.nx ((TI .i64 g.1 1,(Iq ((λE=>(λF=>seq E F))) g.2.1 m.1 zt,If g.2.2 [m]))))) λ_=>zo (.nx (TI .i64 g.1 1,g.2))) λ_=>zo (.dn ((0,(g,()))))) (0,u.2)) λJ=>zo (.nx (TI .i64 u.1 1,J.2.1.2))) λ_=>zo (.dn ((0,(u,()))))) (0,Z.2.1.2)) λj=>bd (loop (λk=>br (UV k.2 (K7 (AQ j.2.1.2.2))) (λ_=>S1 k.2 λp=>gd (I8 p (AQ j.2.1.2.2)) λ_=>ix j.2.1.2.2 p λP=>bd (V0 P) λK=>br K (λ_=>zo (.dn ((0,((k.2,k.2),()))))) λ_=>zo (.nx (k.1,TI .i64 k.2 1))) λ_=>zo (.dn ((1,(k,()))))) (0,0)) λl=>br (neq l.1 0) (λ_=>br (PC l.2.1.1 (-1)) (λ_=>bd (Rr j.2.1.2.2) λL=>zo (L,0)) λ_=>bd (loop (λ(e:(Int×VU))=>br (UV e.2.1 (K7 (AQ e.2.2))) (λ_=>S1 e.2.1 λq=>gd (I8 q (AQ e.2.2)) λ_=>ix e.2.2 q λy=>bd (V0 y) λM=>br (IG M) (λ_=>S1 e.1 λn=>gd (I8 n (AQ e.2.2)) λ_=>ix e.2.2 n λx32=>zo (.nx ((TI .i64 e.1 1,(TI .i64 e.2.1 1,lset e.2.2 n y))))) λ_=>zo (.nx ((e.1,(TI .i64 e.2.1 1,e.2.2))))) λ_=>zo (.dn ((0,(e,()))))) ((l.2.1.1,(TI .i64 l.2.1.1 1,j.2.1.2.2)))) λa=>S1 a.2.1.1 λc=>gd (B2 (AQ a.2.1.2.2) (AQ a.2.1.2.2)) λ_=>gd (B2 c (AQ a.2.1.2.2)) λ_=>br (I8 c (AQ a.2.1.2.2)) (λ_=>gd (B2 (A0 c (QC (AQ a.2.1.2.2) c)) (AQ a.2.1.2.2)) λ_=>S1 a.2.1.1 λh=>gd (B2 h (AQ (Ey a.2.1.2.2 c (Ot (QC (AQ a.2.1.2.2) c) ((([],([],(zf,0))):U7))) (QC (AQ a.2.1.2.2) c)))) λ_=>gd (B2 0 h) λ_=>br (I8 0 (AQ (Ey a.2.1.2.2 c (Ot (QC (AQ a.2.1.2.2) c) ((([],([],(zf,0))):U7))) (QC (AQ a.2.1.2.2) c)))) (λ_=>gd (B2 (A0 0 (QC h 0)) (AQ (Ey a.2.1.2.2 c (Ot (QC (AQ a.2.1.2.2) c) ((([],([],(zf,0))):U7))) (QC (AQ a.2.1.2.2) c)))) λ_=>bd (Rr (DV (Ey a.2.1.2.2 c (Ot (QC (AQ a.2.1.2.2) c) ((([],([],(zf,0))):U7))) (QC (AQ a.2.1.2.2) c)) 0 (A0 0 (QC h 0)))) λs=>gd (B2 (A0 0 (QC h 0)) (AQ (Ey (Ey a.2.1.2.2 c (Ot (QC (AQ a.2.1.2.2) c) ((([],([],(zf,0))):U7))) (QC (AQ a.2.1.2.2) c)) 0 s (QC h 0)))) λ_=>zo ((DV (Ey (Ey a.2.1.2.2 c (Ot (QC (AQ a.2.1.2.2) c) ((([],([],(zf,0))):U7))) (QC (AQ a.2.1.2.2) c)) 0 s (QC h 0)) 0 (A0 0 (QC h 0)),0))) λ_=>zn) λ_=>zn) λ_=>br (PC (-1) (-1)) (λ_=>bd (Rr j.2.1.2.2) λN=>zo (N,0)) λ_=>bd (loop (λ(f:(Int×VU))=>br (UV f.2.1 (K7 (AQ f.2.2))) (λ_=>S1 f.2.1 λr=>gd (I8 r (AQ f.2.2)) λ_=>ix f.2.2 r λz=>bd (V0 z) λO=>br (IG O) (λ_=>S1 f.1 λo=>gd (I8 o (AQ f.2.2)) λ_=>ix f.2.2 o λx43=>zo (.nx ((TI .i64 f.1 1,(TI .i64 f.2.1 1,lset f.2.2 o z))))) λ_=>zo (.nx ((f.1,(TI .i64 f.2.1 1,f.2.2))))) λ_=>zo (.dn ((0,(f,()))))) (((-1),(TI .i64 (-1) 1,j.2.1.2.2)))) λb=>S1 b.2.1.1 λd=>gd (B2 (AQ b.2.1.2.2) (AQ b.2.1.2.2)) λ_=>gd (B2 d (AQ b.2.1.2.2)) λ_=>br (I8 d (AQ b.2.1.2.2)) (λ_=>gd (B2 (A0 d (QC (AQ b.2.1.2.2) d)) (AQ b.2.1.2.2)) λ_=>S1 b.2.1.1 λi=>gd (B2 i (AQ (Ey b.2.1.2.2 d (Ot (QC (AQ b.2.1.2.2) d) ((([],([],(zf,0))):U7))) (QC (AQ b.2.1.2.2) d)))) λ_=>gd (B2 0 i) λ_=>br (I8 0 (AQ (Ey b.2.1.2.2 d (Ot (QC (AQ b.2.1.2.2) d) ((([],([],(zf,0))):U7))) (QC (AQ b.2.1.2.2) d)))) (λ_=>gd (B2 (A0 0 (QC i 0)) (AQ (Ey b.2.1.2.2 d (Ot (QC (AQ b.2.1.2.2) d) ((([],([],(zf,0))):U7))) (QC (AQ b.2.1.2.2) d)))) λ_=>bd (Rr (DV (Ey b.2.1.2.2 d (Ot (QC (AQ b.2.1.2.2) d) ((([],([],(zf,0))):U7))) (QC (AQ b.2.1.2.2) d)) 0 (A0 0 (QC i 0)))) λt=>gd (B2 (A0 0 (QC i 0)) (AQ (Ey (Ey b.2.1.2.2 d (Ot (QC (AQ b.2.1.2.2) d) ((([],([],(zf,0))):U7))) (QC (AQ b.2.1.2.2) d)) 0 t (QC i 0)))) λ_=>zo ((DV (Ey (Ey b.2.1.2.2 d (Ot (QC (AQ b.2.1.2.2) d) ((([],([],(zf,0))):U7))) (QC (AQ b.2.1.2.2) d)) 0 t (QC i 0)) 0 (A0 0 (QC i 0)),0))) λ_=>zn) λ_=>zn
def YF(x:qF):Option ((List U7)×Int):=
 bd (WQ x) λa=>br (Sx a 0) (λ_=>zo ([],a)) λ_=>bd (YG x) λb=>zo b
def Ye(x:qF):Option ((List U7)×Int):=
 bd (Xp x) λa=>br (Sx a 0) (λ_=>zo ([],a)) λ_=>bd (Ym x) λb=>zo (b,0)
def X6(x:(Int×Int)):Option (Int×Int):=
 br (UV x.2 0) (λ_=>zo (0,7)) λ_=>bd (loop (λs0=>br (UV s0.2.2 12) (λ_=>bd (Xk (x.1,s0.2.2)) λa=>br (Sx a.2 0) (λ_=>zo (.dn ((0,((a.2,(0,s0.2.2)),()))))) λ_=>br (UU x.2 a.1) (λ_=>zo (.dn ((0,((0,(s0.2.2,s0.2.2)),()))))) λ_=>zo (.nx ((s0.1,(s0.2.2,TI .i64 s0.2.2 1))))) λ_=>zo (.dn ((1,(s0,()))))) ((0,(0,0)))) λb=>br (neq b.1 0) (λ_=>zo (b.2.1.2.1,b.2.1.1)) λ_=>zo (0,3)
def We(x:U7):Option Bool:=
 zo x.2.2.1
def W2(x:qF):Option (Bool×Int):=
 bd (WQ x) λe=>br (Sx e 0) (λ_=>zo (zf,e)) λ_=>br (UT (K7 (AQ x.1.2)) 0) (λ_=>zo (zf,0)) λ_=>br (UT (K7 (AQ x.2.2.1)) 0) (λ_=>zo (zf,0)) λ_=>bd (XS x.2.1) λa=>br (Sx a.2.2 0) (λ_=>br (PC a.2.2 0) (λ_=>zo (PC a.2.1 0,a.2.2)) λ_=>zo (zf,a.2.2)) λ_=>br (Sx a.2.1 1) (λ_=>br (PC a.2.2 0) (λ_=>zo (PC a.2.1 0,a.2.2)) λ_=>zo (zf,a.2.2)) λ_=>bd (X6 (x.2.1.1,a.1)) λd=>S1 (TM .i64 (K7 (AQ x.2.1.2)) 1) λg=>ix x.2.1.2 g λj=>ix j 0 λf=>bd (loop (λb=>br (UV b.2 (K7 (AQ f.2))) (λ_=>S1 b.2 λh=>ix f.2 h λk=>bd (We k) λi=>br i (λ_=>zo (.dn ((0,((b.2,b.2),()))))) λ_=>zo (.nx (b.1,TI .i64 b.2 1))) λ_=>zo (.dn ((1,(b,()))))) (0,0)) λc=>br (neq c.1 0) (λ_=>br (PC d.2 0) (λ_=>br (PC d.1 (TM .i64 (K7 (AQ x.2.1.2)) 1)) (λ_=>zo ((IG (Sw c.2.1.1 0),0))) λ_=>zo (zf,0)) λ_=>zo (zf,0)) λ_=>br (PC d.2 0) (λ_=>br (PC d.1 (TM .i64 (K7 (AQ x.2.1.2)) 1)) (λ_=>zo ((IG (Sw (-1) 0),0))) λ_=>zo (zf,0)) λ_=>zo (zf,0)
def Yd(x:(Int×Int)):Option (Int×Int):=
 br (UV x.1 1) (λ_=>zo (0,7)) λ_=>br (UT x.1 16) (λ_=>zo (0,7)) λ_=>br (UV x.2 0) (λ_=>zo (0,7)) λ_=>bd (loop (λs0=>br (UV s0.2.2 12) (λ_=>bd (W1 (x.1,s0.2.2)) λb=>br (UU x.2 b) (λ_=>zo (.dn ((0,((0,(s0.2.2,s0.2.2)),()))))) λ_=>zo (.nx ((s0.1,(s0.2.1,TI .i64 s0.2.2 1))))) λ_=>zo (.dn ((1,(s0,()))))) ((0,(0,0)))) λa=>br (neq a.1 0) (λ_=>zo (a.2.1.2.1,a.2.1.1)) λ_=>zo (0,3)
def XI(x:qF):Option (Bool×Int):=
 bd (Xp x) λb=>br (Sx b 0) (λ_=>zo (zf,b)) λ_=>br (UT (K7 (AQ x.1.2)) 0) (λ_=>zo (zf,0)) λ_=>br (UT (K7 (AQ x.2.2.1)) 0) (λ_=>zo (zf,0)) λ_=>bd (Yc x.2.1) λa=>br (PC a.2.1 0) (λ_=>zo (zt,0)) λ_=>bd (Yd (x.2.1.1,a.1)) λc=>br (PC a.2.1 1) (λ_=>br (PC c.2 0) (λ_=>br (PC c.1 (TM .i64 (K7 (AQ x.2.1.2)) 1)) (λ_=>bd (Ym x) λd=>zo ((PC (K7 (AQ d)) a.1,0))) λ_=>zo (zf,0)) λ_=>zo (zf,0)) λ_=>zo (zf,0)
def WB(x:qF):Option Bool:=
 bd (aG x) λe=>br e (λ_=>bd (YU ()) λf=>zo f) λ_=>bd (YF x) λa=>bd (Ye x) λb=>bd (W2 x) λc=>bd (XI x) λd=>bd (YB (a.1,b.1)) λg=>br g (λ_=>br (PC a.2 b.2) (λ_=>br (beq c.1 d.1) (λ_=>br (PC c.2 d.2) (λ_=>bd (YU ()) λh=>zo h) λ_=>zo zf) λ_=>zo zf) λ_=>zo zf) λ_=>zo zf
end
section
open Go Sv
abbrev XN:=List UInt8
theorem bO(a:XN):TZ a []=zf:=by unfold TZ;cases a<;>rfl
theorem eR(b:UInt8)(y:XN):TZ [] (b::y)=zt:=rfl
theorem Zk(a b:UInt8)(x y:XN):TZ (a::x) (b::y)=(decide (a<b)||(a == b&&TZ x y)):=rfl
theorem WV:∀ a:XN,TZ a a=zf
 |[]=>rfl
 |a::x=>by rw[Zk,WV x];simp
theorem WR:∀ {a b c:XN},TZ a b=zt->TZ b c=zt->TZ a c=zt
 |[],b,[],e,d=>by rw[bO]at d;cases d
 |[],b,c::z,_,_=>rfl
 |a::x,[],c,e,_=>by rw[bO]at e;cases e
 |a::x,b::y,[],_,d=>by rw[bO]at d;cases d
 |a::x,b::y,c::z,e,d=>by
  rw[Zk]at e d ⊢;simp only[yk,decide_eq_true_eq,ox,beq_iff_eq]at e d ⊢;rcases e with e|⟨rfl,e⟩
  ·rcases d with d|⟨rfl,d⟩
   ·exact .inl (UInt8.lt_trans e d)
   ·exact .inl e
  ·rcases d with d|⟨rfl,d⟩
   ·exact .inl d
   ·exact .inr ⟨rfl,WR e d⟩
theorem Z3:∀ a b:XN,TZ a b=zt\/a=b\/TZ b a=zt
 |[],[]=>.inr (.inl rfl)
 |[],_::_=>.inl rfl
 |_::_,[]=>.inr (.inr rfl)
 |a::x,b::y=>by
  rw[Zk,Zk];simp only[yk,decide_eq_true_eq,ox,beq_iff_eq,List.cons.injEq];rcases UInt8.lt_or_lt_of_ne (a:=a) (b:=b) |> λh=>Classical.em (a=b) |>.imp id h with h|h|h
  ·subst h;rcases Z3 x y with h|h|h
   ·exact .inl (.inr ⟨rfl,h⟩)
   ·exact .inr (.inl ⟨rfl,h⟩)
   ·exact .inr (.inr (.inr ⟨rfl,h⟩))
  ·exact .inl (.inl h)
  ·exact .inr (.inr (.inl h))
theorem V2{a b:XN}(h:TZ a b=zt):TZ b a=zf:=by
 cases c:TZ b a with
 |false=>rfl
 |true=>have:=WR h c;rw[WV]at this;cases this
theorem ZW{a b:XN}(h:TZ a b=zt):a≠b:=λe=>by subst e;rw[WV]at h;cases h
theorem Z1{a b:XN}(h:TZ a b=zf)(c:a≠b):TZ b a=zt:=by
 rcases Z3 a b with h1|h1|h1
 ·rw[h]at h1;cases h1
 ·exact absurd h1 c
 ·exact h1
theorem dG{a b c:XN}(h:TZ b a=zf)(d:TZ b c=zt):TZ a c=zt:=by
 rcases Z3 a b with h1|h1|h1
 ·exact WR h1 d
 ·subst h1;exact d
 ·rw[h]at h1;cases h1
theorem gH{a b c:XN}(h:TZ a b=zt)(d:TZ c b=zf):TZ a c=zt:=by
 rcases Z3 b c with h1|h1|h1
 ·exact WR h h1
 ·subst h1;exact h
 ·rw[d]at h1;cases h1
theorem cM{a b:XN}:seq a b=zt<->a=b:=by unfold seq;simp
theorem Zx(a b:XN):seq a b=decide (a=b):=by
 cases h:seq a b with
 |true=>rw[cM]at h;simp[h]
 |false=>
  have:¬ a=b:=λe=>by rw[<- cM]at e;rw[h]at e;cases e
  simp[this]
section
variable{α β σ S:Type}
theorem XE(a b:XN)(x y:Unit->Option β):br (seq a b) x y=if a=b then x ()else y ():=J0 cM x y
theorem YM(a b:XN)(x y:Unit->Option β):br (TZ a b) x y=if TZ a b=zt then x ()else y ():=J0 Iff.rfl x y
theorem WK(p:Prop)[Decidable p](x y:Unit->Option β):br (decide p) x y=if p then x ()else y ():=J0 (by simp) x y
theorem U8(k:Nat)(c:Nat->Option β):S1 (k:Int) c=c k:=by rw[Tu (by omega)];simp
theorem vp{l:List α}{k:Nat}{x:α}(h:l[k]?=zo x):UV (k:Int) (K7 (AQ l))=zt:=by
 have:=(a8.1 h).1;unfold UV K7 AQ;simp;omega
theorem ri(l:List α):UV (l.length:Int) (K7 (AQ l))=zf:=by unfold UV K7 AQ;simp
theorem VD{k:Nat}(h:k+1<=9223372036854775807):TI .i64 (k:Int) 1=((k+1:Nat):Int):=by
 rw[To (by omega)];omega
theorem VH{l:List α}{k:Nat}{x:α}(h:l[k]?=zo x)(a:l.length<=9223372036854775807):TI .i64 (k:Int) 1=((k+1:Nat):Int):=by
 have:=(a8.1 h).1;exact VD (by omega)
def cm(step:Nat->α->σ->Option (LR σ β))(fin:σ->Option β):List α->Nat->σ->Option β
 |[],_,s=>fin s
 |x::l,k,s=>match step k x s with
  |none=>zn
  |some (.nx s')=>cm step fin l (k+1) s'
  |some (.dn b)=>zo b
def upS(mk:σ->S):Option (LR σ β)->Option (LR S β)
 |none=>zn
 |some (.nx s)=>zo (.nx (mk s))
 |some (.dn b)=>zo (.dn b)
def wv:Option β->Option (LR S β)
 |none=>zn
 |some b=>zo (.dn b)
theorem gh{l:List α}{mk:Nat->σ->S}{f:S->Option (LR S β)}{step:Nat->α->σ->Option (LR σ β)}{fin:σ->Option β}
  (hs:∀ k x a,l[k]?=zo x->f (mk k a)=upS (mk (k+1)) (step k x a)) (i:∀ a,f (mk l.length a)=wv (fin a)) :
  ∀ (d n k:Nat) (a:σ),l.length-k=d->k<=l.length->d<n->Ih n f (mk k a)=cm step fin (l.drop k) k a:=by
 intro d
 induction d with
 |zero=>
  intro n k a e g h;have c:k=l.length:=by omega
  obtain⟨m,rfl⟩:∃ m,n=m+1:=⟨n-1,by omega⟩;subst c;unfold Ih;rw[i,List.drop_length];unfold wv cm;cases fin a<;>rfl
 |succ d o=>
  intro n k a e g h;obtain⟨m,rfl⟩:∃ m,n=m+1:=⟨n-1,by omega⟩;have c:k<l.length:=by omega
  have j:l[k]?=zo l[k]:=by simp[c]
  unfold Ih;rw[hs k _ a j,List.drop_eq_getElem_cons c]
  show _=match step k l[k] a with
   |none=>zn
   |some (.nx s')=>cm step fin (l.drop (k+1)) (k+1) s'
   |some (.dn b)=>zo b
  cases step k l[k] a with
  |none=>rfl
  |some r=>cases r with
   |nx s'=>exact o m (k+1) s' (by omega) (by omega) (by omega)
   |dn b=>rfl
theorem jo{l:List α}(mk:Nat->σ->S)(step:Nat->α->σ->Option (LR σ β))(fin:σ->Option β){f:S->Option (LR S β)}{s:S}(a:σ)(b:s=mk 0 a)(d:l.length<=9223372036854775807)
  (hs:∀ k x a,l[k]?=zo x->f (mk k a)=upS (mk (k+1)) (step k x a)) (c:∀ a,f (mk l.length a)=wv (fin a)) :
  loop f s=cm step fin l 0 a:=by
 subst b;have:=gh hs c l.length 18446744073709551616 0 a (by omega) (by omega) (by omega);rw[tk]at this;exact this
theorem ff{f:α->Option (LR α β)}{x:β}:∀ {n m:Nat} {s:α},n<=m->Ih n f s=zo x->Ih m f s=zo x
 |0,_,_,_,h=>by cases h
 |n+1,0,_,hl,_=>by omega
 |n+1,m+1,s,hl,h=>by
  unfold Ih at h ⊢;split at h
  ·cases h
  ·rename_i s' e;exact ff (by omega) h
  ·exact h
theorem WY{f:α->Option (LR α β)}{x:β}{n:Nat}{s:α}(a:n<=18446744073709551616)(h:Ih n f s=zo x):loop f s=zo x:=ff a h
theorem Vi{f:α->Option (LR α β)}{n:Nat}{s s':α}(h:f s=zo (.nx s')):Ih (n+1) f s=Ih n f s':=by
 show(match f s with
  |none=>zn
  |some (.nx s)=>Ih n f s
  |some (.dn x)=>zo x)=_
 rw[h]
theorem Vr{f:α->Option (LR α β)}{n:Nat}{s:α}{x:β}(h:f s=zo (.dn x)):Ih (n+1) f s=zo x:=by
 show(match f s with
  |none=>zn
  |some (.nx s)=>Ih n f s
  |some (.dn x)=>zo x)=_
 rw[h]
theorem bL{f:S -> Option (LR S β)}{r:β}(mk:Nat -> S)(n:Nat){s:S}(h0:s=mk 0)(hn:n < 18446744073709551616)(hs:∀ k,k < n -> f (mk k)=zo (.nx (mk (k + 1))))(he:f (mk n)=zo (.dn r)):loop f s=zo r:=by
  subst h0
  have:∀ d k,k + d=n -> Ih (d + 1) f (mk k)=zo r:=by
    intro d
    induction d with
    | zero => intro k hk; have : k = n := by omega
              subst this;exact Vr he
    |succ d ih=>intro k hk;rw[Vi (hs k (by omega))];exact ih (k + 1) (by omega)
  exact WY (n:=n + 1) (by omega) (this n 0 (by omega))
end
end
section
open Go Sv
def kE(x:U7):Int:=if x.1.length>32\/x.2.1.length>64 then 3 else if x.2.2.1=zt/\x.2.1≠[]then 6 else if x.2.2.2<1\/x.2.2.2>1000000000 then 7 else 0
def Z5:Option XN->Nat->List U7->Int×Int
 |_,_,[]=>(0,0)
 |p,k,x::l=>if kE x≠0 then((k:Int),kE x)else match p with
  |some q=>if TZ q x.1=zt then Z5 (zo x.1) (k+1) l else((k:Int),6)
  |none=>Z5 (zo x.1) (k+1) l
def XO(l:List U7):Int×Int:=if l.length>5000 then(-1,3)else Z5 zn 0 l
def Asc:Option XN->List U7->Prop
 |_,[]=>True
 |p,x::l=>(∀ q,p=zo q->TZ q x.1=zt)/\Asc (zo x.1) l
theorem cE:∀ {p k l},(Z5 p k l).2=0<->(∀ x∈l,kE x=0)/\Asc p l
 |p,k,[]=>by simp[Z5,Asc]
 |p,k,x::l=>by
  unfold Z5;by_cases h:kE x=0
  ·rw[zx (by simp[h])];cases p with
   |none=>
    simp only[cE (p:=some x.1) (l:=l),Asc,l4,forall_eq_or_imp];constructor
    ·rintro⟨a,b⟩;exact⟨⟨h,a⟩,(λq c=>by cases c),b⟩
    ·rintro⟨⟨_,a⟩,_,b⟩;exact⟨a,b⟩
   |some q=>
    simp only;by_cases c:TZ q x.1=zt
    ·rw[zy c];simp only[cE (p:=some x.1) (l:=l),Asc,l4,forall_eq_or_imp];constructor
     ·rintro⟨a,b⟩;exact⟨⟨h,a⟩,(λe d=>by cases d;exact c),b⟩
     ·rintro⟨⟨_,a⟩,_,b⟩;exact⟨a,b⟩
    ·rw[zx c];constructor
     ·intro h;cases h
     ·rintro⟨_,b⟩;exact absurd (b.1 q rfl) c
  ·rw[zy h];constructor
   ·intro h';exact absurd h' h
   ·rintro⟨a,_⟩;exact absurd (a x (by simp)) h
theorem bS:∀ {p k l},(Z5 p k l).2=0->Z5 p k l=(0,0)
 |p,k,[],_=>rfl
 |p,k,x::l,h=>by
  unfold Z5 at h ⊢;by_cases a:kE x=0
  ·rw[zx (by simp[a])]at h ⊢;cases p with
   |none=>exact bS h
   |some q=>
    simp only at h ⊢;by_cases b:TZ q x.1=zt
    ·rw[zy b]at h ⊢;exact bS h
    ·rw[zx b]at h;cases h
  ·rw[zy a]at h;exact absurd h a
structure VL (l:List U7):Prop where
 len:l.length<=5000
 ok:∀ x∈l,kE x=0
 asc:Asc zn l
theorem bT{l:List U7}:(XO l).2=0<->VL l:=by
 unfold XO;by_cases h:l.length>5000
 ·rw[zy h];constructor
  ·intro h;cases h
  ·intro h';have:=h'.len;omega
 ·rw[zx h];rw[cE];exact⟨λ⟨a,b⟩=>⟨by omega,a,b⟩,λh=>⟨h.ok,h.asc⟩⟩
theorem Z9{l:List U7}(h:VL l):XO l=(0,0):=by
 have a:=bT.2 h;unfold XO at a ⊢;rw[zx (by have:=h.len;omega)]at a ⊢;exact bS a
theorem Asc.lt:∀ {p:Option XN} {l:List U7},Asc p l -> ∀ {i:Nat} {x y:U7},l[i]?=zo x->l[i+1]?=zo y->TZ x.1 y.1=zt
 |p,x::[],_,0,_,_,_,h2=>by simp at h2
 |p,a::b::l,h,0,x,y,h1,h2=>by
  simp at h1 h2;subst h1;subst h2;exact h.2.1 _ rfl
 |p,a::l,h,i+1,x,y,h1,h2=>by
  simp at h1 h2;exact Asc.lt h.2 h1 h2
theorem VL.lt{l:List U7}(h:VL l){i:Nat}{x y:U7}(a:l[i]?=zo x)(b:l[i+1]?=zo y):TZ x.1 y.1=zt:=h.asc.lt a b
def kx(l:List U7)(i:Nat):VI:=match l[i]? with
 |some x=>(x.1,zf)
 |none=>([],zt)
def w0(p q:VI):Bool:=if p.2≠q.2 then q.2 else if p.1≠q.1 then TZ p.1 q.1 else zt
def Y9(a b:List U7)(i j:Nat):Bool:=w0 (kx a i) (kx b j)
def pos(a b:List U7):Nat->Nat×Nat
 |0=>(0,0)
 |n+1=>if Y9 a b (pos a b n).1 (pos a b n).2=zt then((pos a b n).1+1,(pos a b n).2)else((pos a b n).1,(pos a b n).2+1)
def bx(a b:List U7)(n:Nat):Option U7:=if Y9 a b (pos a b n).1 (pos a b n).2=zt then a[(pos a b n).1]? else b[(pos a b n).2]?
structure Inv (a b:List U7) (i j:Nat):Prop where
 ia:i<=a.length
 jb:j<=b.length
 pa:∀ i',i=i'+1 -> ∀ x y,a[i']?=zo x->b[j]?=zo y->TZ y.1 x.1=zf
 pb:∀ j',j=j'+1 -> ∀ x y,b[j']?=zo x->a[i]?=zo y->TZ x.1 y.1=zt
theorem cc{a b:List U7}{i j:Nat}{x y:U7}(c:a[i]?=zo x)(d:b[j]?=zo y):Y9 a b i j = !TZ y.1 x.1:=by
 unfold Y9 w0 kx;rw[c,d];simp only[ne_eq,not_true,if_false];by_cases h:x.1=y.1
 ·rw[zx (by simp[h]),h,WV];rfl
 ·rw[zy h];cases hs:TZ x.1 y.1 with
  |true=>rw[V2 hs];rfl
  |false=>rw[Z1 hs h];rfl
theorem jA{a b:List U7}{i j:Nat}{x:U7}(c:a[i]?=zo x)(d:b[j]?=zn):Y9 a b i j=zt:=by
 unfold Y9 w0 kx;rw[c,d];rfl
theorem jB{a b:List U7}{i j:Nat}{y:U7}(c:a[i]?=zn)(d:b[j]?=zo y):Y9 a b i j=zf:=by
 unfold Y9 w0 kx;rw[c,d];rfl
theorem fV{a b:List U7}{i j:Nat}(c:a[i]?=zn)(d:b[j]?=zn):Y9 a b i j=zt:=by
 unfold Y9 w0 kx;rw[c,d];rfl
theorem Inv.zero(a b:List U7):Inv a b 0 0:=⟨by omega,by omega,λ_ h=>by omega,λ_ h=>by omega⟩
theorem Inv.stepA{a b:List U7}(va:VL a){i j:Nat}(h:Inv a b i j){x:U7}(c:a[i]?=zo x)(g:Y9 a b i j=zt):Inv a b (i+1) j:=by
 have hi:=(a8.1 c).1;refine⟨by omega,h.jb,λl e k y d f=> ?_,λj' e k y d f=> ?_⟩
 ·have:l=i:=by omega
  subst this;rw[c]at d;cases d;rw[cc c f]at g;simpa using g
 ·exact WR (h.pb j' e k x d c) (va.lt c f)
theorem Inv.stepB{a b:List U7}(n:VL b){i j:Nat}(h:Inv a b i j){y:U7}(c:b[j]?=zo y)(g:Y9 a b i j=zf):Inv a b i (j+1):=by
 have p:=(a8.1 c).1;refine⟨h.ia,by omega,λm e k o d f=> ?_,λj' e k o d f=> ?_⟩
 ·have l:=h.pa m e k y d c;exact V2 (dG l (n.lt c f))
 ·have:j'=j:=by omega
  subst this;rw[c]at d;cases d;rw[cc f c]at g;simpa using g
theorem Xa{a b:List U7}(va:VL a)(f:VL b):∀ {n:Nat},n<=a.length+b.length->Inv a b (pos a b n).1 (pos a b n).2/\(pos a b n).1+(pos a b n).2=n
 |0,_=>⟨Inv.zero a b,rfl⟩
 |n+1,h=>by
  obtain⟨c,hs⟩:=Xa va f (n:=n) (by omega);rw[show pos a b (n+1)=if Y9 a b (pos a b n).1 (pos a b n).2=zt then((pos a b n).1+1,(pos a b n).2)else((pos a b n).1,(pos a b n).2+1)from rfl]
  revert c hs;generalize (pos a b n).1=i;generalize (pos a b n).2=j;intro c hs;cases g:Y9 a b i j with
  |true=>
   have hi:i<a.length:=by
    refine nb λh'=> ?_;have d:a[i]?=zn:=a9 h';have e:j<b.length:=by have:=c.ia;omega
    rw[jB d (by simp[e]:b[j]?=zo b[j])]at g;cases g
   have:=c.stepA va (by simp[hi]:a[i]?=zo a[i]) g;rw[zy rfl];exact⟨this,by omega⟩
  |false=>
   have k:j<b.length:=by
    refine nb λh'=> ?_;have d:b[j]?=zn:=a9 h';cases e:a[i]? with
    |none=>rw[fV e d]at g;cases g
    |some x=>rw[jA e d]at g;cases g
   have:=c.stepB f (by simp[k]:b[j]?=zo b[j]) g;rw[zx (by simp)];exact⟨this,by omega⟩
end
section
open Go Sv
def Tt(p q:VI):Ww:=([p,q],([0,if w0 p q=zt then 1 else 0],if w0 p q=zt then 0 else 1))
def bA(a b:List U7)(i j:Nat):WX:=([a,b],([(i:Int),(j:Int)],Tt (kx a i) (kx b j)))
def sG(a b:List U7)(n:Nat):XN:=match bx a b n with
 |some x=>x.1
 |none=>[]
def fresh(a b:List U7)(n:Nat)(x:U7):Bool:=decide (n=0)||decide (sG a b (n-1)≠x.1)
def rU(a b:List U7)(c:Bool):Nat->List U7
 |0=>[]
 |n+1=>match bx a b n with
  |some x=>if(fresh a b n x && !(c&&x.2.2.1))=zt then rU a b c n++[x]else rU a b c n
  |none=>rU a b c n
def shN(a b:List U7)(c:Bool)(n:Nat):Vw:=(decide (n≠0),(if n=0 then[]else sG a b (n-1),c))
def Sst(a b:List U7)(c:Bool)(n:Nat):Yq:=(bA a b (pos a b n).1 (pos a b n).2,(shN a b c n,(rU a b c n,(n:Int))))
def VO(a b:List U7):Nat->List U7
 |0=>[]
 |n+1=>match bx a b n with
  |some x=>VO a b n++[x]
  |none=>VO a b n
section
variable{a b:List U7}(va:VL a)(vb:VL b)
include va vb
theorem Ws{n:Nat}(h:n<a.length+b.length):∃ x,bx a b n=zo x/\(x∈a\/x∈b):=by
 obtain⟨e,hs⟩:=Xa va vb (n:=n) (by omega);unfold bx;revert e hs;generalize (pos a b n).1=i;generalize (pos a b n).2=j;intro e hs;cases g:Y9 a b i j with
 |true=>
  have hi:i<a.length:=by
   refine nb λh'=> ?_;have c:a[i]?=zn:=a9 h';have d:j<b.length:=by have:=e.ia;omega
   rw[jB c (by simp[d]:b[j]?=zo b[j])]at g;cases g
  exact⟨a[i],by simp[hi],.inl (o5 hi)⟩
 |false=>
  have f:j<b.length:=by
   refine nb λh'=> ?_;have c:b[j]?=zn:=a9 h';cases d:a[i]? with
   |none=>rw[fV d c]at g;cases g
   |some x=>rw[jA d c]at g;cases g
  exact⟨b[j],by simp[f],.inr (o5 f)⟩
theorem lW{n:Nat}{x:U7}(h:bx a b n=zo x):kE x=0:=by
 have:x∈a\/x∈b:=by
  unfold bx at h;split at h
  ·exact .inl (bl h)
  ·exact .inr (bl h)
 rcases this with h|h
 ·exact va.ok x h
 ·exact vb.ok x h
theorem jH{n:Nat}(k:n+1<a.length+b.length){x y:U7}(d:bx a b n=zo x)(c:bx a b (n+1)=zo y):TZ y.1 x.1=zf:=by
 obtain⟨h,hs⟩:=Xa va vb (n:=n) (by omega);unfold bx at d c;rw[show pos a b (n+1)=if Y9 a b (pos a b n).1 (pos a b n).2=zt then((pos a b n).1+1,(pos a b n).2)else((pos a b n).1,(pos a b n).2+1)from rfl]at c
 revert h hs d c;generalize (pos a b n).1=i;generalize (pos a b n).2=j;intro d c h hs;cases g:Y9 a b i j with
 |true=>
  rw[zy g]at d;simp only[g,if_true]at c;have e:=h.stepA va d g;cases f:Y9 a b (i+1) j with
  |true=>rw[zy f]at c;exact V2 (va.lt d c)
  |false=>rw[zx (by simp[f])]at c;exact e.pa i rfl x y d c
 |false=>
  rw[zx (by simp[g])]at d;simp only[g,if_false,ll]at c;have e:=h.stepB vb d g;cases f:Y9 a b i (j+1)with
  |true=>rw[zy f]at c;exact V2 (e.pb j rfl x y d c)
  |false=>rw[zx (by simp[f])]at c;exact V2 (vb.lt d c)
theorem WH:∀ {n:Nat},n<=a.length+b.length->(VO a b n).length=n
 |0,_=>rfl
 |n+1,h=>by
  obtain⟨x,c,_⟩:=Ws va vb (n:=n) (by omega);unfold VO;rw[c];simp[WH (n:=n) (by omega)]
theorem Zg:∀ {n k:Nat},n<=a.length+b.length->k<n->(VO a b n)[k]?=bx a b k
 |n+1,k,h,hk=>by
  obtain⟨x,d,_⟩:=Ws va vb (n:=n) (by omega);unfold VO;rw[d];show(VO a b n++[x])[k]?=_;have e:=WH va vb (n:=n) (by omega);by_cases c:k<n
  ·rw[List.getElem?_append_left (by omega)];exact Zg (by omega) c
  ·have:k=n:=by omega
   subst this;rw[List.getElem?_append_right (by omega),e];simp[d]
theorem gj{n m:Nat}(d:m<=a.length+b.length)(h:n<=m):(VO a b m).take n=VO a b n:=by
 apply List.ext_getElem?;intro k;rw[List.getElem?_take];by_cases c:k<n
 ·rw[zy c,Zg va vb d (by omega),Zg va vb (by omega) c]
 ·rw[zx c,a9];rw[WH va vb (by omega)];omega
end
end
section
open Go Sv
theorem VC(n:Nat):K7 n=(n:Int):=rfl
theorem VB{α:Type}(l:List α):AQ l=l.length:=rfl
theorem Z0(l:List UInt8):NH l=l.length:=rfl
theorem d6:IG zt=zf:=rfl
theorem un:IG zf=zt:=rfl
theorem Vs{β:Type}(c:Bool)(x y:Unit->Option β):br (IG c) x y=br c y x:=UJ c x y
theorem Va{β:Type}{a b:Nat}(h:a<=b)(k:Unit->Option β):gd (B2 a b) k=k ():=by rw[UP,zy h]
theorem ah(k:XN):W0 k=zo (if k.length>32 then 3 else 0):=by
 unfold W0;rw[Um,VC,Z0]
 grind
theorem WP(x:U7):Vl x=zo (kE x):=by
 unfold Vl kE;rw[ah,UG,Uq];by_cases b:x.1.length>32
 ·simp[b]
 rw[zx b,zy rfl,Um,VC,Z0];by_cases d:x.2.1.length>64
 ·grind
 rw[zx (by omega:¬ (x.2.1.length:Int)>64),zx (by omega),Uw];by_cases a:x.2.2.1=zt
 ·rw[zy a,Vs,XE];by_cases c:x.2.1=[]
  ·rw[zy c,zx (by simp[c]),Uo,Um]
   grind
  simp_all
 ·rw[zx a,zx (by simp[a]),Uo,Um]
  grind
theorem XP(l:List U7)(j:l.length<=9223372036854775807):Vd l=zo (XO l):=by
 unfold Vd XO;rw[Um,VC,VB];by_cases h:l.length>5000
 ·grind
 rw[zx (by omega),zx h]
 have key:=jo (β:=Nat×(Int×Int×Int)×Unit) (l:=l) (λk (_:Int)=>((0:Int),((0:Int),(k:Int))))
  (λk x _=>if kE x≠0 then zo (.dn (0,((kE x,((k:Int),(k:Int))),())))else if k>0 then
    (match l[k-1]? with
    |some y=>if TZ y.1 x.1=zt then zo (.nx 0)else zo (.dn (0,(((6:Int),((k:Int),(k:Int))),())))
    |none=>zn)else zo (.nx 0))
  (λ_=>zo (1,((0,(0,(l.length:Int))),()))) (s:=(0,(0,0))) (0:Int) rfl j (f:=(λs0=>br (UV s0.2.2 (K7 (AQ l))) (λ_=>S1 s0.2.2 λz=>ix l z λt=>bd (Vl t) λr=>br (Sx r 0) (λ_=>zo (.dn ((0,((r,(s0.2.2,s0.2.2)),()))))) λ_=>br (UT s0.2.2 0) (λ_=>S1 (TM .i64 s0.2.2 1) λA=>ix l A λB=>br (IG (TZ B.1 t.1)) (λ_=>zo (.dn ((0,((6,(s0.2.2,s0.2.2)),()))))) λ_=>zo (.nx ((s0.1,(s0.2.1,TI .i64 s0.2.2 1))))) λ_=>zo (.nx ((s0.1,(s0.2.1,TI .i64 s0.2.2 1))))) λ_=>zo (.dn ((1,(s0,()))))))
  (λk x e b=>by
   simp only;rw[vp b,Tj,U8,Ua b,WP,UG,Uq];by_cases c:kE x=0
   ·have u:k<l.length:=(a8.1 b).1;simp only[c,if_true,ne_eq,not_true,if_false];rw[Um];by_cases g:k>0
    ·rw[zy (by omega:(k:Int)>0),zy g,Tq (by omega),show((k:Int)-1)=((k-1:Nat):Int) by omega,U8];have d:l[k-1]?=zo l[k-1]:=by simp_all
     rw[Ua d,d,Vs,YM];simp only;by_cases a:TZ l[k-1].1 x.1=zt
     ·rw[zy a,zy a,VH b j];rfl
     ·rw[zx a,zx a];rfl
    ·rw[zx (by omega:¬ (k:Int)>0),zx g,VH b j];rfl
   ·simp only[c,if_false,ne_eq,not_false_iff,if_true];rfl)
  (λe=>by
   simp only
   rw[ri,TA];rfl)
 simp only[VC,VB]at key;rw[key]
 have q : ∀ (m:List U7) (k:Nat) (p:Option XN),l.drop k=m->(p=if k=0 then zn else (l[k-1]?).map (·.1)) -> ∀ e,bd (cm (β:=Nat×(Int×Int×Int)×Unit) (λk x (_:Int)=>if kE x≠0 then zo (.dn (0,((kE x,((k:Int),(k:Int))),()))) else if k>0 then
    (match l[k-1]? with
    |some y=>if TZ y.1 x.1=zt then zo (.nx 0)else zo (.dn (0,(((6:Int),((k:Int),(k:Int))),())))
    |none=>zn)else zo (.nx (0:Int))) (λ_=>zo (1,((0,(0,(l.length:Int))),()))) m k e) (λn=>br (neq n.1 0) (λ_=>zo (n.2.1.2.1,n.2.1.1)) λ_=>zo ((0:Int),(0:Int)))=zo (Z5 p k m):=by
  intro m
  induction m with
  |nil=>intro k p _ _ e;rfl
  |cons x m D=>
   intro k p C o e
   have b:l[k]?=zo x:=by
    grind [o3]
   have u:k<l.length:=(a8.1 b).1
   have w:l.drop (k+1)=m:=by
    grind [ns]
   unfold cm Z5;by_cases c:kE x=0
   ·simp only[c,ne_eq,not_true,if_false];by_cases g:k>0
    ·have d:l[k-1]?=zo l[k-1]:=by grind
     rw[zy g,d];rw[zx (by omega:¬ k=0),d]at o;subst o;simp only[Option.map_some];by_cases a:TZ l[k-1].1 x.1=zt
     ·grind
     ·rw[zx a,zx a];rfl
    ·have i:k=0:=by omega
     subst i
     grind
   ·simp only[c,ne_eq,not_false_iff,if_true];rfl
 grind
theorem bM{α β σ S:Type}{l:List α}(mk:Nat->σ->S)(F:List α->Nat->σ->Option β){f:S->Option (LR S β)}{s:S}(a:σ)(o:s=mk 0 a)(u:l.length<=9223372036854775807)
  (r:∀ a,f (mk l.length a)=wv (F [] l.length a))
  (hc:∀ k x m a,l.drop k=x::m->l[k]?=zo x->k<l.length->(∃ b,f (mk k a)=zo (.nx (mk (k+1) b))/\F (x::m) k a=F m (k+1) b)\/f (mk k a)=wv (F (x::m) k a)):loop f s=F l 0 a:=by
 subst o
 have c:∀ (m:List α) (k n:Nat) (a:σ),l.drop k=m->k<=l.length->m.length<n->Ih n f (mk k a)=F m k a:=by
  intro m
  induction m with
  |nil=>
   intro k n a h p g;obtain⟨n,rfl⟩:∃ j,n=j+1:=⟨n-1,by omega⟩
   have e:k=l.length:=by
    grind
   subst e;unfold Ih;rw[r];cases F [] l.length a<;>rfl
  |cons x m w=>
   intro k n a h p g;obtain⟨n,rfl⟩:∃ j,n=j+1:=⟨n-1,by omega⟩
   have i:l[k]?=zo x:=by
    grind [o3]
   have d:k<l.length:=(a8.1 i).1
   have q:l.drop (k+1)=m:=by
    grind [ns]
   rcases hc k x m a h i d with⟨b,h1,t⟩|h1
   ·grind [Vi]
   ·unfold Ih;rw[h1];cases F (x::m) k a<;>rfl
 exact c l 0 _ a (by simp) (by omega) (by omega)
theorem rl{α:Type}{l:List α}{k:Nat}(h:k<l.length):UV (k:Int) (l.length:Int)=zt:=by unfold UV;simp;omega
theorem re{α:Type}(l:List α):UV (l.length:Int) (l.length:Int)=zf:=by unfold UV;simp
theorem VY{α β:Type}{m:Option α}{x:α}{k:α->Option β}{r:Option β}(h:m=zo x)(e:k x=r):bd m k=r:=by subst h;exact e
theorem bY(k:VI):W5 k=zo (k.2&&decide (k.1≠[])):=by
 unfold W5;rw[Uw];cases h:k.2 with
 |true=>rw[zy rfl,Zx];simp[IG]
 |false=>rfl
def XK(k:VI):Prop:=k.2=zt->k.1=[]
theorem rM{k:VI}(h:XK k):W5 k=zo zf:=by
 rw[bY];cases a:k.2 with
 |true=>simp[h a]
 |false=>rfl
theorem Vn(l:List U7)(i:Nat):XK (kx l i):=by
 unfold kx XK
 grind
theorem YP{l:List VI}(h:∀ k∈l,XK k)(d:l≠[])(e:l.length<=32):W7 l=zo 0:=by
 unfold W7;simp only[VC,VB];rw[Uk,Um,zx (by simp_all),zx (by omega)]
 rw[bM (l:=l) (σ:=Unit) (s:=(0,0)) (λk _=>((0:Int),(k:Int))) (λ_ _ _=>zo (1,((0,(l.length:Int)),()))) () rfl (by omega) (λc=>by
  simp only;rw[re];rfl) (λk x m c _ a b=>.inl ⟨(),by
   simp only;rw[rl b,Tj,U8,Ua a,rM (h x (bl a)),UG,TA,VH a (by omega)],rfl⟩),UG]
 rfl
theorem aA{α:Type}{l:List α}(h:l.length<=1048576):(gd (B2 (AQ l) 1048576) λ_=>zo l)=zo l:=Va h _
theorem fq(p q:VI):X8 [p,q]=zo (Tt p q):=by
 have o:w0 p q=(if p.2≠q.2 then q.2 else if p.1≠q.1 then TZ p.1 q.1 else zt):=rfl
 unfold X8;simp only[VC,VB,dc,eb];rw[show TJ .i64 2 ((0+1+1:Nat):Int)=4 from rfl,show TM .i64 4 1=3 from rfl];unfold VM;rw[show S1 4=λk=>k 4 from rfl];simp only[Va (show 4<=1048576 by omega),aA (show[p,q].length<=1048576 by simp),UG];rw[show S1 ((0+1+1:Nat):Int)=λk=>k 2 from rfl];simp only[Va (show 2<=1048576 by omega)];have fin:∀ {w l:Int} {x:Nat×((Int×(List Int×(List VI×(List Int×Int))))×Unit)},x=(0,((0,([0,w,0,1],([p,q],([0,l],0)))),()))->(gd (I8 1 (AQ x.2.1.2.1)) λ_=>ix x.2.1.2.1 1 λb=>zo ((x.2.1.2.2.1,(x.2.1.2.2.2.1,b))))=zo ([p,q],([0,l],w)):=λe=>by subst e;rfl
 have m:∀ {f:(Int×(List Int×(List VI×(List Int×Int))))->Option (LR (Int×(List Int×(List VI×(List Int×Int)))) (Nat×((Int×(List Int×(List VI×(List Int×Int))))×Unit)))} {w l:Int},f (3,([0,0,0,0],([p,q],([0,0],0))))=zo (.nx (2,([0,0,0,1],([p,q],([0,0],0)))))->f (2,([0,0,0,1],([p,q],([0,0],0))))=zo (.nx (1,([0,0,0,1],([p,q],([0,0],0))))) ->
   f (1,([0,0,0,1],([p,q],([0,0],0))))=zo (.nx (0,([0,w,0,1],([p,q],([0,l],0)))))->f (0,([0,w,0,1],([p,q],([0,l],0))))=zo (.dn (0,((0,([0,w,0,1],([p,q],([0,l],0)))),()))) ->
   loop f (3,([0,0,0,0],([p,q],([0,0],0))))=zo (0,((0,([0,w,0,1],([p,q],([0,l],0)))),())):=λc d g i=>
  WY (n:=4) (by omega) ((Vi c).trans ((Vi d).trans ((Vi g).trans (Vr i))))
 have j:∀ {β:Type} (A B:Option β),w0 p q=zt->br (IG (beq p.2 q.2)) (λ_=>br (IG q.2) (λ_=>B) λ_=>A) (λ_=>br (IG (seq p.1 q.1)) (λ_=>br (IG (TZ p.1 q.1)) (λ_=>B) λ_=>A) λ_=>A)=A:=fun {β} A B h=>by
  grind [Vs,beq,Uw,seq,XE]
 have a:∀ {β:Type} (A B:Option β),w0 p q≠zt->br (IG (beq p.2 q.2)) (λ_=>br (IG q.2) (λ_=>B) λ_=>A) (λ_=>br (IG (seq p.1 q.1)) (λ_=>br (IG (TZ p.1 q.1)) (λ_=>B) λ_=>A) λ_=>A)=B:=fun {β} A B h=>by
  grind [Vs,beq,Uw,seq,XE]
 rw[show Ot 4 (0:Int)=[0,0,0,0]from rfl,show Ot 2 (0:Int)=[0,0]from rfl];by_cases h:w0 p q=zt
 ·refine VY (x:=(0,((0,([0,0,0,1],([p,q],([0,1],0)))),()))) ?_ ?_;refine WY (n:=4) (by omega) ?_;refine(Vi (s':=(2,([0,0,0,1],([p,q],([0,0],0))))) ?_).trans ((Vi (s':=(1,([0,0,0,1],([p,q],([0,0],0))))) ?_).trans ((Vi (s':=(0,([0,0,0,1],([p,q],([0,1],0))))) ?_).trans (Vr ?_)))
  ·rfl
  ·rfl
  ·exact j _ _ h
  ·rfl
  ·show zo ([p,q],([0,1],0))=_;unfold Tt;simp[h]
 ·refine VY (x:=(0,((0,([0,1,0,1],([p,q],([0,0],0)))),()))) ?_ ?_;refine WY (n:=4) (by omega) ?_;refine(Vi (s':=(2,([0,0,0,1],([p,q],([0,0],0))))) ?_).trans ((Vi (s':=(1,([0,0,0,1],([p,q],([0,0],0))))) ?_).trans ((Vi (s':=(0,([0,1,0,1],([p,q],([0,0],0))))) ?_).trans (Vr ?_)))
  ·rfl
  ·rfl
  ·exact a _ _ h
  ·rfl
  ·show zo ([p,q],([0,0],1))=_;unfold Tt;simp[h]
theorem bR{p q:VI}(a:XK p)(b:XK q):WO [p,q]=zo (Tt p q,0):=by
 unfold WO;rw[YP (by grind) (by simp) (by simp),UG,Uq,zy rfl,fq,UG]
theorem gf{p q:VI}(d:XK p)(e:XK q):YV (Tt p q)=zo (0,0):=by
 unfold YV;rw[show(Tt p q).1=[p,q]from rfl,YP (by grind) (by simp) (by simp),UG,Uq,zy rfl,Uq,zy (show K7 (AQ (Tt p q).2.1)=K7 (AQ [p,q])from rfl),fq,UG];simp only[VC,VB]
 rw[bM (l:=(Tt p q).2.1) (σ:=Unit) (s:=(0,(0,0))) (λk _=>((0:Int),((k:Int),(0:Int)))) (λ_ _ _=>zo (1,((0,(((Tt p q).2.1.length:Int),0)),()))) () rfl (show 2<=9223372036854775807 by omega) (λc=>by
  rfl) (λk x m c _ a b=>.inl ⟨(),by
   simp only;rw[rl b,Tj,U8,Ua a,U8,Ua a,Uq,zy rfl,VH a (show 2<=9223372036854775807 by omega)],rfl⟩),UG]
 rw[show neq 1 0=zf from rfl,TA,Uq,zy rfl]
def wn(p q:VI):Nat:=if w0 p q=zt then 0 else 1
def wk(p q:VI):VI:=if w0 p q=zt then p else q
theorem gQ(p q:VI):(Tt p q).2.2=(wn p q:Int):=by unfold Tt wn;grind
theorem gP(p q:VI):(Tt p q).1[wn p q]?=zo (wk p q):=by unfold Tt wn wk;grind
theorem fm{p q:VI}(a:XK p)(b:XK q):X7 (Tt p q)=zo (if(wk p q).2=zt then 12 else 0):=by
 unfold X7;rw[gf a b,UG,Uq,zy rfl,gQ,U8,Ua (gP p q),Uw]
 grind
theorem ZG{p q:VI}(a:XK p)(b:XK q):WT (Tt p q)=zo (if(wk p q).2=zt then(0,([],12))else((wn p q:Int),((wk p q).1,0))):=by
 unfold WT;rw[fm a b,UG,Uq,gQ,U8,Ua (gP p q)]
 grind
def rk(p q k:VI):VI×VI:=if w0 p q=zt then(k,q)else(p,k)
theorem lK(p q:VI):Vm (0,(1,([p,q],())))=zo (w0 p q):=by
 unfold Vm w0;show br (IG (beq p.2 q.2)) (λ_=>zo q.2) (λ_=>br (IG (seq p.1 q.1)) (λ_=>zo (TZ p.1 q.1)) λ_=>zo (UV 0 1))=_;rw[Vs (beq p.2 q.2),Uw (beq p.2 q.2),Vs (seq p.1 q.1),XE];by_cases a:p.2=q.2
 ·rw[zy (show Sv.beq p.2 q.2=zt by simp[Sv.beq,a]),zx (show ¬ p.2≠q.2 by simp[a])];by_cases b:p.1=q.1
  ·rw[zy b,zx (show ¬ p.1≠q.1 by simp[b])];rfl
  simp_all
 simp_all[zx,Sv.beq]
theorem lL(p q:VI):Vm (1,(0,([p,q],())))=zo (!w0 p q):=by
 unfold Vm w0;show br (IG (beq q.2 p.2)) (λ_=>zo p.2) (λ_=>br (IG (seq q.1 p.1)) (λ_=>zo (TZ q.1 p.1)) λ_=>zo (UV 1 0))=_;rw[Vs (beq q.2 p.2),Uw (beq q.2 p.2),Vs (seq q.1 p.1),XE];by_cases b:p.2=q.2
 ·rw[zy (show Sv.beq q.2 p.2=zt by simp[Sv.beq,b]),zx (show ¬ p.2≠q.2 by simp[b])];by_cases a:p.1=q.1
  ·rw[zy a.symm,zx (show ¬ p.1≠q.1 by simp[a])];rfl
  ·rw[zx (show ¬ q.1=p.1 from λe=>a e.symm),zy a];cases hs:TZ p.1 q.1 with
   |true=>rw[V2 hs];rfl
   |false=>rw[Z1 hs a];rfl
 ·rw[zx (show ¬ Sv.beq q.2 p.2=zt by simp[Sv.beq,Ne.symm b]),zy b];cases c:p.2<;>cases d:q.2<;>simp_all
theorem ZN{p q k:VI}(y:XK p)(z:XK q)(w:XK k)(A:(wk p q).2=zf)(x:k.2=zt\/TZ k.1 (wk p q).1=zf) :
  ∃ n,WI (Tt p q,k)=zo (Tt (rk p q k).1 (rk p q k).2,(n,0)):=by
 have g:(Tt p q).1.length<=1048576:=by show 2<=_;omega
 have b:(Tt p q).2.1.length<=1048576:=by show 2<=_;omega
 have i:lset (Tt p q).1 (wn p q) k=[(rk p q k).1,(rk p q k).2]:=by unfold Tt wn rk;split<;>rfl
 have c:(Tt p q).2.1=[0,(1-(wn p q:Int))]:=by unfold Tt wn;grind
 have m:wn p q=0\/wn p q=1:=by unfold wn;grind
 have up:∀ {f:(Int×(Int×(Unit×(List Int×Int))))->Option (LR (Int×(Int×(Unit×(List Int×Int)))) (Nat×((Int×(Int×(Unit×(List Int×Int))))×Unit)))},
   (f=λa=>br (PC (UX .i64 a.2.1 2) 0) (λ_=>zo (.dn ((0,((a.1,(UX .i64 a.2.1 2,((),a.2.2.2))),()))))) λ_=>S1 (UX .i64 a.2.1 2) λt=>gd (I8 t (AQ a.2.2.2.1)) λ_=>ix a.2.2.2.1 t λr=>bd (Vm ((r,(a.2.2.2.2,([(rk p q k).1,(rk p q k).2],()))))) λo=>br o (λ_=>S1 (UX .i64 a.2.1 2) λj=>gd (I8 j (AQ a.2.2.2.1)) λ_=>ix a.2.2.2.1 j λs=>S1 (UX .i64 a.2.1 2) λd=>gd (I8 d (AQ a.2.2.2.1)) λ_=>ix a.2.2.2.1 d λD=>zo (.nx ((TI .i64 a.1 1,(UX .i64 a.2.1 2,((),(lset a.2.2.2.1 d a.2.2.2.2,s))))))) λ_=>zo (.nx ((TI .i64 a.1 1,(UX .i64 a.2.1 2,((),a.2.2.2))))))
   -> loop f (0,((2:Int)+wn p q,((),([0,(1-(wn p q:Int))],(wn p q:Int)))))=zo (0,((1,(0,((),(Tt (rk p q k).1 (rk p q k).2).2))),())):=by
  intro f u;subst u;refine WY (n:=2) (by omega) ((Vi (s':=(1,(1,((),(Tt (rk p q k).1 (rk p q k).2).2)))) ?_).trans (Vr rfl));rcases m with h|h
  ·rw[h]
   have B:w0 p q=zt:=by
    simp_all[wn,zx]
   show bd (Vm (1,(0,([(rk p q k).1,(rk p q k).2],())))) _=_;rw[lL,UG];unfold Tt;cases C:w0 (rk p q k).1 (rk p q k).2<;>rfl
  ·rw[h];show bd (Vm (0,(1,([(rk p q k).1,(rk p q k).2],())))) _=_;rw[lK,UG];unfold Tt;cases C:w0 (rk p q k).1 (rk p q k).2<;>rfl
 unfold WI;simp only[fm y z,A,UG,Uq,if_true,if_false,ll];rw[YP (by simp[w]) (by simp) (by simp),UG];simp only[if_true,Vs];rw[Uw];unfold VM VQ;simp only[gQ,U8,Ua (gP p q),Va g,Va b,UG,YM,UQ,VB,VC,i];have l:wn p q<(Tt p q).1.length:=by show wn p q<2;omega
 have hi:TI .i64 (([(rk p q k).1,(rk p q k).2].length:Nat):Int) (wn p q:Int)=(2:Int)+wn p q:=by
  rw[To (by simp;omega)];rfl
 rw[hi,c];simp only[VB,UQ]at up;have key:=up rfl;rw[zy l];by_cases e:k.2=zt
 ·rw[zy e,key,UG];exact⟨_,rfl⟩
 ·rw[zx e,zx (by simp_all),key,UG];exact⟨_,rfl⟩
end
section
open Go Sv
theorem V5{S β:Type}{f:S->Option (LR S β)}{s0 s1 s2:S}{r:β}(a:f s0=zo (.nx s1))(b:f s1=zo (.nx s2))(c:f s2=zo (.dn r)):loop f s0=zo r:=
 WY (n:=3) (by omega) ((Vi a).trans ((Vi b).trans (Vr c)))
theorem ai{α β:Type}{c:Bool}{n:Int}{l:List α}{K:Nat->α->Option β}{E:Unit->Option β}(k:Nat){x:α}(hc:c=zt)(d:n=(k:Int))(e:l[k]?=zo x):br c (λ_=>S1 n λa=>ix l a λb=>K a b) E=K k x:=by
 simp_all[Tj,U8,Ua]
theorem XY{α β:Type}{n:Int}{l:List α}{K:Nat->α->Option β}(k:Nat){x:α}(b:n=(k:Int))(c:l[k]?=zo x):S1 n (λa=>ix l a λd=>K a d)=K k x:=by
 subst b;rw[U8,Ua c]
theorem Yf{l:List U7}{i:Nat}(h:i<=l.length):Ve (l,(i:Int))=zo (kx l i):=by
 unfold Ve kx;simp only[VC,VB];rw[Uk];by_cases hi:i=l.length
 ·simp_all
 ·have a:l[i]?=zo l[i]:=by simp_all
  rw[zx (by omega),U8,Ua a,a]
section
variable{a b:List U7}(va:VL a)(vb:VL b)
theorem qj{i j:Nat}(hi:i<=a.length)(c:j<=b.length):X9 ([a,b],[(i:Int),(j:Int)])=zo (Tt (kx a i) (kx b j)):=by
 unfold X9;refine VY (x:=(0,((2,[kx a i,kx b j]),()))) (V5 (s1:=(1,[kx a i,([],zf)])) (s2:=(2,[kx a i,kx b j])) ?_ ?_ rfl) ?_
 ·show bd (Ve (a,(i:Int))) _=_;rw[Yf hi];rfl
 ·show bd (Ve (b,(j:Int))) _=_;rw[Yf c];rfl
 ·show bd (WO [kx a i,kx b j]) _=_;rw[bR (Vn _ _) (Vn _ _)];rfl
include va vb
theorem bD:Vd a=zo (0,0):=by
 rw[XP _ (by have:=va.len;omega),Z9 va]
theorem aq:W9 [a,b]=zo (0,0):=by
 unfold W9;refine VY (x:=(1,((0,(0,2)),()))) (V5 (s1:=(0,(0,1))) (s2:=(0,(0,2))) ?_ ?_ rfl) rfl
 ·show bd (Vd a) _=_;rw[bD va va];rfl
 ·show bd (Vd b) _=_;rw[bD vb vb];rfl
theorem jW(c:Bool):YH ([a,b],c)=zo (Sst a b c 0,(0,0)):=by
 unfold YH;rw[aq va vb,UG,Uq,zy rfl];refine VY (x:=(0,((2,[kx a 0,kx b 0]),()))) (V5 (s1:=(1,[kx a 0,([],zf)])) (s2:=(2,[kx a 0,kx b 0])) ?_ ?_ rfl) ?_
 ·show bd (Ve (a,((0:Nat):Int))) _=_;rw[Yf (by omega)];rfl
 ·show bd (Ve (b,((0:Nat):Int))) _=_;rw[Yf (by omega)];rfl
 ·show bd (WO [kx a 0,kx b 0]) _=_;rw[bR (Vn _ _) (Vn _ _)];rfl
end
theorem Yr(x:Bool):Sv.beq x x=zt:=by cases x<;>rfl
theorem Zy(x:XN):seq x x=zt:=by rw[cM]
theorem gV(l:List VI)(h:l.length<=1000):VT (l,l)=zo zt:=by
 unfold VT;simp only[VC,VB]
 rw[Uq,zy rfl,bM (l:=l) (σ:=Unit) (s:=(0,zf)) (λk _=>((k:Int),zf)) (λ_ _ _=>zo (1,(((l.length:Int),zf),()))) () rfl (by omega) (λc=>by
  simp only;rw[re];rfl) (λk x m c _ a b=>.inl ⟨(),by
   simp only;rw[rl b,Tj,U8,Ua a,U8,Ua a,Zy,Yr,show IG (OM zt (OM zt zt))=zf from rfl,TA,VH a (by omega)],rfl⟩),UG]
 rfl
theorem gU(l:List Int)(h:l.length<=1000):VN (l,l)=zo zt:=by
 unfold VN;simp only[VC,VB]
 rw[Uq,zy rfl,bM (l:=l) (σ:=Unit) (s:=(0,zf)) (λk _=>((k:Int),zf)) (λ_ _ _=>zo (1,(((l.length:Int),zf),()))) () rfl (by omega) (λc=>by
  simp only;rw[re];rfl) (λk x m c _ a b=>.inl ⟨(),by
   simp only;rw[rl b,Tj,U8,Ua a,U8,Ua a,Uq,zy rfl,VH a (by omega)],rfl⟩),UG]
 rfl
theorem jU(t:Ww)(a:t.1.length<=1000)(b:t.2.1.length<=1000):Xm (t,t)=zo zt:=by
 unfold Xm;rw[Uk,zy rfl,gV _ a,UG,Tj,gU _ b];rfl
theorem jV(p q:VI):Xm (Tt p q,Tt p q)=zo zt:=jU _ (show 2<=1000 by omega) (show 2<=1000 by omega)
theorem qq{a b:List U7}{i j:Nat}(h:Y9 a b i j=zt):wk (kx a i) (kx b j)=kx a i/\wn (kx a i) (kx b j)=0:=by
 unfold Y9 at h;unfold wk wn;rw[zy h,zy h];exact⟨rfl,rfl⟩
theorem qt{a b:List U7}{i j:Nat}(h:Y9 a b i j=zf):wk (kx a i) (kx b j)=kx b j/\wn (kx a i) (kx b j)=1:=by
 unfold Y9 at h;unfold wk wn;rw[zx (by simp[h]),zx (by simp[h])];exact⟨rfl,rfl⟩
theorem i6(x y:XN):Wb (x,y)=zo (if TZ x y=zt then -1 else if TZ y x=zt then 1 else 0):=by
 unfold Wb Wx
 grind [Zy,d6,UG,TA,YM]
theorem i5(x y:Int):WG (x,y)=zo (if x<y then -1 else if x>y then 1 else 0):=by
 unfold WG Xr;simp only[UG,Uq,if_true,Uo,Um]
 grind
theorem ld(x y:Int):WL [x,y]=zo (if x≠0 then x else y):=by
 unfold WL;by_cases h:x=0
 ·rw[zx (by simp[h])];by_cases a:y=0
  ·refine VY (x:=(1,((0,2),()))) (V5 (s1:=(0,1)) (s2:=(0,2)) ?_ ?_ rfl) (by rw[a];rfl)
   ·refine(ai 0 rfl rfl rfl).trans ?_;rw[Uq,zy h];rfl
   ·refine(ai 1 rfl rfl rfl).trans ?_;rw[Uq,zy a];rfl
  ·refine VY (x:=(0,((y,1),()))) (WY (n:=2) (by omega) ((Vi (s':=(0,1)) ?_).trans (Vr ?_))) rfl
   ·refine(ai 0 rfl rfl rfl).trans ?_;rw[Uq,zy h];rfl
   ·refine(ai 1 rfl rfl rfl).trans ?_;rw[Uq,zx a]
 ·rw[zy h];refine VY (x:=(0,((x,0),()))) (WY (n:=1) (by omega) (Vr ?_)) rfl;refine(ai 0 rfl rfl rfl).trans ?_;rw[Uq,zx h]
section
variable{a b:List U7}(va:VL a)(vb:VL b)
include va vb
theorem aY{i j:Nat}(I:Inv a b i j):W8 (bA a b i j)=zo (0,0):=by
 unfold W8;rw[show(bA a b i j).1=[a,b]from rfl,aq va vb,UG,Uq,zy rfl];rw[show(bA a b i j).2.1=[(i:Int),(j:Int)]from rfl,Uq,zy (show K7 (AQ [(i:Int),(j:Int)])=K7 (AQ [a,b])from rfl)];refine VY (x:=(1,((0,(0,2)),()))) (V5 (s1:=(0,(0,1))) (s2:=(0,(0,2))) ?_ ?_ rfl) ?_
 ·refine(ai 0 rfl rfl rfl).trans ?_;rw[Uo,zx (by omega),show S1 (((0:Int),((0:Int),(0:Int))).2.2)=λ(k:Nat->Option (LR (Int×(Int×Int)) (Nat×((Int×(Int×Int))×Unit))))=>k 0 from rfl];simp only;rw[Ua (x:=a) rfl,Um,zx (by have:=I.ia;simp only[VC,VB];omega)];rfl
 ·refine(ai 1 rfl rfl rfl).trans ?_;rw[Uo,zx (by omega),show S1 (((0:Int),((0:Int),(1:Int))).2.2)=λ(k:Nat->Option (LR (Int×(Int×Int)) (Nat×((Int×(Int×Int))×Unit))))=>k 1 from rfl];simp only;rw[Ua (x:=b) rfl,Um,zx (by have:=I.jb;simp only[VC,VB];omega)];rfl
 rw[show neq ((1:Nat),(((0:Int),((0:Int),(2:Int))),())).1 0=zf from rfl,TA,qj I.ia I.jb,UG,show(bA a b i j).2.2=Tt (kx a i) (kx b j)from rfl,jV,UG,show IG zt=zf from rfl,TA,ZG (Vn _ _) (Vn _ _),UG];by_cases hd:(wk (kx a i) (kx b j)).2=zt
 ·rw[zy hd];rfl
 rw[zx hd,Uq,zy rfl]
 have r:∀ {x:U7} {c:Nat},i=c+1->a[c]?=zo x -> ¬ (if(if TZ x.1 (wk (kx a i) (kx b j)).1=zt then(-1:Int)else if TZ (wk (kx a i) (kx b j)).1 x.1=zt then 1 else 0)≠0 then(if TZ x.1 (wk (kx a i) (kx b j)).1=zt then(-1:Int)else if TZ (wk (kx a i) (kx b j)).1 x.1=zt then 1 else 0)else(if(0:Int)<(wn (kx a i) (kx b j):Int)then -1 else if(0:Int)>(wn (kx a i) (kx b j):Int)then 1 else 0))>0:=by
  intro x c hi d
  have p:TZ (wk (kx a i) (kx b j)).1 x.1=zf:=by
   cases g:Y9 a b i j with
   |true=>
    rw[(qq g).1]at hd ⊢;unfold kx at hd ⊢;cases e:a[i]? with
    |none=>simp_all
    |some y=>rw[hi]at e;exact V2 (va.lt d e)
   |false=>
    rw[(qt g).1]at hd ⊢;unfold kx at hd ⊢;cases e:b[j]? with
    |none=>simp_all
    |some y=>exact I.pa c hi x y d e
  grind
 have s:∀ {y:U7} {j':Nat},j=j'+1->b[j']?=zo y -> ¬ (if(if TZ y.1 (wk (kx a i) (kx b j)).1=zt then(-1:Int)else if TZ (wk (kx a i) (kx b j)).1 y.1=zt then 1 else 0)≠0 then(if TZ y.1 (wk (kx a i) (kx b j)).1=zt then(-1:Int)else if TZ (wk (kx a i) (kx b j)).1 y.1=zt then 1 else 0)else(if(1:Int)<(wn (kx a i) (kx b j):Int)then -1 else if(1:Int)>(wn (kx a i) (kx b j):Int)then 1 else 0))>0:=by
  intro y j' o e
  have q:TZ y.1 (wk (kx a i) (kx b j)).1=zt:=by
   cases g:Y9 a b i j with
   |true=>
    rw[(qq g).1]at hd ⊢;unfold kx at hd ⊢;cases d:a[i]? with
    |none=>simp_all
    |some x=>exact I.pb j' o y x e d
   |false=>
    rw[(qt g).1]at hd ⊢;unfold kx at hd ⊢;cases d:b[j]? with
    |none=>grind
    |some x=>rw[o]at d;exact vb.lt e d
  grind
 refine VY (x:=(1,((0,(0,2)),()))) (V5 (s1:=(0,(0,1))) (s2:=(0,(0,2))) ?_ ?_ rfl) rfl
 ·refine(ai 0 rfl rfl rfl).trans ?_;rw[Um];by_cases f:(i:Int)>0
  ·rw[zy f];obtain⟨c,h⟩:∃ c,i=c+1:=⟨i-1,by omega⟩;have l:c<a.length:=by have:=I.ia;omega
   have d:a[c]?=zo a[c]:=by simp[l]
   refine(XY 0 rfl (x:=a) rfl).trans ((XY c ?_ d).trans ?_)
   ·rw[Tq (by have:=va.len;omega)];omega
   rw[i6,UG];show bd (WG (0,(wn (kx a i) (kx b j):Int))) _=_;rw[i5,UG,ld,UG,Um,zx (r h d)];rfl
  ·rw[zx f];rfl
 ·refine(ai 1 rfl rfl rfl).trans ?_;rw[Um];by_cases f:(j:Int)>0
  ·rw[zy f];obtain⟨j',m⟩:∃ j',j=j'+1:=⟨j-1,by omega⟩;have n:j'<b.length:=by have:=I.jb;omega
   have e:b[j']?=zo b[j']:=by simp[n]
   refine(XY 1 rfl (x:=b) rfl).trans ((XY j' ?_ e).trans ?_)
   ·rw[Tq (by have:=vb.len;omega)];omega
   rw[i6,UG];show bd (WG (1,(wn (kx a i) (kx b j):Int))) _=_;rw[i5,UG,ld,UG,Um,zx (s m e)];rfl
  ·rw[zx f];rfl
end
end
section
open Go Sv
theorem YJ{l:List U7}{i:Nat}{x:U7}(h:l[i]?=zo x):kx l i=(x.1,zf):=by unfold kx;rw[h]
theorem bJ{l:List U7}{i:Nat}(h:l[i]?=zn):kx l i=([],zt):=by unfold kx;rw[h]
theorem cK{l:List U7}(v:VL l){i:Nat}{x:U7}(h:l[i]?=zo x):(kx l (i+1)).2=zt\/TZ (kx l (i+1)).1 x.1=zf:=by
 cases a:l[i+1]? with
 |none=>rw[bJ a];grind
 |some y=>rw[YJ a];exact .inr (V2 (v.lt h a))
theorem aL{α β:Type}{n:Int}{l:List α}{K:Nat->α->Option β}(k:Nat){x:α}(c:n=(k:Int))(b:l[k]?=zo x):S1 n (λa=>gd (I8 a (AQ l)) λ_=>ix l a λd=>K a d)=K k x:=by
 subst c;rw[U8,UQ,zy (show k<AQ l from(a8.1 b).1),Ua b]
section
variable{a b:List U7}(va:VL a)(vb:VL b)
include va vb
theorem rQ{i j:Nat}(I:Inv a b i j){x:U7}(c:a[i]?=zo x)(g:Y9 a b i j=zt):V4 (bA a b i j)=zo (x,(0,(bA a b (i+1) j,0))):=by
 obtain⟨e,h⟩:=qq g;have hi:=(a8.1 c).1;have l:=va.len;have hd:(wk (kx a i) (kx b j)).2=zf:=by rw[e,YJ c]
 obtain⟨m,f⟩:=ZN (p:=kx a i) (q:=kx b j) (k:=kx a (i+1)) (Vn _ _) (Vn _ _) (Vn _ _) hd (by rw[e,YJ c];exact cK va c)
 have d:rk (kx a i) (kx b j) (kx a (i+1))=(kx a (i+1),kx b j):=by
  simp_all[rk,Y9,zy]
 rw[d]at f;unfold V4;rw[aY va vb I,UG,Uq,zy rfl];unfold VK VQ;refine VY (aA (show 2<=1048576 by omega)) (VY (aA (show 2<=1048576 by omega)) ?_);rw[show(bA a b i j).2.2=Tt (kx a i) (kx b j)from rfl,ZG (Vn _ _) (Vn _ _),zx (by simp[hd]),UG,Uq,zy rfl,h];refine(aL 0 rfl (x:=a) rfl).trans ((aL 0 rfl (x:=(i:Int)) rfl).trans ((XY i rfl c).trans ((aL 0 rfl (x:=(i:Int)) rfl).trans ((aL 0 rfl (x:=(i:Int)) rfl).trans ((aL 0 rfl (x:=a) rfl).trans ((aL 0 rfl (x:=TI .i64 (i:Int) 1) rfl).trans ?_))))));rw[VD (by omega),Yf (show i+1<=a.length by omega),UG,f,UG];rfl
theorem rR{i j:Nat}(I:Inv a b i j){y:U7}(c:b[j]?=zo y)(g:Y9 a b i j=zf):V4 (bA a b i j)=zo (y,(1,(bA a b i (j+1),0))):=by
 obtain⟨e,h⟩:=qt g;have hi:=(a8.1 c).1;have l:=vb.len;have hd:(wk (kx a i) (kx b j)).2=zf:=by rw[e,YJ c]
 obtain⟨m,f⟩:=ZN (p:=kx a i) (q:=kx b j) (k:=kx b (j+1)) (Vn _ _) (Vn _ _) (Vn _ _) hd (by rw[e,YJ c];exact cK vb c)
 have d:rk (kx a i) (kx b j) (kx b (j+1))=(kx a i,kx b (j+1)):=by
  simp_all[rk,Y9,zx]
 rw[d]at f;unfold V4;rw[aY va vb I,UG,Uq,zy rfl];unfold VK VQ;refine VY (aA (show 2<=1048576 by omega)) (VY (aA (show 2<=1048576 by omega)) ?_);rw[show(bA a b i j).2.2=Tt (kx a i) (kx b j)from rfl,ZG (Vn _ _) (Vn _ _),zx (by simp[hd]),UG,Uq,zy rfl,h];refine(aL 1 rfl (x:=b) rfl).trans ((aL 1 rfl (x:=(j:Int)) rfl).trans ((XY j rfl c).trans ((aL 1 rfl (x:=(j:Int)) rfl).trans ((aL 1 rfl (x:=(j:Int)) rfl).trans ((aL 1 rfl (x:=b) rfl).trans ((aL 1 rfl (x:=TI .i64 (j:Int) 1) rfl).trans ?_))))));rw[VD (by omega),Yf (show j+1<=b.length by omega),UG,f,UG];rfl
def al(a b:List U7)(n:Nat):WX:=bA a b (pos a b n).1 (pos a b n).2
def dC(a b:List U7)(n:Nat):Nat:=if Y9 a b (pos a b n).1 (pos a b n).2=zt then 0 else 1
theorem cq{n:Nat}{x:U7}(h:n<a.length+b.length)(c:bx a b n=zo x):V4 (al a b n)=zo (x,((dC a b n:Int),(al a b (n+1),0))):=by
 obtain⟨d,hs⟩:=Xa va vb (n:=n) (by omega);unfold al dC;rw[show pos a b (n+1)=if Y9 a b (pos a b n).1 (pos a b n).2=zt then((pos a b n).1+1,(pos a b n).2)else((pos a b n).1,(pos a b n).2+1)from rfl]
 unfold bx at c;cases g:Y9 a b (pos a b n).1 (pos a b n).2 with
 |true=>simp_all[zy,rQ]
 |false=>simp_all[zx,rR]
end
theorem dF{s:Vw}(a:s.2.1.length<=32)(b:s.1=zf->s.2.1=[]):XU s=zo 0:=by
 unfold XU;rw[ah,UG,zx (by omega),Uq,zy rfl,Vs,Uw]
 simp_all[zx,Vs,XE,zy]
def keep(s:Vw)(x:U7):Bool:=!(s.1&&decide (x.1=s.2.1)) && !(s.2.2&&x.2.2.1)
theorem j9{s:Vw}{x:U7}(e:s.2.1.length<=32)(f:s.1=zf->s.2.1=[])(g:kE x=0)(a:s.1=zt->TZ x.1 s.2.1=zf):V9 (s,x)=zo (keep s x,((zt,(x.1,s.2.2)),0)):=by
 unfold V9 keep;rw[dF e f,UG,Uq,zy rfl,WP,g,UG,Uq,zy rfl];obtain⟨s1,s2,c⟩:=s;obtain⟨h,i,d,j⟩:=x;simp only at a ⊢;cases s1 with
 |true=>
  have:=a rfl;simp only[Tj,TA,YM,XE,this,ll,if_false];by_cases b:h=s2
  ·simp[b]
  ·simp only[b,if_false,decide_false];cases c<;>cases d<;>rfl
 |false=>
  simp only[Tj,TA];cases c<;>cases d<;>rfl
def XM:Vw->List U7->List U7
 |_,[]=>[]
 |s,x::l=>(if keep s x=zt then[x]else[])++XM (zt,(x.1,s.2.2)) l
theorem ZZ:∀ (s:Vw) (l:List U7),(XM s l).length<=l.length
 |_,[]=>ee _
 |s,x::l=>by
  have:=ZZ (zt,(x.1,s.2.2)) l;unfold XM
  grind
def bQ:Vw->List U7->Prop
 |_,[]=>True
 |s,x::l=>kE x=0/\(s.1=zt->TZ x.1 s.2.1=zf)/\bQ (zt,(x.1,s.2.2)) l
theorem cj{x:U7}(h:kE x=0):x.1.length<=32:=by
 unfold kE at h;omega
theorem V1{α β σ S:Type}{l:List α}(mk:Nat->σ->S)(Inv:List α->Nat->σ->Prop)(F:List α->Nat->σ->β){f:S->Option (LR S β)}{s:S}(a:σ)(g:s=mk 0 a)(p:l.length<=9223372036854775807)(hi:Inv l 0 a)
  (o:∀ a,Inv [] l.length a->f (mk l.length a)=zo (.dn (F [] l.length a)))
  (hc:∀ k x m a,l.drop k=x::m->l[k]?=zo x->k<l.length->Inv (x::m) k a -> ∃ b,f (mk k a)=zo (.nx (mk (k+1) b))/\Inv m (k+1) b/\F (x::m) k a=F m (k+1) b):loop f s=zo (F l 0 a):=by
 subst g
 have c:∀ (m:List α) (k n:Nat) (a:σ),l.drop k=m->k<=l.length->m.length<n->Inv m k a->Ih n f (mk k a)=zo (F m k a):=by
  intro m
  induction m with
  |nil=>
   intro k n a i h e hi;obtain⟨n,rfl⟩:∃ j,n=j+1:=⟨n-1,by omega⟩
   have d:k=l.length:=by
    grind
   subst d;exact Vr (o a hi)
  |cons x m q=>
   intro k n a i h e hi;obtain⟨n,rfl⟩:∃ j,n=j+1:=⟨n-1,by omega⟩
   grind [o3,ns,Vi]
 exact c l 0 _ a (by simp) (by omega) (by omega) hi
def V8:Vw->List U7->Vw
 |s,[]=>s
 |s,x::l=>V8 (zt,(x.1,s.2.2)) l
theorem eG{β:Type}{out:List U7}{n:Nat}(h:out.length<=n)(a:n<=20000)(x:U7)(k:Unit->Option β):gd (B2 (A0 (AQ out) (AQ [x])) 1048576) k=k ():=Va (by grind [A0,AQ,dc,eb]) k
theorem jS{l:List U7}{b:Bool}(B:l.length<=20000)(z:bQ (zf,([],b)) l):Xu (l,b)=zo (XM (zf,([],b)) l,(0,0)):=by
 unfold Xu WU;simp only[VC,VB];rw[Um,zx (by omega),UG]
 rw[V1 (l:=l) (σ:=Vw×List U7) (s:=(0,(0,(0,((zf,([],b)),[]))))) (λk a=>((0:Int),((k:Int),((0:Int),a))))
  (λm k a=>bQ a.1 m/\a.1.2.1.length<=32/\(a.1.1=zf->a.1.2.1=[])/\a.2.length<=k/\k+m.length=l.length)
  (λm k a=>(1,((0,((l.length:Int),(0,(V8 a.1 m,a.2++XM a.1 m)))),()))) ((zf,([],b)),[]) rfl (by omega) ⟨z,by simp,λ_=>rfl,by simp,by simp⟩ ?_ ?_,UG]
 ·simp;rfl
 ·grind [re,TA,V8,XM]
 ·rintro k x m ⟨s,out⟩ C q y ⟨⟨d,e,g⟩,i,j,n,A⟩;simp only at d e g i j n ⊢;refine⟨((zt,(x.1,s.2.2)),out++if keep s x=zt then[x]else[]),?_,⟨g,cj d,(λh=>by cases h),?_,by grind⟩,?_⟩
  ·rw[rl y,Tj,U8,Ua q,dF i j,UG,Uq,zy rfl,WP,d,UG,Uq,zy rfl];unfold keep VZ;obtain⟨s1,s2,r⟩:=s;obtain⟨f,t,c,u⟩:=x;simp only[UG,VH q (show l.length<=9223372036854775807 by omega)]at e ⊢;have p:∀ {β:Type} (k:Unit->Option β),gd (B2 (A0 out.length [(f,(t,(c,u)))].length) 1048576) k=k ():=λk=>eG n (by omega) (f,(t,(c,u))) k;cases s1 with
   |true=>
    have w:=e rfl;simp only[Tj,TA,XE,w,p];by_cases o:f=s2
    ·simp[o]
    ·simp only[o,if_false,decide_false];cases r<;>cases c<;>simp[Tj,TA,If]
   |false=>
    simp only[Tj,TA,p];cases r<;>cases c<;>simp[Tj,TA,If]
  ·grind
  grind [V8,XM,hM]
end
section
open Go Sv
theorem fO:∀ (l:List U7) (s:Vw) (x:U7),XM s (l++[x])=XM s l++(if keep (V8 s l) x=zt then[x]else[])
 |[],s,x=>by
  show(if keep s x=zt then[x]else[])++[]=[]++(if keep s x=zt then[x]else[])
  simp_all
 |y::l,s,x=>by
  show(if keep s y=zt then[y]else[])++XM _ (l++[x])=((if keep s y=zt then[y]else[])++XM _ l)++_
  rw[fO l,hM];rfl
theorem aV:∀ (l:List U7) (s:Vw) (x:U7),V8 s (l++[x])=(zt,(x.1,(V8 s l).2.2))
 |[],s,x=>rfl
 |y::l,s,x=>by simp only[List.cons_append,V8,aV l]
theorem YK:∀ (l:List U7) (s:Vw),(V8 s l).2.2=s.2.2
 |[],s=>rfl
 |y::l,s=>by rw[V8,YK l]
theorem fw:∀ (l:List U7) (s:Vw) (x:U7),bQ s l->kE x=0->((V8 s l).1=zt->TZ x.1 (V8 s l).2.1=zf)->bQ s (l++[x])
 |[],s,x,_,a,b=>⟨a,b,trivial⟩
 |y::l,s,x,⟨a,b,c⟩,d,h5=>⟨a,b,fw l _ x c d h5⟩
theorem da:∀ (l:List U7) (s:Vw),bQ s l->s.2.1.length<=32->(s.1=zf->s.2.1=[])->(V8 s l).2.1.length<=32/\((V8 s l).1=zf->(V8 s l).2.1=[])
 |[],s,_,h1,h2=>⟨h1,h2⟩
 |y::l,s,⟨a,_,b⟩,_,_=>da l _ b (cj a) (λh=>by cases h)
abbrev s0(a:Bool):Vw:=(zf,([],a))
def Wm(a b:List U7)(c:Bool)(n:Nat):Yq:=(al a b n,(V8 (s0 c) (VO a b n),(XM (s0 c) (VO a b n),(n:Int))))
def ZB(a b:List U7):Nat->List Int
 |0=>[]
 |n+1=>ZB a b n++[(dC a b n:Int)]
theorem bV(a b:List U7):∀ n,(ZB a b n).length=n
 |0=>rfl
 |n+1=>by simp[ZB,bV a b n]
theorem Ze{S β:Type}{f:S->Option (LR S β)}{r:β}(mk:Nat->S)(a n:Nat){s:S}(b:s=mk a)(c:a<=n)(e:n<18446744073709551616)(hs:∀ k,a<=k->k<n->f (mk k)=zo (.nx (mk (k+1))))(d:f (mk n)=zo (.dn r)):loop f s=zo r:=by
 have h:=bL (f:=f) (r:=r) (λk=>mk (a+k)) (n-a) (s:=s) b (by omega) (λk c=>hs (a+k) (by omega) (by omega)) (by simp_all);exact h
theorem cQ(l:List U7)(h:l.length<=100000):XW (l,l)=zo zt:=by
 unfold XW;simp only[VC,VB]
 rw[Uq,zy rfl,bM (l:=l) (σ:=Unit) (s:=(zf,0)) (λk _=>(zf,(k:Int))) (λ_ _ _=>zo (1,((zf,(l.length:Int)),()))) () rfl (by omega) (λc=>by
  simp only;rw[re];rfl) (λk x m c _ a b=>.inl ⟨(),by
   simp only;rw[rl b,Tj,U8,Ua a,U8,Ua a,Zy,Zy,Yr,show PC x.2.2.2 x.2.2.2=zt by unfold PC;simp,show IG (OM zt (OM zt (OM zt (OM zt zt))))=zf from rfl,TA,VH a (by omega)],rfl⟩),UG]
 rfl
section
variable{a b:List U7}(va:VL a)(vb:VL b)
include va vb
theorem Xx{n:Nat}{x:U7}(c:bx a b n=zo x):VO a b (n+1)=VO a b n++[x]:=by
 show(match bx a b n with
  |some x=>VO a b n++[x]
  |none=>VO a b n)=_
 rw[c]
theorem YR(d:Bool):∀ {n:Nat},n<=a.length+b.length->bQ (s0 d) (VO a b n)
 |0,_=>trivial
 |n+1,h=>by
  obtain⟨x,c,_⟩:=Ws va vb (n:=n) (by omega);rw[Xx va vb c];refine fw _ _ _ (YR d (by omega)) (lW va vb c) λ_=> ?_;cases n with
  |zero=>rename_i f;cases f
  |succ m=>
   obtain⟨y,e,_⟩:=Ws va vb (n:=m) (by omega);rw[Xx va vb e,aV];exact jH va vb (by omega) e c
theorem gb(c:Bool){n:Nat}(h:n<=a.length+b.length):(V8 (s0 c) (VO a b n)).2.1.length<=32/\((V8 (s0 c) (VO a b n)).1=zf->(V8 (s0 c) (VO a b n)).2.1=[]):=
 da _ _ (YR va vb c h) (by simp) (λ_=>rfl)
theorem ry{n:Nat}(h:n=a.length+b.length):(wk (kx a (pos a b n).1) (kx b (pos a b n).2)).2=zt:=by
 obtain⟨c,hs⟩:=Xa va vb (n:=n) (by omega);have d:=c.ia;have e:=c.jb;rw[bJ (a9 (by omega)),bJ (a9 (by omega))];rfl
theorem sB{n:Nat}{x:U7}(c:bx a b n=zo x):(wk (kx a (pos a b n).1) (kx b (pos a b n).2)).2=zf/\wn (kx a (pos a b n).1) (kx b (pos a b n).2)=dC a b n:=by
 unfold bx at c;unfold dC;cases g:Y9 a b (pos a b n).1 (pos a b n).2 with
 |true=>rw[zy g]at c;grind [qq,YJ]
 |false=>rw[zx (by simp[g])]at c;grind [qt,YJ]
theorem rO:ZH [a,b]=zo (VO a b (a.length+b.length),(ZB a b (a.length+b.length),0)):=by
 have u:=va.len;have w:=vb.len;unfold ZH;rw[aq va vb,UG,Uq,zy rfl];refine Eq.trans (b:=bd (loop _ (0,[([],zf),([],zf)])) _) rfl ?_;refine VY (x:=(0,((2,[kx a 0,kx b 0]),()))) (V5 (s1:=(1,[kx a 0,([],zf)])) (s2:=(2,[kx a 0,kx b 0])) ?_ ?_ rfl) ?_
 ·show bd (Ve (a,((0:Nat):Int))) _=_;rw[Yf (by omega)];rfl
 ·show bd (Ve (b,((0:Nat):Int))) _=_;rw[Yf (by omega)];rfl
 rw[show((0:Nat),(((2:Int),[kx a 0,kx b 0]),())).2.1.2=[kx a 0,kx b 0]from rfl,bR (Vn _ _) (Vn _ _),UG]
 refine VY (x:=(0,((VO a b (a.length+b.length),(ZB a b (a.length+b.length),((),([((pos a b (a.length+b.length)).1:Int),((pos a b (a.length+b.length)).2:Int)],Tt (kx a (pos a b (a.length+b.length)).1) (kx b (pos a b (a.length+b.length)).2))))),())))
  (Ze (λk=>(VO a b k,(ZB a b k,((),([((pos a b k).1:Int),((pos a b k).2:Int)],Tt (kx a (pos a b k).1) (kx b (pos a b k).2)))))) 0 (a.length+b.length) rfl (by omega) (by omega) (λk _ l=> ?_) ?_) rfl
 ·obtain⟨x,c,_⟩:=Ws va vb (n:=k) l;obtain⟨h,s⟩:=sB va vb c;obtain⟨t,hs⟩:=Xa va vb (n:=k) (by omega);have o:(VO a b k).length=k:=WH va vb (by omega);have r:=bV a b k;simp only;rw[ZG (Vn _ _) (Vn _ _),zx (by simp[h]),UG,Uq,zy rfl,s];rw[Xx va vb c];unfold bx at c;rw[show ZB a b (k+1)=ZB a b k++[(dC a b k:Int)]from rfl];unfold dC;rw[show pos a b (k+1)=if Y9 a b (pos a b k).1 (pos a b k).2=zt then((pos a b k).1+1,(pos a b k).2)else((pos a b k).1,(pos a b k).2+1)from rfl]
  have i:∀ {β:Type} (y:U7) (q:Unit->Option β),gd (B2 (A0 (AQ (VO a b k)) (AQ [y])) 1048576) q=q ():=λy q=>Va (by grind [A0,AQ,dc,eb]) q;have j:∀ {β:Type} (y:Int) (q:Unit->Option β),gd (B2 (A0 (AQ (ZB a b k)) (AQ [y])) 1048576) q=q ():=λy q=>Va (by grind [A0,AQ,dc,eb]) q;cases g:Y9 a b (pos a b k).1 (pos a b k).2 with
  |true=>
   rw[zy g]at c;obtain⟨d,_⟩:=qq g;obtain⟨m,f⟩:=ZN (p:=kx a (pos a b k).1) (q:=kx b (pos a b k).2) (k:=kx a ((pos a b k).1+1)) (Vn _ _) (Vn _ _) (Vn _ _) h (by rw[d,YJ c];exact cK va c)
   have e:rk (kx a (pos a b k).1) (kx b (pos a b k).2) (kx a ((pos a b k).1+1))=(kx a ((pos a b k).1+1),kx b (pos a b k).2):=by
    simp_all[rk,Y9,zy]
   rw[e]at f;have hi:=(a8.1 c).1;simp only[if_true];refine(aL 0 rfl (x:=a) rfl).trans ((aL 0 rfl (x:=((pos a b k).1:Int)) rfl).trans ((XY _ rfl c).trans ?_));rw[i,j];refine(aL 0 rfl (x:=((pos a b k).1:Int)) rfl).trans ((aL 0 rfl (x:=((pos a b k).1:Int)) rfl).trans ((aL 0 rfl (x:=a) rfl).trans ((aL 0 rfl (x:=TI .i64 ((pos a b k).1:Int) 1) rfl).trans ?_)));rw[VD (by omega),Yf (by omega),UG,f,UG];rfl
  |false=>
   rw[zx (by simp[g])]at c;obtain⟨d,_⟩:=qt g;obtain⟨m,f⟩:=ZN (p:=kx a (pos a b k).1) (q:=kx b (pos a b k).2) (k:=kx b ((pos a b k).2+1)) (Vn _ _) (Vn _ _) (Vn _ _) h (by rw[d,YJ c];exact cK vb c)
   have e:rk (kx a (pos a b k).1) (kx b (pos a b k).2) (kx b ((pos a b k).2+1))=(kx a (pos a b k).1,kx b ((pos a b k).2+1)):=by
    simp_all[rk,Y9,zx]
   rw[e]at f;have hi:=(a8.1 c).1;simp only[ll,if_false];refine(aL 1 rfl (x:=b) rfl).trans ((aL 1 rfl (x:=((pos a b k).2:Int)) rfl).trans ((XY _ rfl c).trans ?_));rw[i,j];refine(aL 1 rfl (x:=((pos a b k).2:Int)) rfl).trans ((aL 1 rfl (x:=((pos a b k).2:Int)) rfl).trans ((aL 1 rfl (x:=b) rfl).trans ((aL 1 rfl (x:=TI .i64 ((pos a b k).2:Int) 1) rfl).trans ?_)));rw[VD (by omega),Yf (by omega),UG,f,UG];rfl
 ·simp only;rw[ZG (Vn _ _) (Vn _ _),zy (ry va vb rfl),UG,Uq,zx (by decide),Uq,zx (by decide)]
end
end
section
open Go Sv
theorem i9{β:Type}{out:List U7}{n:Nat}(h:out.length<=n)(a:n<=20000)(x:U7)(k:Unit->Option β):gd (B2 (A0 out.length [x].length) 1048576) k=k ():=eG h a x k
section
variable{a b:List U7}(va:VL a)(vb:VL b)
include va vb
theorem Yp{n:Nat}(h:n<=a.length+b.length):(VO a b (a.length+b.length)).take n=VO a b n:=gj va vb (ee _) h
theorem aJ{n:Nat}{x:U7}(c:Bool)(d:bx a b n=zo x):V8 (s0 c) (VO a b (n+1))=(zt,(x.1,c)):=by
 rw[Xx va vb d,aV,YK]
theorem iB(c:Bool){n:Nat}(h:n<=a.length+b.length):YI (Wm a b c n)=zo 0:=by
 obtain⟨e,hs⟩:=Xa va vb (n:=n) h;have i:=va.len;have j:=vb.len;have f:=ZZ (s0 c) (VO a b n);have g:(VO a b n).length=n:=WH va vb h;unfold YI;rw[show(Wm a b c n).1=bA a b (pos a b n).1 (pos a b n).2 from rfl,aY va vb e,UG,Uq,zy rfl];refine VY (x:=(0,((2,(n:Int)),()))) (V5 (s1:=(1,((pos a b n).1:Int))) (s2:=(2,(n:Int))) ?_ ?_ rfl) ?_
 ·refine(ai 0 rfl rfl (x:=((pos a b n).1:Int)) rfl).trans ?_;show zo (LR.nx ((1:Int),TI .i64 0 ((pos a b n).1:Int)))=_;rw[To (by omega),x8]
 ·refine(ai 1 rfl rfl (x:=((pos a b n).2:Int)) rfl).trans ?_
  grind [To,pos]
 simp only[VC,VB];rw[show(Wm a b c n).2.2.1=XM (s0 c) (VO a b n)from rfl,show(Wm a b c n).2.2.2=(n:Int)from rfl,show(Wm a b c n).2.1=V8 (s0 c) (VO a b n)from rfl,Um,zx (by omega),Um,zx (by omega),Uq,zy rfl];rw[show(bA a b (pos a b n).1 (pos a b n).2).1=[a,b]from rfl,rO va vb,UG,Uq,zy rfl,U8];rw[Va (by simp_all[WH,ee]),Va (Nat.zero_le _)];rw[show DV (VO a b (a.length+b.length)) 0 n=VO a b n from by simp_all[DV,tk,Nat.sub_zero,Yp],YK];rw[show(s0 c).2.2=c from rfl,jS (by omega) (YR va vb c h),UG,Uq,zy rfl];unfold WU;rw[UG,Um];cases n with
 |zero=>
  rw[zx (by omega),cQ _ (by omega),UG,d6,TA];show br (IG (OM (Sv.beq zf zf) (OM (seq [] []) (OM (Sv.beq c c) zt)))) _ _=_;rw[Yr,Yr,Zy];rfl
 |succ m=>
  obtain⟨x,d,_⟩:=Ws va vb (n:=m) (by omega);rw[zy (by omega),show TM .i64 ((m+1:Nat):Int) 1=(m:Int) by rw[Tq (by omega)];omega,U8];rw[Ua (x:=x) (by rw[Zg va vb (ee _) (by omega)];exact d),cQ _ (by omega),UG,d6,TA,aJ va vb c d];rw[Yr,Yr,Zy];rfl
theorem lR{n:Nat}(h:n<=a.length+b.length):Ys (al a b n)=zo (((a.length+b.length-n:Nat):Int),0):=by
 obtain⟨c,hs⟩:=Xa va vb (n:=n) h;have f:=va.len;have g:=vb.len;have d:=c.ia;have e:=c.jb;unfold Ys;rw[show al a b n=bA a b (pos a b n).1 (pos a b n).2 from rfl,aY va vb c,UG,Uq,zy rfl];refine VY (x:=(0,((2,((a.length+b.length-n:Nat):Int)),()))) (V5 (s1:=(1,(a.length:Int)-((pos a b n).1:Int))) (s2:=(2,((a.length+b.length-n:Nat):Int))) ?_ ?_ rfl) rfl
 ·refine(ai 0 rfl rfl (x:=a) rfl).trans ((XY 0 rfl (x:=((pos a b n).1:Int)) rfl).trans ?_);simp only[VC,VB];rw[Tq (by omega)];show zo (LR.nx ((1:Int),TI .i64 0 ((a.length:Int)-((pos a b n).1:Int))))=_;rw[To (by omega),x8]
 ·refine(ai 1 rfl rfl (x:=b) rfl).trans ((XY 1 rfl (x:=((pos a b n).2:Int)) rfl).trans ?_)
  grind [VC,VB,Tq,To,pos]
theorem bj(c:Bool){n:Nat}(h:n<=a.length+b.length):Vo (Wm a b c n)=zo (((a.length+b.length-n:Nat):Int),0):=by
 unfold Vo;rw[iB va vb c h,UG,Uq,zy rfl,show(Wm a b c n).1=al a b n from rfl,lR va vb h];rfl
theorem cN(c:Bool){n:Nat}{x:U7}(d:bx a b n=zo x):Wm a b c (n+1)=(al a b (n+1),((zt,(x.1,c)),(XM (s0 c) (VO a b n)++(if keep (V8 (s0 c) (VO a b n)) x=zt then[x]else[]),((n+1:Nat):Int)))):=by
 simp_all[Wm,Xx,aV,YK,fO]
theorem Zz(c:Bool){n:Nat}{x:U7}(h:n<a.length+b.length)(e:bx a b n=zo x):V9 (V8 (s0 c) (VO a b n),x)=zo (keep (V8 (s0 c) (VO a b n)) x,((zt,(x.1,c)),0)):=by
 have d:=gb va vb c (n:=n) (by omega);rw[j9 d.1 d.2 (lW va vb e),YK];intro g;cases n with
 |zero=>cases g
 |succ m=>
  obtain⟨y,f,_⟩:=Ws va vb (n:=m) (by omega);rw[aJ va vb c f];exact jH va vb (by omega) f e
def uT(k:Int)(s:Yq):Int×(Int×(List (List U7)×(List Int×(List VI×(List Int×(Int×(Bool×(XN×(Bool×(List U7×Int)))))))))):=
 (k,(0,(s.1.1,(s.1.2.1,(s.1.2.2.1,(s.1.2.2.2.1,(s.1.2.2.2.2,(s.2.1.1,(s.2.1.2.1,(s.2.1.2.2,(s.2.2.1,s.2.2.2)))))))))))
theorem du(c:Bool){n:Nat}(h:n<=a.length+b.length){k:Nat}:V3 (Wm a b c n,(k:Int))=zo (Wm a b c (n+min k (a.length+b.length-n)),(((min k (a.length+b.length-n):Nat):Int),0)):=by
 have w:=va.len;have z:=vb.len;have e:∀ m,m<=a.length+b.length->(XM (s0 c) (VO a b m)).length<=m:=λm r=>by have:=ZZ (s0 c) (VO a b m);have:=WH va vb r;omega
 obtain⟨u,s⟩:∃ u,u=min k (a.length+b.length-n):=⟨_,rfl⟩
 have i:Uy (k:Int) ((a.length+b.length-n:Nat):Int)=(u:Int):=by
  unfold Uy;omega
 rw[<- s];unfold V3;rw[bj va vb c h,UG,Uq,zy rfl];simp only[i,VC,VB];rw[Uo,zx (by omega),show(Wm a b c n).2.2.2=(n:Int)from rfl,To (by omega),Um,zx (by omega)];rw[show(Wm a b c n).2.2.1=XM (s0 c) (VO a b n)from rfl,show(Wm a b c n).1=al a b n from rfl,Va (by grind),Va (show(al a b n).2.1.length<=1048576 from(show 2<=1048576 by omega)),Uo];by_cases t:u=0
 ·grind
 rw[zy (by omega)];obtain⟨x,o,_⟩:=Ws va vb (n:=n) (by omega);rw[cq va vb (by omega) o,UG,Uq,zy rfl,show(Wm a b c n).2.1=V8 (s0 c) (VO a b n)from rfl,Zz va vb c (by omega) o,UG,Uq,zy rfl]
 have q:∀ j,1<=j->j<u -> ∃ y,bx a b (n+j)=zo y:=λj f g=>by
  obtain⟨y,d,_⟩:=Ws va vb (n:=n+j) (by omega)
  simp_all
 rw[Uw];have hS:=cN va vb c o;cases p:keep (V8 (s0 c) (VO a b n)) x with
 |true=>
  rw[p]at hS;rw[zy rfl,i9 (e n h) (by omega)];refine VY (x:=(1,(uT u (Wm a b c (n+u)),()))) (Ze (λj=>uT j (Wm a b c (n+j))) 1 u ?_ (by omega) (by omega) (λj f g=> ?_) ?_) ?_
  ·rw[hS,show TI .i64 (n:Int) 1=((n+1:Nat):Int)from VD (by omega)];rfl
  ·obtain⟨y,d⟩:=q j f g;show br (UV (j:Int) (u:Int)) _ _=_;rw[Uo,zy (by omega)];show bd (V4 (al a b (n+j))) _=_;rw[cq va vb (by omega) d,UG,Uq,zy rfl];show bd (V9 (V8 (s0 c) (VO a b (n+j)),y)) _=_;rw[Zz va vb c (by omega) d,UG,Uq,zy rfl,Uw,show n+(j+1)=n+j+1 by omega,cN va vb c d];cases l:keep (V8 (s0 c) (VO a b (n+j))) y with
   |true=>
    rw[zy rfl,zy rfl];show gd (B2 (A0 (AQ (XM (s0 c) (VO a b (n+j)))) (AQ [y])) 1048576) _=_;rw[eG (e _ (by omega)) (by omega)];show zo (LR.nx (TI .i64 (j:Int) 1,_))=_;unfold uT;simp only[VD (show j+1<=9223372036854775807 by omega),If];rw[show TI .i64 (Wm a b c (n+j)).2.2.2 1=((n+j+1:Nat):Int)from VD (by omega)];rfl
   |false=>
    rw[zx (by simp),zx (by simp)];show zo (LR.nx (TI .i64 (j:Int) 1,_))=_;unfold uT;simp only[VD (show j+1<=9223372036854775807 by omega)];rw[show TI .i64 (Wm a b c (n+j)).2.2.2 1=((n+j+1:Nat):Int)from VD (by omega),iP];rfl
  ·show br (UV (u:Int) (u:Int)) _ _=_;rw[Uo,zx (by omega)]
  ·rfl
 |false=>
  rw[p]at hS;rw[zx (by simp)];refine VY (x:=(1,(uT u (Wm a b c (n+u)),()))) (Ze (λj=>uT j (Wm a b c (n+j))) 1 u ?_ (by omega) (by omega) (λj f g=> ?_) ?_) ?_
  ·rw[hS,show TI .i64 (n:Int) 1=((n+1:Nat):Int)from VD (by omega),zx (by simp),iP];rfl
  ·obtain⟨y,d⟩:=q j f g;show br (UV (j:Int) (u:Int)) _ _=_;rw[Uo,zy (by omega)];show bd (V4 (al a b (n+j))) _=_;rw[cq va vb (by omega) d,UG,Uq,zy rfl];show bd (V9 (V8 (s0 c) (VO a b (n+j)),y)) _=_;rw[Zz va vb c (by omega) d,UG,Uq,zy rfl,Uw,show n+(j+1)=n+j+1 by omega,cN va vb c d];cases l:keep (V8 (s0 c) (VO a b (n+j))) y with
   |true=>
    rw[zy rfl,zy rfl];show gd (B2 (A0 (AQ (XM (s0 c) (VO a b (n+j)))) (AQ [y])) 1048576) _=_;rw[eG (e _ (by omega)) (by omega)];show zo (LR.nx (TI .i64 (j:Int) 1,_))=_;unfold uT;simp only[VD (show j+1<=9223372036854775807 by omega),If];rw[show TI .i64 (Wm a b c (n+j)).2.2.2 1=((n+j+1:Nat):Int)from VD (by omega)];rfl
   |false=>
    rw[zx (by simp),zx (by simp)];show zo (LR.nx (TI .i64 (j:Int) 1,_))=_;unfold uT;simp only[VD (show j+1<=9223372036854775807 by omega)];rw[show TI .i64 (Wm a b c (n+j)).2.2.2 1=((n+j+1:Nat):Int)from VD (by omega),iP];rfl
  ·show br (UV (u:Int) (u:Int)) _ _=_;rw[Uo,zx (by omega)]
  ·rfl
end
end
section
open Go Sv
theorem XG{α β σ S:Type}{l:List α}(mk:Nat->σ->S)(I:List α->Nat->σ->Prop)(Q:β->Prop){f:S->Option (LR S β)}{s:S}(a:σ)(q:s=mk 0 a)(y:l.length<=9223372036854775807)(hi:I l 0 a)
  (w:∀ a,I [] l.length a -> ∃ r,f (mk l.length a)=zo (.dn r)/\Q r)
  (hc:∀ k x m a,l.drop k=x::m->l[k]?=zo x->k<l.length->I (x::m) k a->(∃ b,f (mk k a)=zo (.nx (mk (k+1) b))/\I m (k+1) b) \/ ∃ r,f (mk k a)=zo (.dn r)/\Q r):∃ r,loop f s=zo r/\Q r:=by
 subst q
 have c:∀ (m:List α) (k n:Nat) (a:σ),l.drop k=m->k<=l.length->m.length<n->I m k a -> ∃ r,Ih n f (mk k a)=zo r/\Q r:=by
  intro m
  induction m with
  |nil=>
   intro k n a o t i hi;obtain⟨n,rfl⟩:∃ j,n=j+1:=⟨n-1,by omega⟩
   have h:k=l.length:=by
    grind
   subst h;obtain⟨r,d,e⟩:=w a hi;exact⟨r,Vr d,e⟩
  |cons x m z=>
   intro k n a o t i hi;obtain⟨n,rfl⟩:∃ j,n=j+1:=⟨n-1,by omega⟩
   have p:l[k]?=zo x:=by
    grind [o3]
   have g:k<l.length:=(a8.1 p).1
   have u:l.drop (k+1)=m:=by
    grind [ns]
   rcases hc k x m a o p g hi with⟨b,d,e⟩|⟨r,d,e⟩
   ·grind [Vi]
   ·exact⟨r,Vr d,e⟩
 exact c l 0 _ a (by simp) (by omega) (by omega) hi
theorem Zd{α:Type}(l m:List α)(n:l.length=m.length)(g:l.length<=9223372036854775806){f:(Int×Bool)->Option (LR (Int×Bool) (Nat×((Int×Bool)×Unit)))}
  (hs:∀ (k:Nat) x y,l[k]?=zo x->m[k]?=zo y->(x=y->f ((k:Int),zf)=zo (.nx (((k+1:Nat):Int),zf)))/\(x≠y->f ((k:Int),zf)=zo (.dn (0,(((k:Int),zf),())))))
  (i:f ((l.length:Int),zf)=zo (.dn (1,(((l.length:Int),zf),())))) :
  ∃ r,loop f (0,zf)=zo r/\((l=m/\r.1=1)\/(l≠m/\r.1=0/\r.2.1.2=zf)):=by
 refine XG (l:=l) (σ:=Unit) (λk _=>((k:Int),zf)) (λt k _=>t=l.drop k/\l.take k=m.take k) _ () rfl (by omega) ⟨by simp,by simp⟩ (λd h=> ?_) (λk x t d hd b j h=> ?_)
 ·grind
 ·have a:k<m.length:=by omega
  have c:m[k]?=zo m[k]:=by simp[a]
  by_cases e:x=m[k]
  ·refine .inl ⟨(),(hs k x m[k] b c).1 e,?_,?_⟩
   ·grind [ns]
   grind [List.take_add_one]
  grind
theorem beq_eq(a b:Bool):Sv.beq a b=decide (a=b):=by rfl
theorem W3(a b:Int):PC a b=decide (a=b):=by
 rfl
theorem Zl(p q:Prop)[Decidable p][Decidable q]:OM (decide p) (decide q)=decide (p/\q):=by unfold OM;simp
theorem WF(p:Prop)[Decidable p]:IG (decide p)=decide (¬ p):=by unfold IG;simp
theorem bC(a:Bool):OM a zt=a:=by cases a<;>rfl
theorem ja(l m:List VI)(i:l.length<=9223372036854775806):VT (l,m)=zo (decide (l=m)):=by
 unfold VT;simp only[VC,VB];rw[Uq];by_cases a:(l.length:Int)=(m.length:Int)
 ·rw[zy a];have b:l.length=m.length:=by omega
  obtain⟨r,h,s⟩:=Zd l m b i (f:=λs0=>br (UV s0.1 (l.length:Int)) (λ_=>S1 s0.1 λp=>ix l p λd=>S1 s0.1 λq=>ix m q λg=>br (IG (OM (seq d.1 g.1) (OM (Sv.beq d.2 g.2) zt))) (λ_=>zo (.dn ((0,((s0.1,zf),()))))) λ_=>zo (.nx (TI .i64 s0.1 1,s0.2))) λ_=>zo (.dn ((1,(s0,()))))) (λk x y c o=>by
    have n:=(a8.1 c).1
    have j:∀ {β:Type} (u v:Unit->Option β),br (IG (OM (seq x.1 y.1) (OM (Sv.beq x.2 y.2) zt))) u v=if x=y then v ()else u ():=by
     intro β u v;rw[bC,Zx,beq_eq,Zl,WF,WK]
     grind
    constructor
    ·intro e;simp only;rw[rl n,Tj,U8,Ua c,U8,Ua o,j,zy e,VD (by omega)]
    simp_all[rl,Tj,U8,Ua,zx]) (by simp only;rw[re];rfl)
  refine VY h ?_
  grind [UH]
 ·rw[zx a];have:¬ l=m:=λe=>a (by rw[e]);simp[this]
theorem aT(l m:List Int)(g:l.length<=9223372036854775806):VN (l,m)=zo (decide (l=m)):=by
 unfold VN;simp only[VC,VB];rw[Uq];by_cases a:(l.length:Int)=(m.length:Int)
 ·rw[zy a];have b:l.length=m.length:=by omega
  obtain⟨r,d,q⟩:=Zd l m b g (f:=λs0=>br (UV s0.1 (l.length:Int)) (λ_=>S1 s0.1 λj=>ix l j λo=>S1 s0.1 λn=>ix m n λp=>br (Sx o p) (λ_=>zo (.dn ((0,((s0.1,zf),()))))) λ_=>zo (.nx (TI .i64 s0.1 1,s0.2))) λ_=>zo (.dn ((1,(s0,()))))) (λk x y c i=>by
    have h:=(a8.1 c).1;constructor
    ·intro e;simp only;rw[rl h,Tj,U8,Ua c,U8,Ua i,Uq,zy e,VD (by omega)]
    simp_all[rl,Tj,U8,Ua,Uq]) (by simp only;rw[re];rfl)
  refine VY d ?_
  grind [UH]
 ·rw[zx a];have:¬ l=m:=λe=>a (by rw[e]);simp[this]
theorem fG{β:Type}(x y:U7)(u v:Unit->Option β):br (IG (OM (seq x.1 y.1) (OM (seq x.2.1 y.2.1) (OM (Sv.beq x.2.2.1 y.2.2.1) (OM (PC x.2.2.2 y.2.2.2) zt))))) u v=if x=y then v ()else u ():=by
 rw[bC,Zx,Zx,beq_eq,W3,Zl,Zl,Zl,WF,WK]
 grind
theorem Xd(l m:List U7)(i:l.length<=9223372036854775806):Vf (l,m)=zo (decide (l=m)):=by
 unfold Vf;simp only[VC,VB];rw[Uq];by_cases c:(l.length:Int)=(m.length:Int)
 ·rw[zy c];have d:l.length=m.length:=by omega
  obtain⟨r,h,q⟩:=Zd l m d i (f:=λs0=>br (UV s0.1 (l.length:Int)) (λ_=>S1 s0.1 λo=>ix l o λa=>S1 s0.1 λp=>ix m p λb=>br (IG (OM (seq a.1 b.1) (OM (seq a.2.1 b.2.1) (OM (Sv.beq a.2.2.1 b.2.2.1) (OM (PC a.2.2.2 b.2.2.2) zt))))) (λ_=>zo (.dn ((0,((s0.1,zf),()))))) λ_=>zo (.nx (TI .i64 s0.1 1,s0.2))) λ_=>zo (.dn ((1,(s0,()))))) (λk x y g n=>by
    have j:=(a8.1 g).1;constructor
    ·intro e;simp only;rw[rl j,Tj,U8,Ua g,U8,Ua n,fG,zy e,VD (by omega)]
    simp_all[rl,Tj,U8,Ua,fG]) (by simp only;rw[re];rfl)
  refine VY h ?_
  grind [UH]
 ·rw[zx c];have:¬ l=m:=λe=>c (by rw[e]);simp[this]
theorem ZE(l m:List U7)(a:l.length<=9223372036854775806):Vy (l,m)=zo (decide (l=m)):=by
 unfold Vy;rw[Xd l m a];rfl
instance:DecidableEq U7:=inferInstance
instance:DecidableEq (List U7):=inferInstance
instance:DecidableEq (List (List U7)):=inferInstance
instance:DecidableEq VI:=inferInstance
instance:DecidableEq Ww:=inferInstance
instance:DecidableEq WX:=inferInstance
instance:DecidableEq Vw:=inferInstance
instance:DecidableEq Yq:=inferInstance
theorem fb(x y:Yq)(n:x.1.1.length<=1000)(i:∀ l∈x.1.1,l.length<=1000000)(o:x.1.2.1.length<=1000)(p:x.1.2.2.1.length<=1000)(q:x.1.2.2.2.1.length<=1000)(s:x.2.2.1.length<=1000000):Wt (x,y)=zo (decide (x=y)):=by
 obtain⟨⟨a,D,E,F,M⟩,⟨xs,L,J⟩,G,K⟩:=x;obtain⟨⟨b,N,P,S,Z⟩,⟨X,Y,O⟩,W,U⟩:=y;simp only at n i o p q s;unfold Wt;simp only[VC,VB];rw[Uq];by_cases d:(a.length:Int)=(b.length:Int)
 ·rw[zy d];have g:a.length=b.length:=by omega
  obtain⟨r,z,h⟩:=Zd a b g (by omega) (f:=λs0=>br (UV s0.1 (a.length:Int)) (λ_=>S1 s0.1 λu=>ix a u λB=>S1 s0.1 λw=>ix b w λC=>bd (Vy (B,C)) λA=>br (IG A) (λ_=>zo (.dn ((0,((s0.1,zf),()))))) λ_=>zo (.nx (TI .i64 s0.1 1,s0.2))) λ_=>zo (.dn ((1,(s0,()))))) (λk x y c m=>by
    have j:=(a8.1 c).1;have t:=i x (bl c);constructor
    ·intro e;simp only;rw[rl j,Tj,U8,Ua c,U8,Ua m,ZE _ _ (by omega),UG,WF,WK,zx (by simp[e]),VD (by omega)]
    ·intro e;simp only
     rw[rl j,Tj,U8,Ua c,U8,Ua m,ZE _ _ (by omega),UG,WF,WK,zy e]) (by simp only;rw[re];rfl)
  refine VY z ?_;simp only[aT _ _ (show D.length<=9223372036854775806 by omega),aT _ _ (show F.length<=9223372036854775806 by omega),ja _ _ (show E.length<=9223372036854775806 by omega),ZE _ _ (show G.length<=9223372036854775806 by omega),UG,WK,W3,Zx,beq_eq,bC,Zl,UH];rw[Uw];rcases h with⟨e,h⟩|⟨e,h,I⟩
  ·rw[zx (show ¬ r.1=0 by omega)]
   repeat' split
   all_goals simp_all
  simp_all
 ·rw[zx d];have:¬ a=b:=λe=>d (by rw[e]);simp[this]
end
end Go.Proofs.YtoefnfbpoabinaaGreatDoor.Pl
