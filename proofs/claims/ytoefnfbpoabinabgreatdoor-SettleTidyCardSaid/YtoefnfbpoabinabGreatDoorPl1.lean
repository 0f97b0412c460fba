/- Functions of the program and of the specification as plain functions, and laws about them. No condition. -/
import Derived.Test.YtoefnfbpoabinabGreatDoorPl0
set_option linter.all false
open List renaming append_assoc->gw, append_nil->gM, drop_zero->tw, getElem?_eq_none->a9, getElem?_eq_some_iff->a8, getElem_mem->l5, head?_drop->q9, length_cons->ci, length_nil->co, mem_cons->ml, mem_of_getElem?->bo, tail_drop->oj
open Nat renaming le_refl->eb, lt_of_not_le->nP
open Int renaming zero_add->xr
open Bool renaming and_eq_true->q0, false_eq_true->l6, or_eq_true->yk
open Option renaming some->zo, none->zn
open Bool renaming true->zt, false->zf
namespace Go.Proofs.YtoefnfbpoabinabGreatDoor.Pl
section
open Go Sv
abbrev jP:=(Int×(Int×(Int×kh)))
def bmp(a:kh)(k l:Nat):kh:=
 (Uv (neq l 0) (TI .i64 (ID [a.1,a.2.1,a.2.2.1,a.2.2.2.1,a.2.2.2.2.1,a.2.2.2.2.2.1,a.2.2.2.2.2.2.1,a.2.2.2.2.2.2.2.1,a.2.2.2.2.2.2.2.2.1,a.2.2.2.2.2.2.2.2.2.1,a.2.2.2.2.2.2.2.2.2.2.1,a.2.2.2.2.2.2.2.2.2.2.2] k) 1) a.1,(Uv (neq l 1) (TI .i64 (ID [a.1,a.2.1,a.2.2.1,a.2.2.2.1,a.2.2.2.2.1,a.2.2.2.2.2.1,a.2.2.2.2.2.2.1,a.2.2.2.2.2.2.2.1,a.2.2.2.2.2.2.2.2.1,a.2.2.2.2.2.2.2.2.2.1,a.2.2.2.2.2.2.2.2.2.2.1,a.2.2.2.2.2.2.2.2.2.2.2] k) 1) a.2.1,(Uv (neq l 2) (TI .i64 (ID [a.1,a.2.1,a.2.2.1,a.2.2.2.1,a.2.2.2.2.1,a.2.2.2.2.2.1,a.2.2.2.2.2.2.1,a.2.2.2.2.2.2.2.1,a.2.2.2.2.2.2.2.2.1,a.2.2.2.2.2.2.2.2.2.1,a.2.2.2.2.2.2.2.2.2.2.1,a.2.2.2.2.2.2.2.2.2.2.2] k) 1) a.2.2.1,(Uv (neq l 3) (TI .i64 (ID [a.1,a.2.1,a.2.2.1,a.2.2.2.1,a.2.2.2.2.1,a.2.2.2.2.2.1,a.2.2.2.2.2.2.1,a.2.2.2.2.2.2.2.1,a.2.2.2.2.2.2.2.2.1,a.2.2.2.2.2.2.2.2.2.1,a.2.2.2.2.2.2.2.2.2.2.1,a.2.2.2.2.2.2.2.2.2.2.2] k) 1) a.2.2.2.1,(Uv (neq l 4) (TI .i64 (ID [a.1,a.2.1,a.2.2.1,a.2.2.2.1,a.2.2.2.2.1,a.2.2.2.2.2.1,a.2.2.2.2.2.2.1,a.2.2.2.2.2.2.2.1,a.2.2.2.2.2.2.2.2.1,a.2.2.2.2.2.2.2.2.2.1,a.2.2.2.2.2.2.2.2.2.2.1,a.2.2.2.2.2.2.2.2.2.2.2] k) 1) a.2.2.2.2.1,(Uv (neq l 5) (TI .i64 (ID [a.1,a.2.1,a.2.2.1,a.2.2.2.1,a.2.2.2.2.1,a.2.2.2.2.2.1,a.2.2.2.2.2.2.1,a.2.2.2.2.2.2.2.1,a.2.2.2.2.2.2.2.2.1,a.2.2.2.2.2.2.2.2.2.1,a.2.2.2.2.2.2.2.2.2.2.1,a.2.2.2.2.2.2.2.2.2.2.2] k) 1) a.2.2.2.2.2.1,(Uv (neq l 6) (TI .i64 (ID [a.1,a.2.1,a.2.2.1,a.2.2.2.1,a.2.2.2.2.1,a.2.2.2.2.2.1,a.2.2.2.2.2.2.1,a.2.2.2.2.2.2.2.1,a.2.2.2.2.2.2.2.2.1,a.2.2.2.2.2.2.2.2.2.1,a.2.2.2.2.2.2.2.2.2.2.1,a.2.2.2.2.2.2.2.2.2.2.2] k) 1) a.2.2.2.2.2.2.1,(Uv (neq l 7) (TI .i64 (ID [a.1,a.2.1,a.2.2.1,a.2.2.2.1,a.2.2.2.2.1,a.2.2.2.2.2.1,a.2.2.2.2.2.2.1,a.2.2.2.2.2.2.2.1,a.2.2.2.2.2.2.2.2.1,a.2.2.2.2.2.2.2.2.2.1,a.2.2.2.2.2.2.2.2.2.2.1,a.2.2.2.2.2.2.2.2.2.2.2] k) 1) a.2.2.2.2.2.2.2.1,(Uv (neq l 8) (TI .i64 (ID [a.1,a.2.1,a.2.2.1,a.2.2.2.1,a.2.2.2.2.1,a.2.2.2.2.2.1,a.2.2.2.2.2.2.1,a.2.2.2.2.2.2.2.1,a.2.2.2.2.2.2.2.2.1,a.2.2.2.2.2.2.2.2.2.1,a.2.2.2.2.2.2.2.2.2.2.1,a.2.2.2.2.2.2.2.2.2.2.2] k) 1) a.2.2.2.2.2.2.2.2.1,(Uv (neq l 9) (TI .i64 (ID [a.1,a.2.1,a.2.2.1,a.2.2.2.1,a.2.2.2.2.1,a.2.2.2.2.2.1,a.2.2.2.2.2.2.1,a.2.2.2.2.2.2.2.1,a.2.2.2.2.2.2.2.2.1,a.2.2.2.2.2.2.2.2.2.1,a.2.2.2.2.2.2.2.2.2.2.1,a.2.2.2.2.2.2.2.2.2.2.2] k) 1) a.2.2.2.2.2.2.2.2.2.1,(Uv (neq l 10) (TI .i64 (ID [a.1,a.2.1,a.2.2.1,a.2.2.2.1,a.2.2.2.2.1,a.2.2.2.2.2.1,a.2.2.2.2.2.2.1,a.2.2.2.2.2.2.2.1,a.2.2.2.2.2.2.2.2.1,a.2.2.2.2.2.2.2.2.2.1,a.2.2.2.2.2.2.2.2.2.2.1,a.2.2.2.2.2.2.2.2.2.2.2] k) 1) a.2.2.2.2.2.2.2.2.2.2.1,Uv (neq l 11) (TI .i64 (ID [a.1,a.2.1,a.2.2.1,a.2.2.2.1,a.2.2.2.2.1,a.2.2.2.2.2.1,a.2.2.2.2.2.2.1,a.2.2.2.2.2.2.2.1,a.2.2.2.2.2.2.2.2.1,a.2.2.2.2.2.2.2.2.2.1,a.2.2.2.2.2.2.2.2.2.2.1,a.2.2.2.2.2.2.2.2.2.2.2] k) 1) a.2.2.2.2.2.2.2.2.2.2.2)))))))))))
def Ym(x:((List U7)×(List U7))):Option Bool:=
 br (Sx (K7 (AQ x.1)) (K7 (AQ x.2))) (λ_=>zo zf) λ_=>bd (loop (λs0=>br (UV s0.1 (K7 (AQ x.1))) (λ_=>S1 s0.1 λd=>ix x.1 d λa=>S1 s0.1 λe=>ix x.2 e λb=>br (IG (OM (seq a.1 b.1) (OM (seq a.2.1 b.2.1) (OM (beq a.2.2.1 b.2.2.1) (OM (PC a.2.2.2 b.2.2.2) zt))))) (λ_=>zo (.dn ((0,((s0.1,zf),()))))) λ_=>zo (.nx (TI .i64 s0.1 1,s0.2))) λ_=>zo (.dn ((1,(s0,()))))) (0,zf)) λc=>br (neq c.1 0) (λ_=>zo c.2.1.2) λ_=>zo zt
end
section
open Go Sv
end
section
open Go Sv
def Zf(x:(qS×Int)):Option (qS×(Int×Int)):=
 br (PC x.2 0) (λ_=>zo ((x.1,(0,0)))) λ_=>bd (loop (λ(s0:(qL×((Int×Int)×(Int×(qL×Int)))))=>bd (WU (((s0.1.1,s0.1.2.1),s0.1.2.2))) λc=>br (PC c.2 4) (λ_=>zo (.dn ((0,((s0.1,((1,0),s0.2.2)),()))))) λ_=>br (PC c.2 0) (λ_=>bd (WG ((((s0.1.1,s0.1.2.1),s0.1.2.2),c.1))) λb=>br (Sx b.2.2 0) (λ_=>zo (.dn ((0,(((0,([],([],0))),((2,b.2.2),s0.2.2)),()))))) λ_=>br (PC (TM .i64 s0.2.2.2.2 1) 0) (λ_=>zo (.dn ((1,(((b.1.1.1,(b.1.1.2,b.1.2)),((0,0),(TI .i64 s0.2.2.1 1,((b.1.1.1,(b.1.1.2,b.1.2)),TM .i64 s0.2.2.2.2 1)))),()))))) λ_=>zo (.nx (((b.1.1.1,(b.1.1.2,b.1.2)),((0,0),(TI .i64 s0.2.2.1 1,((b.1.1.1,(b.1.1.2,b.1.2)),TM .i64 s0.2.2.2.2 1))))))) λ_=>br (Sx c.2 0) (λ_=>zo (.dn ((0,(((0,([],([],0))),((2,c.2),s0.2.2)),()))))) λ_=>br (PC (TM .i64 s0.2.2.2.2 1) 0) (λ_=>zo (.dn ((1,((s0.1,((0,0),(TI .i64 s0.2.2.1 1,(s0.1,TM .i64 s0.2.2.2.2 1)))),()))))) λ_=>zo (.nx ((s0.1,((0,0),(TI .i64 s0.2.2.1 1,(s0.1,TM .i64 s0.2.2.2.2 1))))))) (((x.1.1.1,(x.1.1.2,x.1.2)),((0,0),(0,((x.1.1.1,(x.1.1.2,x.1.2)),x.2)))))) λa=>br (neq a.1 0) (λ_=>br (PC a.2.1.2.1.1 0) (λ_=>zo ((((a.2.1.2.2.2.1.1,a.2.1.2.2.2.1.2.1),a.2.1.2.2.2.1.2.2),(a.2.1.2.2.1,0)))) λ_=>br (PC a.2.1.2.1.1 1) (λ_=>zo ((((a.2.1.2.2.2.1.1,a.2.1.2.2.2.1.2.1),a.2.1.2.2.2.1.2.2),(a.2.1.2.2.1,0)))) λ_=>zo ((((0,[]),([],0)),(0,a.2.1.2.1.2)))) λ_=>br (PC a.2.1.2.1.1 0) (λ_=>zo ((((a.2.1.2.2.2.1.1,a.2.1.2.2.2.1.2.1),a.2.1.2.2.2.1.2.2),(a.2.1.2.2.1,0)))) λ_=>br (PC a.2.1.2.1.1 1) (λ_=>zo ((((a.2.1.2.2.2.1.1,a.2.1.2.2.2.1.2.1),a.2.1.2.2.2.1.2.2),(a.2.1.2.2.1,0)))) λ_=>zo ((((0,[]),([],0)),(0,a.2.1.2.1.2)))
def W7(x:qS):Option (qS×(Int×Int)):=
 bd (V6 x) λa=>br (Sx a.2 0) (λ_=>zo ((((0,[]),([],0)),(0,a.2)))) λ_=>bd (Zf ((x,(-1)))) λb=>zo b
def ay(x:qF):Option Bool:=
 bd (loop (λs0=>br (UV s0.1 (K7 (AQ x.1.2))) (λ_=>br (UV s0.1 25) (λ_=>S1 s0.1 λb=>ix x.1.2 b λe=>br (UT (K7 (NH e.1)) 100) (λ_=>zo (.dn ((0,((s0.1,zt),()))))) λ_=>S1 s0.1 λc=>ix x.1.2 c λf=>br (UT (K7 (NH f.2.1)) 100) (λ_=>zo (.dn ((0,((s0.1,zt),()))))) λ_=>zo (.nx (TI .i64 s0.1 1,s0.2))) λ_=>zo (.dn ((1,(s0,()))))) λ_=>zo (.dn ((1,(s0,()))))) (0,zf)) λa=>br (neq a.1 0) (λ_=>zo a.2.1.2) λ_=>bd (ZJ x.2) λd=>br d (λ_=>zo zt) λ_=>zo (UT (K7 (AQ x.1.2)) 20)
def W9(_:Unit):Option Bool:=zo zt
end
section
open Go Sv
end
section
open Go Sv
def YW(x:VB):Option ((List VU)×Int):=
 bd (WV x) λb=>br (Sx b.2.2 0) (λ_=>zo ([],b.2.2)) λ_=>bd (loop (λ(s1:(Int×(List VU)))=>br (UV s1.1 (K7 (AQ x.2))) (λ_=>S1 s1.1 λe=>ix x.2 e λc=>bd (loop (λ(a:(Int×(List VU)))=>br (Sw a.1 0) (λ_=>S1 a.1 λf=>ix c f λd=>gd (B2 (A0 (AQ a.2) (AQ [d])) 1048576) λ_=>zo (.nx (TM .i64 a.1 1,If a.2 [d]))) λ_=>zo (.dn ((0,(a,()))))) ((TM .i64 (K7 (AQ c)) 1,s1.2))) λg=>zo (.nx (TI .i64 s1.1 1,g.2.1.2))) λ_=>zo (.dn ((0,(s1,()))))) (0,[])) λh=>zo (h.2.1.2,0)
def WB(x:U7):Option Bool:=
 zo x.2.2.1
def Wp(x:qF):Option ((List U7)×Int):=
 bd (YW x.2.1) λA=>br (Sx A.2 0) (λ_=>zo ([],A.2)) λ_=>bd (loop (λ(s1:(Int×((List VN)×(List U7))))=>br (UV s1.1 (K7 (AQ x.1.2))) (λ_=>S1 s1.1 λY=>ix x.1.2 Y λB=>br (IG (TS (Mx ((λS=>(λU=>seq S U))) s1.2.1 B.1) zf)) (λ_=>gd (B2 (A0 (AQ s1.2.2) (AQ [B])) 1048576) λ_=>zo (.nx ((TI .i64 s1.1 1,(Iq ((λW=>(λX=>seq W X))) s1.2.1 B.1 zt,If s1.2.2 [B]))))) λ_=>zo (.nx (TI .i64 s1.1 1,s1.2))) λ_=>zo (.dn ((0,(s1,()))))) ((0,([],[])))) λZ=>bd (loop (λ(u:(Int×((List VN)×(List U7))))=>br (UV u.1 (K7 (AQ A.1))) (λ_=>S1 u.1 λG=>ix A.1 G λw=>bd (loop (λ(g:(Int×((List VN)×(List U7))))=>br (UV g.1 (K7 (AQ w.2))) (λ_=>S1 g.1 λI=>ix w.2 I λm=>br (IG (TS (Mx ((λC=>(λD=>seq C D))) g.2.1 m.1) zf)) (λ_=>gd (B2 (A0 (AQ g.2.2) (AQ [m])) 1048576) λ_=>zo (.nx ((TI .i64 g.1 1,(Iq ((λE=>(λF=>seq E F))) g.2.1 m.1 zt,If g.2.2 [m]))))) λ_=>zo (.nx (TI .i64 g.1 1,g.2))) λ_=>zo (.dn ((0,(g,()))))) (0,u.2)) λJ=>zo (.nx (TI .i64 u.1 1,J.2.1.2))) λ_=>zo (.dn ((0,(u,()))))) (0,Z.2.1.2)) λj=>bd (loop (λk=>br (UV k.2 (K7 (AQ j.2.1.2.2))) (λ_=>S1 k.2 λp=>gd (I8 p (AQ j.2.1.2.2)) λ_=>ix j.2.1.2.2 p λP=>bd (WB P) λK=>br K (λ_=>zo (.dn ((0,((k.2,k.2),()))))) λ_=>zo (.nx (k.1,TI .i64 k.2 1))) λ_=>zo (.dn ((1,(k,()))))) (0,0)) λl=>br (neq l.1 0) (λ_=>br (PC l.2.1.1 (-1)) (λ_=>bd (Rr j.2.1.2.2) λL=>zo (L,0)) λ_=>bd (loop (λ(e:(Int×VU))=>br (UV e.2.1 (K7 (AQ e.2.2))) (λ_=>S1 e.2.1 λq=>gd (I8 q (AQ e.2.2)) λ_=>ix e.2.2 q λy=>bd (WB y) λM=>br (IG M) (λ_=>S1 e.1 λn=>gd (I8 n (AQ e.2.2)) λ_=>ix e.2.2 n λx32=>zo (.nx ((TI .i64 e.1 1,(TI .i64 e.2.1 1,lset e.2.2 n y))))) λ_=>zo (.nx ((e.1,(TI .i64 e.2.1 1,e.2.2))))) λ_=>zo (.dn ((0,(e,()))))) ((l.2.1.1,(TI .i64 l.2.1.1 1,j.2.1.2.2)))) λa=>S1 a.2.1.1 λc=>gd (B2 (AQ a.2.1.2.2) (AQ a.2.1.2.2)) λ_=>gd (B2 c (AQ a.2.1.2.2)) λ_=>br (I8 c (AQ a.2.1.2.2)) (λ_=>gd (B2 (A0 c (QC (AQ a.2.1.2.2) c)) (AQ a.2.1.2.2)) λ_=>S1 a.2.1.1 λh=>gd (B2 h (AQ (Ey a.2.1.2.2 c (Ot (QC (AQ a.2.1.2.2) c) ((([],([],(zf,0))):U7))) (QC (AQ a.2.1.2.2) c)))) λ_=>gd (B2 0 h) λ_=>br (I8 0 (AQ (Ey a.2.1.2.2 c (Ot (QC (AQ a.2.1.2.2) c) ((([],([],(zf,0))):U7))) (QC (AQ a.2.1.2.2) c)))) (λ_=>gd (B2 (A0 0 (QC h 0)) (AQ (Ey a.2.1.2.2 c (Ot (QC (AQ a.2.1.2.2) c) ((([],([],(zf,0))):U7))) (QC (AQ a.2.1.2.2) c)))) λ_=>bd (Rr (DV (Ey a.2.1.2.2 c (Ot (QC (AQ a.2.1.2.2) c) ((([],([],(zf,0))):U7))) (QC (AQ a.2.1.2.2) c)) 0 (A0 0 (QC h 0)))) λs=>gd (B2 (A0 0 (QC h 0)) (AQ (Ey (Ey a.2.1.2.2 c (Ot (QC (AQ a.2.1.2.2) c) ((([],([],(zf,0))):U7))) (QC (AQ a.2.1.2.2) c)) 0 s (QC h 0)))) λ_=>zo ((DV (Ey (Ey a.2.1.2.2 c (Ot (QC (AQ a.2.1.2.2) c) ((([],([],(zf,0))):U7))) (QC (AQ a.2.1.2.2) c)) 0 s (QC h 0)) 0 (A0 0 (QC h 0)),0))) λ_=>zn) λ_=>zn) λ_=>br (PC (-1) (-1)) (λ_=>bd (Rr j.2.1.2.2) λN=>zo (N,0)) λ_=>bd (loop (λ(f:(Int×VU))=>br (UV f.2.1 (K7 (AQ f.2.2))) (λ_=>S1 f.2.1 λr=>gd (I8 r (AQ f.2.2)) λ_=>ix f.2.2 r λz=>bd (WB z) λO=>br (IG O) (λ_=>S1 f.1 λo=>gd (I8 o (AQ f.2.2)) λ_=>ix f.2.2 o λx43=>zo (.nx ((TI .i64 f.1 1,(TI .i64 f.2.1 1,lset f.2.2 o z))))) λ_=>zo (.nx ((f.1,(TI .i64 f.2.1 1,f.2.2))))) λ_=>zo (.dn ((0,(f,()))))) (((-1),(TI .i64 (-1) 1,j.2.1.2.2)))) λb=>S1 b.2.1.1 λd=>gd (B2 (AQ b.2.1.2.2) (AQ b.2.1.2.2)) λ_=>gd (B2 d (AQ b.2.1.2.2)) λ_=>br (I8 d (AQ b.2.1.2.2)) (λ_=>gd (B2 (A0 d (QC (AQ b.2.1.2.2) d)) (AQ b.2.1.2.2)) λ_=>S1 b.2.1.1 λi=>gd (B2 i (AQ (Ey b.2.1.2.2 d (Ot (QC (AQ b.2.1.2.2) d) ((([],([],(zf,0))):U7))) (QC (AQ b.2.1.2.2) d)))) λ_=>gd (B2 0 i) λ_=>br (I8 0 (AQ (Ey b.2.1.2.2 d (Ot (QC (AQ b.2.1.2.2) d) ((([],([],(zf,0))):U7))) (QC (AQ b.2.1.2.2) d)))) (λ_=>gd (B2 (A0 0 (QC i 0)) (AQ (Ey b.2.1.2.2 d (Ot (QC (AQ b.2.1.2.2) d) ((([],([],(zf,0))):U7))) (QC (AQ b.2.1.2.2) d)))) λ_=>bd (Rr (DV (Ey b.2.1.2.2 d (Ot (QC (AQ b.2.1.2.2) d) ((([],([],(zf,0))):U7))) (QC (AQ b.2.1.2.2) d)) 0 (A0 0 (QC i 0)))) λt=>gd (B2 (A0 0 (QC i 0)) (AQ (Ey (Ey b.2.1.2.2 d (Ot (QC (AQ b.2.1.2.2) d) ((([],([],(zf,0))):U7))) (QC (AQ b.2.1.2.2) d)) 0 t (QC i 0)))) λ_=>zo ((DV (Ey (Ey b.2.1.2.2 d (Ot (QC (AQ b.2.1.2.2) d) ((([],([],(zf,0))):U7))) (QC (AQ b.2.1.2.2) d)) 0 t (QC i 0)) 0 (A0 0 (QC i 0)),0))) λ_=>zn) λ_=>zn
def Yu(x:qF):Option ((List U7)×Int):=
 bd (WP x) λa=>br (Sx a 0) (λ_=>zo ([],a)) λ_=>bd (Wp x) λb=>zo b
def Wn(x:(Int×Int)):Option (Int×Int):=
 br (UV x.2 0) (λ_=>zo (0,7)) λ_=>bd (loop (λs0=>br (UV s0.2.2 12) (λ_=>bd (YL (x.1,s0.2.2)) λa=>br (Sx a.2 0) (λ_=>zo (.dn ((0,((a.2,(0,s0.2.2)),()))))) λ_=>br (UU x.2 a.1) (λ_=>zo (.dn ((0,((0,(s0.2.2,s0.2.2)),()))))) λ_=>zo (.nx ((s0.1,(s0.2.2,TI .i64 s0.2.2 1))))) λ_=>zo (.dn ((1,(s0,()))))) ((0,(0,0)))) λb=>br (neq b.1 0) (λ_=>zo (b.2.1.2.1,b.2.1.1)) λ_=>zo (0,3)
def W5(x:U7):Option Bool:=
 zo x.2.2.1
def XW(x:qF):Option (Bool×Int):=
 bd (WP x) λe=>br (Sx e 0) (λ_=>zo (zf,e)) λ_=>br (UT (K7 (AQ x.1.2)) 0) (λ_=>zo (zf,0)) λ_=>br (UT (K7 (AQ x.2.2.1)) 0) (λ_=>zo (zf,0)) λ_=>bd (WW x.2.1) λa=>br (Sx a.2.2 0) (λ_=>br (PC a.2.2 0) (λ_=>zo (PC a.2.1 0,a.2.2)) λ_=>zo (zf,a.2.2)) λ_=>br (Sx a.2.1 1) (λ_=>br (PC a.2.2 0) (λ_=>zo (PC a.2.1 0,a.2.2)) λ_=>zo (zf,a.2.2)) λ_=>bd (Wn (x.2.1.1,a.1)) λd=>S1 (TM .i64 (K7 (AQ x.2.1.2)) 1) λg=>ix x.2.1.2 g λj=>ix j 0 λf=>bd (loop (λb=>br (UV b.2 (K7 (AQ f.2))) (λ_=>S1 b.2 λh=>ix f.2 h λk=>bd (W5 k) λi=>br i (λ_=>zo (.dn ((0,((b.2,b.2),()))))) λ_=>zo (.nx (b.1,TI .i64 b.2 1))) λ_=>zo (.dn ((1,(b,()))))) (0,0)) λc=>br (neq c.1 0) (λ_=>br (PC d.2 0) (λ_=>br (PC d.1 (TM .i64 (K7 (AQ x.2.1.2)) 1)) (λ_=>zo ((IG (Sw c.2.1.1 0),0))) λ_=>zo (zf,0)) λ_=>zo (zf,0)) λ_=>br (PC d.2 0) (λ_=>br (PC d.1 (TM .i64 (K7 (AQ x.2.1.2)) 1)) (λ_=>zo ((IG (Sw (-1) 0),0))) λ_=>zo (zf,0)) λ_=>zo (zf,0)
def XK(x:qF):Option (qF×(Int×Int)):=
 bd (WP x) λh=>br (Sx h 0) (λ_=>zo ((((0,[]),((0,[]),([],0))),(0,h)))) λ_=>bd (loop (λ(s1:(Int×(Int×(Int×((List U7)×(Int×((List (List VU))×((List qJ)×(Int×Int)))))))))=>br (UV s1.1 3) (λ_=>S1 s1.1 λg=>br (neq g 0) (λ_=>bd (W7 (((s1.2.2.2.2.1,s1.2.2.2.2.2.1),(s1.2.2.2.2.2.2.1,s1.2.2.2.2.2.2.2.1)))) λb=>br (PC b.2.2 0) (λ_=>br (PC b.2.2 0) (λ_=>zo (.nx ((TI .i64 s1.1 1,(b.2.2,(s1.2.2.1,(s1.2.2.2.1,(b.1.1.1,(b.1.1.2,(b.1.2.1,(b.1.2.2,TI .i64 s1.2.2.2.2.2.2.2.2 b.2.1))))))))))) λ_=>zo (.dn ((0,((s1.1,(b.2.2,(s1.2.2.1,(s1.2.2.2.1,(b.1.1.1,(b.1.1.2,(b.1.2.1,(b.1.2.2,TI .i64 s1.2.2.2.2.2.2.2.2 b.2.1)))))))),()))))) λ_=>br (PC b.2.2 0) (λ_=>zo (.nx ((TI .i64 s1.1 1,(b.2.2,s1.2.2))))) λ_=>zo (.dn ((0,((s1.1,(b.2.2,s1.2.2)),()))))) λ_=>br (neq g 1) (λ_=>bd (Wx (((s1.2.2.1,s1.2.2.2.1),((s1.2.2.2.2.1,s1.2.2.2.2.2.1),(s1.2.2.2.2.2.2.1,s1.2.2.2.2.2.2.2.1))))) λa=>br (PC a.2 0) (λ_=>br (PC a.2 0) (λ_=>zo (.nx ((TI .i64 s1.1 1,(a.2,(a.1.1.1,(a.1.1.2,(a.1.2.1.1,(a.1.2.1.2,(a.1.2.2.1,(a.1.2.2.2,s1.2.2.2.2.2.2.2.2))))))))))) λ_=>zo (.dn ((0,((s1.1,(a.2,(a.1.1.1,(a.1.1.2,(a.1.2.1.1,(a.1.2.1.2,(a.1.2.2.1,(a.1.2.2.2,s1.2.2.2.2.2.2.2.2)))))))),()))))) λ_=>br (PC a.2 0) (λ_=>zo (.nx ((TI .i64 s1.1 1,(a.2,s1.2.2))))) λ_=>zo (.dn ((0,((s1.1,(a.2,s1.2.2)),()))))) λ_=>gd (neq g 2) λ_=>bd (WW (s1.2.2.2.2.1,s1.2.2.2.2.2.1)) λc=>br (Sx c.2.2 0) (λ_=>br (PC c.2.2 0) (λ_=>zo (.nx ((TI .i64 s1.1 1,(c.2.2,s1.2.2))))) λ_=>zo (.dn ((0,((s1.1,(c.2.2,s1.2.2)),()))))) λ_=>br (PC c.2.1 0) (λ_=>br (PC c.2.2 0) (λ_=>zo (.nx ((TI .i64 s1.1 1,(c.2.2,s1.2.2))))) λ_=>zo (.dn ((0,((s1.1,(c.2.2,s1.2.2)),()))))) λ_=>bd (Wp (((s1.2.2.1,s1.2.2.2.1),((s1.2.2.2.2.1,s1.2.2.2.2.2.1),(s1.2.2.2.2.2.2.1,s1.2.2.2.2.2.2.2.1))))) λe=>br (Sx e.2 0) (λ_=>br (PC e.2 0) (λ_=>zo (.nx ((TI .i64 s1.1 1,(e.2,(s1.2.2.1,(s1.2.2.2.1,(s1.2.2.2.2.1,(s1.2.2.2.2.2.1,(s1.2.2.2.2.2.2.1,(s1.2.2.2.2.2.2.2.1,TI .i64 s1.2.2.2.2.2.2.2.2 (TI .i64 c.1 1)))))))))))) λ_=>zo (.dn ((0,((s1.1,(e.2,(s1.2.2.1,(s1.2.2.2.1,(s1.2.2.2.2.1,(s1.2.2.2.2.2.1,(s1.2.2.2.2.2.2.1,(s1.2.2.2.2.2.2.2.1,TI .i64 s1.2.2.2.2.2.2.2.2 (TI .i64 c.1 1))))))))),()))))) λ_=>br (UT (K7 (AQ e.1)) 0) (λ_=>bd (Wn ((s1.2.2.2.2.1,K7 (AQ e.1)))) λi=>br (Sx i.2 0) (λ_=>zo (.dn ((0,((s1.1,(3,(s1.2.2.1,(s1.2.2.2.1,(s1.2.2.2.2.1,(s1.2.2.2.2.2.1,(s1.2.2.2.2.2.2.1,(s1.2.2.2.2.2.2.2.1,TI .i64 s1.2.2.2.2.2.2.2.2 (TI .i64 c.1 1))))))))),()))))) λ_=>br (UT (K7 (AQ e.1)) 5000) (λ_=>zo (.dn ((0,((s1.1,(3,(s1.2.2.1,(s1.2.2.2.1,(s1.2.2.2.2.1,(s1.2.2.2.2.2.1,(s1.2.2.2.2.2.2.1,(s1.2.2.2.2.2.2.2.1,TI .i64 s1.2.2.2.2.2.2.2.2 (TI .i64 c.1 1))))))))),()))))) λ_=>br (UT s1.2.2.2.2.2.2.2.1 1000000) (λ_=>zo (.dn ((0,((s1.1,(5,(s1.2.2.1,(s1.2.2.2.1,(s1.2.2.2.2.1,(s1.2.2.2.2.2.1,(s1.2.2.2.2.2.2.1,(s1.2.2.2.2.2.2.2.1,TI .i64 s1.2.2.2.2.2.2.2.2 (TI .i64 c.1 1))))))))),()))))) λ_=>bd (VY (((s1.2.2.2.2.1,[]),(i.1,(s1.2.2.2.2.2.2.2.1,e.1))))) λf=>br (Sx f.2 0) (λ_=>br (PC f.2 0) (λ_=>zo (.nx ((TI .i64 s1.1 1,(f.2,(s1.2.2.1,(s1.2.2.2.1,(s1.2.2.2.2.1,(s1.2.2.2.2.2.1,(s1.2.2.2.2.2.2.1,(s1.2.2.2.2.2.2.2.1,TI .i64 s1.2.2.2.2.2.2.2.2 (TI .i64 c.1 1)))))))))))) λ_=>zo (.dn ((0,((s1.1,(f.2,(s1.2.2.1,(s1.2.2.2.1,(s1.2.2.2.2.1,(s1.2.2.2.2.2.1,(s1.2.2.2.2.2.2.1,(s1.2.2.2.2.2.2.2.1,TI .i64 s1.2.2.2.2.2.2.2.2 (TI .i64 c.1 1))))))))),()))))) λ_=>zo (.nx ((TI .i64 s1.1 1,(0,(s1.2.2.1,(s1.2.2.2.1,(f.1.1,(f.1.2,([],(TI .i64 s1.2.2.2.2.2.2.2.1 1,TI .i64 s1.2.2.2.2.2.2.2.2 (TI .i64 c.1 1)))))))))))) λ_=>zo (.nx ((TI .i64 s1.1 1,(0,(s1.2.2.1,(s1.2.2.2.1,(s1.2.2.2.2.1,([],([],(s1.2.2.2.2.2.2.2.1,TI .i64 s1.2.2.2.2.2.2.2.2 (TI .i64 c.1 1)))))))))))) λ_=>zo (.dn ((0,(s1,()))))) ((0,(0,(x.1.1,(x.1.2,(x.2.1.1,(x.2.1.2,(x.2.2.1,(x.2.2.2,0)))))))))) λd=>br (Sx d.2.1.2.1 0) (λ_=>zo ((((0,[]),((0,[]),([],0))),(0,d.2.1.2.1)))) λ_=>zo ((((d.2.1.2.2.1,d.2.1.2.2.2.1),((d.2.1.2.2.2.2.1,d.2.1.2.2.2.2.2.1),(d.2.1.2.2.2.2.2.2.1,d.2.1.2.2.2.2.2.2.2.1))),(d.2.1.2.2.2.2.2.2.2.2,0)))
def Wm(x:qF):Option Bool:=
 bd (ay x) λu=>br u (λ_=>bd (W9 ()) λw=>zo w) λ_=>bd (XK x) λa=>br (Sx a.2.2 0) (λ_=>br (PC a.2.1 0) (λ_=>bd (W9 ()) λA=>zo A) λ_=>zo zf) λ_=>bd (Yu x) λf=>bd (XW a.1) λt=>bd (XJ a.1.2.1) λc=>jn (γ:=(Nat×(Bool×Unit))) (λD=>br (Sx f.2 0) (λ_=>zo (.nx zt)) λ_=>br (Sx t.2 0) (λ_=>zo (.nx zt)) λ_=>br (Sx c.2 0) (λ_=>zo (.nx zt)) λ_=>br (IG t.1) (λ_=>zo (.nx zt)) λ_=>br (Sx (K7 (AQ a.1.1.2)) 0) (λ_=>zo (.nx zt)) λ_=>br (Sx (K7 (AQ a.1.2.2.1)) 0) (λ_=>zo (.nx zt)) λ_=>br (IG (beq (PC (K7 (AQ c.1)) 1) (UT (K7 (AQ f.1)) 0))) (λ_=>zo (.nx zt)) λ_=>zo (.nx (UT (K7 (AQ c.1)) 1))) () (λC=>br C (λ_=>zo zf) λ_=>bd (XK a.1) λd=>br (PC d.2.2 5) (λ_=>bd (W9 ()) λg=>zo g) λ_=>br (PC (K7 (AQ c.1)) 0) (λ_=>br (PC d.2.2 0) (λ_=>br (PC d.2.1 0) (λ_=>br (PC (K7 (AQ a.1.2.1.2)) 0) (λ_=>bd (ZW (d.1,a.1)) λh=>br h (λ_=>bd (W9 ()) λi=>zo i) λ_=>zo zf) λ_=>zo zf) λ_=>zo zf) λ_=>zo zf) λ_=>bd (Ys ((a.1.2.1.1,TM .i64 (K7 (AQ a.1.2.1.2)) 1))) λe=>jn (γ:=(Nat×(Bool×Unit))) (λB=>br (Sx d.2.2 0) (λ_=>zo (.nx zt)) λ_=>br (Sx e.2 0) (λ_=>zo (.nx zt)) λ_=>br (Sx d.2.1 (TI .i64 (K7 (AQ f.1)) 1)) (λ_=>zo (.nx zt)) λ_=>ix c.1 0 λn=>bd (Ym (n.2,f.1)) λj=>br (IG j) (λ_=>zo (.nx zt)) λ_=>br (UT (K7 (AQ f.1)) e.1) (λ_=>zo (.nx zt)) λ_=>br (UT (TM .i64 (K7 (AQ a.1.2.1.2)) 1) 0) (λ_=>br (UU (TJ .i64 2 (K7 (AQ f.1))) e.1) (λ_=>zo (.nx zt)) λ_=>ix c.1 0 λo=>zo (.nx (Sx o.1 (TM .i64 a.1.2.2.2 1)))) λ_=>ix c.1 0 λp=>zo (.nx (Sx p.1 (TM .i64 a.1.2.2.2 1)))) () (λm=>br m (λ_=>zo zf) λ_=>bd (XJ d.1.2.1) λb=>br (PC b.2 0) (λ_=>br (PC (K7 (AQ b.1)) 1) (λ_=>ix b.1 0 λq=>bd (Ym (q.2,f.1)) λk=>br k (λ_=>ix b.1 0 λr=>ix c.1 0 λs=>br (PC r.1 (TI .i64 s.1 1)) (λ_=>br (PC (K7 (AQ d.1.2.1.2)) (TI .i64 (TM .i64 (K7 (AQ a.1.2.1.2)) 1) 1)) (λ_=>bd (W9 ()) λl=>zo l) λ_=>zo zf) λ_=>zo zf) λ_=>zo zf) λ_=>zo zf) λ_=>zo zf) λy=>zn) λz=>zn
end
section
open Go Sv
abbrev YF:=List UInt8
theorem cm(a:YF):TZ a []=zf:=by unfold TZ;cases a<;>rfl
theorem gU(b:UInt8)(y:YF):TZ [] (b::y)=zt:=rfl
theorem aN(a b:UInt8)(x y:YF):TZ (a::x) (b::y)=(decide (a<b)||(a == b&&TZ x y)):=rfl
theorem X4:∀ a:YF,TZ a a=zf
 |[]=>rfl
 |a::x=>by rw[aN,X4 x];simp
theorem XO:∀ {a b c:YF},TZ a b=zt->TZ b c=zt->TZ a c=zt
 |[],b,[],e,d=>by rw[cm]at d;cases d
 |[],b,c::z,_,_=>rfl
 |a::x,[],c,e,_=>by rw[cm]at e;cases e
 |a::x,b::y,[],_,d=>by rw[cm]at d;cases d
 |a::x,b::y,c::z,e,d=>by
  rw[aN]at e d ⊢;simp only[yk,decide_eq_true_eq,q0,beq_iff_eq]at e d ⊢;rcases e with e|⟨rfl,e⟩
  ·rcases d with d|⟨rfl,d⟩
   ·exact .inl (UInt8.lt_trans e d)
   ·exact .inl e
  ·rcases d with d|⟨rfl,d⟩
   ·exact .inl d
   ·exact .inr ⟨rfl,XO e d⟩
theorem bV:∀ a b:YF,TZ a b=zt\/a=b\/TZ b a=zt
 |[],[]=>.inr (.inl rfl)
 |[],_::_=>.inl rfl
 |_::_,[]=>.inr (.inr rfl)
 |a::x,b::y=>by
  rw[aN,aN];simp only[yk,decide_eq_true_eq,q0,beq_iff_eq,List.cons.injEq];rcases UInt8.lt_or_lt_of_ne (a:=a) (b:=b) |> λh=>Classical.em (a=b) |>.imp id h with h|h|h
  ·subst h;rcases bV x y with h|h|h
   ·exact .inl (.inr ⟨rfl,h⟩)
   ·exact .inr (.inl ⟨rfl,h⟩)
   ·exact .inr (.inr (.inr ⟨rfl,h⟩))
  ·exact .inl (.inl h)
  ·exact .inr (.inr (.inl h))
theorem WQ{a b:YF}(h:TZ a b=zt):TZ b a=zf:=by
 cases c:TZ b a with
 |false=>rfl
 |true=>have:=XO h c;rw[X4]at this;cases this
theorem ai{a b:YF}(h:TZ a b=zt):a≠b:=λe=>by subst e;rw[X4]at h;cases h
theorem aj{a b:YF}(h:TZ a b=zf)(c:a≠b):TZ b a=zt:=by
 rcases bV a b with h1|h1|h1
 ·rw[h]at h1;cases h1
 ·exact absurd h1 c
 ·exact h1
theorem e9{a b c:YF}(h:TZ b a=zf)(d:TZ b c=zt):TZ a c=zt:=by
 rcases bV a b with h1|h1|h1
 ·exact XO h1 d
 ·subst h1;exact d
 ·rw[h]at h1;cases h1
theorem jF{a b c:YF}(h:TZ a b=zt)(d:TZ c b=zf):TZ a c=zt:=by
 rcases bV b c with h1|h1|h1
 ·exact XO h h1
 ·subst h1;exact h
 ·rw[d]at h1;cases h1
theorem dh{a b:YF}:seq a b=zt<->a=b:=by unfold seq;simp
theorem ad(a b:YF):seq a b=decide (a=b):=by
 cases h:seq a b with
 |true=>rw[dh]at h;simp[h]
 |false=>
  have:¬ a=b:=λe=>by rw[<- dh]at e;rw[h]at e;cases e
  simp[this]
section
variable{α β σ S:Type}
theorem Xr(a b:YF)(x y:Unit->Option β):br (seq a b) x y=if a=b then x ()else y ():=J0 dh x y
theorem Zy(a b:YF)(x y:Unit->Option β):br (TZ a b) x y=if TZ a b=zt then x ()else y ():=J0 Iff.rfl x y
theorem Wa(p:Prop)[Decidable p](x y:Unit->Option β):br (decide p) x y=if p then x ()else y ():=J0 (by simp) x y
theorem U9(k:Nat)(c:Nat->Option β):S1 (k:Int) c=c k:=by rw[Tu (by omega)];simp
theorem yR{l:List α}{k:Nat}{x:α}(h:l[k]?=zo x):UV (k:Int) (K7 (AQ l))=zt:=by
 have:=(a8.1 h).1;unfold UV K7 AQ;simp;omega
theorem uk(l:List α):UV (l.length:Int) (K7 (AQ l))=zf:=by unfold UV K7 AQ;simp
theorem VG{k:Nat}(h:k+1<=9223372036854775807):TI .i64 (k:Int) 1=((k+1:Nat):Int):=by
 rw[To (by omega)];omega
theorem VJ{l:List α}{k:Nat}{x:α}(h:l[k]?=zo x)(a:l.length<=9223372036854775807):TI .i64 (k:Int) 1=((k+1:Nat):Int):=by
 have:=(a8.1 h).1;exact VG (by omega)
def eK(step:Nat->α->σ->Option (LR σ β))(fin:σ->Option β):List α->Nat->σ->Option β
 |[],_,s=>fin s
 |x::l,k,s=>match step k x s with
  |none=>zn
  |some (.nx s')=>eK step fin l (k+1) s'
  |some (.dn b)=>zo b
def upS(mk:σ->S):Option (LR σ β)->Option (LR S β)
 |none=>zn
 |some (.nx s)=>zo (.nx (mk s))
 |some (.dn b)=>zo (.dn b)
def zV:Option β->Option (LR S β)
 |none=>zn
 |some b=>zo (.dn b)
theorem jc{l:List α}{mk:Nat->σ->S}{f:S->Option (LR S β)}{step:Nat->α->σ->Option (LR σ β)}{fin:σ->Option β}
  (hs:∀ k x a,l[k]?=zo x->f (mk k a)=upS (mk (k+1)) (step k x a)) (i:∀ a,f (mk l.length a)=zV (fin a)) :
  ∀ (d n k:Nat) (a:σ),l.length-k=d->k<=l.length->d<n->Ih n f (mk k a)=eK step fin (l.drop k) k a:=by
 intro d
 induction d with
 |zero=>
  intro n k a e g h;have c:k=l.length:=by omega
  obtain⟨m,rfl⟩:∃ m,n=m+1:=⟨n-1,by omega⟩;subst c;unfold Ih;rw[i,List.drop_length];unfold zV eK;cases fin a<;>rfl
 |succ d o=>
  intro n k a e g h;obtain⟨m,rfl⟩:∃ m,n=m+1:=⟨n-1,by omega⟩;have c:k<l.length:=by omega
  have j:l[k]?=zo l[k]:=by simp[c]
  unfold Ih;rw[hs k _ a j,List.drop_eq_getElem_cons c]
  show _=match step k l[k] a with
   |none=>zn
   |some (.nx s')=>eK step fin (l.drop (k+1)) (k+1) s'
   |some (.dn b)=>zo b
  cases step k l[k] a with
  |none=>rfl
  |some r=>cases r with
   |nx s'=>exact o m (k+1) s' (by omega) (by omega) (by omega)
   |dn b=>rfl
theorem mD{l:List α}(mk:Nat->σ->S)(step:Nat->α->σ->Option (LR σ β))(fin:σ->Option β){f:S->Option (LR S β)}{s:S}(a:σ)(b:s=mk 0 a)(d:l.length<=9223372036854775807)
  (hs:∀ k x a,l[k]?=zo x->f (mk k a)=upS (mk (k+1)) (step k x a)) (c:∀ a,f (mk l.length a)=zV (fin a)) :
  loop f s=eK step fin l 0 a:=by
 subst b;have:=jc hs c l.length 18446744073709551616 0 a (by omega) (by omega) (by omega);rw[tw]at this;exact this
theorem iX{f:α->Option (LR α β)}{x:β}:∀ {n m:Nat} {s:α},n<=m->Ih n f s=zo x->Ih m f s=zo x
 |0,_,_,_,h=>by cases h
 |n+1,0,_,hl,_=>by omega
 |n+1,m+1,s,hl,h=>by
  unfold Ih at h ⊢;split at h
  ·cases h
  ·rename_i s' e;exact iX (by omega) h
  ·exact h
theorem WK{f:α->Option (LR α β)}{x:β}{n:Nat}{s:α}(a:n<=18446744073709551616)(h:Ih n f s=zo x):loop f s=zo x:=iX a h
theorem Vf{f:α->Option (LR α β)}{n:Nat}{s s':α}(h:f s=zo (.nx s')):Ih (n+1) f s=Ih n f s':=by
 show(match f s with
  |none=>zn
  |some (.nx s)=>Ih n f s
  |some (.dn x)=>zo x)=_
 rw[h]
theorem Vm{f:α->Option (LR α β)}{n:Nat}{s:α}{x:β}(h:f s=zo (.dn x)):Ih (n+1) f s=zo x:=by
 show(match f s with
  |none=>zn
  |some (.nx s)=>Ih n f s
  |some (.dn x)=>zo x)=_
 rw[h]
theorem ZM{f:S -> Option (LR S β)}{r:β}(mk:Nat -> S)(n:Nat){s:S}(h0:s=mk 0)(hn:n < 18446744073709551616)(hs:∀ k,k < n -> f (mk k)=zo (.nx (mk (k + 1))))(he:f (mk n)=zo (.dn r)):loop f s=zo r:=by
  subst h0
  have:∀ d k,k + d=n -> Ih (d + 1) f (mk k)=zo r:=by
    intro d
    induction d with
    | zero => intro k hk; have : k = n := by omega
              subst this;exact Vm he
    |succ d ih=>intro k hk;rw[Vf (hs k (by omega))];exact ih (k + 1) (by omega)
  exact WK (n:=n + 1) (by omega) (this n 0 (by omega))
end
end
section
open Go Sv
def kE(x:U7):Int:=if x.1.length>32\/x.2.1.length>64 then 3 else if x.2.2.1=zt/\x.2.1≠[]then 6 else if x.2.2.2<1\/x.2.2.2>1000000000 then 7 else 0
def ao:Option YF->Nat->List U7->Int×Int
 |_,_,[]=>(0,0)
 |p,k,x::l=>if kE x≠0 then((k:Int),kE x)else match p with
  |some q=>if TZ q x.1=zt then ao (zo x.1) (k+1) l else((k:Int),6)
  |none=>ao (zo x.1) (k+1) l
def Wu(l:List U7):Int×Int:=if l.length>5000 then(-1,3)else ao zn 0 l
def Asc:Option YF->List U7->Prop
 |_,[]=>True
 |p,x::l=>(∀ q,p=zo q->TZ q x.1=zt)/\Asc (zo x.1) l
theorem cS:∀ {p k l},(ao p k l).2=0<->(∀ x∈l,kE x=0)/\Asc p l
 |p,k,[]=>by simp[ao,Asc]
 |p,k,x::l=>by
  unfold ao;by_cases h:kE x=0
  ·rw[zx (by simp[h])];cases p with
   |none=>
    simp only[cS (p:=some x.1) (l:=l),Asc,ml,forall_eq_or_imp];constructor
    ·rintro⟨a,b⟩;exact⟨⟨h,a⟩,(λq c=>by cases c),b⟩
    ·rintro⟨⟨_,a⟩,_,b⟩;exact⟨a,b⟩
   |some q=>
    simp only;by_cases c:TZ q x.1=zt
    ·rw[zy c];simp only[cS (p:=some x.1) (l:=l),Asc,ml,forall_eq_or_imp];constructor
     ·rintro⟨a,b⟩;exact⟨⟨h,a⟩,(λe d=>by cases d;exact c),b⟩
     ·rintro⟨⟨_,a⟩,_,b⟩;exact⟨a,b⟩
    ·rw[zx c];constructor
     ·intro h;cases h
     ·rintro⟨_,b⟩;exact absurd (b.1 q rfl) c
  ·rw[zy h];constructor
   ·intro h';exact absurd h' h
   ·rintro⟨a,_⟩;exact absurd (a x (by simp)) h
theorem cx:∀ {p k l},(ao p k l).2=0->ao p k l=(0,0)
 |p,k,[],_=>rfl
 |p,k,x::l,h=>by
  unfold ao at h ⊢;by_cases a:kE x=0
  ·rw[zx (by simp[a])]at h ⊢;cases p with
   |none=>exact cx h
   |some q=>
    simp only at h ⊢;by_cases b:TZ q x.1=zt
    ·rw[zy b]at h ⊢;exact cx h
    ·rw[zx b]at h;cases h
  ·rw[zy a]at h;exact absurd h a
structure VL (l:List U7):Prop where
 len:l.length<=5000
 ok:∀ x∈l,kE x=0
 asc:Asc zn l
theorem Z8{l:List U7}:(Wu l).2=0<->VL l:=by
 unfold Wu;by_cases h:l.length>5000
 ·rw[zy h];constructor
  ·intro h;cases h
  ·intro h';have:=h'.len;omega
 ·rw[zx h];rw[cS];exact⟨λ⟨a,b⟩=>⟨by omega,a,b⟩,λh=>⟨h.ok,h.asc⟩⟩
theorem au{l:List U7}(h:VL l):Wu l=(0,0):=by
 have a:=Z8.2 h;unfold Wu at a ⊢;rw[zx (by have:=h.len;omega)]at a ⊢;exact cx a
theorem Asc.lt:∀ {p:Option YF} {l:List U7},Asc p l -> ∀ {i:Nat} {x y:U7},l[i]?=zo x->l[i+1]?=zo y->TZ x.1 y.1=zt
 |p,x::[],_,0,_,_,_,h2=>by simp at h2
 |p,a::b::l,h,0,x,y,h1,h2=>by
  simp at h1 h2;subst h1;subst h2;exact h.2.1 _ rfl
 |p,a::l,h,i+1,x,y,h1,h2=>by
  simp at h1 h2;exact Asc.lt h.2 h1 h2
theorem VL.lt{l:List U7}(h:VL l){i:Nat}{x y:U7}(a:l[i]?=zo x)(b:l[i+1]?=zo y):TZ x.1 y.1=zt:=h.asc.lt a b
def kx(l:List U7)(i:Nat):VN:=match l[i]? with
 |some x=>(x.1,zf)
 |none=>([],zt)
def w0(p q:VN):Bool:=if p.2≠q.2 then q.2 else if p.1≠q.1 then TZ p.1 q.1 else zt
def Za(a b:List U7)(i j:Nat):Bool:=w0 (kx a i) (kx b j)
def pos(a b:List U7):Nat->Nat×Nat
 |0=>(0,0)
 |n+1=>if Za a b (pos a b n).1 (pos a b n).2=zt then((pos a b n).1+1,(pos a b n).2)else((pos a b n).1,(pos a b n).2+1)
def dU(a b:List U7)(n:Nat):Option U7:=if Za a b (pos a b n).1 (pos a b n).2=zt then a[(pos a b n).1]? else b[(pos a b n).2]?
structure Inv (a b:List U7) (i j:Nat):Prop where
 ia:i<=a.length
 jb:j<=b.length
 pa:∀ i',i=i'+1 -> ∀ x y,a[i']?=zo x->b[j]?=zo y->TZ y.1 x.1=zf
 pb:∀ j',j=j'+1 -> ∀ x y,b[j']?=zo x->a[i]?=zo y->TZ x.1 y.1=zt
theorem eE{a b:List U7}{i j:Nat}{x y:U7}(c:a[i]?=zo x)(d:b[j]?=zo y):Za a b i j = !TZ y.1 x.1:=by
 unfold Za w0 kx;rw[c,d];simp only[ne_eq,not_true,if_false];by_cases h:x.1=y.1
 ·rw[zx (by simp[h]),h,X4];rfl
 ·rw[zy h];cases hs:TZ x.1 y.1 with
  |true=>rw[WQ hs];rfl
  |false=>rw[aj hs h];rfl
theorem ky{a b:List U7}{i j:Nat}{x:U7}(c:a[i]?=zo x)(d:b[j]?=zn):Za a b i j=zt:=by
 unfold Za w0 kx;rw[c,d];rfl
theorem kz{a b:List U7}{i j:Nat}{y:U7}(c:a[i]?=zn)(d:b[j]?=zo y):Za a b i j=zf:=by
 unfold Za w0 kx;rw[c,d];rfl
theorem iL{a b:List U7}{i j:Nat}(c:a[i]?=zn)(d:b[j]?=zn):Za a b i j=zt:=by
 unfold Za w0 kx;rw[c,d];rfl
theorem Inv.zero(a b:List U7):Inv a b 0 0:=⟨by omega,by omega,λ_ h=>by omega,λ_ h=>by omega⟩
theorem Inv.stepA{a b:List U7}(va:VL a){i j:Nat}(h:Inv a b i j){x:U7}(c:a[i]?=zo x)(g:Za a b i j=zt):Inv a b (i+1) j:=by
 have hi:=(a8.1 c).1;refine⟨by omega,h.jb,λl e k y d f=> ?_,λj' e k y d f=> ?_⟩
 ·have:l=i:=by omega
  subst this;rw[c]at d;cases d;rw[eE c f]at g;simpa using g
 ·exact XO (h.pb j' e k x d c) (va.lt c f)
theorem Inv.stepB{a b:List U7}(n:VL b){i j:Nat}(h:Inv a b i j){y:U7}(c:b[j]?=zo y)(g:Za a b i j=zf):Inv a b i (j+1):=by
 have p:=(a8.1 c).1;refine⟨h.ia,by omega,λm e k o d f=> ?_,λj' e k o d f=> ?_⟩
 ·have l:=h.pa m e k y d c;exact WQ (e9 l (n.lt c f))
 ·have:j'=j:=by omega
  subst this;rw[c]at d;cases d;rw[eE f c]at g;simpa using g
theorem X3{a b:List U7}(va:VL a)(f:VL b):∀ {n:Nat},n<=a.length+b.length->Inv a b (pos a b n).1 (pos a b n).2/\(pos a b n).1+(pos a b n).2=n
 |0,_=>⟨Inv.zero a b,rfl⟩
 |n+1,h=>by
  obtain⟨c,hs⟩:=X3 va f (n:=n) (by omega);rw[show pos a b (n+1)=if Za a b (pos a b n).1 (pos a b n).2=zt then((pos a b n).1+1,(pos a b n).2)else((pos a b n).1,(pos a b n).2+1)from rfl]
  revert c hs;generalize (pos a b n).1=i;generalize (pos a b n).2=j;intro c hs;cases g:Za a b i j with
  |true=>
   have hi:i<a.length:=by
    refine nP λh'=> ?_;have d:a[i]?=zn:=a9 h';have e:j<b.length:=by have:=c.ia;omega
    rw[kz d (by simp[e]:b[j]?=zo b[j])]at g;cases g
   have:=c.stepA va (by simp[hi]:a[i]?=zo a[i]) g;rw[zy rfl];exact⟨this,by omega⟩
  |false=>
   have k:j<b.length:=by
    refine nP λh'=> ?_;have d:b[j]?=zn:=a9 h';cases e:a[i]? with
    |none=>rw[iL e d]at g;cases g
    |some x=>rw[ky e d]at g;cases g
   have:=c.stepB f (by simp[k]:b[j]?=zo b[j]) g;rw[zx (by simp)];exact⟨this,by omega⟩
end
section
open Go Sv
def Tt(p q:VN):XQ:=([p,q],([0,if w0 p q=zt then 1 else 0],if w0 p q=zt then 0 else 1))
def cG(a b:List U7)(i j:Nat):Ws:=([a,b],([(i:Int),(j:Int)],Tt (kx a i) (kx b j)))
def u3(a b:List U7)(n:Nat):YF:=match dU a b n with
 |some x=>x.1
 |none=>[]
def fresh(a b:List U7)(n:Nat)(x:U7):Bool:=decide (n=0)||decide (u3 a b (n-1)≠x.1)
def ud(a b:List U7)(c:Bool):Nat->List U7
 |0=>[]
 |n+1=>match dU a b n with
  |some x=>if(fresh a b n x && !(c&&x.2.2.1))=zt then ud a b c n++[x]else ud a b c n
  |none=>ud a b c n
def shN(a b:List U7)(c:Bool)(n:Nat):V4:=(decide (n≠0),(if n=0 then[]else u3 a b (n-1),c))
def Sst(a b:List U7)(c:Bool)(n:Nat):ZP:=(cG a b (pos a b n).1 (pos a b n).2,(shN a b c n,(ud a b c n,(n:Int))))
def VX(a b:List U7):Nat->List U7
 |0=>[]
 |n+1=>match dU a b n with
  |some x=>VX a b n++[x]
  |none=>VX a b n
section
variable{a b:List U7}(va:VL a)(vb:VL b)
include va vb
theorem XM{n:Nat}(h:n<a.length+b.length):∃ x,dU a b n=zo x/\(x∈a\/x∈b):=by
 obtain⟨e,hs⟩:=X3 va vb (n:=n) (by omega);unfold dU;revert e hs;generalize (pos a b n).1=i;generalize (pos a b n).2=j;intro e hs;cases g:Za a b i j with
 |true=>
  have hi:i<a.length:=by
   refine nP λh'=> ?_;have c:a[i]?=zn:=a9 h';have d:j<b.length:=by have:=e.ia;omega
   rw[kz c (by simp[d]:b[j]?=zo b[j])]at g;cases g
  exact⟨a[i],by simp[hi],.inl (l5 hi)⟩
 |false=>
  have f:j<b.length:=by
   refine nP λh'=> ?_;have c:b[j]?=zn:=a9 h';cases d:a[i]? with
   |none=>rw[iL d c]at g;cases g
   |some x=>rw[ky d c]at g;cases g
  exact⟨b[j],by simp[f],.inr (l5 f)⟩
theorem oE{n:Nat}{x:U7}(h:dU a b n=zo x):kE x=0:=by
 have:x∈a\/x∈b:=by
  unfold dU at h;split at h
  ·exact .inl (bo h)
  ·exact .inr (bo h)
 rcases this with h|h
 ·exact va.ok x h
 ·exact vb.ok x h
theorem lG{n:Nat}(k:n+1<a.length+b.length){x y:U7}(d:dU a b n=zo x)(c:dU a b (n+1)=zo y):TZ y.1 x.1=zf:=by
 obtain⟨h,hs⟩:=X3 va vb (n:=n) (by omega);unfold dU at d c;rw[show pos a b (n+1)=if Za a b (pos a b n).1 (pos a b n).2=zt then((pos a b n).1+1,(pos a b n).2)else((pos a b n).1,(pos a b n).2+1)from rfl]at c
 revert h hs d c;generalize (pos a b n).1=i;generalize (pos a b n).2=j;intro d c h hs;cases g:Za a b i j with
 |true=>
  rw[zy g]at d;simp only[g,if_true]at c;have e:=h.stepA va d g;cases f:Za a b (i+1) j with
  |true=>rw[zy f]at c;exact WQ (va.lt d c)
  |false=>rw[zx (by simp[f])]at c;exact e.pa i rfl x y d c
 |false=>
  rw[zx (by simp[g])]at d;simp only[g,if_false,l6]at c;have e:=h.stepB vb d g;cases f:Za a b i (j+1)with
  |true=>rw[zy f]at c;exact WQ (e.pb j rfl x y d c)
  |false=>rw[zx (by simp[f])]at c;exact WQ (vb.lt d c)
theorem WZ:∀ {n:Nat},n<=a.length+b.length->(VX a b n).length=n
 |0,_=>rfl
 |n+1,h=>by
  obtain⟨x,c,_⟩:=XM va vb (n:=n) (by omega);unfold VX;rw[c];simp[WZ (n:=n) (by omega)]
theorem aJ:∀ {n k:Nat},n<=a.length+b.length->k<n->(VX a b n)[k]?=dU a b k
 |n+1,k,h,hk=>by
  obtain⟨x,d,_⟩:=XM va vb (n:=n) (by omega);unfold VX;rw[d];show(VX a b n++[x])[k]?=_;have e:=WZ va vb (n:=n) (by omega);by_cases c:k<n
  ·rw[List.getElem?_append_left (by omega)];exact aJ (by omega) c
  ·have:k=n:=by omega
   subst this;rw[List.getElem?_append_right (by omega),e];simp[d]
theorem jf{n m:Nat}(d:m<=a.length+b.length)(h:n<=m):(VX a b m).take n=VX a b n:=by
 apply List.ext_getElem?;intro k;rw[List.getElem?_take];by_cases c:k<n
 ·rw[zy c,aJ va vb d (by omega),aJ va vb (by omega) c]
 ·rw[zx c,a9];rw[WZ va vb (by omega)];omega
end
end
section
open Go Sv
theorem VE(n:Nat):K7 n=(n:Int):=rfl
theorem VC{α:Type}(l:List α):AQ l=l.length:=rfl
theorem ah(l:List UInt8):NH l=l.length:=rfl
theorem aq:IG zt=zf:=rfl
theorem wx:IG zf=zt:=rfl
theorem Vp{β:Type}(c:Bool)(x y:Unit->Option β):br (IG c) x y=br c y x:=UJ c x y
theorem Vo{β:Type}{a b:Nat}(h:a<=b)(k:Unit->Option β):gd (B2 a b) k=k ():=by rw[UP,zy h]
theorem bg(k:YF):XT k=zo (if k.length>32 then 3 else 0):=by
 unfold XT;rw[Um,VE,ah]
 grind
theorem XF(x:U7):Vx x=zo (kE x):=by
 unfold Vx kE;rw[bg,UG,Uq];by_cases b:x.1.length>32
 ·simp[b]
 rw[zx b,zy rfl,Um,VE,ah];by_cases d:x.2.1.length>64
 ·grind
 rw[zx (by omega:¬ (x.2.1.length:Int)>64),zx (by omega),Uw];by_cases a:x.2.2.1=zt
 ·rw[zy a,Vp,Xr];by_cases c:x.2.1=[]
  ·rw[zy c,zx (by simp[c]),Uo,Um]
   grind
  simp_all
 ·rw[zx a,zx (by simp[a]),Uo,Um]
  grind
theorem Xt(l:List U7)(j:l.length<=9223372036854775807):Vq l=zo (Wu l):=by
 unfold Vq Wu;rw[Um,VE,VC];by_cases h:l.length>5000
 ·grind
 rw[zx (by omega),zx h]
 have key:=mD (β:=Nat×(Int×Int×Int)×Unit) (l:=l) (λk (_:Int)=>((0:Int),((0:Int),(k:Int))))
  (λk x _=>if kE x≠0 then zo (.dn (0,((kE x,((k:Int),(k:Int))),())))else if k>0 then
    (match l[k-1]? with
    |some y=>if TZ y.1 x.1=zt then zo (.nx 0)else zo (.dn (0,(((6:Int),((k:Int),(k:Int))),())))
    |none=>zn)else zo (.nx 0))
  (λ_=>zo (1,((0,(0,(l.length:Int))),()))) (s:=(0,(0,0))) (0:Int) rfl j (f:=(λs0=>br (UV s0.2.2 (K7 (AQ l))) (λ_=>S1 s0.2.2 λz=>ix l z λt=>bd (Vx t) λr=>br (Sx r 0) (λ_=>zo (.dn ((0,((r,(s0.2.2,s0.2.2)),()))))) λ_=>br (UT s0.2.2 0) (λ_=>S1 (TM .i64 s0.2.2 1) λA=>ix l A λB=>br (IG (TZ B.1 t.1)) (λ_=>zo (.dn ((0,((6,(s0.2.2,s0.2.2)),()))))) λ_=>zo (.nx ((s0.1,(s0.2.1,TI .i64 s0.2.2 1))))) λ_=>zo (.nx ((s0.1,(s0.2.1,TI .i64 s0.2.2 1))))) λ_=>zo (.dn ((1,(s0,()))))))
  (λk x e b=>by
   simp only;rw[yR b,Tj,U9,Ua b,XF,UG,Uq];by_cases c:kE x=0
   ·have u:k<l.length:=(a8.1 b).1;simp only[c,if_true,ne_eq,not_true,if_false];rw[Um];by_cases g:k>0
    ·rw[zy (by omega:(k:Int)>0),zy g,Tq (by omega),show((k:Int)-1)=((k-1:Nat):Int) by omega,U9];have d:l[k-1]?=zo l[k-1]:=by simp_all
     rw[Ua d,d,Vp,Zy];simp only;by_cases a:TZ l[k-1].1 x.1=zt
     ·rw[zy a,zy a,VJ b j];rfl
     ·rw[zx a,zx a];rfl
    ·rw[zx (by omega:¬ (k:Int)>0),zx g,VJ b j];rfl
   ·simp only[c,if_false,ne_eq,not_false_iff,if_true];rfl)
  (λe=>by
   simp only
   rw[uk,TA];rfl)
 simp only[VE,VC]at key;rw[key]
 have q : ∀ (m:List U7) (k:Nat) (p:Option YF),l.drop k=m->(p=if k=0 then zn else (l[k-1]?).map (·.1)) -> ∀ e,bd (eK (β:=Nat×(Int×Int×Int)×Unit) (λk x (_:Int)=>if kE x≠0 then zo (.dn (0,((kE x,((k:Int),(k:Int))),()))) else if k>0 then
    (match l[k-1]? with
    |some y=>if TZ y.1 x.1=zt then zo (.nx 0)else zo (.dn (0,(((6:Int),((k:Int),(k:Int))),())))
    |none=>zn)else zo (.nx (0:Int))) (λ_=>zo (1,((0,(0,(l.length:Int))),()))) m k e) (λn=>br (neq n.1 0) (λ_=>zo (n.2.1.2.1,n.2.1.1)) λ_=>zo ((0:Int),(0:Int)))=zo (ao p k m):=by
  intro m
  induction m with
  |nil=>intro k p _ _ e;rfl
  |cons x m D=>
   intro k p C o e
   have b:l[k]?=zo x:=by
    grind [q9]
   have u:k<l.length:=(a8.1 b).1
   have w:l.drop (k+1)=m:=by
    grind [oj]
   unfold eK ao;by_cases c:kE x=0
   ·simp only[c,ne_eq,not_true,if_false];by_cases g:k>0
    ·have d:l[k-1]?=zo l[k-1]:=by grind
     rw[zy g,d];rw[zx (by omega:¬ k=0),d]at o;subst o;simp only[Option.map_some];by_cases a:TZ l[k-1].1 x.1=zt
     ·grind
     ·rw[zx a,zx a];rfl
    ·have i:k=0:=by omega
     subst i
     grind
   ·simp only[c,ne_eq,not_false_iff,if_true];rfl
 grind
theorem cZ{α β σ S:Type}{l:List α}(mk:Nat->σ->S)(F:List α->Nat->σ->Option β){f:S->Option (LR S β)}{s:S}(a:σ)(o:s=mk 0 a)(u:l.length<=9223372036854775807)
  (r:∀ a,f (mk l.length a)=zV (F [] l.length a))
  (hc:∀ k x m a,l.drop k=x::m->l[k]?=zo x->k<l.length->(∃ b,f (mk k a)=zo (.nx (mk (k+1) b))/\F (x::m) k a=F m (k+1) b)\/f (mk k a)=zV (F (x::m) k a)):loop f s=F l 0 a:=by
 subst o
 have c:∀ (m:List α) (k n:Nat) (a:σ),l.drop k=m->k<=l.length->m.length<n->Ih n f (mk k a)=F m k a:=by
  intro m
  induction m with
  |nil=>
   intro k n a h p g;obtain⟨n,rfl⟩:∃ j,n=j+1:=⟨n-1,by omega⟩
   have e:k=l.length:=by
    grind
   subst e;unfold Ih;rw[r];cases F [] l.length a<;>rfl
  |cons x m w=>
   intro k n a h p g;obtain⟨n,rfl⟩:∃ j,n=j+1:=⟨n-1,by omega⟩
   have i:l[k]?=zo x:=by
    grind [q9]
   have d:k<l.length:=(a8.1 i).1
   have q:l.drop (k+1)=m:=by
    grind [oj]
   rcases hc k x m a h i d with⟨b,h1,t⟩|h1
   ·grind [Vf]
   ·unfold Ih;rw[h1];cases F (x::m) k a<;>rfl
 exact c l 0 _ a (by simp) (by omega) (by omega)
theorem rl{α:Type}{l:List α}{k:Nat}(h:k<l.length):UV (k:Int) (l.length:Int)=zt:=by unfold UV;simp;omega
theorem re{α:Type}(l:List α):UV (l.length:Int) (l.length:Int)=zf:=by unfold UV;simp
theorem Va{α β:Type}{m:Option α}{x:α}{k:α->Option β}{r:Option β}(h:m=zo x)(e:k x=r):bd m k=r:=by subst h;exact e
theorem dB(k:VN):XY k=zo (k.2&&decide (k.1≠[])):=by
 unfold XY;rw[Uw];cases h:k.2 with
 |true=>rw[zy rfl,ad];simp[IG]
 |false=>rfl
def Xm(k:VN):Prop:=k.2=zt->k.1=[]
theorem uV{k:VN}(h:Xm k):XY k=zo zf:=by
 rw[dB];cases a:k.2 with
 |true=>simp[h a]
 |false=>rfl
theorem Vz(l:List U7)(i:Nat):Xm (kx l i):=by
 unfold kx Xm
 grind
theorem Y7{l:List VN}(h:∀ k∈l,Xm k)(d:l≠[])(e:l.length<=32):Xb l=zo 0:=by
 unfold Xb;simp only[VE,VC];rw[Uk,Um,zx (by simp_all),zx (by omega)]
 rw[cZ (l:=l) (σ:=Unit) (s:=(0,0)) (λk _=>((0:Int),(k:Int))) (λ_ _ _=>zo (1,((0,(l.length:Int)),()))) () rfl (by omega) (λc=>by
  simp only;rw[re];rfl) (λk x m c _ a b=>.inl ⟨(),by
   simp only;rw[rl b,Tj,U9,Ua a,uV (h x (bo a)),UG,TA,VJ a (by omega)],rfl⟩),UG]
 rfl
theorem aw{α:Type}{l:List α}(h:l.length<=1048576):(gd (B2 (AQ l) 1048576) λ_=>zo l)=zo l:=Vo h _
theorem ig(p q:VN):Yj [p,q]=zo (Tt p q):=by
 have o:w0 p q=(if p.2≠q.2 then q.2 else if p.1≠q.1 then TZ p.1 q.1 else zt):=rfl
 unfold Yj;simp only[VE,VC,ci,co];rw[show TJ .i64 2 ((0+1+1:Nat):Int)=4 from rfl,show TM .i64 4 1=3 from rfl];unfold VQ;rw[show S1 4=λk=>k 4 from rfl];simp only[Vo (show 4<=1048576 by omega),aw (show[p,q].length<=1048576 by simp),UG];rw[show S1 ((0+1+1:Nat):Int)=λk=>k 2 from rfl];simp only[Vo (show 2<=1048576 by omega)];have fin:∀ {w l:Int} {x:Nat×((Int×(List Int×(List VN×(List Int×Int))))×Unit)},x=(0,((0,([0,w,0,1],([p,q],([0,l],0)))),()))->(gd (I8 1 (AQ x.2.1.2.1)) λ_=>ix x.2.1.2.1 1 λb=>zo ((x.2.1.2.2.1,(x.2.1.2.2.2.1,b))))=zo ([p,q],([0,l],w)):=λe=>by subst e;rfl
 have m:∀ {f:(Int×(List Int×(List VN×(List Int×Int))))->Option (LR (Int×(List Int×(List VN×(List Int×Int)))) (Nat×((Int×(List Int×(List VN×(List Int×Int))))×Unit)))} {w l:Int},f (3,([0,0,0,0],([p,q],([0,0],0))))=zo (.nx (2,([0,0,0,1],([p,q],([0,0],0)))))->f (2,([0,0,0,1],([p,q],([0,0],0))))=zo (.nx (1,([0,0,0,1],([p,q],([0,0],0))))) ->
   f (1,([0,0,0,1],([p,q],([0,0],0))))=zo (.nx (0,([0,w,0,1],([p,q],([0,l],0)))))->f (0,([0,w,0,1],([p,q],([0,l],0))))=zo (.dn (0,((0,([0,w,0,1],([p,q],([0,l],0)))),()))) ->
   loop f (3,([0,0,0,0],([p,q],([0,0],0))))=zo (0,((0,([0,w,0,1],([p,q],([0,l],0)))),())):=λc d g i=>
  WK (n:=4) (by omega) ((Vf c).trans ((Vf d).trans ((Vf g).trans (Vm i))))
 have j:∀ {β:Type} (A B:Option β),w0 p q=zt->br (IG (beq p.2 q.2)) (λ_=>br (IG q.2) (λ_=>B) λ_=>A) (λ_=>br (IG (seq p.1 q.1)) (λ_=>br (IG (TZ p.1 q.1)) (λ_=>B) λ_=>A) λ_=>A)=A:=fun {β} A B h=>by
  grind [Vp,beq,Uw,seq,Xr]
 have a:∀ {β:Type} (A B:Option β),w0 p q≠zt->br (IG (beq p.2 q.2)) (λ_=>br (IG q.2) (λ_=>B) λ_=>A) (λ_=>br (IG (seq p.1 q.1)) (λ_=>br (IG (TZ p.1 q.1)) (λ_=>B) λ_=>A) λ_=>A)=B:=fun {β} A B h=>by
  grind [Vp,beq,Uw,seq,Xr]
 rw[show Ot 4 (0:Int)=[0,0,0,0]from rfl,show Ot 2 (0:Int)=[0,0]from rfl];by_cases h:w0 p q=zt
 ·refine Va (x:=(0,((0,([0,0,0,1],([p,q],([0,1],0)))),()))) ?_ ?_;refine WK (n:=4) (by omega) ?_;refine(Vf (s':=(2,([0,0,0,1],([p,q],([0,0],0))))) ?_).trans ((Vf (s':=(1,([0,0,0,1],([p,q],([0,0],0))))) ?_).trans ((Vf (s':=(0,([0,0,0,1],([p,q],([0,1],0))))) ?_).trans (Vm ?_)))
  ·rfl
  ·rfl
  ·exact j _ _ h
  ·rfl
  ·show zo ([p,q],([0,1],0))=_;unfold Tt;simp[h]
 ·refine Va (x:=(0,((0,([0,1,0,1],([p,q],([0,0],0)))),()))) ?_ ?_;refine WK (n:=4) (by omega) ?_;refine(Vf (s':=(2,([0,0,0,1],([p,q],([0,0],0))))) ?_).trans ((Vf (s':=(1,([0,0,0,1],([p,q],([0,0],0))))) ?_).trans ((Vf (s':=(0,([0,1,0,1],([p,q],([0,0],0))))) ?_).trans (Vm ?_)))
  ·rfl
  ·rfl
  ·exact a _ _ h
  ·rfl
  ·show zo ([p,q],([0,0],1))=_;unfold Tt;simp[h]
theorem cw{p q:VN}(a:Xm p)(b:Xm q):Wj [p,q]=zo (Tt p q,0):=by
 unfold Wj;rw[Y7 (by grind) (by simp) (by simp),UG,Uq,zy rfl,ig,UG]
theorem jZ{p q:VN}(d:Xm p)(e:Xm q):ZD (Tt p q)=zo (0,0):=by
 unfold ZD;rw[show(Tt p q).1=[p,q]from rfl,Y7 (by grind) (by simp) (by simp),UG,Uq,zy rfl,Uq,zy (show K7 (AQ (Tt p q).2.1)=K7 (AQ [p,q])from rfl),ig,UG];simp only[VE,VC]
 rw[cZ (l:=(Tt p q).2.1) (σ:=Unit) (s:=(0,(0,0))) (λk _=>((0:Int),((k:Int),(0:Int)))) (λ_ _ _=>zo (1,((0,(((Tt p q).2.1.length:Int),0)),()))) () rfl (show 2<=9223372036854775807 by omega) (λc=>by
  rfl) (λk x m c _ a b=>.inl ⟨(),by
   simp only;rw[rl b,Tj,U9,Ua a,U9,Ua a,Uq,zy rfl,VJ a (show 2<=9223372036854775807 by omega)],rfl⟩),UG]
 rw[show neq 1 0=zf from rfl,TA,Uq,zy rfl]
def wn(p q:VN):Nat:=if w0 p q=zt then 0 else 1
def wk(p q:VN):VN:=if w0 p q=zt then p else q
theorem jO(p q:VN):(Tt p q).2.2=(wn p q:Int):=by unfold Tt wn;grind
theorem jN(p q:VN):(Tt p q).1[wn p q]?=zo (wk p q):=by unfold Tt wn wk;grind
theorem ic{p q:VN}(a:Xm p)(b:Xm q):Yi (Tt p q)=zo (if(wk p q).2=zt then 12 else 0):=by
 unfold Yi;rw[jZ a b,UG,Uq,zy rfl,jO,U9,Ua (jN p q),Uw]
 grind
theorem Zo{p q:VN}(a:Xm p)(b:Xm q):Wo (Tt p q)=zo (if(wk p q).2=zt then(0,([],12))else((wn p q:Int),((wk p q).1,0))):=by
 unfold Wo;rw[ic a b,UG,Uq,jO,U9,Ua (jN p q)]
 grind
def rk(p q k:VN):VN×VN:=if w0 p q=zt then(k,q)else(p,k)
theorem ni(p q:VN):Vy (0,(1,([p,q],())))=zo (w0 p q):=by
 unfold Vy w0;show br (IG (beq p.2 q.2)) (λ_=>zo q.2) (λ_=>br (IG (seq p.1 q.1)) (λ_=>zo (TZ p.1 q.1)) λ_=>zo (UV 0 1))=_;rw[Vp (beq p.2 q.2),Uw (beq p.2 q.2),Vp (seq p.1 q.1),Xr];by_cases a:p.2=q.2
 ·rw[zy (show Sv.beq p.2 q.2=zt by simp[Sv.beq,a]),zx (show ¬ p.2≠q.2 by simp[a])];by_cases b:p.1=q.1
  ·rw[zy b,zx (show ¬ p.1≠q.1 by simp[b])];rfl
  simp_all
 simp_all[zx,Sv.beq]
theorem nj(p q:VN):Vy (1,(0,([p,q],())))=zo (!w0 p q):=by
 unfold Vy w0;show br (IG (beq q.2 p.2)) (λ_=>zo p.2) (λ_=>br (IG (seq q.1 p.1)) (λ_=>zo (TZ q.1 p.1)) λ_=>zo (UV 1 0))=_;rw[Vp (beq q.2 p.2),Uw (beq q.2 p.2),Vp (seq q.1 p.1),Xr];by_cases b:p.2=q.2
 ·rw[zy (show Sv.beq q.2 p.2=zt by simp[Sv.beq,b]),zx (show ¬ p.2≠q.2 by simp[b])];by_cases a:p.1=q.1
  ·rw[zy a.symm,zx (show ¬ p.1≠q.1 by simp[a])];rfl
  ·rw[zx (show ¬ q.1=p.1 from λe=>a e.symm),zy a];cases hs:TZ p.1 q.1 with
   |true=>rw[WQ hs];rfl
   |false=>rw[aj hs a];rfl
 ·rw[zx (show ¬ Sv.beq q.2 p.2=zt by simp[Sv.beq,Ne.symm b]),zy b];cases c:p.2<;>cases d:q.2<;>simp_all
theorem Zw{p q k:VN}(y:Xm p)(z:Xm q)(w:Xm k)(A:(wk p q).2=zf)(x:k.2=zt\/TZ k.1 (wk p q).1=zf) :
  ∃ n,Wb (Tt p q,k)=zo (Tt (rk p q k).1 (rk p q k).2,(n,0)):=by
 have g:(Tt p q).1.length<=1048576:=by show 2<=_;omega
 have b:(Tt p q).2.1.length<=1048576:=by show 2<=_;omega
 have i:lset (Tt p q).1 (wn p q) k=[(rk p q k).1,(rk p q k).2]:=by unfold Tt wn rk;split<;>rfl
 have c:(Tt p q).2.1=[0,(1-(wn p q:Int))]:=by unfold Tt wn;grind
 have m:wn p q=0\/wn p q=1:=by unfold wn;grind
 have up:∀ {f:(Int×(Int×(Unit×(List Int×Int))))->Option (LR (Int×(Int×(Unit×(List Int×Int)))) (Nat×((Int×(Int×(Unit×(List Int×Int))))×Unit)))},
   (f=λa=>br (PC (UX .i64 a.2.1 2) 0) (λ_=>zo (.dn ((0,((a.1,(UX .i64 a.2.1 2,((),a.2.2.2))),()))))) λ_=>S1 (UX .i64 a.2.1 2) λt=>gd (I8 t (AQ a.2.2.2.1)) λ_=>ix a.2.2.2.1 t λr=>bd (Vy ((r,(a.2.2.2.2,([(rk p q k).1,(rk p q k).2],()))))) λo=>br o (λ_=>S1 (UX .i64 a.2.1 2) λj=>gd (I8 j (AQ a.2.2.2.1)) λ_=>ix a.2.2.2.1 j λs=>S1 (UX .i64 a.2.1 2) λd=>gd (I8 d (AQ a.2.2.2.1)) λ_=>ix a.2.2.2.1 d λD=>zo (.nx ((TI .i64 a.1 1,(UX .i64 a.2.1 2,((),(lset a.2.2.2.1 d a.2.2.2.2,s))))))) λ_=>zo (.nx ((TI .i64 a.1 1,(UX .i64 a.2.1 2,((),a.2.2.2))))))
   -> loop f (0,((2:Int)+wn p q,((),([0,(1-(wn p q:Int))],(wn p q:Int)))))=zo (0,((1,(0,((),(Tt (rk p q k).1 (rk p q k).2).2))),())):=by
  intro f u;subst u;refine WK (n:=2) (by omega) ((Vf (s':=(1,(1,((),(Tt (rk p q k).1 (rk p q k).2).2)))) ?_).trans (Vm rfl));rcases m with h|h
  ·rw[h]
   have B:w0 p q=zt:=by
    simp_all[wn,zx]
   show bd (Vy (1,(0,([(rk p q k).1,(rk p q k).2],())))) _=_;rw[nj,UG];unfold Tt;cases C:w0 (rk p q k).1 (rk p q k).2<;>rfl
  ·rw[h];show bd (Vy (0,(1,([(rk p q k).1,(rk p q k).2],())))) _=_;rw[ni,UG];unfold Tt;cases C:w0 (rk p q k).1 (rk p q k).2<;>rfl
 unfold Wb;simp only[ic y z,A,UG,Uq,if_true,if_false,l6];rw[Y7 (by simp[w]) (by simp) (by simp),UG];simp only[if_true,Vp];rw[Uw];unfold VQ VZ;simp only[jO,U9,Ua (jN p q),Vo g,Vo b,UG,Zy,UQ,VC,VE,i];have l:wn p q<(Tt p q).1.length:=by show wn p q<2;omega
 have hi:TI .i64 (([(rk p q k).1,(rk p q k).2].length:Nat):Int) (wn p q:Int)=(2:Int)+wn p q:=by
  rw[To (by simp;omega)];rfl
 rw[hi,c];simp only[VC,UQ]at up;have key:=up rfl;rw[zy l];by_cases e:k.2=zt
 ·rw[zy e,key,UG];exact⟨_,rfl⟩
 ·rw[zx e,zx (by simp_all),key,UG];exact⟨_,rfl⟩
end
section
open Go Sv
theorem WM{S β:Type}{f:S->Option (LR S β)}{s0 s1 s2:S}{r:β}(a:f s0=zo (.nx s1))(b:f s1=zo (.nx s2))(c:f s2=zo (.dn r)):loop f s0=zo r:=
 WK (n:=3) (by omega) ((Vf a).trans ((Vf b).trans (Vm c)))
theorem bh{α β:Type}{c:Bool}{n:Int}{l:List α}{K:Nat->α->Option β}{E:Unit->Option β}(k:Nat){x:α}(hc:c=zt)(d:n=(k:Int))(e:l[k]?=zo x):br c (λ_=>S1 n λa=>ix l a λb=>K a b) E=K k x:=by
 simp_all[Tj,U9,Ua]
theorem X2{α β:Type}{n:Int}{l:List α}{K:Nat->α->Option β}(k:Nat){x:α}(b:n=(k:Int))(c:l[k]?=zo x):S1 n (λa=>ix l a λd=>K a d)=K k x:=by
 subst b;rw[U9,Ua c]
theorem ZG{l:List U7}{i:Nat}(h:i<=l.length):Vr (l,(i:Int))=zo (kx l i):=by
 unfold Vr kx;simp only[VE,VC];rw[Uk];by_cases hi:i=l.length
 ·simp_all
 ·have a:l[i]?=zo l[i]:=by simp_all
  rw[zx (by omega),U9,Ua a,a]
section
variable{a b:List U7}(va:VL a)(vb:VL b)
theorem tx{i j:Nat}(hi:i<=a.length)(c:j<=b.length):Yk ([a,b],[(i:Int),(j:Int)])=zo (Tt (kx a i) (kx b j)):=by
 unfold Yk;refine Va (x:=(0,((2,[kx a i,kx b j]),()))) (WM (s1:=(1,[kx a i,([],zf)])) (s2:=(2,[kx a i,kx b j])) ?_ ?_ rfl) ?_
 ·show bd (Vr (a,(i:Int))) _=_;rw[ZG hi];rfl
 ·show bd (Vr (b,(j:Int))) _=_;rw[ZG c];rfl
 ·show bd (Wj [kx a i,kx b j]) _=_;rw[cw (Vz _ _) (Vz _ _)];rfl
include va vb
theorem cR:Vq a=zo (0,0):=by
 rw[Xt _ (by have:=va.len;omega),au va]
theorem bz:Xd [a,b]=zo (0,0):=by
 unfold Xd;refine Va (x:=(1,((0,(0,2)),()))) (WM (s1:=(0,(0,1))) (s2:=(0,(0,2))) ?_ ?_ rfl) rfl
 ·show bd (Vq a) _=_;rw[cR va va];rfl
 ·show bd (Vq b) _=_;rw[cR vb vb];rfl
theorem lZ(c:Bool):Yv ([a,b],c)=zo (Sst a b c 0,(0,0)):=by
 unfold Yv;rw[bz va vb,UG,Uq,zy rfl];refine Va (x:=(0,((2,[kx a 0,kx b 0]),()))) (WM (s1:=(1,[kx a 0,([],zf)])) (s2:=(2,[kx a 0,kx b 0])) ?_ ?_ rfl) ?_
 ·show bd (Vr (a,((0:Nat):Int))) _=_;rw[ZG (by omega)];rfl
 ·show bd (Vr (b,((0:Nat):Int))) _=_;rw[ZG (by omega)];rfl
 ·show bd (Wj [kx a 0,kx b 0]) _=_;rw[cw (Vz _ _) (Vz _ _)];rfl
end
theorem Zq(x:Bool):Sv.beq x x=zt:=by cases x<;>rfl
theorem ae(x:YF):seq x x=zt:=by rw[dh]
theorem jS(l:List VN)(h:l.length<=1000):Vc (l,l)=zo zt:=by
 unfold Vc;simp only[VE,VC]
 rw[Uq,zy rfl,cZ (l:=l) (σ:=Unit) (s:=(0,zf)) (λk _=>((k:Int),zf)) (λ_ _ _=>zo (1,(((l.length:Int),zf),()))) () rfl (by omega) (λc=>by
  simp only;rw[re];rfl) (λk x m c _ a b=>.inl ⟨(),by
   simp only;rw[rl b,Tj,U9,Ua a,U9,Ua a,ae,Zq,show IG (OM zt (OM zt zt))=zf from rfl,TA,VJ a (by omega)],rfl⟩),UG]
 rfl
theorem jR(l:List Int)(h:l.length<=1000):VS (l,l)=zo zt:=by
 unfold VS;simp only[VE,VC]
 rw[Uq,zy rfl,cZ (l:=l) (σ:=Unit) (s:=(0,zf)) (λk _=>((k:Int),zf)) (λ_ _ _=>zo (1,(((l.length:Int),zf),()))) () rfl (by omega) (λc=>by
  simp only;rw[re];rfl) (λk x m c _ a b=>.inl ⟨(),by
   simp only;rw[rl b,Tj,U9,Ua a,U9,Ua a,Uq,zy rfl,VJ a (by omega)],rfl⟩),UG]
 rfl
theorem lW(t:XQ)(a:t.1.length<=1000)(b:t.2.1.length<=1000):YM (t,t)=zo zt:=by
 unfold YM;rw[Uk,zy rfl,jS _ a,UG,Tj,jR _ b];rfl
theorem lX(p q:VN):YM (Tt p q,Tt p q)=zo zt:=lW _ (show 2<=1000 by omega) (show 2<=1000 by omega)
theorem t7{a b:List U7}{i j:Nat}(h:Za a b i j=zt):wk (kx a i) (kx b j)=kx a i/\wn (kx a i) (kx b j)=0:=by
 unfold Za at h;unfold wk wn;rw[zy h,zy h];exact⟨rfl,rfl⟩
theorem t8{a b:List U7}{i j:Nat}(h:Za a b i j=zf):wk (kx a i) (kx b j)=kx b j/\wn (kx a i) (kx b j)=1:=by
 unfold Za at h;unfold wk wn;rw[zx (by simp[h]),zx (by simp[h])];exact⟨rfl,rfl⟩
theorem km(x y:YF):W0 (x,y)=zo (if TZ x y=zt then -1 else if TZ y x=zt then 1 else 0):=by
 unfold W0 XR
 grind [ae,aq,UG,TA,Zy]
theorem kl(x y:Int):WY (x,y)=zo (if x<y then -1 else if x>y then 1 else 0):=by
 unfold WY YU;simp only[UG,Uq,if_true,Uo,Um]
 grind
theorem oI(x y:Int):We [x,y]=zo (if x≠0 then x else y):=by
 unfold We;by_cases h:x=0
 ·rw[zx (by simp[h])];by_cases a:y=0
  ·refine Va (x:=(1,((0,2),()))) (WM (s1:=(0,1)) (s2:=(0,2)) ?_ ?_ rfl) (by rw[a];rfl)
   ·refine(bh 0 rfl rfl rfl).trans ?_;rw[Uq,zy h];rfl
   ·refine(bh 1 rfl rfl rfl).trans ?_;rw[Uq,zy a];rfl
  ·refine Va (x:=(0,((y,1),()))) (WK (n:=2) (by omega) ((Vf (s':=(0,1)) ?_).trans (Vm ?_))) rfl
   ·refine(bh 0 rfl rfl rfl).trans ?_;rw[Uq,zy h];rfl
   ·refine(bh 1 rfl rfl rfl).trans ?_;rw[Uq,zx a]
 ·rw[zy h];refine Va (x:=(0,((x,0),()))) (WK (n:=1) (by omega) (Vm ?_)) rfl;refine(bh 0 rfl rfl rfl).trans ?_;rw[Uq,zx h]
section
variable{a b:List U7}(va:VL a)(vb:VL b)
include va vb
theorem bU{i j:Nat}(I:Inv a b i j):Xc (cG a b i j)=zo (0,0):=by
 unfold Xc;rw[show(cG a b i j).1=[a,b]from rfl,bz va vb,UG,Uq,zy rfl];rw[show(cG a b i j).2.1=[(i:Int),(j:Int)]from rfl,Uq,zy (show K7 (AQ [(i:Int),(j:Int)])=K7 (AQ [a,b])from rfl)];refine Va (x:=(1,((0,(0,2)),()))) (WM (s1:=(0,(0,1))) (s2:=(0,(0,2))) ?_ ?_ rfl) ?_
 ·refine(bh 0 rfl rfl rfl).trans ?_;rw[Uo,zx (by omega),show S1 (((0:Int),((0:Int),(0:Int))).2.2)=λ(k:Nat->Option (LR (Int×(Int×Int)) (Nat×((Int×(Int×Int))×Unit))))=>k 0 from rfl];simp only;rw[Ua (x:=a) rfl,Um,zx (by have:=I.ia;simp only[VE,VC];omega)];rfl
 ·refine(bh 1 rfl rfl rfl).trans ?_;rw[Uo,zx (by omega),show S1 (((0:Int),((0:Int),(1:Int))).2.2)=λ(k:Nat->Option (LR (Int×(Int×Int)) (Nat×((Int×(Int×Int))×Unit))))=>k 1 from rfl];simp only;rw[Ua (x:=b) rfl,Um,zx (by have:=I.jb;simp only[VE,VC];omega)];rfl
 rw[show neq ((1:Nat),(((0:Int),((0:Int),(2:Int))),())).1 0=zf from rfl,TA,tx I.ia I.jb,UG,show(cG a b i j).2.2=Tt (kx a i) (kx b j)from rfl,lX,UG,show IG zt=zf from rfl,TA,Zo (Vz _ _) (Vz _ _),UG];by_cases hd:(wk (kx a i) (kx b j)).2=zt
 ·rw[zy hd];rfl
 rw[zx hd,Uq,zy rfl]
 have r:∀ {x:U7} {c:Nat},i=c+1->a[c]?=zo x -> ¬ (if(if TZ x.1 (wk (kx a i) (kx b j)).1=zt then(-1:Int)else if TZ (wk (kx a i) (kx b j)).1 x.1=zt then 1 else 0)≠0 then(if TZ x.1 (wk (kx a i) (kx b j)).1=zt then(-1:Int)else if TZ (wk (kx a i) (kx b j)).1 x.1=zt then 1 else 0)else(if(0:Int)<(wn (kx a i) (kx b j):Int)then -1 else if(0:Int)>(wn (kx a i) (kx b j):Int)then 1 else 0))>0:=by
  intro x c hi d
  have p:TZ (wk (kx a i) (kx b j)).1 x.1=zf:=by
   cases g:Za a b i j with
   |true=>
    rw[(t7 g).1]at hd ⊢;unfold kx at hd ⊢;cases e:a[i]? with
    |none=>simp_all
    |some y=>rw[hi]at e;exact WQ (va.lt d e)
   |false=>
    rw[(t8 g).1]at hd ⊢;unfold kx at hd ⊢;cases e:b[j]? with
    |none=>simp_all
    |some y=>exact I.pa c hi x y d e
  grind
 have s:∀ {y:U7} {j':Nat},j=j'+1->b[j']?=zo y -> ¬ (if(if TZ y.1 (wk (kx a i) (kx b j)).1=zt then(-1:Int)else if TZ (wk (kx a i) (kx b j)).1 y.1=zt then 1 else 0)≠0 then(if TZ y.1 (wk (kx a i) (kx b j)).1=zt then(-1:Int)else if TZ (wk (kx a i) (kx b j)).1 y.1=zt then 1 else 0)else(if(1:Int)<(wn (kx a i) (kx b j):Int)then -1 else if(1:Int)>(wn (kx a i) (kx b j):Int)then 1 else 0))>0:=by
  intro y j' o e
  have q:TZ y.1 (wk (kx a i) (kx b j)).1=zt:=by
   cases g:Za a b i j with
   |true=>
    rw[(t7 g).1]at hd ⊢;unfold kx at hd ⊢;cases d:a[i]? with
    |none=>simp_all
    |some x=>exact I.pb j' o y x e d
   |false=>
    rw[(t8 g).1]at hd ⊢;unfold kx at hd ⊢;cases d:b[j]? with
    |none=>grind
    |some x=>rw[o]at d;exact vb.lt e d
  grind
 refine Va (x:=(1,((0,(0,2)),()))) (WM (s1:=(0,(0,1))) (s2:=(0,(0,2))) ?_ ?_ rfl) rfl
 ·refine(bh 0 rfl rfl rfl).trans ?_;rw[Um];by_cases f:(i:Int)>0
  ·rw[zy f];obtain⟨c,h⟩:∃ c,i=c+1:=⟨i-1,by omega⟩;have l:c<a.length:=by have:=I.ia;omega
   have d:a[c]?=zo a[c]:=by simp[l]
   refine(X2 0 rfl (x:=a) rfl).trans ((X2 c ?_ d).trans ?_)
   ·rw[Tq (by have:=va.len;omega)];omega
   rw[km,UG];show bd (WY (0,(wn (kx a i) (kx b j):Int))) _=_;rw[kl,UG,oI,UG,Um,zx (r h d)];rfl
  ·rw[zx f];rfl
 ·refine(bh 1 rfl rfl rfl).trans ?_;rw[Um];by_cases f:(j:Int)>0
  ·rw[zy f];obtain⟨j',m⟩:∃ j',j=j'+1:=⟨j-1,by omega⟩;have n:j'<b.length:=by have:=I.jb;omega
   have e:b[j']?=zo b[j']:=by simp[n]
   refine(X2 1 rfl (x:=b) rfl).trans ((X2 j' ?_ e).trans ?_)
   ·rw[Tq (by have:=vb.len;omega)];omega
   rw[km,UG];show bd (WY (1,(wn (kx a i) (kx b j):Int))) _=_;rw[kl,UG,oI,UG,Um,zx (s m e)];rfl
  ·rw[zx f];rfl
end
end
section
open Go Sv
theorem Yx{l:List U7}{i:Nat}{x:U7}(h:l[i]?=zo x):kx l i=(x.1,zf):=by unfold kx;rw[h]
theorem cY{l:List U7}{i:Nat}(h:l[i]?=zn):kx l i=([],zt):=by unfold kx;rw[h]
theorem db{l:List U7}(v:VL l){i:Nat}{x:U7}(h:l[i]?=zo x):(kx l (i+1)).2=zt\/TZ (kx l (i+1)).1 x.1=zf:=by
 cases a:l[i+1]? with
 |none=>rw[cY a];grind
 |some y=>rw[Yx a];exact .inr (WQ (v.lt h a))
theorem bH{α β:Type}{n:Int}{l:List α}{K:Nat->α->Option β}(k:Nat){x:α}(c:n=(k:Int))(b:l[k]?=zo x):S1 n (λa=>gd (I8 a (AQ l)) λ_=>ix l a λd=>K a d)=K k x:=by
 subst c;rw[U9,UQ,zy (show k<AQ l from(a8.1 b).1),Ua b]
section
variable{a b:List U7}(va:VL a)(vb:VL b)
include va vb
theorem uX{i j:Nat}(I:Inv a b i j){x:U7}(c:a[i]?=zo x)(g:Za a b i j=zt):WH (cG a b i j)=zo (x,(0,(cG a b (i+1) j,0))):=by
 obtain⟨e,h⟩:=t7 g;have hi:=(a8.1 c).1;have l:=va.len;have hd:(wk (kx a i) (kx b j)).2=zf:=by rw[e,Yx c]
 obtain⟨m,f⟩:=Zw (p:=kx a i) (q:=kx b j) (k:=kx a (i+1)) (Vz _ _) (Vz _ _) (Vz _ _) hd (by rw[e,Yx c];exact db va c)
 have d:rk (kx a i) (kx b j) (kx a (i+1))=(kx a (i+1),kx b j):=by
  simp_all[rk,Za,zy]
 rw[d]at f;unfold WH;rw[bU va vb I,UG,Uq,zy rfl];unfold VP VZ;refine Va (aw (show 2<=1048576 by omega)) (Va (aw (show 2<=1048576 by omega)) ?_);rw[show(cG a b i j).2.2=Tt (kx a i) (kx b j)from rfl,Zo (Vz _ _) (Vz _ _),zx (by simp[hd]),UG,Uq,zy rfl,h];refine(bH 0 rfl (x:=a) rfl).trans ((bH 0 rfl (x:=(i:Int)) rfl).trans ((X2 i rfl c).trans ((bH 0 rfl (x:=(i:Int)) rfl).trans ((bH 0 rfl (x:=(i:Int)) rfl).trans ((bH 0 rfl (x:=a) rfl).trans ((bH 0 rfl (x:=TI .i64 (i:Int) 1) rfl).trans ?_))))));rw[VG (by omega),ZG (show i+1<=a.length by omega),UG,f,UG];rfl
theorem uY{i j:Nat}(I:Inv a b i j){y:U7}(c:b[j]?=zo y)(g:Za a b i j=zf):WH (cG a b i j)=zo (y,(1,(cG a b i (j+1),0))):=by
 obtain⟨e,h⟩:=t8 g;have hi:=(a8.1 c).1;have l:=vb.len;have hd:(wk (kx a i) (kx b j)).2=zf:=by rw[e,Yx c]
 obtain⟨m,f⟩:=Zw (p:=kx a i) (q:=kx b j) (k:=kx b (j+1)) (Vz _ _) (Vz _ _) (Vz _ _) hd (by rw[e,Yx c];exact db vb c)
 have d:rk (kx a i) (kx b j) (kx b (j+1))=(kx a i,kx b (j+1)):=by
  simp_all[rk,Za,zx]
 rw[d]at f;unfold WH;rw[bU va vb I,UG,Uq,zy rfl];unfold VP VZ;refine Va (aw (show 2<=1048576 by omega)) (Va (aw (show 2<=1048576 by omega)) ?_);rw[show(cG a b i j).2.2=Tt (kx a i) (kx b j)from rfl,Zo (Vz _ _) (Vz _ _),zx (by simp[hd]),UG,Uq,zy rfl,h];refine(bH 1 rfl (x:=b) rfl).trans ((bH 1 rfl (x:=(j:Int)) rfl).trans ((X2 j rfl c).trans ((bH 1 rfl (x:=(j:Int)) rfl).trans ((bH 1 rfl (x:=(j:Int)) rfl).trans ((bH 1 rfl (x:=b) rfl).trans ((bH 1 rfl (x:=TI .i64 (j:Int) 1) rfl).trans ?_))))));rw[VG (by omega),ZG (show j+1<=b.length by omega),UG,f,UG];rfl
def bn(a b:List U7)(n:Nat):Ws:=cG a b (pos a b n).1 (pos a b n).2
def ei(a b:List U7)(n:Nat):Nat:=if Za a b (pos a b n).1 (pos a b n).2=zt then 0 else 1
theorem eM{n:Nat}{x:U7}(h:n<a.length+b.length)(c:dU a b n=zo x):WH (bn a b n)=zo (x,((ei a b n:Int),(bn a b (n+1),0))):=by
 obtain⟨d,hs⟩:=X3 va vb (n:=n) (by omega);unfold bn ei;rw[show pos a b (n+1)=if Za a b (pos a b n).1 (pos a b n).2=zt then((pos a b n).1+1,(pos a b n).2)else((pos a b n).1,(pos a b n).2+1)from rfl]
 unfold dU at c;cases g:Za a b (pos a b n).1 (pos a b n).2 with
 |true=>simp_all[zy,uX]
 |false=>simp_all[zx,uY]
end
theorem ez{s:V4}(a:s.2.1.length<=32)(b:s.1=zf->s.2.1=[]):Xw s=zo 0:=by
 unfold Xw;rw[bg,UG,zx (by omega),Uq,zy rfl,Vp,Uw]
 simp_all[zx,Vp,Xr,zy]
def keep(s:V4)(x:U7):Bool:=!(s.1&&decide (x.1=s.2.1)) && !(s.2.2&&x.2.2.1)
theorem mW{s:V4}{x:U7}(e:s.2.1.length<=32)(f:s.1=zf->s.2.1=[])(g:kE x=0)(a:s.1=zt->TZ x.1 s.2.1=zf):WT (s,x)=zo (keep s x,((zt,(x.1,s.2.2)),0)):=by
 unfold WT keep;rw[ez e f,UG,Uq,zy rfl,XF,g,UG,Uq,zy rfl];obtain⟨s1,s2,c⟩:=s;obtain⟨h,i,d,j⟩:=x;simp only at a ⊢;cases s1 with
 |true=>
  have:=a rfl;simp only[Tj,TA,Zy,Xr,this,l6,if_false];by_cases b:h=s2
  ·simp[b]
  ·simp only[b,if_false,decide_false];cases c<;>cases d<;>rfl
 |false=>
  simp only[Tj,TA];cases c<;>cases d<;>rfl
def Xq:V4->List U7->List U7
 |_,[]=>[]
 |s,x::l=>(if keep s x=zt then[x]else[])++Xq (zt,(x.1,s.2.2)) l
theorem aB:∀ (s:V4) (l:List U7),(Xq s l).length<=l.length
 |_,[]=>eb _
 |s,x::l=>by
  have:=aB (zt,(x.1,s.2.2)) l;unfold Xq
  grind
def cq:V4->List U7->Prop
 |_,[]=>True
 |s,x::l=>kE x=0/\(s.1=zt->TZ x.1 s.2.1=zf)/\cq (zt,(x.1,s.2.2)) l
theorem eJ{x:U7}(h:kE x=0):x.1.length<=32:=by
 unfold kE at h;omega
theorem WL{α β σ S:Type}{l:List α}(mk:Nat->σ->S)(Inv:List α->Nat->σ->Prop)(F:List α->Nat->σ->β){f:S->Option (LR S β)}{s:S}(a:σ)(g:s=mk 0 a)(p:l.length<=9223372036854775807)(hi:Inv l 0 a)
  (o:∀ a,Inv [] l.length a->f (mk l.length a)=zo (.dn (F [] l.length a)))
  (hc:∀ k x m a,l.drop k=x::m->l[k]?=zo x->k<l.length->Inv (x::m) k a -> ∃ b,f (mk k a)=zo (.nx (mk (k+1) b))/\Inv m (k+1) b/\F (x::m) k a=F m (k+1) b):loop f s=zo (F l 0 a):=by
 subst g
 have c:∀ (m:List α) (k n:Nat) (a:σ),l.drop k=m->k<=l.length->m.length<n->Inv m k a->Ih n f (mk k a)=zo (F m k a):=by
  intro m
  induction m with
  |nil=>
   intro k n a i h e hi;obtain⟨n,rfl⟩:∃ j,n=j+1:=⟨n-1,by omega⟩
   have d:k=l.length:=by
    grind
   subst d;exact Vm (o a hi)
  |cons x m q=>
   intro k n a i h e hi;obtain⟨n,rfl⟩:∃ j,n=j+1:=⟨n-1,by omega⟩
   grind [q9,oj,Vf]
 exact c l 0 _ a (by simp) (by omega) (by omega) hi
def WR:V4->List U7->V4
 |s,[]=>s
 |s,x::l=>WR (zt,(x.1,s.2.2)) l
theorem gE{β:Type}{out:List U7}{n:Nat}(h:out.length<=n)(a:n<=20000)(x:U7)(k:Unit->Option β):gd (B2 (A0 (AQ out) (AQ [x])) 1048576) k=k ():=Vo (by grind [A0,AQ,ci,co]) k
theorem lU{l:List U7}{b:Bool}(B:l.length<=20000)(z:cq (zf,([],b)) l):Yb (l,b)=zo (Xq (zf,([],b)) l,(0,0)):=by
 unfold Yb Wq;simp only[VE,VC];rw[Um,zx (by omega),UG]
 rw[WL (l:=l) (σ:=V4×List U7) (s:=(0,(0,(0,((zf,([],b)),[]))))) (λk a=>((0:Int),((k:Int),((0:Int),a))))
  (λm k a=>cq a.1 m/\a.1.2.1.length<=32/\(a.1.1=zf->a.1.2.1=[])/\a.2.length<=k/\k+m.length=l.length)
  (λm k a=>(1,((0,((l.length:Int),(0,(WR a.1 m,a.2++Xq a.1 m)))),()))) ((zf,([],b)),[]) rfl (by omega) ⟨z,by simp,λ_=>rfl,by simp,by simp⟩ ?_ ?_,UG]
 ·simp;rfl
 ·grind [re,TA,WR,Xq]
 ·rintro k x m ⟨s,out⟩ C q y ⟨⟨d,e,g⟩,i,j,n,A⟩;simp only at d e g i j n ⊢;refine⟨((zt,(x.1,s.2.2)),out++if keep s x=zt then[x]else[]),?_,⟨g,eJ d,(λh=>by cases h),?_,by grind⟩,?_⟩
  ·rw[rl y,Tj,U9,Ua q,ez i j,UG,Uq,zy rfl,XF,d,UG,Uq,zy rfl];unfold keep Vl;obtain⟨s1,s2,r⟩:=s;obtain⟨f,t,c,u⟩:=x;simp only[UG,VJ q (show l.length<=9223372036854775807 by omega)]at e ⊢;have p:∀ {β:Type} (k:Unit->Option β),gd (B2 (A0 out.length [(f,(t,(c,u)))].length) 1048576) k=k ():=λk=>gE n (by omega) (f,(t,(c,u))) k;cases s1 with
   |true=>
    have w:=e rfl;simp only[Tj,TA,Xr,w,p];by_cases o:f=s2
    ·simp[o]
    ·simp only[o,if_false,decide_false];cases r<;>cases c<;>simp[Tj,TA,If]
   |false=>
    simp only[Tj,TA,p];cases r<;>cases c<;>simp[Tj,TA,If]
  ·grind
  grind [WR,Xq,gw]
end
section
open Go Sv
theorem iF:∀ (l:List U7) (s:V4) (x:U7),Xq s (l++[x])=Xq s l++(if keep (WR s l) x=zt then[x]else[])
 |[],s,x=>by
  show(if keep s x=zt then[x]else[])++[]=[]++(if keep s x=zt then[x]else[])
  simp_all
 |y::l,s,x=>by
  show(if keep s y=zt then[y]else[])++Xq _ (l++[x])=((if keep s y=zt then[y]else[])++Xq _ l)++_
  rw[iF l,gw];rfl
theorem bR:∀ (l:List U7) (s:V4) (x:U7),WR s (l++[x])=(zt,(x.1,(WR s l).2.2))
 |[],s,x=>rfl
 |y::l,s,x=>by simp only[List.cons_append,WR,bR l]
theorem Yy:∀ (l:List U7) (s:V4),(WR s l).2.2=s.2.2
 |[],s=>rfl
 |y::l,s=>by rw[WR,Yy l]
theorem io:∀ (l:List U7) (s:V4) (x:U7),cq s l->kE x=0->((WR s l).1=zt->TZ x.1 (WR s l).2.1=zf)->cq s (l++[x])
 |[],s,x,_,a,b=>⟨a,b,trivial⟩
 |y::l,s,x,⟨a,b,c⟩,d,h5=>⟨a,b,io l _ x c d h5⟩
theorem fT:∀ (l:List U7) (s:V4),cq s l->s.2.1.length<=32->(s.1=zf->s.2.1=[])->(WR s l).2.1.length<=32/\((WR s l).1=zf->(WR s l).2.1=[])
 |[],s,_,h1,h2=>⟨h1,h2⟩
 |y::l,s,⟨a,_,b⟩,_,_=>fT l _ b (eJ a) (λh=>by cases h)
abbrev s0(a:Bool):V4:=(zf,([],a))
def Ww(a b:List U7)(c:Bool)(n:Nat):ZP:=(bn a b n,(WR (s0 c) (VX a b n),(Xq (s0 c) (VX a b n),(n:Int))))
def Ze(a b:List U7):Nat->List Int
 |0=>[]
 |n+1=>Ze a b n++[(ei a b n:Int)]
theorem cz(a b:List U7):∀ n,(Ze a b n).length=n
 |0=>rfl
 |n+1=>by simp[Ze,cz a b n]
theorem aH{S β:Type}{f:S->Option (LR S β)}{r:β}(mk:Nat->S)(a n:Nat){s:S}(b:s=mk a)(c:a<=n)(e:n<18446744073709551616)(hs:∀ k,a<=k->k<n->f (mk k)=zo (.nx (mk (k+1))))(d:f (mk n)=zo (.dn r)):loop f s=zo r:=by
 have h:=ZM (f:=f) (r:=r) (λk=>mk (a+k)) (n-a) (s:=s) b (by omega) (λk c=>hs (a+k) (by omega) (by omega)) (by simp_all);exact h
theorem dm(l:List U7)(h:l.length<=100000):Xx (l,l)=zo zt:=by
 unfold Xx;simp only[VE,VC]
 rw[Uq,zy rfl,cZ (l:=l) (σ:=Unit) (s:=(zf,0)) (λk _=>(zf,(k:Int))) (λ_ _ _=>zo (1,((zf,(l.length:Int)),()))) () rfl (by omega) (λc=>by
  simp only;rw[re];rfl) (λk x m c _ a b=>.inl ⟨(),by
   simp only;rw[rl b,Tj,U9,Ua a,U9,Ua a,ae,ae,Zq,show PC x.2.2.2 x.2.2.2=zt by unfold PC;simp,show IG (OM zt (OM zt (OM zt (OM zt zt))))=zf from rfl,TA,VJ a (by omega)],rfl⟩),UG]
 rfl
section
variable{a b:List U7}(va:VL a)(vb:VL b)
include va vb
theorem Yd{n:Nat}{x:U7}(c:dU a b n=zo x):VX a b (n+1)=VX a b n++[x]:=by
 show(match dU a b n with
  |some x=>VX a b n++[x]
  |none=>VX a b n)=_
 rw[c]
theorem Y9(d:Bool):∀ {n:Nat},n<=a.length+b.length->cq (s0 d) (VX a b n)
 |0,_=>trivial
 |n+1,h=>by
  obtain⟨x,c,_⟩:=XM va vb (n:=n) (by omega);rw[Yd va vb c];refine io _ _ _ (Y9 d (by omega)) (oE va vb c) λ_=> ?_;cases n with
  |zero=>rename_i f;cases f
  |succ m=>
   obtain⟨y,e,_⟩:=XM va vb (n:=m) (by omega);rw[Yd va vb e,bR];exact lG va vb (by omega) e c
theorem jY(c:Bool){n:Nat}(h:n<=a.length+b.length):(WR (s0 c) (VX a b n)).2.1.length<=32/\((WR (s0 c) (VX a b n)).1=zf->(WR (s0 c) (VX a b n)).2.1=[]):=
 fT _ _ (Y9 va vb c h) (by simp) (λ_=>rfl)
theorem uv{n:Nat}(h:n=a.length+b.length):(wk (kx a (pos a b n).1) (kx b (pos a b n).2)).2=zt:=by
 obtain⟨c,hs⟩:=X3 va vb (n:=n) (by omega);have d:=c.ia;have e:=c.jb;rw[cY (a9 (by omega)),cY (a9 (by omega))];rfl
theorem uw{n:Nat}{x:U7}(c:dU a b n=zo x):(wk (kx a (pos a b n).1) (kx b (pos a b n).2)).2=zf/\wn (kx a (pos a b n).1) (kx b (pos a b n).2)=ei a b n:=by
 unfold dU at c;unfold ei;cases g:Za a b (pos a b n).1 (pos a b n).2 with
 |true=>rw[zy g]at c;grind [t7,Yx]
 |false=>rw[zx (by simp[g])]at c;grind [t8,Yx]
theorem uW:Zt [a,b]=zo (VX a b (a.length+b.length),(Ze a b (a.length+b.length),0)):=by
 have u:=va.len;have w:=vb.len;unfold Zt;rw[bz va vb,UG,Uq,zy rfl];refine Eq.trans (b:=bd (loop _ (0,[([],zf),([],zf)])) _) rfl ?_;refine Va (x:=(0,((2,[kx a 0,kx b 0]),()))) (WM (s1:=(1,[kx a 0,([],zf)])) (s2:=(2,[kx a 0,kx b 0])) ?_ ?_ rfl) ?_
 ·show bd (Vr (a,((0:Nat):Int))) _=_;rw[ZG (by omega)];rfl
 ·show bd (Vr (b,((0:Nat):Int))) _=_;rw[ZG (by omega)];rfl
 rw[show((0:Nat),(((2:Int),[kx a 0,kx b 0]),())).2.1.2=[kx a 0,kx b 0]from rfl,cw (Vz _ _) (Vz _ _),UG]
 refine Va (x:=(0,((VX a b (a.length+b.length),(Ze a b (a.length+b.length),((),([((pos a b (a.length+b.length)).1:Int),((pos a b (a.length+b.length)).2:Int)],Tt (kx a (pos a b (a.length+b.length)).1) (kx b (pos a b (a.length+b.length)).2))))),())))
  (aH (λk=>(VX a b k,(Ze a b k,((),([((pos a b k).1:Int),((pos a b k).2:Int)],Tt (kx a (pos a b k).1) (kx b (pos a b k).2)))))) 0 (a.length+b.length) rfl (by omega) (by omega) (λk _ l=> ?_) ?_) rfl
 ·obtain⟨x,c,_⟩:=XM va vb (n:=k) l;obtain⟨h,s⟩:=uw va vb c;obtain⟨t,hs⟩:=X3 va vb (n:=k) (by omega);have o:(VX a b k).length=k:=WZ va vb (by omega);have r:=cz a b k;simp only;rw[Zo (Vz _ _) (Vz _ _),zx (by simp[h]),UG,Uq,zy rfl,s];rw[Yd va vb c];unfold dU at c;rw[show Ze a b (k+1)=Ze a b k++[(ei a b k:Int)]from rfl];unfold ei;rw[show pos a b (k+1)=if Za a b (pos a b k).1 (pos a b k).2=zt then((pos a b k).1+1,(pos a b k).2)else((pos a b k).1,(pos a b k).2+1)from rfl]
  have i:∀ {β:Type} (y:U7) (q:Unit->Option β),gd (B2 (A0 (AQ (VX a b k)) (AQ [y])) 1048576) q=q ():=λy q=>Vo (by grind [A0,AQ,ci,co]) q;have j:∀ {β:Type} (y:Int) (q:Unit->Option β),gd (B2 (A0 (AQ (Ze a b k)) (AQ [y])) 1048576) q=q ():=λy q=>Vo (by grind [A0,AQ,ci,co]) q;cases g:Za a b (pos a b k).1 (pos a b k).2 with
  |true=>
   rw[zy g]at c;obtain⟨d,_⟩:=t7 g;obtain⟨m,f⟩:=Zw (p:=kx a (pos a b k).1) (q:=kx b (pos a b k).2) (k:=kx a ((pos a b k).1+1)) (Vz _ _) (Vz _ _) (Vz _ _) h (by rw[d,Yx c];exact db va c)
   have e:rk (kx a (pos a b k).1) (kx b (pos a b k).2) (kx a ((pos a b k).1+1))=(kx a ((pos a b k).1+1),kx b (pos a b k).2):=by
    simp_all[rk,Za,zy]
   rw[e]at f;have hi:=(a8.1 c).1;simp only[if_true];refine(bH 0 rfl (x:=a) rfl).trans ((bH 0 rfl (x:=((pos a b k).1:Int)) rfl).trans ((X2 _ rfl c).trans ?_));rw[i,j];refine(bH 0 rfl (x:=((pos a b k).1:Int)) rfl).trans ((bH 0 rfl (x:=((pos a b k).1:Int)) rfl).trans ((bH 0 rfl (x:=a) rfl).trans ((bH 0 rfl (x:=TI .i64 ((pos a b k).1:Int) 1) rfl).trans ?_)));rw[VG (by omega),ZG (by omega),UG,f,UG];rfl
  |false=>
   rw[zx (by simp[g])]at c;obtain⟨d,_⟩:=t8 g;obtain⟨m,f⟩:=Zw (p:=kx a (pos a b k).1) (q:=kx b (pos a b k).2) (k:=kx b ((pos a b k).2+1)) (Vz _ _) (Vz _ _) (Vz _ _) h (by rw[d,Yx c];exact db vb c)
   have e:rk (kx a (pos a b k).1) (kx b (pos a b k).2) (kx b ((pos a b k).2+1))=(kx a (pos a b k).1,kx b ((pos a b k).2+1)):=by
    simp_all[rk,Za,zx]
   rw[e]at f;have hi:=(a8.1 c).1;simp only[l6,if_false];refine(bH 1 rfl (x:=b) rfl).trans ((bH 1 rfl (x:=((pos a b k).2:Int)) rfl).trans ((X2 _ rfl c).trans ?_));rw[i,j];refine(bH 1 rfl (x:=((pos a b k).2:Int)) rfl).trans ((bH 1 rfl (x:=((pos a b k).2:Int)) rfl).trans ((bH 1 rfl (x:=b) rfl).trans ((bH 1 rfl (x:=TI .i64 ((pos a b k).2:Int) 1) rfl).trans ?_)));rw[VG (by omega),ZG (by omega),UG,f,UG];rfl
 ·simp only;rw[Zo (Vz _ _) (Vz _ _),zy (uv va vb rfl),UG,Uq,zx (by decide),Uq,zx (by decide)]
end
end
section
open Go Sv
theorem kw{β:Type}{out:List U7}{n:Nat}(h:out.length<=n)(a:n<=20000)(x:U7)(k:Unit->Option β):gd (B2 (A0 out.length [x].length) 1048576) k=k ():=gE h a x k
section
variable{a b:List U7}(va:VL a)(vb:VL b)
include va vb
theorem ZN{n:Nat}(h:n<=a.length+b.length):(VX a b (a.length+b.length)).take n=VX a b n:=jf va vb (eb _) h
theorem bC{n:Nat}{x:U7}(c:Bool)(d:dU a b n=zo x):WR (s0 c) (VX a b (n+1))=(zt,(x.1,c)):=by
 rw[Yd va vb d,bR,Yy]
theorem jv(c:Bool){n:Nat}(h:n<=a.length+b.length):Yw (Ww a b c n)=zo 0:=by
 obtain⟨e,hs⟩:=X3 va vb (n:=n) h;have i:=va.len;have j:=vb.len;have f:=aB (s0 c) (VX a b n);have g:(VX a b n).length=n:=WZ va vb h;unfold Yw;rw[show(Ww a b c n).1=cG a b (pos a b n).1 (pos a b n).2 from rfl,bU va vb e,UG,Uq,zy rfl];refine Va (x:=(0,((2,(n:Int)),()))) (WM (s1:=(1,((pos a b n).1:Int))) (s2:=(2,(n:Int))) ?_ ?_ rfl) ?_
 ·refine(bh 0 rfl rfl (x:=((pos a b n).1:Int)) rfl).trans ?_;show zo (LR.nx ((1:Int),TI .i64 0 ((pos a b n).1:Int)))=_;rw[To (by omega),xr]
 ·refine(bh 1 rfl rfl (x:=((pos a b n).2:Int)) rfl).trans ?_
  grind [To,pos]
 simp only[VE,VC];rw[show(Ww a b c n).2.2.1=Xq (s0 c) (VX a b n)from rfl,show(Ww a b c n).2.2.2=(n:Int)from rfl,show(Ww a b c n).2.1=WR (s0 c) (VX a b n)from rfl,Um,zx (by omega),Um,zx (by omega),Uq,zy rfl];rw[show(cG a b (pos a b n).1 (pos a b n).2).1=[a,b]from rfl,uW va vb,UG,Uq,zy rfl,U9];rw[Vo (by simp_all[WZ,eb]),Vo (Nat.zero_le _)];rw[show DV (VX a b (a.length+b.length)) 0 n=VX a b n from by simp_all[DV,tw,Nat.sub_zero,ZN],Yy];rw[show(s0 c).2.2=c from rfl,lU (by omega) (Y9 va vb c h),UG,Uq,zy rfl];unfold Wq;rw[UG,Um];cases n with
 |zero=>
  rw[zx (by omega),dm _ (by omega),UG,aq,TA];show br (IG (OM (Sv.beq zf zf) (OM (seq [] []) (OM (Sv.beq c c) zt)))) _ _=_;rw[Zq,Zq,ae];rfl
 |succ m=>
  obtain⟨x,d,_⟩:=XM va vb (n:=m) (by omega);rw[zy (by omega),show TM .i64 ((m+1:Nat):Int) 1=(m:Int) by rw[Tq (by omega)];omega,U9];rw[Ua (x:=x) (by rw[aJ va vb (eb _) (by omega)];exact d),dm _ (by omega),UG,aq,TA,bC va vb c d];rw[Zq,Zq,ae];rfl
theorem nz{n:Nat}(h:n<=a.length+b.length):ZR (bn a b n)=zo (((a.length+b.length-n:Nat):Int),0):=by
 obtain⟨c,hs⟩:=X3 va vb (n:=n) h;have f:=va.len;have g:=vb.len;have d:=c.ia;have e:=c.jb;unfold ZR;rw[show bn a b n=cG a b (pos a b n).1 (pos a b n).2 from rfl,bU va vb c,UG,Uq,zy rfl];refine Va (x:=(0,((2,((a.length+b.length-n:Nat):Int)),()))) (WM (s1:=(1,(a.length:Int)-((pos a b n).1:Int))) (s2:=(2,((a.length+b.length-n:Nat):Int))) ?_ ?_ rfl) rfl
 ·refine(bh 0 rfl rfl (x:=a) rfl).trans ((X2 0 rfl (x:=((pos a b n).1:Int)) rfl).trans ?_);simp only[VE,VC];rw[Tq (by omega)];show zo (LR.nx ((1:Int),TI .i64 0 ((a.length:Int)-((pos a b n).1:Int))))=_;rw[To (by omega),xr]
 ·refine(bh 1 rfl rfl (x:=b) rfl).trans ((X2 1 rfl (x:=((pos a b n).2:Int)) rfl).trans ?_)
  grind [VE,VC,Tq,To,pos]
theorem dK(c:Bool){n:Nat}(h:n<=a.length+b.length):V0 (Ww a b c n)=zo (((a.length+b.length-n:Nat):Int),0):=by
 unfold V0;rw[jv va vb c h,UG,Uq,zy rfl,show(Ww a b c n).1=bn a b n from rfl,nz va vb h];rfl
theorem dj(c:Bool){n:Nat}{x:U7}(d:dU a b n=zo x):Ww a b c (n+1)=(bn a b (n+1),((zt,(x.1,c)),(Xq (s0 c) (VX a b n)++(if keep (WR (s0 c) (VX a b n)) x=zt then[x]else[]),((n+1:Nat):Int)))):=by
 simp_all[Ww,Yd,bR,Yy,iF]
theorem af(c:Bool){n:Nat}{x:U7}(h:n<a.length+b.length)(e:dU a b n=zo x):WT (WR (s0 c) (VX a b n),x)=zo (keep (WR (s0 c) (VX a b n)) x,((zt,(x.1,c)),0)):=by
 have d:=jY va vb c (n:=n) (by omega);rw[mW d.1 d.2 (oE va vb e),Yy];intro g;cases n with
 |zero=>cases g
 |succ m=>
  obtain⟨y,f,_⟩:=XM va vb (n:=m) (by omega);rw[bC va vb c f];exact lG va vb (by omega) f e
def wa(k:Int)(s:ZP):Int×(Int×(List (List U7)×(List Int×(List VN×(List Int×(Int×(Bool×(YF×(Bool×(List U7×Int)))))))))):=
 (k,(0,(s.1.1,(s.1.2.1,(s.1.2.2.1,(s.1.2.2.2.1,(s.1.2.2.2.2,(s.2.1.1,(s.2.1.2.1,(s.2.1.2.2,(s.2.2.1,s.2.2.2)))))))))))
theorem fj(c:Bool){n:Nat}(h:n<=a.length+b.length){k:Nat}:WE (Ww a b c n,(k:Int))=zo (Ww a b c (n+min k (a.length+b.length-n)),(((min k (a.length+b.length-n):Nat):Int),0)):=by
 have w:=va.len;have z:=vb.len;have e:∀ m,m<=a.length+b.length->(Xq (s0 c) (VX a b m)).length<=m:=λm r=>by have:=aB (s0 c) (VX a b m);have:=WZ va vb r;omega
 obtain⟨u,s⟩:∃ u,u=min k (a.length+b.length-n):=⟨_,rfl⟩
 have i:Uy (k:Int) ((a.length+b.length-n:Nat):Int)=(u:Int):=by
  unfold Uy;omega
 rw[<- s];unfold WE;rw[dK va vb c h,UG,Uq,zy rfl];simp only[i,VE,VC];rw[Uo,zx (by omega),show(Ww a b c n).2.2.2=(n:Int)from rfl,To (by omega),Um,zx (by omega)];rw[show(Ww a b c n).2.2.1=Xq (s0 c) (VX a b n)from rfl,show(Ww a b c n).1=bn a b n from rfl,Vo (by grind),Vo (show(bn a b n).2.1.length<=1048576 from(show 2<=1048576 by omega)),Uo];by_cases t:u=0
 ·grind
 rw[zy (by omega)];obtain⟨x,o,_⟩:=XM va vb (n:=n) (by omega);rw[eM va vb (by omega) o,UG,Uq,zy rfl,show(Ww a b c n).2.1=WR (s0 c) (VX a b n)from rfl,af va vb c (by omega) o,UG,Uq,zy rfl]
 have q:∀ j,1<=j->j<u -> ∃ y,dU a b (n+j)=zo y:=λj f g=>by
  obtain⟨y,d,_⟩:=XM va vb (n:=n+j) (by omega)
  simp_all
 rw[Uw];have hS:=dj va vb c o;cases p:keep (WR (s0 c) (VX a b n)) x with
 |true=>
  rw[p]at hS;rw[zy rfl,kw (e n h) (by omega)];refine Va (x:=(1,(wa u (Ww a b c (n+u)),()))) (aH (λj=>wa j (Ww a b c (n+j))) 1 u ?_ (by omega) (by omega) (λj f g=> ?_) ?_) ?_
  ·rw[hS,show TI .i64 (n:Int) 1=((n+1:Nat):Int)from VG (by omega)];rfl
  ·obtain⟨y,d⟩:=q j f g;show br (UV (j:Int) (u:Int)) _ _=_;rw[Uo,zy (by omega)];show bd (WH (bn a b (n+j))) _=_;rw[eM va vb (by omega) d,UG,Uq,zy rfl];show bd (WT (WR (s0 c) (VX a b (n+j)),y)) _=_;rw[af va vb c (by omega) d,UG,Uq,zy rfl,Uw,show n+(j+1)=n+j+1 by omega,dj va vb c d];cases l:keep (WR (s0 c) (VX a b (n+j))) y with
   |true=>
    rw[zy rfl,zy rfl];show gd (B2 (A0 (AQ (Xq (s0 c) (VX a b (n+j)))) (AQ [y])) 1048576) _=_;rw[gE (e _ (by omega)) (by omega)];show zo (LR.nx (TI .i64 (j:Int) 1,_))=_;unfold wa;simp only[VG (show j+1<=9223372036854775807 by omega),If];rw[show TI .i64 (Ww a b c (n+j)).2.2.2 1=((n+j+1:Nat):Int)from VG (by omega)];rfl
   |false=>
    rw[zx (by simp),zx (by simp)];show zo (LR.nx (TI .i64 (j:Int) 1,_))=_;unfold wa;simp only[VG (show j+1<=9223372036854775807 by omega)];rw[show TI .i64 (Ww a b c (n+j)).2.2.2 1=((n+j+1:Nat):Int)from VG (by omega),gM];rfl
  ·show br (UV (u:Int) (u:Int)) _ _=_;rw[Uo,zx (by omega)]
  ·rfl
 |false=>
  rw[p]at hS;rw[zx (by simp)];refine Va (x:=(1,(wa u (Ww a b c (n+u)),()))) (aH (λj=>wa j (Ww a b c (n+j))) 1 u ?_ (by omega) (by omega) (λj f g=> ?_) ?_) ?_
  ·rw[hS,show TI .i64 (n:Int) 1=((n+1:Nat):Int)from VG (by omega),zx (by simp),gM];rfl
  ·obtain⟨y,d⟩:=q j f g;show br (UV (j:Int) (u:Int)) _ _=_;rw[Uo,zy (by omega)];show bd (WH (bn a b (n+j))) _=_;rw[eM va vb (by omega) d,UG,Uq,zy rfl];show bd (WT (WR (s0 c) (VX a b (n+j)),y)) _=_;rw[af va vb c (by omega) d,UG,Uq,zy rfl,Uw,show n+(j+1)=n+j+1 by omega,dj va vb c d];cases l:keep (WR (s0 c) (VX a b (n+j))) y with
   |true=>
    rw[zy rfl,zy rfl];show gd (B2 (A0 (AQ (Xq (s0 c) (VX a b (n+j)))) (AQ [y])) 1048576) _=_;rw[gE (e _ (by omega)) (by omega)];show zo (LR.nx (TI .i64 (j:Int) 1,_))=_;unfold wa;simp only[VG (show j+1<=9223372036854775807 by omega),If];rw[show TI .i64 (Ww a b c (n+j)).2.2.2 1=((n+j+1:Nat):Int)from VG (by omega)];rfl
   |false=>
    rw[zx (by simp),zx (by simp)];show zo (LR.nx (TI .i64 (j:Int) 1,_))=_;unfold wa;simp only[VG (show j+1<=9223372036854775807 by omega)];rw[show TI .i64 (Ww a b c (n+j)).2.2.2 1=((n+j+1:Nat):Int)from VG (by omega),gM];rfl
  ·show br (UV (u:Int) (u:Int)) _ _=_;rw[Uo,zx (by omega)]
  ·rfl
end
end
section
open Go Sv
theorem Xi{α β σ S:Type}{l:List α}(mk:Nat->σ->S)(I:List α->Nat->σ->Prop)(Q:β->Prop){f:S->Option (LR S β)}{s:S}(a:σ)(q:s=mk 0 a)(y:l.length<=9223372036854775807)(hi:I l 0 a)
  (w:∀ a,I [] l.length a -> ∃ r,f (mk l.length a)=zo (.dn r)/\Q r)
  (hc:∀ k x m a,l.drop k=x::m->l[k]?=zo x->k<l.length->I (x::m) k a->(∃ b,f (mk k a)=zo (.nx (mk (k+1) b))/\I m (k+1) b) \/ ∃ r,f (mk k a)=zo (.dn r)/\Q r):∃ r,loop f s=zo r/\Q r:=by
 subst q
 have c:∀ (m:List α) (k n:Nat) (a:σ),l.drop k=m->k<=l.length->m.length<n->I m k a -> ∃ r,Ih n f (mk k a)=zo r/\Q r:=by
  intro m
  induction m with
  |nil=>
   intro k n a o t i hi;obtain⟨n,rfl⟩:∃ j,n=j+1:=⟨n-1,by omega⟩
   have h:k=l.length:=by
    grind
   subst h;obtain⟨r,d,e⟩:=w a hi;exact⟨r,Vm d,e⟩
  |cons x m z=>
   intro k n a o t i hi;obtain⟨n,rfl⟩:∃ j,n=j+1:=⟨n-1,by omega⟩
   have p:l[k]?=zo x:=by
    grind [q9]
   have g:k<l.length:=(a8.1 p).1
   have u:l.drop (k+1)=m:=by
    grind [oj]
   rcases hc k x m a o p g hi with⟨b,d,e⟩|⟨r,d,e⟩
   ·grind [Vf]
   ·exact⟨r,Vm d,e⟩
 exact c l 0 _ a (by simp) (by omega) (by omega) hi
theorem aG{α:Type}(l m:List α)(n:l.length=m.length)(g:l.length<=9223372036854775806){f:(Int×Bool)->Option (LR (Int×Bool) (Nat×((Int×Bool)×Unit)))}
  (hs:∀ (k:Nat) x y,l[k]?=zo x->m[k]?=zo y->(x=y->f ((k:Int),zf)=zo (.nx (((k+1:Nat):Int),zf)))/\(x≠y->f ((k:Int),zf)=zo (.dn (0,(((k:Int),zf),())))))
  (i:f ((l.length:Int),zf)=zo (.dn (1,(((l.length:Int),zf),())))) :
  ∃ r,loop f (0,zf)=zo r/\((l=m/\r.1=1)\/(l≠m/\r.1=0/\r.2.1.2=zf)):=by
 refine Xi (l:=l) (σ:=Unit) (λk _=>((k:Int),zf)) (λt k _=>t=l.drop k/\l.take k=m.take k) _ () rfl (by omega) ⟨by simp,by simp⟩ (λd h=> ?_) (λk x t d hd b j h=> ?_)
 ·grind
 ·have a:k<m.length:=by omega
  have c:m[k]?=zo m[k]:=by simp[a]
  by_cases e:x=m[k]
  ·refine .inl ⟨(),(hs k x m[k] b c).1 e,?_,?_⟩
   ·grind [oj]
   grind [List.take_add_one]
  grind
theorem beq_eq(a b:Bool):Sv.beq a b=decide (a=b):=by rfl
theorem XL(a b:Int):PC a b=decide (a=b):=by
 rfl
theorem aO(p q:Prop)[Decidable p][Decidable q]:OM (decide p) (decide q)=decide (p/\q):=by unfold OM;simp
theorem WS(p:Prop)[Decidable p]:IG (decide p)=decide (¬ p):=by unfold IG;simp
theorem cQ(a:Bool):OM a zt=a:=by cases a<;>rfl
theorem lm(l m:List VN)(i:l.length<=9223372036854775806):Vc (l,m)=zo (decide (l=m)):=by
 unfold Vc;simp only[VE,VC];rw[Uq];by_cases a:(l.length:Int)=(m.length:Int)
 ·rw[zy a];have b:l.length=m.length:=by omega
  obtain⟨r,h,s⟩:=aG l m b i (f:=λs0=>br (UV s0.1 (l.length:Int)) (λ_=>S1 s0.1 λp=>ix l p λd=>S1 s0.1 λq=>ix m q λg=>br (IG (OM (seq d.1 g.1) (OM (Sv.beq d.2 g.2) zt))) (λ_=>zo (.dn ((0,((s0.1,zf),()))))) λ_=>zo (.nx (TI .i64 s0.1 1,s0.2))) λ_=>zo (.dn ((1,(s0,()))))) (λk x y c o=>by
    have n:=(a8.1 c).1
    have j:∀ {β:Type} (u v:Unit->Option β),br (IG (OM (seq x.1 y.1) (OM (Sv.beq x.2 y.2) zt))) u v=if x=y then v ()else u ():=by
     intro β u v;rw[cQ,ad,beq_eq,aO,WS,Wa]
     grind
    constructor
    ·intro e;simp only;rw[rl n,Tj,U9,Ua c,U9,Ua o,j,zy e,VG (by omega)]
    simp_all[rl,Tj,U9,Ua,zx]) (by simp only;rw[re];rfl)
  refine Va h ?_
  grind [UH]
 ·rw[zx a];have:¬ l=m:=λe=>a (by rw[e]);simp[this]
theorem bO(l m:List Int)(g:l.length<=9223372036854775806):VS (l,m)=zo (decide (l=m)):=by
 unfold VS;simp only[VE,VC];rw[Uq];by_cases a:(l.length:Int)=(m.length:Int)
 ·rw[zy a];have b:l.length=m.length:=by omega
  obtain⟨r,d,q⟩:=aG l m b g (f:=λs0=>br (UV s0.1 (l.length:Int)) (λ_=>S1 s0.1 λj=>ix l j λo=>S1 s0.1 λn=>ix m n λp=>br (Sx o p) (λ_=>zo (.dn ((0,((s0.1,zf),()))))) λ_=>zo (.nx (TI .i64 s0.1 1,s0.2))) λ_=>zo (.dn ((1,(s0,()))))) (λk x y c i=>by
    have h:=(a8.1 c).1;constructor
    ·intro e;simp only;rw[rl h,Tj,U9,Ua c,U9,Ua i,Uq,zy e,VG (by omega)]
    simp_all[rl,Tj,U9,Ua,Uq]) (by simp only;rw[re];rfl)
  refine Va d ?_
  grind [UH]
 ·rw[zx a];have:¬ l=m:=λe=>a (by rw[e]);simp[this]
theorem dw{β:Type}(x y:U7)(u v:Unit->Option β):br (IG (OM (seq x.1 y.1) (OM (seq x.2.1 y.2.1) (OM (Sv.beq x.2.2.1 y.2.2.1) (OM (PC x.2.2.2 y.2.2.2) zt))))) u v=if x=y then v ()else u ():=by
 rw[cQ,ad,ad,beq_eq,XL,aO,aO,aO,WS,Wa]
 grind
theorem X6(l m:List U7)(i:l.length<=9223372036854775806):Vu (l,m)=zo (decide (l=m)):=by
 unfold Vu;simp only[VE,VC];rw[Uq];by_cases c:(l.length:Int)=(m.length:Int)
 ·rw[zy c];have d:l.length=m.length:=by omega
  obtain⟨r,h,q⟩:=aG l m d i (f:=λs0=>br (UV s0.1 (l.length:Int)) (λ_=>S1 s0.1 λo=>ix l o λa=>S1 s0.1 λp=>ix m p λb=>br (IG (OM (seq a.1 b.1) (OM (seq a.2.1 b.2.1) (OM (Sv.beq a.2.2.1 b.2.2.1) (OM (PC a.2.2.2 b.2.2.2) zt))))) (λ_=>zo (.dn ((0,((s0.1,zf),()))))) λ_=>zo (.nx (TI .i64 s0.1 1,s0.2))) λ_=>zo (.dn ((1,(s0,()))))) (λk x y g n=>by
    have j:=(a8.1 g).1;constructor
    ·intro e;simp only;rw[rl j,Tj,U9,Ua g,U9,Ua n,dw,zy e,VG (by omega)]
    simp_all[rl,Tj,U9,Ua,dw]) (by simp only;rw[re];rfl)
  refine Va h ?_
  grind [UH]
 ·rw[zx c];have:¬ l=m:=λe=>c (by rw[e]);simp[this]
theorem Zn(l m:List U7)(a:l.length<=9223372036854775806):V9 (l,m)=zo (decide (l=m)):=by
 unfold V9;rw[X6 l m a];rfl
instance:DecidableEq U7:=inferInstance
instance:DecidableEq (List U7):=inferInstance
instance:DecidableEq (List (List U7)):=inferInstance
instance:DecidableEq VN:=inferInstance
instance:DecidableEq XQ:=inferInstance
instance:DecidableEq Ws:=inferInstance
instance:DecidableEq V4:=inferInstance
instance:DecidableEq ZP:=inferInstance
theorem iR(x y:ZP)(n:x.1.1.length<=1000)(i:∀ l∈x.1.1,l.length<=1000000)(o:x.1.2.1.length<=1000)(p:x.1.2.2.1.length<=1000)(q:x.1.2.2.2.1.length<=1000)(s:x.2.2.1.length<=1000000):XP (x,y)=zo (decide (x=y)):=by
 obtain⟨⟨a,D,E,F,M⟩,⟨xs,L,J⟩,G,K⟩:=x;obtain⟨⟨b,N,P,S,Z⟩,⟨X,Y,O⟩,W,U⟩:=y;simp only at n i o p q s;unfold XP;simp only[VE,VC];rw[Uq];by_cases d:(a.length:Int)=(b.length:Int)
 ·rw[zy d];have g:a.length=b.length:=by omega
  obtain⟨r,z,h⟩:=aG a b g (by omega) (f:=λs0=>br (UV s0.1 (a.length:Int)) (λ_=>S1 s0.1 λu=>ix a u λB=>S1 s0.1 λw=>ix b w λC=>bd (V9 (B,C)) λA=>br (IG A) (λ_=>zo (.dn ((0,((s0.1,zf),()))))) λ_=>zo (.nx (TI .i64 s0.1 1,s0.2))) λ_=>zo (.dn ((1,(s0,()))))) (λk x y c m=>by
    have j:=(a8.1 c).1;have t:=i x (bo c);constructor
    ·intro e;simp only;rw[rl j,Tj,U9,Ua c,U9,Ua m,Zn _ _ (by omega),UG,WS,Wa,zx (by simp[e]),VG (by omega)]
    ·intro e;simp only
     rw[rl j,Tj,U9,Ua c,U9,Ua m,Zn _ _ (by omega),UG,WS,Wa,zy e]) (by simp only;rw[re];rfl)
  refine Va z ?_;simp only[bO _ _ (show D.length<=9223372036854775806 by omega),bO _ _ (show F.length<=9223372036854775806 by omega),lm _ _ (show E.length<=9223372036854775806 by omega),Zn _ _ (show G.length<=9223372036854775806 by omega),UG,Wa,XL,ad,beq_eq,cQ,aO,UH];rw[Uw];rcases h with⟨e,h⟩|⟨e,h,I⟩
  ·rw[zx (show ¬ r.1=0 by omega)]
   repeat' split
   all_goals simp_all
  simp_all
 ·rw[zx d];have:¬ a=b:=λe=>d (by rw[e]);simp[this]
end
end Go.Proofs.YtoefnfbpoabinabGreatDoor.Pl
