/- Functions of the program and of the specification as plain functions, and laws about them. No condition. -/
import Derived.Test.YtoefnfbpoabinaaGreatDoorPl0
set_option linter.all false
open List renaming append_assoc->hI, append_nil->iz, drop_zero->sp, getElem?_eq_none->a9, getElem?_eq_some_iff->a8, getElem_mem->rz, head?_drop->ol, length_cons->dc, length_nil->eb, mem_cons->li, mem_of_getElem?->bl, tail_drop->mR
open Nat renaming le_refl->ed, lt_of_not_le->ml
open Int renaming zero_add->wl
open Bool renaming and_eq_true->nP, false_eq_true->lc, or_eq_true->xn
open Option renaming some->zo, none->zn
open Bool renaming true->zt, false->zf
namespace Go.Proofs.YtoefnfbpoabinaaGreatDoor.Pl
section
open Go Sv
abbrev gn:=(Int×(Int×(Int×jE)))
def bmp(a:jE)(k l:Nat):jE:=
 (VK (neq l 0) (Tk .i64 (IN [a.1,a.2.1,a.2.2.1,a.2.2.2.1,a.2.2.2.2.1,a.2.2.2.2.2.1,a.2.2.2.2.2.2.1,a.2.2.2.2.2.2.2.1,a.2.2.2.2.2.2.2.2.1,a.2.2.2.2.2.2.2.2.2.1,a.2.2.2.2.2.2.2.2.2.2.1,a.2.2.2.2.2.2.2.2.2.2.2] k) 1) a.1,(VK (neq l 1) (Tk .i64 (IN [a.1,a.2.1,a.2.2.1,a.2.2.2.1,a.2.2.2.2.1,a.2.2.2.2.2.1,a.2.2.2.2.2.2.1,a.2.2.2.2.2.2.2.1,a.2.2.2.2.2.2.2.2.1,a.2.2.2.2.2.2.2.2.2.1,a.2.2.2.2.2.2.2.2.2.2.1,a.2.2.2.2.2.2.2.2.2.2.2] k) 1) a.2.1,(VK (neq l 2) (Tk .i64 (IN [a.1,a.2.1,a.2.2.1,a.2.2.2.1,a.2.2.2.2.1,a.2.2.2.2.2.1,a.2.2.2.2.2.2.1,a.2.2.2.2.2.2.2.1,a.2.2.2.2.2.2.2.2.1,a.2.2.2.2.2.2.2.2.2.1,a.2.2.2.2.2.2.2.2.2.2.1,a.2.2.2.2.2.2.2.2.2.2.2] k) 1) a.2.2.1,(VK (neq l 3) (Tk .i64 (IN [a.1,a.2.1,a.2.2.1,a.2.2.2.1,a.2.2.2.2.1,a.2.2.2.2.2.1,a.2.2.2.2.2.2.1,a.2.2.2.2.2.2.2.1,a.2.2.2.2.2.2.2.2.1,a.2.2.2.2.2.2.2.2.2.1,a.2.2.2.2.2.2.2.2.2.2.1,a.2.2.2.2.2.2.2.2.2.2.2] k) 1) a.2.2.2.1,(VK (neq l 4) (Tk .i64 (IN [a.1,a.2.1,a.2.2.1,a.2.2.2.1,a.2.2.2.2.1,a.2.2.2.2.2.1,a.2.2.2.2.2.2.1,a.2.2.2.2.2.2.2.1,a.2.2.2.2.2.2.2.2.1,a.2.2.2.2.2.2.2.2.2.1,a.2.2.2.2.2.2.2.2.2.2.1,a.2.2.2.2.2.2.2.2.2.2.2] k) 1) a.2.2.2.2.1,(VK (neq l 5) (Tk .i64 (IN [a.1,a.2.1,a.2.2.1,a.2.2.2.1,a.2.2.2.2.1,a.2.2.2.2.2.1,a.2.2.2.2.2.2.1,a.2.2.2.2.2.2.2.1,a.2.2.2.2.2.2.2.2.1,a.2.2.2.2.2.2.2.2.2.1,a.2.2.2.2.2.2.2.2.2.2.1,a.2.2.2.2.2.2.2.2.2.2.2] k) 1) a.2.2.2.2.2.1,(VK (neq l 6) (Tk .i64 (IN [a.1,a.2.1,a.2.2.1,a.2.2.2.1,a.2.2.2.2.1,a.2.2.2.2.2.1,a.2.2.2.2.2.2.1,a.2.2.2.2.2.2.2.1,a.2.2.2.2.2.2.2.2.1,a.2.2.2.2.2.2.2.2.2.1,a.2.2.2.2.2.2.2.2.2.2.1,a.2.2.2.2.2.2.2.2.2.2.2] k) 1) a.2.2.2.2.2.2.1,(VK (neq l 7) (Tk .i64 (IN [a.1,a.2.1,a.2.2.1,a.2.2.2.1,a.2.2.2.2.1,a.2.2.2.2.2.1,a.2.2.2.2.2.2.1,a.2.2.2.2.2.2.2.1,a.2.2.2.2.2.2.2.2.1,a.2.2.2.2.2.2.2.2.2.1,a.2.2.2.2.2.2.2.2.2.2.1,a.2.2.2.2.2.2.2.2.2.2.2] k) 1) a.2.2.2.2.2.2.2.1,(VK (neq l 8) (Tk .i64 (IN [a.1,a.2.1,a.2.2.1,a.2.2.2.1,a.2.2.2.2.1,a.2.2.2.2.2.1,a.2.2.2.2.2.2.1,a.2.2.2.2.2.2.2.1,a.2.2.2.2.2.2.2.2.1,a.2.2.2.2.2.2.2.2.2.1,a.2.2.2.2.2.2.2.2.2.2.1,a.2.2.2.2.2.2.2.2.2.2.2] k) 1) a.2.2.2.2.2.2.2.2.1,(VK (neq l 9) (Tk .i64 (IN [a.1,a.2.1,a.2.2.1,a.2.2.2.1,a.2.2.2.2.1,a.2.2.2.2.2.1,a.2.2.2.2.2.2.1,a.2.2.2.2.2.2.2.1,a.2.2.2.2.2.2.2.2.1,a.2.2.2.2.2.2.2.2.2.1,a.2.2.2.2.2.2.2.2.2.2.1,a.2.2.2.2.2.2.2.2.2.2.2] k) 1) a.2.2.2.2.2.2.2.2.2.1,(VK (neq l 10) (Tk .i64 (IN [a.1,a.2.1,a.2.2.1,a.2.2.2.1,a.2.2.2.2.1,a.2.2.2.2.2.1,a.2.2.2.2.2.2.1,a.2.2.2.2.2.2.2.1,a.2.2.2.2.2.2.2.2.1,a.2.2.2.2.2.2.2.2.2.1,a.2.2.2.2.2.2.2.2.2.2.1,a.2.2.2.2.2.2.2.2.2.2.2] k) 1) a.2.2.2.2.2.2.2.2.2.2.1,VK (neq l 11) (Tk .i64 (IN [a.1,a.2.1,a.2.2.1,a.2.2.2.1,a.2.2.2.2.1,a.2.2.2.2.2.1,a.2.2.2.2.2.2.1,a.2.2.2.2.2.2.2.1,a.2.2.2.2.2.2.2.2.1,a.2.2.2.2.2.2.2.2.2.1,a.2.2.2.2.2.2.2.2.2.2.1,a.2.2.2.2.2.2.2.2.2.2.2] k) 1) a.2.2.2.2.2.2.2.2.2.2.2)))))))))))
def YX(x:((List VY)×(List VY))):Option Bool:=
 br (TN (LN (AQ x.1)) (LN (AQ x.2))) (λ_=>zo zf) λ_=>bd (loop (λs0=>br (Uv s0.1 (LN (AQ x.1))) (λ_=>TS s0.1 λd=>ix x.1 d λa=>TS s0.1 λe=>ix x.2 e λb=>br (IR (Of (seq a.1 b.1) (Of (seq a.2.1 b.2.1) (Of (beq a.2.2.1 b.2.2.1) (Of (PW a.2.2.2 b.2.2.2) zt))))) (λ_=>zo (.dn ((0,((s0.1,zf),()))))) λ_=>zo (.nx (Tk .i64 s0.1 1,s0.2))) λ_=>zo (.dn ((1,(s0,()))))) (0,zf)) λc=>br (neq c.1 0) (λ_=>zo c.2.1.2) λ_=>zo zt
end
section
open Go Sv
def ZD(x:qF):Option (List VY):=
 gd (B5 (AQ x.1.2) 1048576) λ_=>bd (Ze x.2.1) λq=>bd (loop (λ(s1:((List VY)×Int))=>br (Uv s1.2 (LN (AQ q))) (λ_=>bd (loop (λs2=>br (Uv s2.1 (LN (AQ x.1.2))) (λ_=>br s2.2 (λ_=>zo (.nx (Tk .i64 s2.1 1,zt))) λ_=>TS s2.1 λD=>ix x.1.2 D λI=>TS s1.2 λE=>ix q E λJ=>zo (.nx (Tk .i64 s2.1 1,seq I.1 J.1))) λ_=>zo (.dn ((0,(s2,()))))) (0,zf)) λG=>br (IR G.2.1.2) (λ_=>TS s1.2 λF=>ix q F λC=>gd (B5 (A0 (AQ s1.1) (AQ [C])) 1048576) λ_=>zo (.nx (Ir s1.1 [C],Tk .i64 s1.2 1))) λ_=>zo (.nx (s1.1,Tk .i64 s1.2 1))) λ_=>zo (.dn ((0,(s1,()))))) (x.1.2,0)) λb=>bd (loop (λ(d:(List VY))=>br (Uv (LN (AQ d)) (LN (AQ b.2.1.1))) (λ_=>bd (loop (λa=>br (Uv a.2 (LN (AQ b.2.1.1))) (λ_=>br (PW (LN (AQ d)) 0) (λ_=>br (Uv a.1 0) (λ_=>zo (.nx (a.2,Tk .i64 a.2 1))) λ_=>TS a.2 λf=>gd (JJ f (AQ b.2.1.1)) λ_=>ix b.2.1.1 f λt=>TS a.1 λg=>gd (JJ g (AQ b.2.1.1)) λ_=>ix b.2.1.1 g λu=>br (UB t.1 u.1) (λ_=>zo (.nx (a.2,Tk .i64 a.2 1))) λ_=>zo (.nx (a.1,Tk .i64 a.2 1))) λ_=>TS a.2 λh=>gd (JJ h (AQ b.2.1.1)) λ_=>ix b.2.1.1 h λw=>TS (Tp .i64 (LN (AQ d)) 1) λi=>gd (JJ i (AQ d)) λ_=>ix d i λy=>br (UB y.1 w.1) (λ_=>br (Uv a.1 0) (λ_=>zo (.nx (a.2,Tk .i64 a.2 1))) λ_=>TS a.2 λj=>gd (JJ j (AQ b.2.1.1)) λ_=>ix b.2.1.1 j λz=>TS a.1 λk=>gd (JJ k (AQ b.2.1.1)) λ_=>ix b.2.1.1 k λA=>br (UB z.1 A.1) (λ_=>zo (.nx (a.2,Tk .i64 a.2 1))) λ_=>zo (.nx (a.1,Tk .i64 a.2 1))) λ_=>zo (.nx (a.1,Tk .i64 a.2 1))) λ_=>zo (.dn ((0,(a,()))))) (((-1),0))) λr=>TS r.2.1.1 λl=>gd (JJ l (AQ b.2.1.1)) λ_=>ix b.2.1.1 l λo=>gd (B5 (A0 (AQ d) (AQ [o])) 1048576) λ_=>zo (.nx (Ir d [o]))) λ_=>zo (.dn ((0,(d,()))))) []) λe=>bd (loop (λ(c:Vt)=>br (Uv c.1 (LN (AQ e.2.1))) (λ_=>TS c.1 λm=>gd (JJ m (AQ e.2.1)) λ_=>ix e.2.1 m λB=>br (IR B.2.2.1) (λ_=>TS c.1 λn=>gd (JJ n (AQ e.2.1)) λ_=>ix e.2.1 n λp=>gd (B5 (A0 (AQ c.2) (AQ [p])) 1048576) λ_=>zo (.nx (Tk .i64 c.1 1,Ir c.2 [p]))) λ_=>zo (.nx (Tk .i64 c.1 1,c.2))) λ_=>zo (.dn ((0,(c,()))))) (0,[])) λs=>zo s.2.1.2
end
section
open Go Sv
def ab(x:qF):Option Bool:=
 bd (loop (λs0=>br (Uv s0.1 (LN (AQ x.1.2))) (λ_=>br (Uv s0.1 25) (λ_=>TS s0.1 λb=>ix x.1.2 b λe=>br (Ut (LN (NZ e.1)) 100) (λ_=>zo (.dn ((0,((s0.1,zt),()))))) λ_=>TS s0.1 λc=>ix x.1.2 c λf=>br (Ut (LN (NZ f.2.1)) 100) (λ_=>zo (.dn ((0,((s0.1,zt),()))))) λ_=>zo (.nx (Tk .i64 s0.1 1,s0.2))) λ_=>zo (.dn ((1,(s0,()))))) λ_=>zo (.dn ((1,(s0,()))))) (0,zf)) λa=>br (neq a.1 0) (λ_=>zo a.2.1.2) λ_=>bd (ZA x.2) λd=>br d (λ_=>zo zt) λ_=>zo (Ut (LN (AQ x.1.2)) 20)
def Yq(_:Unit):Option Bool:=zo zt
end
section
open Go Sv
end
section
open Go Sv
def YH(x:Vb):Option ((List Vt)×Int):=
 bd (Wb x) λb=>br (TN b.2.2 0) (λ_=>zo ([],b.2.2)) λ_=>bd (loop (λ(s1:(Int×(List Vt)))=>br (Uv s1.1 (LN (AQ x.2))) (λ_=>TS s1.1 λe=>ix x.2 e λc=>bd (loop (λ(a:(Int×(List Vt)))=>br (TM a.1 0) (λ_=>TS a.1 λf=>ix c f λd=>gd (B5 (A0 (AQ a.2) (AQ [d])) 1048576) λ_=>zo (.nx (Tp .i64 a.1 1,Ir a.2 [d]))) λ_=>zo (.dn ((0,(a,()))))) ((Tp .i64 (LN (AQ c)) 1,s1.2))) λg=>zo (.nx (Tk .i64 s1.1 1,g.2.1.2))) λ_=>zo (.dn ((0,(s1,()))))) (0,[])) λh=>zo (h.2.1.2,0)
def WP(x:VY):Option Bool:=
 zo x.2.2.1
def Yc(x:qF):Option ((List VY)×Int):=
 bd (YH x.2.1) λA=>br (TN A.2 0) (λ_=>zo ([],A.2)) λ_=>bd (loop (λ(s1:(Int×((List Vj)×(List VY))))=>br (Uv s1.1 (LN (AQ x.1.2))) (λ_=>TS s1.1 λY=>ix x.1.2 Y λB=>br (IR (Tv (NJ ((λS=>(λU=>seq S U))) s1.2.1 B.1) zf)) (λ_=>gd (B5 (A0 (AQ s1.2.2) (AQ [B])) 1048576) λ_=>zo (.nx ((Tk .i64 s1.1 1,(I2 ((λW=>(λX=>seq W X))) s1.2.1 B.1 zt,Ir s1.2.2 [B]))))) λ_=>zo (.nx (Tk .i64 s1.1 1,s1.2))) λ_=>zo (.dn ((0,(s1,()))))) ((0,([],[])))) λZ=>bd (loop (λ(u:(Int×((List Vj)×(List VY))))=>br (Uv u.1 (LN (AQ A.1))) (λ_=>TS u.1 λG=>ix A.1 G λw=>bd (loop (λ(g:(Int×((List Vj)×(List VY))))=>br (Uv g.1 (LN (AQ w.2))) (λ_=>TS g.1 λI=>ix w.2 I λm=>br (IR (Tv (NJ ((λC=>(λD=>seq C D))) g.2.1 m.1) zf)) (λ_=>gd (B5 (A0 (AQ g.2.2) (AQ [m])) 1048576) λ_=>zo (.nx ((Tk .i64 g.1 1,(I2 ((λE=>(λF=>seq E F))) g.2.1 m.1 zt,Ir g.2.2 [m]))))) λ_=>zo (.nx (Tk .i64 g.1 1,g.2))) λ_=>zo (.dn ((0,(g,()))))) (0,u.2)) λJ=>zo (.nx (Tk .i64 u.1 1,J.2.1.2))) λ_=>zo (.dn ((0,(u,()))))) (0,Z.2.1.2)) λj=>bd (loop (λk=>br (Uv k.2 (LN (AQ j.2.1.2.2))) (λ_=>TS k.2 λp=>gd (JJ p (AQ j.2.1.2.2)) λ_=>ix j.2.1.2.2 p λP=>bd (WP P) λK=>br K (λ_=>zo (.dn ((0,((k.2,k.2),()))))) λ_=>zo (.nx (k.1,Tk .i64 k.2 1))) λ_=>zo (.dn ((1,(k,()))))) (0,0)) λl=>br (neq l.1 0) (λ_=>br (PW l.2.1.1 (-1)) (λ_=>bd (SD j.2.1.2.2) λL=>zo (L,0)) λ_=>bd (loop (λ(e:(Int×Vt))=>br (Uv e.2.1 (LN (AQ e.2.2))) (λ_=>TS e.2.1 λq=>gd (JJ q (AQ e.2.2)) λ_=>ix e.2.2 q λy=>bd (WP y) λM=>br (IR M) (λ_=>TS e.1 λn=>gd (JJ n (AQ e.2.2)) λ_=>ix e.2.2 n λx32=>zo (.nx ((Tk .i64 e.1 1,(Tk .i64 e.2.1 1,lset e.2.2 n y))))) λ_=>zo (.nx ((e.1,(Tk .i64 e.2.1 1,e.2.2))))) λ_=>zo (.dn ((0,(e,()))))) ((l.2.1.1,(Tk .i64 l.2.1.1 1,j.2.1.2.2)))) λa=>TS a.2.1.1 λc=>gd (B5 (AQ a.2.1.2.2) (AQ a.2.1.2.2)) λ_=>gd (B5 c (AQ a.2.1.2.2)) λ_=>br (JJ c (AQ a.2.1.2.2)) (λ_=>gd (B5 (A0 c (QR (AQ a.2.1.2.2) c)) (AQ a.2.1.2.2)) λ_=>TS a.2.1.1 λh=>gd (B5 h (AQ (E9 a.2.1.2.2 c (PA (QR (AQ a.2.1.2.2) c) ((([],([],(zf,0))):VY))) (QR (AQ a.2.1.2.2) c)))) λ_=>gd (B5 0 h) λ_=>br (JJ 0 (AQ (E9 a.2.1.2.2 c (PA (QR (AQ a.2.1.2.2) c) ((([],([],(zf,0))):VY))) (QR (AQ a.2.1.2.2) c)))) (λ_=>gd (B5 (A0 0 (QR h 0)) (AQ (E9 a.2.1.2.2 c (PA (QR (AQ a.2.1.2.2) c) ((([],([],(zf,0))):VY))) (QR (AQ a.2.1.2.2) c)))) λ_=>bd (SD (Db (E9 a.2.1.2.2 c (PA (QR (AQ a.2.1.2.2) c) ((([],([],(zf,0))):VY))) (QR (AQ a.2.1.2.2) c)) 0 (A0 0 (QR h 0)))) λs=>gd (B5 (A0 0 (QR h 0)) (AQ (E9 (E9 a.2.1.2.2 c (PA (QR (AQ a.2.1.2.2) c) ((([],([],(zf,0))):VY))) (QR (AQ a.2.1.2.2) c)) 0 s (QR h 0)))) λ_=>zo ((Db (E9 (E9 a.2.1.2.2 c (PA (QR (AQ a.2.1.2.2) c) ((([],([],(zf,0))):VY))) (QR (AQ a.2.1.2.2) c)) 0 s (QR h 0)) 0 (A0 0 (QR h 0)),0))) λ_=>zn) λ_=>zn) λ_=>br (PW (-1) (-1)) (λ_=>bd (SD j.2.1.2.2) λN=>zo (N,0)) λ_=>bd (loop (λ(f:(Int×Vt))=>br (Uv f.2.1 (LN (AQ f.2.2))) (λ_=>TS f.2.1 λr=>gd (JJ r (AQ f.2.2)) λ_=>ix f.2.2 r λz=>bd (WP z) λO=>br (IR O) (λ_=>TS f.1 λo=>gd (JJ o (AQ f.2.2)) λ_=>ix f.2.2 o λx43=>zo (.nx ((Tk .i64 f.1 1,(Tk .i64 f.2.1 1,lset f.2.2 o z))))) λ_=>zo (.nx ((f.1,(Tk .i64 f.2.1 1,f.2.2))))) λ_=>zo (.dn ((0,(f,()))))) (((-1),(Tk .i64 (-1) 1,j.2.1.2.2)))) λb=>TS b.2.1.1 λd=>gd (B5 (AQ b.2.1.2.2) (AQ b.2.1.2.2)) λ_=>gd (B5 d (AQ b.2.1.2.2)) λ_=>br (JJ d (AQ b.2.1.2.2)) (λ_=>gd (B5 (A0 d (QR (AQ b.2.1.2.2) d)) (AQ b.2.1.2.2)) λ_=>TS b.2.1.1 λi=>gd (B5 i (AQ (E9 b.2.1.2.2 d (PA (QR (AQ b.2.1.2.2) d) ((([],([],(zf,0))):VY))) (QR (AQ b.2.1.2.2) d)))) λ_=>gd (B5 0 i) λ_=>br (JJ 0 (AQ (E9 b.2.1.2.2 d (PA (QR (AQ b.2.1.2.2) d) ((([],([],(zf,0))):VY))) (QR (AQ b.2.1.2.2) d)))) (λ_=>gd (B5 (A0 0 (QR i 0)) (AQ (E9 b.2.1.2.2 d (PA (QR (AQ b.2.1.2.2) d) ((([],([],(zf,0))):VY))) (QR (AQ b.2.1.2.2) d)))) λ_=>bd (SD (Db (E9 b.2.1.2.2 d (PA (QR (AQ b.2.1.2.2) d) ((([],([],(zf,0))):VY))) (QR (AQ b.2.1.2.2) d)) 0 (A0 0 (QR i 0)))) λt=>gd (B5 (A0 0 (QR i 0)) (AQ (E9 (E9 b.2.1.2.2 d (PA (QR (AQ b.2.1.2.2) d) ((([],([],(zf,0))):VY))) (QR (AQ b.2.1.2.2) d)) 0 t (QR i 0)))) λ_=>zo ((Db (E9 (E9 b.2.1.2.2 d (PA (QR (AQ b.2.1.2.2) d) ((([],([],(zf,0))):VY))) (QR (AQ b.2.1.2.2) d)) 0 t (QR i 0)) 0 (A0 0 (QR i 0)),0))) λ_=>zn) λ_=>zn
def Yb(x:qF):Option ((List VY)×Int):=
 bd (Wp x) λa=>br (TN a 0) (λ_=>zo ([],a)) λ_=>bd (Yc x) λb=>zo b
def Y5(x:qF):Option ((List VY)×Int):=
 bd (YE x) λa=>br (TN a 0) (λ_=>zo ([],a)) λ_=>bd (ZD x) λb=>zo (b,0)
def YS(x:(Int×Int)):Option (Int×Int):=
 br (Uv x.2 0) (λ_=>zo (0,7)) λ_=>bd (loop (λs0=>br (Uv s0.2.2 12) (λ_=>bd (X9 (x.1,s0.2.2)) λa=>br (TN a.2 0) (λ_=>zo (.dn ((0,((a.2,(0,s0.2.2)),()))))) λ_=>br (Uu x.2 a.1) (λ_=>zo (.dn ((0,((0,(s0.2.2,s0.2.2)),()))))) λ_=>zo (.nx ((s0.1,(s0.2.2,Tk .i64 s0.2.2 1))))) λ_=>zo (.dn ((1,(s0,()))))) ((0,(0,0)))) λb=>br (neq b.1 0) (λ_=>zo (b.2.1.2.1,b.2.1.1)) λ_=>zo (0,3)
def W3(x:VY):Option Bool:=
 zo x.2.2.1
def XR(x:qF):Option (Bool×Int):=
 bd (Wp x) λe=>br (TN e 0) (λ_=>zo (zf,e)) λ_=>br (Ut (LN (AQ x.1.2)) 0) (λ_=>zo (zf,0)) λ_=>br (Ut (LN (AQ x.2.2.1)) 0) (λ_=>zo (zf,0)) λ_=>bd (Xp x.2.1) λa=>br (TN a.2.2 0) (λ_=>br (PW a.2.2 0) (λ_=>zo (PW a.2.1 0,a.2.2)) λ_=>zo (zf,a.2.2)) λ_=>br (TN a.2.1 1) (λ_=>br (PW a.2.2 0) (λ_=>zo (PW a.2.1 0,a.2.2)) λ_=>zo (zf,a.2.2)) λ_=>bd (YS (x.2.1.1,a.1)) λd=>TS (Tp .i64 (LN (AQ x.2.1.2)) 1) λg=>ix x.2.1.2 g λj=>ix j 0 λf=>bd (loop (λb=>br (Uv b.2 (LN (AQ f.2))) (λ_=>TS b.2 λh=>ix f.2 h λk=>bd (W3 k) λi=>br i (λ_=>zo (.dn ((0,((b.2,b.2),()))))) λ_=>zo (.nx (b.1,Tk .i64 b.2 1))) λ_=>zo (.dn ((1,(b,()))))) (0,0)) λc=>br (neq c.1 0) (λ_=>br (PW d.2 0) (λ_=>br (PW d.1 (Tp .i64 (LN (AQ x.2.1.2)) 1)) (λ_=>zo ((IR (TM c.2.1.1 0),0))) λ_=>zo (zf,0)) λ_=>zo (zf,0)) λ_=>br (PW d.2 0) (λ_=>br (PW d.1 (Tp .i64 (LN (AQ x.2.1.2)) 1)) (λ_=>zo ((IR (TM (-1) 0),0))) λ_=>zo (zf,0)) λ_=>zo (zf,0)
def Yz(x:(Int×Int)):Option (Int×Int):=
 br (Uv x.1 1) (λ_=>zo (0,7)) λ_=>br (Ut x.1 16) (λ_=>zo (0,7)) λ_=>br (Uv x.2 0) (λ_=>zo (0,7)) λ_=>bd (loop (λs0=>br (Uv s0.2.2 12) (λ_=>bd (XQ (x.1,s0.2.2)) λb=>br (Uu x.2 b) (λ_=>zo (.dn ((0,((0,(s0.2.2,s0.2.2)),()))))) λ_=>zo (.nx ((s0.1,(s0.2.1,Tk .i64 s0.2.2 1))))) λ_=>zo (.dn ((1,(s0,()))))) ((0,(0,0)))) λa=>br (neq a.1 0) (λ_=>zo (a.2.1.2.1,a.2.1.1)) λ_=>zo (0,3)
def Xf(x:qF):Option (Bool×Int):=
 bd (YE x) λb=>br (TN b 0) (λ_=>zo (zf,b)) λ_=>br (Ut (LN (AQ x.1.2)) 0) (λ_=>zo (zf,0)) λ_=>br (Ut (LN (AQ x.2.2.1)) 0) (λ_=>zo (zf,0)) λ_=>bd (Yy x.2.1) λa=>br (PW a.2.1 0) (λ_=>zo (zt,0)) λ_=>bd (Yz (x.2.1.1,a.1)) λc=>br (PW a.2.1 1) (λ_=>br (PW c.2 0) (λ_=>br (PW c.1 (Tp .i64 (LN (AQ x.2.1.2)) 1)) (λ_=>bd (ZD x) λd=>zo ((PW (LN (AQ d)) a.1,0))) λ_=>zo (zf,0)) λ_=>zo (zf,0)) λ_=>zo (zf,0)
def Wa(x:qF):Option Bool:=
 bd (ab x) λe=>br e (λ_=>bd (Yq ()) λf=>zo f) λ_=>bd (Yb x) λa=>bd (Y5 x) λb=>bd (XR x) λc=>bd (Xf x) λd=>bd (YX (a.1,b.1)) λg=>br g (λ_=>br (PW a.2 b.2) (λ_=>br (beq c.1 d.1) (λ_=>br (PW c.2 d.2) (λ_=>bd (Yq ()) λh=>zo h) λ_=>zo zf) λ_=>zo zf) λ_=>zo zf) λ_=>zo zf
end
section
open Go Sv
abbrev Xk:=List UInt8
theorem bq(a:Xk):UB a []=zf:=by unfold UB;cases a<;>rfl
theorem fD(b:UInt8)(y:Xk):UB [] (b::y)=zt:=rfl
theorem Z5(a b:UInt8)(x y:Xk):UB (a::x) (b::y)=(decide (a<b)||(a == b&&UB x y)):=rfl
theorem Wu:∀ a:Xk,UB a a=zf
 |[]=>rfl
 |a::x=>by rw[Z5,Wu x];simp
theorem Wq:∀ {a b c:Xk},UB a b=zt->UB b c=zt->UB a c=zt
 |[],b,[],e,d=>by rw[bq]at d;cases d
 |[],b,c::z,_,_=>rfl
 |a::x,[],c,e,_=>by rw[bq]at e;cases e
 |a::x,b::y,[],_,d=>by rw[bq]at d;cases d
 |a::x,b::y,c::z,e,d=>by
  rw[Z5]at e d ⊢;simp only[xn,decide_eq_true_eq,nP,beq_iff_eq]at e d ⊢;rcases e with e|⟨rfl,e⟩
  ·rcases d with d|⟨rfl,d⟩
   ·exact .inl (UInt8.lt_trans e d)
   ·exact .inl e
  ·rcases d with d|⟨rfl,d⟩
   ·exact .inl d
   ·exact .inr ⟨rfl,Wq e d⟩
theorem aO:∀ a b:Xk,UB a b=zt\/a=b\/UB b a=zt
 |[],[]=>.inr (.inl rfl)
 |[],_::_=>.inl rfl
 |_::_,[]=>.inr (.inr rfl)
 |a::x,b::y=>by
  rw[Z5,Z5];simp only[xn,decide_eq_true_eq,nP,beq_iff_eq,List.cons.injEq];rcases UInt8.lt_or_lt_of_ne (a:=a) (b:=b) |> λh=>Classical.em (a=b) |>.imp id h with h|h|h
  ·subst h;rcases aO x y with h|h|h
   ·exact .inl (.inr ⟨rfl,h⟩)
   ·exact .inr (.inl ⟨rfl,h⟩)
   ·exact .inr (.inr (.inr ⟨rfl,h⟩))
  ·exact .inl (.inl h)
  ·exact .inr (.inr (.inl h))
theorem WR{a b:Xk}(h:UB a b=zt):UB b a=zf:=by
 cases c:UB b a with
 |false=>rfl
 |true=>have:=Wq h c;rw[Wu]at this;cases this
theorem Zs{a b:Xk}(h:UB a b=zt):a≠b:=λe=>by subst e;rw[Wu]at h;cases h
theorem aN{a b:Xk}(h:UB a b=zf)(c:a≠b):UB b a=zt:=by
 rcases aO a b with h1|h1|h1
 ·rw[h]at h1;cases h1
 ·exact absurd h1 c
 ·exact h1
theorem da{a b c:Xk}(h:UB b a=zf)(d:UB b c=zt):UB a c=zt:=by
 rcases aO a b with h1|h1|h1
 ·exact Wq h1 d
 ·subst h1;exact d
 ·rw[h]at h1;cases h1
theorem gY{a b c:Xk}(h:UB a b=zt)(d:UB c b=zf):UB a c=zt:=by
 rcases aO b c with h1|h1|h1
 ·exact Wq h h1
 ·subst h1;exact h
 ·rw[d]at h1;cases h1
theorem cm{a b:Xk}:seq a b=zt<->a=b:=by unfold seq;simp
theorem aJ(a b:Xk):seq a b=decide (a=b):=by
 cases h:seq a b with
 |true=>rw[cm]at h;simp[h]
 |false=>
  have:¬ a=b:=λe=>by rw[<- cm]at e;rw[h]at e;cases e
  simp[this]
section
variable{α β σ S:Type}
theorem Xb(a b:Xk)(x y:Unit->Option β):br (seq a b) x y=if a=b then x ()else y ():=KG cm x y
theorem Yi(a b:Xk)(x y:Unit->Option β):br (UB a b) x y=if UB a b=zt then x ()else y ():=KG Iff.rfl x y
theorem Wj(p:Prop)[Decidable p](x y:Unit->Option β):br (decide p) x y=if p then x ()else y ():=KG (by simp) x y
theorem VZ(k:Nat)(c:Nat->Option β):TS (k:Int) c=c k:=by rw[UW (by omega)];simp
theorem vt{l:List α}{k:Nat}{x:α}(h:l[k]?=zo x):Uv (k:Int) (LN (AQ l))=zt:=by
 have:=(a8.1 h).1;unfold Uv LN AQ;simp;omega
theorem rq(l:List α):Uv (l.length:Int) (LN (AQ l))=zf:=by unfold Uv LN AQ;simp
theorem Ve{k:Nat}(h:k+1<=9223372036854775807):Tk .i64 (k:Int) 1=((k+1:Nat):Int):=by
 rw[US (by omega)];omega
theorem Vi{l:List α}{k:Nat}{x:α}(h:l[k]?=zo x)(a:l.length<=9223372036854775807):Tk .i64 (k:Int) 1=((k+1:Nat):Int):=by
 have:=(a8.1 h).1;exact Ve (by omega)
def dJ(step:Nat->α->σ->Option (LR σ β))(fin:σ->Option β):List α->Nat->σ->Option β
 |[],_,s=>fin s
 |x::l,k,s=>match step k x s with
  |none=>zn
  |some (.nx s')=>dJ step fin l (k+1) s'
  |some (.dn b)=>zo b
def upS(mk:σ->S):Option (LR σ β)->Option (LR S β)
 |none=>zn
 |some (.nx s)=>zo (.nx (mk s))
 |some (.dn b)=>zo (.dn b)
def wx:Option β->Option (LR S β)
 |none=>zn
 |some b=>zo (.dn b)
theorem iA{l:List α}{mk:Nat->σ->S}{f:S->Option (LR S β)}{step:Nat->α->σ->Option (LR σ β)}{fin:σ->Option β}
  (hs:∀ k x a,l[k]?=zo x->f (mk k a)=upS (mk (k+1)) (step k x a)) (i:∀ a,f (mk l.length a)=wx (fin a)) :
  ∀ (d n k:Nat) (a:σ),l.length-k=d->k<=l.length->d<n->Iu n f (mk k a)=dJ step fin (l.drop k) k a:=by
 intro d
 induction d with
 |zero=>
  intro n k a e g h;have c:k=l.length:=by omega
  obtain⟨m,rfl⟩:∃ m,n=m+1:=⟨n-1,by omega⟩;subst c;unfold Iu;rw[i,List.drop_length];unfold wx dJ;cases fin a<;>rfl
 |succ d o=>
  intro n k a e g h;obtain⟨m,rfl⟩:∃ m,n=m+1:=⟨n-1,by omega⟩;have c:k<l.length:=by omega
  have j:l[k]?=zo l[k]:=by simp[c]
  unfold Iu;rw[hs k _ a j,List.drop_eq_getElem_cons c]
  show _=match step k l[k] a with
   |none=>zn
   |some (.nx s')=>dJ step fin (l.drop (k+1)) (k+1) s'
   |some (.dn b)=>zo b
  cases step k l[k] a with
  |none=>rfl
  |some r=>cases r with
   |nx s'=>exact o m (k+1) s' (by omega) (by omega) (by omega)
   |dn b=>rfl
theorem jz{l:List α}(mk:Nat->σ->S)(step:Nat->α->σ->Option (LR σ β))(fin:σ->Option β){f:S->Option (LR S β)}{s:S}(a:σ)(b:s=mk 0 a)(d:l.length<=9223372036854775807)
  (hs:∀ k x a,l[k]?=zo x->f (mk k a)=upS (mk (k+1)) (step k x a)) (c:∀ a,f (mk l.length a)=wx (fin a)) :
  loop f s=dJ step fin l 0 a:=by
 subst b;have:=iA hs c l.length 18446744073709551616 0 a (by omega) (by omega) (by omega);rw[sp]at this;exact this
theorem gC{f:α->Option (LR α β)}{x:β}:∀ {n m:Nat} {s:α},n<=m->Iu n f s=zo x->Iu m f s=zo x
 |0,_,_,_,h=>by cases h
 |n+1,0,_,hl,_=>by omega
 |n+1,m+1,s,hl,h=>by
  unfold Iu at h ⊢;split at h
  ·cases h
  ·rename_i s' e;exact gC (by omega) h
  ·exact h
theorem Wx{f:α->Option (LR α β)}{x:β}{n:Nat}{s:α}(a:n<=18446744073709551616)(h:Iu n f s=zo x):loop f s=zo x:=gC a h
theorem V7{f:α->Option (LR α β)}{n:Nat}{s s':α}(h:f s=zo (.nx s')):Iu (n+1) f s=Iu n f s':=by
 show(match f s with
  |none=>zn
  |some (.nx s)=>Iu n f s
  |some (.dn x)=>zo x)=_
 rw[h]
theorem WG{f:α->Option (LR α β)}{n:Nat}{s:α}{x:β}(h:f s=zo (.dn x)):Iu (n+1) f s=zo x:=by
 show(match f s with
  |none=>zn
  |some (.nx s)=>Iu n f s
  |some (.dn x)=>zo x)=_
 rw[h]
theorem bm{f:S -> Option (LR S β)}{r:β}(mk:Nat -> S)(n:Nat){s:S}(h0:s=mk 0)(hn:n < 18446744073709551616)(hs:∀ k,k < n -> f (mk k)=zo (.nx (mk (k + 1))))(he:f (mk n)=zo (.dn r)):loop f s=zo r:=by
  subst h0
  have:∀ d k,k + d=n -> Iu (d + 1) f (mk k)=zo r:=by
    intro d
    induction d with
    | zero => intro k hk; have : k = n := by omega
              subst this;exact WG he
    |succ d ih=>intro k hk;rw[V7 (hs k (by omega))];exact ih (k + 1) (by omega)
  exact Wx (n:=n + 1) (by omega) (this n 0 (by omega))
end
end
section
open Go Sv
def kE(x:VY):Int:=if x.1.length>32\/x.2.1.length>64 then 3 else if x.2.2.1=zt/\x.2.1≠[]then 6 else if x.2.2.2<1\/x.2.2.2>1000000000 then 7 else 0
def aR:Option Xk->Nat->List VY->Int×Int
 |_,_,[]=>(0,0)
 |p,k,x::l=>if kE x≠0 then((k:Int),kE x)else match p with
  |some q=>if UB q x.1=zt then aR (zo x.1) (k+1) l else((k:Int),6)
  |none=>aR (zo x.1) (k+1) l
def Xl(l:List VY):Int×Int:=if l.length>5000 then(-1,3)else aR zn 0 l
def Asc:Option Xk->List VY->Prop
 |_,[]=>True
 |p,x::l=>(∀ q,p=zo q->UB q x.1=zt)/\Asc (zo x.1) l
theorem cd:∀ {p k l},(aR p k l).2=0<->(∀ x∈l,kE x=0)/\Asc p l
 |p,k,[]=>by simp[aR,Asc]
 |p,k,x::l=>by
  unfold aR;by_cases h:kE x=0
  ·rw[zx (by simp[h])];cases p with
   |none=>
    simp only[cd (p:=some x.1) (l:=l),Asc,li,forall_eq_or_imp];constructor
    ·rintro⟨a,b⟩;exact⟨⟨h,a⟩,(λq c=>by cases c),b⟩
    ·rintro⟨⟨_,a⟩,_,b⟩;exact⟨a,b⟩
   |some q=>
    simp only;by_cases c:UB q x.1=zt
    ·rw[zy c];simp only[cd (p:=some x.1) (l:=l),Asc,li,forall_eq_or_imp];constructor
     ·rintro⟨a,b⟩;exact⟨⟨h,a⟩,(λe d=>by cases d;exact c),b⟩
     ·rintro⟨⟨_,a⟩,_,b⟩;exact⟨a,b⟩
    ·rw[zx c];constructor
     ·intro h;cases h
     ·rintro⟨_,b⟩;exact absurd (b.1 q rfl) c
  ·rw[zy h];constructor
   ·intro h';exact absurd h' h
   ·rintro⟨a,_⟩;exact absurd (a x (by simp)) h
theorem bx:∀ {p k l},(aR p k l).2=0->aR p k l=(0,0)
 |p,k,[],_=>rfl
 |p,k,x::l,h=>by
  unfold aR at h ⊢;by_cases a:kE x=0
  ·rw[zx (by simp[a])]at h ⊢;cases p with
   |none=>exact bx h
   |some q=>
    simp only at h ⊢;by_cases b:UB q x.1=zt
    ·rw[zy b]at h ⊢;exact bx h
    ·rw[zx b]at h;cases h
  ·rw[zy a]at h;exact absurd h a
structure VL (l:List VY):Prop where
 len:l.length<=5000
 ok:∀ x∈l,kE x=0
 asc:Asc zn l
theorem bz{l:List VY}:(Xl l).2=0<->VL l:=by
 unfold Xl;by_cases h:l.length>5000
 ·rw[zy h];constructor
  ·intro h;cases h
  ·intro h';have:=h'.len;omega
 ·rw[zx h];rw[cd];exact⟨λ⟨a,b⟩=>⟨by omega,a,b⟩,λh=>⟨h.ok,h.asc⟩⟩
theorem aV{l:List VY}(h:VL l):Xl l=(0,0):=by
 have a:=bz.2 h;unfold Xl at a ⊢;rw[zx (by have:=h.len;omega)]at a ⊢;exact bx a
theorem Asc.lt:∀ {p:Option Xk} {l:List VY},Asc p l -> ∀ {i:Nat} {x y:VY},l[i]?=zo x->l[i+1]?=zo y->UB x.1 y.1=zt
 |p,x::[],_,0,_,_,_,h2=>by simp at h2
 |p,a::b::l,h,0,x,y,h1,h2=>by
  simp at h1 h2;subst h1;subst h2;exact h.2.1 _ rfl
 |p,a::l,h,i+1,x,y,h1,h2=>by
  simp at h1 h2;exact Asc.lt h.2 h1 h2
theorem VL.lt{l:List VY}(h:VL l){i:Nat}{x y:VY}(a:l[i]?=zo x)(b:l[i+1]?=zo y):UB x.1 y.1=zt:=h.asc.lt a b
def kx(l:List VY)(i:Nat):Vj:=match l[i]? with
 |some x=>(x.1,zf)
 |none=>([],zt)
def w0(p q:Vj):Bool:=if p.2≠q.2 then q.2 else if p.1≠q.1 then UB p.1 q.1 else zt
def ZV(a b:List VY)(i j:Nat):Bool:=w0 (kx a i) (kx b j)
def pos(a b:List VY):Nat->Nat×Nat
 |0=>(0,0)
 |n+1=>if ZV a b (pos a b n).1 (pos a b n).2=zt then((pos a b n).1+1,(pos a b n).2)else((pos a b n).1,(pos a b n).2+1)
def cX(a b:List VY)(n:Nat):Option VY:=if ZV a b (pos a b n).1 (pos a b n).2=zt then a[(pos a b n).1]? else b[(pos a b n).2]?
structure Inv (a b:List VY) (i j:Nat):Prop where
 ia:i<=a.length
 jb:j<=b.length
 pa:∀ i',i=i'+1 -> ∀ x y,a[i']?=zo x->b[j]?=zo y->UB y.1 x.1=zf
 pb:∀ j',j=j'+1 -> ∀ x y,b[j']?=zo x->a[i]?=zo y->UB x.1 y.1=zt
theorem dE{a b:List VY}{i j:Nat}{x y:VY}(c:a[i]?=zo x)(d:b[j]?=zo y):ZV a b i j = !UB y.1 x.1:=by
 unfold ZV w0 kx;rw[c,d];simp only[ne_eq,not_true,if_false];by_cases h:x.1=y.1
 ·rw[zx (by simp[h]),h,Wu];rfl
 ·rw[zy h];cases hs:UB x.1 y.1 with
  |true=>rw[WR hs];rfl
  |false=>rw[aN hs h];rfl
theorem jM{a b:List VY}{i j:Nat}{x:VY}(c:a[i]?=zo x)(d:b[j]?=zn):ZV a b i j=zt:=by
 unfold ZV w0 kx;rw[c,d];rfl
theorem jN{a b:List VY}{i j:Nat}{y:VY}(c:a[i]?=zn)(d:b[j]?=zo y):ZV a b i j=zf:=by
 unfold ZV w0 kx;rw[c,d];rfl
theorem fu{a b:List VY}{i j:Nat}(c:a[i]?=zn)(d:b[j]?=zn):ZV a b i j=zt:=by
 unfold ZV w0 kx;rw[c,d];rfl
theorem Inv.zero(a b:List VY):Inv a b 0 0:=⟨by omega,by omega,λ_ h=>by omega,λ_ h=>by omega⟩
theorem Inv.stepA{a b:List VY}(va:VL a){i j:Nat}(h:Inv a b i j){x:VY}(c:a[i]?=zo x)(g:ZV a b i j=zt):Inv a b (i+1) j:=by
 have hi:=(a8.1 c).1;refine⟨by omega,h.jb,λl e k y d f=> ?_,λj' e k y d f=> ?_⟩
 ·have:l=i:=by omega
  subst this;rw[c]at d;cases d;rw[dE c f]at g;simpa using g
 ·exact Wq (h.pb j' e k x d c) (va.lt c f)
theorem Inv.stepB{a b:List VY}(n:VL b){i j:Nat}(h:Inv a b i j){y:VY}(c:b[j]?=zo y)(g:ZV a b i j=zf):Inv a b i (j+1):=by
 have p:=(a8.1 c).1;refine⟨h.ia,by omega,λm e k o d f=> ?_,λj' e k o d f=> ?_⟩
 ·have l:=h.pa m e k y d c;exact WR (da l (n.lt c f))
 ·have:j'=j:=by omega
  subst this;rw[c]at d;cases d;rw[dE f c]at g;simpa using g
theorem Xx{a b:List VY}(va:VL a)(f:VL b):∀ {n:Nat},n<=a.length+b.length->Inv a b (pos a b n).1 (pos a b n).2/\(pos a b n).1+(pos a b n).2=n
 |0,_=>⟨Inv.zero a b,rfl⟩
 |n+1,h=>by
  obtain⟨c,hs⟩:=Xx va f (n:=n) (by omega);rw[show pos a b (n+1)=if ZV a b (pos a b n).1 (pos a b n).2=zt then((pos a b n).1+1,(pos a b n).2)else((pos a b n).1,(pos a b n).2+1)from rfl]
  revert c hs;generalize (pos a b n).1=i;generalize (pos a b n).2=j;intro c hs;cases g:ZV a b i j with
  |true=>
   have hi:i<a.length:=by
    refine ml λh'=> ?_;have d:a[i]?=zn:=a9 h';have e:j<b.length:=by have:=c.ia;omega
    rw[jN d (by simp[e]:b[j]?=zo b[j])]at g;cases g
   have:=c.stepA va (by simp[hi]:a[i]?=zo a[i]) g;rw[zy rfl];exact⟨this,by omega⟩
  |false=>
   have k:j<b.length:=by
    refine ml λh'=> ?_;have d:b[j]?=zn:=a9 h';cases e:a[i]? with
    |none=>rw[fu e d]at g;cases g
    |some x=>rw[jM e d]at g;cases g
   have:=c.stepB f (by simp[k]:b[j]?=zo b[j]) g;rw[zx (by simp)];exact⟨this,by omega⟩
end
section
open Go Sv
def Tt(p q:Vj):XL:=([p,q],([0,if w0 p q=zt then 1 else 0],if w0 p q=zt then 0 else 1))
def bV(a b:List VY)(i j:Nat):Ww:=([a,b],([(i:Int),(j:Int)],Tt (kx a i) (kx b j)))
def sI(a b:List VY)(n:Nat):Xk:=match cX a b n with
 |some x=>x.1
 |none=>[]
def fresh(a b:List VY)(n:Nat)(x:VY):Bool:=decide (n=0)||decide (sI a b (n-1)≠x.1)
def rm(a b:List VY)(c:Bool):Nat->List VY
 |0=>[]
 |n+1=>match cX a b n with
  |some x=>if(fresh a b n x && !(c&&x.2.2.1))=zt then rm a b c n++[x]else rm a b c n
  |none=>rm a b c n
def shN(a b:List VY)(c:Bool)(n:Nat):WL:=(decide (n≠0),(if n=0 then[]else sI a b (n-1),c))
def Sst(a b:List VY)(c:Bool)(n:Nat):ZH:=(bV a b (pos a b n).1 (pos a b n).2,(shN a b c n,(rm a b c n,(n:Int))))
def Vo(a b:List VY):Nat->List VY
 |0=>[]
 |n+1=>match cX a b n with
  |some x=>Vo a b n++[x]
  |none=>Vo a b n
section
variable{a b:List VY}(va:VL a)(vb:VL b)
include va vb
theorem XH{n:Nat}(h:n<a.length+b.length):∃ x,cX a b n=zo x/\(x∈a\/x∈b):=by
 obtain⟨e,hs⟩:=Xx va vb (n:=n) (by omega);unfold cX;revert e hs;generalize (pos a b n).1=i;generalize (pos a b n).2=j;intro e hs;cases g:ZV a b i j with
 |true=>
  have hi:i<a.length:=by
   refine ml λh'=> ?_;have c:a[i]?=zn:=a9 h';have d:j<b.length:=by have:=e.ia;omega
   rw[jN c (by simp[d]:b[j]?=zo b[j])]at g;cases g
  exact⟨a[i],by simp[hi],.inl (rz hi)⟩
 |false=>
  have f:j<b.length:=by
   refine ml λh'=> ?_;have c:b[j]?=zn:=a9 h';cases d:a[i]? with
   |none=>rw[fu d c]at g;cases g
   |some x=>rw[jM d c]at g;cases g
  exact⟨b[j],by simp[f],.inr (rz f)⟩
theorem lq{n:Nat}{x:VY}(h:cX a b n=zo x):kE x=0:=by
 have:x∈a\/x∈b:=by
  unfold cX at h;split at h
  ·exact .inl (bl h)
  ·exact .inr (bl h)
 rcases this with h|h
 ·exact va.ok x h
 ·exact vb.ok x h
theorem jS{n:Nat}(k:n+1<a.length+b.length){x y:VY}(d:cX a b n=zo x)(c:cX a b (n+1)=zo y):UB y.1 x.1=zf:=by
 obtain⟨h,hs⟩:=Xx va vb (n:=n) (by omega);unfold cX at d c;rw[show pos a b (n+1)=if ZV a b (pos a b n).1 (pos a b n).2=zt then((pos a b n).1+1,(pos a b n).2)else((pos a b n).1,(pos a b n).2+1)from rfl]at c
 revert h hs d c;generalize (pos a b n).1=i;generalize (pos a b n).2=j;intro d c h hs;cases g:ZV a b i j with
 |true=>
  rw[zy g]at d;simp only[g,if_true]at c;have e:=h.stepA va d g;cases f:ZV a b (i+1) j with
  |true=>rw[zy f]at c;exact WR (va.lt d c)
  |false=>rw[zx (by simp[f])]at c;exact e.pa i rfl x y d c
 |false=>
  rw[zx (by simp[g])]at d;simp only[g,if_false,lc]at c;have e:=h.stepB vb d g;cases f:ZV a b i (j+1)with
  |true=>rw[zy f]at c;exact WR (e.pb j rfl x y d c)
  |false=>rw[zx (by simp[f])]at c;exact WR (vb.lt d c)
theorem Wg:∀ {n:Nat},n<=a.length+b.length->(Vo a b n).length=n
 |0,_=>rfl
 |n+1,h=>by
  obtain⟨x,c,_⟩:=XH va vb (n:=n) (by omega);unfold Vo;rw[c];simp[Wg (n:=n) (by omega)]
theorem Z0:∀ {n k:Nat},n<=a.length+b.length->k<n->(Vo a b n)[k]?=cX a b k
 |n+1,k,h,hk=>by
  obtain⟨x,d,_⟩:=XH va vb (n:=n) (by omega);unfold Vo;rw[d];show(Vo a b n++[x])[k]?=_;have e:=Wg va vb (n:=n) (by omega);by_cases c:k<n
  ·rw[List.getElem?_append_left (by omega)];exact Z0 (by omega) c
  ·have:k=n:=by omega
   subst this;rw[List.getElem?_append_right (by omega),e];simp[d]
theorem iC{n m:Nat}(d:m<=a.length+b.length)(h:n<=m):(Vo a b m).take n=Vo a b n:=by
 apply List.ext_getElem?;intro k;rw[List.getElem?_take];by_cases c:k<n
 ·rw[zy c,Z0 va vb d (by omega),Z0 va vb (by omega) c]
 ·rw[zx c,a9];rw[Wg va vb (by omega)];omega
end
end
section
open Go Sv
theorem Vd(n:Nat):LN n=(n:Int):=rfl
theorem Vc{α:Type}(l:List α):AQ l=l.length:=rfl
theorem aM(l:List UInt8):NZ l=l.length:=rfl
theorem eR:IR zt=zf:=rfl
theorem uq:IR zf=zt:=rfl
theorem WH{β:Type}(c:Bool)(x y:Unit->Option β):br (IR c) x y=br c y x:=Uj c x y
theorem Vz{β:Type}{a b:Nat}(h:a<=b)(k:Unit->Option β):gd (B5 a b) k=k ():=by rw[Uo,zy h]
theorem bF(k:Xk):XP k=zo (if k.length>32 then 3 else 0):=by
 unfold XP;rw[VC,Vd,aM]
 grind
theorem Wo(x:VY):WA x=zo (kE x):=by
 unfold WA kE;rw[bF,Ug,VF];by_cases b:x.1.length>32
 ·simp[b]
 rw[zx b,zy rfl,VC,Vd,aM];by_cases d:x.2.1.length>64
 ·grind
 rw[zx (by omega:¬ (x.2.1.length:Int)>64),zx (by omega),VM];by_cases a:x.2.2.1=zt
 ·rw[zy a,WH,Xb];by_cases c:x.2.1=[]
  ·rw[zy c,zx (by simp[c]),VE,VC]
   grind
  simp_all
 ·rw[zx a,zx (by simp[a]),VE,VC]
  grind
theorem Xm(l:List VY)(j:l.length<=9223372036854775807):V2 l=zo (Xl l):=by
 unfold V2 Xl;rw[VC,Vd,Vc];by_cases h:l.length>5000
 ·grind
 rw[zx (by omega),zx h]
 have key:=jz (β:=Nat×(Int×Int×Int)×Unit) (l:=l) (λk (_:Int)=>((0:Int),((0:Int),(k:Int))))
  (λk x _=>if kE x≠0 then zo (.dn (0,((kE x,((k:Int),(k:Int))),())))else if k>0 then
    (match l[k-1]? with
    |some y=>if UB y.1 x.1=zt then zo (.nx 0)else zo (.dn (0,(((6:Int),((k:Int),(k:Int))),())))
    |none=>zn)else zo (.nx 0))
  (λ_=>zo (1,((0,(0,(l.length:Int))),()))) (s:=(0,(0,0))) (0:Int) rfl j (f:=(λs0=>br (Uv s0.2.2 (LN (AQ l))) (λ_=>TS s0.2.2 λz=>ix l z λt=>bd (WA t) λr=>br (TN r 0) (λ_=>zo (.dn ((0,((r,(s0.2.2,s0.2.2)),()))))) λ_=>br (Ut s0.2.2 0) (λ_=>TS (Tp .i64 s0.2.2 1) λA=>ix l A λB=>br (IR (UB B.1 t.1)) (λ_=>zo (.dn ((0,((6,(s0.2.2,s0.2.2)),()))))) λ_=>zo (.nx ((s0.1,(s0.2.1,Tk .i64 s0.2.2 1))))) λ_=>zo (.nx ((s0.1,(s0.2.1,Tk .i64 s0.2.2 1))))) λ_=>zo (.dn ((1,(s0,()))))))
  (λk x e b=>by
   simp only;rw[vt b,UN,VZ,U0 b,Wo,Ug,VF];by_cases c:kE x=0
   ·have u:k<l.length:=(a8.1 b).1;simp only[c,if_true,ne_eq,not_true,if_false];rw[VC];by_cases g:k>0
    ·rw[zy (by omega:(k:Int)>0),zy g,UU (by omega),show((k:Int)-1)=((k-1:Nat):Int) by omega,VZ];have d:l[k-1]?=zo l[k-1]:=by simp_all
     rw[U0 d,d,WH,Yi];simp only;by_cases a:UB l[k-1].1 x.1=zt
     ·rw[zy a,zy a,Vi b j];rfl
     ·rw[zx a,zx a];rfl
    ·rw[zx (by omega:¬ (k:Int)>0),zx g,Vi b j];rfl
   ·simp only[c,if_false,ne_eq,not_false_iff,if_true];rfl)
  (λe=>by
   simp only
   rw[rq,Ta];rfl)
 simp only[Vd,Vc]at key;rw[key]
 have q : ∀ (m:List VY) (k:Nat) (p:Option Xk),l.drop k=m->(p=if k=0 then zn else (l[k-1]?).map (·.1)) -> ∀ e,bd (dJ (β:=Nat×(Int×Int×Int)×Unit) (λk x (_:Int)=>if kE x≠0 then zo (.dn (0,((kE x,((k:Int),(k:Int))),()))) else if k>0 then
    (match l[k-1]? with
    |some y=>if UB y.1 x.1=zt then zo (.nx 0)else zo (.dn (0,(((6:Int),((k:Int),(k:Int))),())))
    |none=>zn)else zo (.nx (0:Int))) (λ_=>zo (1,((0,(0,(l.length:Int))),()))) m k e) (λn=>br (neq n.1 0) (λ_=>zo (n.2.1.2.1,n.2.1.1)) λ_=>zo ((0:Int),(0:Int)))=zo (aR p k m):=by
  intro m
  induction m with
  |nil=>intro k p _ _ e;rfl
  |cons x m D=>
   intro k p C o e
   have b:l[k]?=zo x:=by
    grind [ol]
   have u:k<l.length:=(a8.1 b).1
   have w:l.drop (k+1)=m:=by
    grind [mR]
   unfold dJ aR;by_cases c:kE x=0
   ·simp only[c,ne_eq,not_true,if_false];by_cases g:k>0
    ·have d:l[k-1]?=zo l[k-1]:=by grind
     rw[zy g,d];rw[zx (by omega:¬ k=0),d]at o;subst o;simp only[Option.map_some];by_cases a:UB l[k-1].1 x.1=zt
     ·grind
     ·rw[zx a,zx a];rfl
    ·have i:k=0:=by omega
     subst i
     grind
   ·simp only[c,ne_eq,not_false_iff,if_true];rfl
 grind
theorem bn{α β σ S:Type}{l:List α}(mk:Nat->σ->S)(F:List α->Nat->σ->Option β){f:S->Option (LR S β)}{s:S}(a:σ)(o:s=mk 0 a)(u:l.length<=9223372036854775807)
  (r:∀ a,f (mk l.length a)=wx (F [] l.length a))
  (hc:∀ k x m a,l.drop k=x::m->l[k]?=zo x->k<l.length->(∃ b,f (mk k a)=zo (.nx (mk (k+1) b))/\F (x::m) k a=F m (k+1) b)\/f (mk k a)=wx (F (x::m) k a)):loop f s=F l 0 a:=by
 subst o
 have c:∀ (m:List α) (k n:Nat) (a:σ),l.drop k=m->k<=l.length->m.length<n->Iu n f (mk k a)=F m k a:=by
  intro m
  induction m with
  |nil=>
   intro k n a h p g;obtain⟨n,rfl⟩:∃ j,n=j+1:=⟨n-1,by omega⟩
   have e:k=l.length:=by
    grind
   subst e;unfold Iu;rw[r];cases F [] l.length a<;>rfl
  |cons x m w=>
   intro k n a h p g;obtain⟨n,rfl⟩:∃ j,n=j+1:=⟨n-1,by omega⟩
   have i:l[k]?=zo x:=by
    grind [ol]
   have d:k<l.length:=(a8.1 i).1
   have q:l.drop (k+1)=m:=by
    grind [mR]
   rcases hc k x m a h i d with⟨b,h1,t⟩|h1
   ·grind [V7]
   ·unfold Iu;rw[h1];cases F (x::m) k a<;>rfl
 exact c l 0 _ a (by simp) (by omega) (by omega)
theorem rl{α:Type}{l:List α}{k:Nat}(h:k<l.length):Uv (k:Int) (l.length:Int)=zt:=by unfold Uv;simp;omega
theorem re{α:Type}(l:List α):Uv (l.length:Int) (l.length:Int)=zf:=by unfold Uv;simp
theorem Vx{α β:Type}{m:Option α}{x:α}{k:α->Option β}{r:Option β}(h:m=zo x)(e:k x=r):bd m k=r:=by subst h;exact e
theorem cE(k:Vj):XT k=zo (k.2&&decide (k.1≠[])):=by
 unfold XT;rw[VM];cases h:k.2 with
 |true=>rw[zy rfl,aJ];simp[IR]
 |false=>rfl
def Xh(k:Vj):Prop:=k.2=zt->k.1=[]
theorem rT{k:Vj}(h:Xh k):XT k=zo zf:=by
 rw[cE];cases a:k.2 with
 |true=>simp[h a]
 |false=>rfl
theorem WC(l:List VY)(i:Nat):Xh (kx l i):=by
 unfold kx Xh
 grind
theorem Yl{l:List Vj}(h:∀ k∈l,Xh k)(d:l≠[])(e:l.length<=32):XV l=zo 0:=by
 unfold XV;simp only[Vd,Vc];rw[VA,VC,zx (by simp_all),zx (by omega)]
 rw[bn (l:=l) (σ:=Unit) (s:=(0,0)) (λk _=>((0:Int),(k:Int))) (λ_ _ _=>zo (1,((0,(l.length:Int)),()))) () rfl (by omega) (λc=>by
  simp only;rw[re];rfl) (λk x m c _ a b=>.inl ⟨(),by
   simp only;rw[rl b,UN,VZ,U0 a,rT (h x (bl a)),Ug,Ta,Vi a (by omega)],rfl⟩),Ug]
 rfl
theorem aW{α:Type}{l:List α}(h:l.length<=1048576):(gd (B5 (AQ l) 1048576) λ_=>zo l)=zo l:=Vz h _
theorem gI(p q:Vj):YU [p,q]=zo (Tt p q):=by
 have o:w0 p q=(if p.2≠q.2 then q.2 else if p.1≠q.1 then UB p.1 q.1 else zt):=rfl
 unfold YU;simp only[Vd,Vc,dc,eb];rw[show Tl .i64 2 ((0+1+1:Nat):Int)=4 from rfl,show Tp .i64 4 1=3 from rfl];unfold Vm;rw[show TS 4=λk=>k 4 from rfl];simp only[Vz (show 4<=1048576 by omega),aW (show[p,q].length<=1048576 by simp),Ug];rw[show TS ((0+1+1:Nat):Int)=λk=>k 2 from rfl];simp only[Vz (show 2<=1048576 by omega)];have fin:∀ {w l:Int} {x:Nat×((Int×(List Int×(List Vj×(List Int×Int))))×Unit)},x=(0,((0,([0,w,0,1],([p,q],([0,l],0)))),()))->(gd (JJ 1 (AQ x.2.1.2.1)) λ_=>ix x.2.1.2.1 1 λb=>zo ((x.2.1.2.2.1,(x.2.1.2.2.2.1,b))))=zo ([p,q],([0,l],w)):=λe=>by subst e;rfl
 have m:∀ {f:(Int×(List Int×(List Vj×(List Int×Int))))->Option (LR (Int×(List Int×(List Vj×(List Int×Int)))) (Nat×((Int×(List Int×(List Vj×(List Int×Int))))×Unit)))} {w l:Int},f (3,([0,0,0,0],([p,q],([0,0],0))))=zo (.nx (2,([0,0,0,1],([p,q],([0,0],0)))))->f (2,([0,0,0,1],([p,q],([0,0],0))))=zo (.nx (1,([0,0,0,1],([p,q],([0,0],0))))) ->
   f (1,([0,0,0,1],([p,q],([0,0],0))))=zo (.nx (0,([0,w,0,1],([p,q],([0,l],0)))))->f (0,([0,w,0,1],([p,q],([0,l],0))))=zo (.dn (0,((0,([0,w,0,1],([p,q],([0,l],0)))),()))) ->
   loop f (3,([0,0,0,0],([p,q],([0,0],0))))=zo (0,((0,([0,w,0,1],([p,q],([0,l],0)))),())):=λc d g i=>
  Wx (n:=4) (by omega) ((V7 c).trans ((V7 d).trans ((V7 g).trans (WG i))))
 have j:∀ {β:Type} (A B:Option β),w0 p q=zt->br (IR (beq p.2 q.2)) (λ_=>br (IR q.2) (λ_=>B) λ_=>A) (λ_=>br (IR (seq p.1 q.1)) (λ_=>br (IR (UB p.1 q.1)) (λ_=>B) λ_=>A) λ_=>A)=A:=fun {β} A B h=>by
  grind [WH,beq,VM,seq,Xb]
 have a:∀ {β:Type} (A B:Option β),w0 p q≠zt->br (IR (beq p.2 q.2)) (λ_=>br (IR q.2) (λ_=>B) λ_=>A) (λ_=>br (IR (seq p.1 q.1)) (λ_=>br (IR (UB p.1 q.1)) (λ_=>B) λ_=>A) λ_=>A)=B:=fun {β} A B h=>by
  grind [WH,beq,VM,seq,Xb]
 rw[show PA 4 (0:Int)=[0,0,0,0]from rfl,show PA 2 (0:Int)=[0,0]from rfl];by_cases h:w0 p q=zt
 ·refine Vx (x:=(0,((0,([0,0,0,1],([p,q],([0,1],0)))),()))) ?_ ?_;refine Wx (n:=4) (by omega) ?_;refine(V7 (s':=(2,([0,0,0,1],([p,q],([0,0],0))))) ?_).trans ((V7 (s':=(1,([0,0,0,1],([p,q],([0,0],0))))) ?_).trans ((V7 (s':=(0,([0,0,0,1],([p,q],([0,1],0))))) ?_).trans (WG ?_)))
  ·rfl
  ·rfl
  ·exact j _ _ h
  ·rfl
  ·show zo ([p,q],([0,1],0))=_;unfold Tt;simp[h]
 ·refine Vx (x:=(0,((0,([0,1,0,1],([p,q],([0,0],0)))),()))) ?_ ?_;refine Wx (n:=4) (by omega) ?_;refine(V7 (s':=(2,([0,0,0,1],([p,q],([0,0],0))))) ?_).trans ((V7 (s':=(1,([0,0,0,1],([p,q],([0,0],0))))) ?_).trans ((V7 (s':=(0,([0,1,0,1],([p,q],([0,0],0))))) ?_).trans (WG ?_)))
  ·rfl
  ·rfl
  ·exact a _ _ h
  ·rfl
  ·show zo ([p,q],([0,0],1))=_;unfold Tt;simp[h]
theorem bw{p q:Vj}(a:Xh p)(b:Xh q):Wn [p,q]=zo (Tt p q,0):=by
 unfold Wn;rw[Yl (by grind) (by simp) (by simp),Ug,VF,zy rfl,gI,Ug]
theorem hG{p q:Vj}(d:Xh p)(e:Xh q):Yr (Tt p q)=zo (0,0):=by
 unfold Yr;rw[show(Tt p q).1=[p,q]from rfl,Yl (by grind) (by simp) (by simp),Ug,VF,zy rfl,VF,zy (show LN (AQ (Tt p q).2.1)=LN (AQ [p,q])from rfl),gI,Ug];simp only[Vd,Vc]
 rw[bn (l:=(Tt p q).2.1) (σ:=Unit) (s:=(0,(0,0))) (λk _=>((0:Int),((k:Int),(0:Int)))) (λ_ _ _=>zo (1,((0,(((Tt p q).2.1.length:Int),0)),()))) () rfl (show 2<=9223372036854775807 by omega) (λc=>by
  rfl) (λk x m c _ a b=>.inl ⟨(),by
   simp only;rw[rl b,UN,VZ,U0 a,VZ,U0 a,VF,zy rfl,Vi a (show 2<=9223372036854775807 by omega)],rfl⟩),Ug]
 rw[show neq 1 0=zf from rfl,Ta,VF,zy rfl]
def wn(p q:Vj):Nat:=if w0 p q=zt then 0 else 1
def wk(p q:Vj):Vj:=if w0 p q=zt then p else q
theorem gm(p q:Vj):(Tt p q).2.2=(wn p q:Int):=by unfold Tt wn;grind
theorem gj(p q:Vj):(Tt p q).1[wn p q]?=zo (wk p q):=by unfold Tt wn wk;grind
theorem gG{p q:Vj}(a:Xh p)(b:Xh q):YT (Tt p q)=zo (if(wk p q).2=zt then 12 else 0):=by
 unfold YT;rw[hG a b,Ug,VF,zy rfl,gm,VZ,U0 (gj p q),VM]
 grind
theorem Zc{p q:Vj}(a:Xh p)(b:Xh q):Ws (Tt p q)=zo (if(wk p q).2=zt then(0,([],12))else((wn p q:Int),((wk p q).1,0))):=by
 unfold Ws;rw[gG a b,Ug,VF,gm,VZ,U0 (gj p q)]
 grind
def rk(p q k:Vj):Vj×Vj:=if w0 p q=zt then(k,q)else(p,k)
theorem lU(p q:Vj):WB (0,(1,([p,q],())))=zo (w0 p q):=by
 unfold WB w0;show br (IR (beq p.2 q.2)) (λ_=>zo q.2) (λ_=>br (IR (seq p.1 q.1)) (λ_=>zo (UB p.1 q.1)) λ_=>zo (Uv 0 1))=_;rw[WH (beq p.2 q.2),VM (beq p.2 q.2),WH (seq p.1 q.1),Xb];by_cases a:p.2=q.2
 ·rw[zy (show Sv.beq p.2 q.2=zt by simp[Sv.beq,a]),zx (show ¬ p.2≠q.2 by simp[a])];by_cases b:p.1=q.1
  ·rw[zy b,zx (show ¬ p.1≠q.1 by simp[b])];rfl
  simp_all
 simp_all[zx,Sv.beq]
theorem lV(p q:Vj):WB (1,(0,([p,q],())))=zo (!w0 p q):=by
 unfold WB w0;show br (IR (beq q.2 p.2)) (λ_=>zo p.2) (λ_=>br (IR (seq q.1 p.1)) (λ_=>zo (UB q.1 p.1)) λ_=>zo (Uv 1 0))=_;rw[WH (beq q.2 p.2),VM (beq q.2 p.2),WH (seq q.1 p.1),Xb];by_cases b:p.2=q.2
 ·rw[zy (show Sv.beq q.2 p.2=zt by simp[Sv.beq,b]),zx (show ¬ p.2≠q.2 by simp[b])];by_cases a:p.1=q.1
  ·rw[zy a.symm,zx (show ¬ p.1≠q.1 by simp[a])];rfl
  ·rw[zx (show ¬ q.1=p.1 from λe=>a e.symm),zy a];cases hs:UB p.1 q.1 with
   |true=>rw[WR hs];rfl
   |false=>rw[aN hs a];rfl
 ·rw[zx (show ¬ Sv.beq q.2 p.2=zt by simp[Sv.beq,Ne.symm b]),zy b];cases c:p.2<;>cases d:q.2<;>simp_all
theorem Zj{p q k:Vj}(y:Xh p)(z:Xh q)(w:Xh k)(A:(wk p q).2=zf)(x:k.2=zt\/UB k.1 (wk p q).1=zf) :
  ∃ n,Wh (Tt p q,k)=zo (Tt (rk p q k).1 (rk p q k).2,(n,0)):=by
 have g:(Tt p q).1.length<=1048576:=by show 2<=_;omega
 have b:(Tt p q).2.1.length<=1048576:=by show 2<=_;omega
 have i:lset (Tt p q).1 (wn p q) k=[(rk p q k).1,(rk p q k).2]:=by unfold Tt wn rk;split<;>rfl
 have c:(Tt p q).2.1=[0,(1-(wn p q:Int))]:=by unfold Tt wn;grind
 have m:wn p q=0\/wn p q=1:=by unfold wn;grind
 have up:∀ {f:(Int×(Int×(Unit×(List Int×Int))))->Option (LR (Int×(Int×(Unit×(List Int×Int)))) (Nat×((Int×(Int×(Unit×(List Int×Int))))×Unit)))},
   (f=λa=>br (PW (Ux .i64 a.2.1 2) 0) (λ_=>zo (.dn ((0,((a.1,(Ux .i64 a.2.1 2,((),a.2.2.2))),()))))) λ_=>TS (Ux .i64 a.2.1 2) λt=>gd (JJ t (AQ a.2.2.2.1)) λ_=>ix a.2.2.2.1 t λr=>bd (WB ((r,(a.2.2.2.2,([(rk p q k).1,(rk p q k).2],()))))) λo=>br o (λ_=>TS (Ux .i64 a.2.1 2) λj=>gd (JJ j (AQ a.2.2.2.1)) λ_=>ix a.2.2.2.1 j λs=>TS (Ux .i64 a.2.1 2) λd=>gd (JJ d (AQ a.2.2.2.1)) λ_=>ix a.2.2.2.1 d λD=>zo (.nx ((Tk .i64 a.1 1,(Ux .i64 a.2.1 2,((),(lset a.2.2.2.1 d a.2.2.2.2,s))))))) λ_=>zo (.nx ((Tk .i64 a.1 1,(Ux .i64 a.2.1 2,((),a.2.2.2))))))
   -> loop f (0,((2:Int)+wn p q,((),([0,(1-(wn p q:Int))],(wn p q:Int)))))=zo (0,((1,(0,((),(Tt (rk p q k).1 (rk p q k).2).2))),())):=by
  intro f u;subst u;refine Wx (n:=2) (by omega) ((V7 (s':=(1,(1,((),(Tt (rk p q k).1 (rk p q k).2).2)))) ?_).trans (WG rfl));rcases m with h|h
  ·rw[h]
   have B:w0 p q=zt:=by
    simp_all[wn,zx]
   show bd (WB (1,(0,([(rk p q k).1,(rk p q k).2],())))) _=_;rw[lV,Ug];unfold Tt;cases C:w0 (rk p q k).1 (rk p q k).2<;>rfl
  ·rw[h];show bd (WB (0,(1,([(rk p q k).1,(rk p q k).2],())))) _=_;rw[lU,Ug];unfold Tt;cases C:w0 (rk p q k).1 (rk p q k).2<;>rfl
 unfold Wh;simp only[gG y z,A,Ug,VF,if_true,if_false,lc];rw[Yl (by simp[w]) (by simp) (by simp),Ug];simp only[if_true,WH];rw[VM];unfold Vm Vq;simp only[gm,VZ,U0 (gj p q),Vz g,Vz b,Ug,Yi,Uq,Vc,Vd,i];have l:wn p q<(Tt p q).1.length:=by show wn p q<2;omega
 have hi:Tk .i64 (([(rk p q k).1,(rk p q k).2].length:Nat):Int) (wn p q:Int)=(2:Int)+wn p q:=by
  rw[US (by simp;omega)];rfl
 rw[hi,c];simp only[Vc,Uq]at up;have key:=up rfl;rw[zy l];by_cases e:k.2=zt
 ·rw[zy e,key,Ug];exact⟨_,rfl⟩
 ·rw[zx e,zx (by simp_all),key,Ug];exact⟨_,rfl⟩
end
section
open Go Sv
theorem WU{S β:Type}{f:S->Option (LR S β)}{s0 s1 s2:S}{r:β}(a:f s0=zo (.nx s1))(b:f s1=zo (.nx s2))(c:f s2=zo (.dn r)):loop f s0=zo r:=
 Wx (n:=3) (by omega) ((V7 a).trans ((V7 b).trans (WG c)))
theorem bG{α β:Type}{c:Bool}{n:Int}{l:List α}{K:Nat->α->Option β}{E:Unit->Option β}(k:Nat){x:α}(hc:c=zt)(d:n=(k:Int))(e:l[k]?=zo x):br c (λ_=>TS n λa=>ix l a λb=>K a b) E=K k x:=by
 simp_all[UN,VZ,U0]
theorem Xv{α β:Type}{n:Int}{l:List α}{K:Nat->α->Option β}(k:Nat){x:α}(b:n=(k:Int))(c:l[k]?=zo x):TS n (λa=>ix l a λd=>K a d)=K k x:=by
 subst b;rw[VZ,U0 c]
theorem Y6{l:List VY}{i:Nat}(h:i<=l.length):V3 (l,(i:Int))=zo (kx l i):=by
 unfold V3 kx;simp only[Vd,Vc];rw[VA];by_cases hi:i=l.length
 ·simp_all
 ·have a:l[i]?=zo l[i]:=by simp_all
  rw[zx (by omega),VZ,U0 a,a]
section
variable{a b:List VY}(va:VL a)(vb:VL b)
theorem qt{i j:Nat}(hi:i<=a.length)(c:j<=b.length):YV ([a,b],[(i:Int),(j:Int)])=zo (Tt (kx a i) (kx b j)):=by
 unfold YV;refine Vx (x:=(0,((2,[kx a i,kx b j]),()))) (WU (s1:=(1,[kx a i,([],zf)])) (s2:=(2,[kx a i,kx b j])) ?_ ?_ rfl) ?_
 ·show bd (V3 (a,(i:Int))) _=_;rw[Y6 hi];rfl
 ·show bd (V3 (b,(j:Int))) _=_;rw[Y6 c];rfl
 ·show bd (Wn [kx a i,kx b j]) _=_;rw[bw (WC _ _) (WC _ _)];rfl
include va vb
theorem bY:V2 a=zo (0,0):=by
 rw[Xm _ (by have:=va.len;omega),aV va]
theorem bO:XX [a,b]=zo (0,0):=by
 unfold XX;refine Vx (x:=(1,((0,(0,2)),()))) (WU (s1:=(0,(0,1))) (s2:=(0,(0,2))) ?_ ?_ rfl) rfl
 ·show bd (V2 a) _=_;rw[bY va va];rfl
 ·show bd (V2 b) _=_;rw[bY vb vb];rfl
theorem ji(c:Bool):Yd ([a,b],c)=zo (Sst a b c 0,(0,0)):=by
 unfold Yd;rw[bO va vb,Ug,VF,zy rfl];refine Vx (x:=(0,((2,[kx a 0,kx b 0]),()))) (WU (s1:=(1,[kx a 0,([],zf)])) (s2:=(2,[kx a 0,kx b 0])) ?_ ?_ rfl) ?_
 ·show bd (V3 (a,((0:Nat):Int))) _=_;rw[Y6 (by omega)];rfl
 ·show bd (V3 (b,((0:Nat):Int))) _=_;rw[Y6 (by omega)];rfl
 ·show bd (Wn [kx a 0,kx b 0]) _=_;rw[bw (WC _ _) (WC _ _)];rfl
end
theorem ZI(x:Bool):Sv.beq x x=zt:=by cases x<;>rfl
theorem aK(x:Xk):seq x x=zt:=by rw[cm]
theorem gu(l:List Vj)(h:l.length<=1000):Vs (l,l)=zo zt:=by
 unfold Vs;simp only[Vd,Vc]
 rw[VF,zy rfl,bn (l:=l) (σ:=Unit) (s:=(0,zf)) (λk _=>((k:Int),zf)) (λ_ _ _=>zo (1,(((l.length:Int),zf),()))) () rfl (by omega) (λc=>by
  simp only;rw[re];rfl) (λk x m c _ a b=>.inl ⟨(),by
   simp only;rw[rl b,UN,VZ,U0 a,VZ,U0 a,aK,ZI,show IR (Of zt (Of zt zt))=zf from rfl,Ta,Vi a (by omega)],rfl⟩),Ug]
 rfl
theorem gr(l:List Int)(h:l.length<=1000):Vn (l,l)=zo zt:=by
 unfold Vn;simp only[Vd,Vc]
 rw[VF,zy rfl,bn (l:=l) (σ:=Unit) (s:=(0,zf)) (λk _=>((k:Int),zf)) (λ_ _ _=>zo (1,(((l.length:Int),zf),()))) () rfl (by omega) (λc=>by
  simp only;rw[re];rfl) (λk x m c _ a b=>.inl ⟨(),by
   simp only;rw[rl b,UN,VZ,U0 a,VZ,U0 a,VF,zy rfl,Vi a (by omega)],rfl⟩),Ug]
 rfl
theorem jg(t:XL)(a:t.1.length<=1000)(b:t.2.1.length<=1000):YB (t,t)=zo zt:=by
 unfold YB;rw[VA,zy rfl,gu _ a,Ug,UN,gr _ b];rfl
theorem jh(p q:Vj):YB (Tt p q,Tt p q)=zo zt:=jg _ (show 2<=1000 by omega) (show 2<=1000 by omega)
theorem qz{a b:List VY}{i j:Nat}(h:ZV a b i j=zt):wk (kx a i) (kx b j)=kx a i/\wn (kx a i) (kx b j)=0:=by
 unfold ZV at h;unfold wk wn;rw[zy h,zy h];exact⟨rfl,rfl⟩
theorem q9{a b:List VY}{i j:Nat}(h:ZV a b i j=zf):wk (kx a i) (kx b j)=kx b j/\wn (kx a i) (kx b j)=1:=by
 unfold ZV at h;unfold wk wn;rw[zx (by simp[h]),zx (by simp[h])];exact⟨rfl,rfl⟩
theorem jI(x y:Xk):W0 (x,y)=zo (if UB x y=zt then -1 else if UB y x=zt then 1 else 0):=by
 unfold W0 XM
 grind [aK,eR,Ug,Ta,Yi]
theorem jH(x y:Int):Wf (x,y)=zo (if x<y then -1 else if x>y then 1 else 0):=by
 unfold Wf YF;simp only[Ug,VF,if_true,VE,VC]
 grind
theorem ly(x y:Int):Wk [x,y]=zo (if x≠0 then x else y):=by
 unfold Wk;by_cases h:x=0
 ·rw[zx (by simp[h])];by_cases a:y=0
  ·refine Vx (x:=(1,((0,2),()))) (WU (s1:=(0,1)) (s2:=(0,2)) ?_ ?_ rfl) (by rw[a];rfl)
   ·refine(bG 0 rfl rfl rfl).trans ?_;rw[VF,zy h];rfl
   ·refine(bG 1 rfl rfl rfl).trans ?_;rw[VF,zy a];rfl
  ·refine Vx (x:=(0,((y,1),()))) (Wx (n:=2) (by omega) ((V7 (s':=(0,1)) ?_).trans (WG ?_))) rfl
   ·refine(bG 0 rfl rfl rfl).trans ?_;rw[VF,zy h];rfl
   ·refine(bG 1 rfl rfl rfl).trans ?_;rw[VF,zx a]
 ·rw[zy h];refine Vx (x:=(0,((x,0),()))) (Wx (n:=1) (by omega) (WG ?_)) rfl;refine(bG 0 rfl rfl rfl).trans ?_;rw[VF,zx h]
section
variable{a b:List VY}(va:VL a)(vb:VL b)
include va vb
theorem ax{i j:Nat}(I:Inv a b i j):XW (bV a b i j)=zo (0,0):=by
 unfold XW;rw[show(bV a b i j).1=[a,b]from rfl,bO va vb,Ug,VF,zy rfl];rw[show(bV a b i j).2.1=[(i:Int),(j:Int)]from rfl,VF,zy (show LN (AQ [(i:Int),(j:Int)])=LN (AQ [a,b])from rfl)];refine Vx (x:=(1,((0,(0,2)),()))) (WU (s1:=(0,(0,1))) (s2:=(0,(0,2))) ?_ ?_ rfl) ?_
 ·refine(bG 0 rfl rfl rfl).trans ?_;rw[VE,zx (by omega),show TS (((0:Int),((0:Int),(0:Int))).2.2)=λ(k:Nat->Option (LR (Int×(Int×Int)) (Nat×((Int×(Int×Int))×Unit))))=>k 0 from rfl];simp only;rw[U0 (x:=a) rfl,VC,zx (by have:=I.ia;simp only[Vd,Vc];omega)];rfl
 ·refine(bG 1 rfl rfl rfl).trans ?_;rw[VE,zx (by omega),show TS (((0:Int),((0:Int),(1:Int))).2.2)=λ(k:Nat->Option (LR (Int×(Int×Int)) (Nat×((Int×(Int×Int))×Unit))))=>k 1 from rfl];simp only;rw[U0 (x:=b) rfl,VC,zx (by have:=I.jb;simp only[Vd,Vc];omega)];rfl
 rw[show neq ((1:Nat),(((0:Int),((0:Int),(2:Int))),())).1 0=zf from rfl,Ta,qt I.ia I.jb,Ug,show(bV a b i j).2.2=Tt (kx a i) (kx b j)from rfl,jh,Ug,show IR zt=zf from rfl,Ta,Zc (WC _ _) (WC _ _),Ug];by_cases hd:(wk (kx a i) (kx b j)).2=zt
 ·rw[zy hd];rfl
 rw[zx hd,VF,zy rfl]
 have r:∀ {x:VY} {c:Nat},i=c+1->a[c]?=zo x -> ¬ (if(if UB x.1 (wk (kx a i) (kx b j)).1=zt then(-1:Int)else if UB (wk (kx a i) (kx b j)).1 x.1=zt then 1 else 0)≠0 then(if UB x.1 (wk (kx a i) (kx b j)).1=zt then(-1:Int)else if UB (wk (kx a i) (kx b j)).1 x.1=zt then 1 else 0)else(if(0:Int)<(wn (kx a i) (kx b j):Int)then -1 else if(0:Int)>(wn (kx a i) (kx b j):Int)then 1 else 0))>0:=by
  intro x c hi d
  have p:UB (wk (kx a i) (kx b j)).1 x.1=zf:=by
   cases g:ZV a b i j with
   |true=>
    rw[(qz g).1]at hd ⊢;unfold kx at hd ⊢;cases e:a[i]? with
    |none=>simp_all
    |some y=>rw[hi]at e;exact WR (va.lt d e)
   |false=>
    rw[(q9 g).1]at hd ⊢;unfold kx at hd ⊢;cases e:b[j]? with
    |none=>simp_all
    |some y=>exact I.pa c hi x y d e
  grind
 have s:∀ {y:VY} {j':Nat},j=j'+1->b[j']?=zo y -> ¬ (if(if UB y.1 (wk (kx a i) (kx b j)).1=zt then(-1:Int)else if UB (wk (kx a i) (kx b j)).1 y.1=zt then 1 else 0)≠0 then(if UB y.1 (wk (kx a i) (kx b j)).1=zt then(-1:Int)else if UB (wk (kx a i) (kx b j)).1 y.1=zt then 1 else 0)else(if(1:Int)<(wn (kx a i) (kx b j):Int)then -1 else if(1:Int)>(wn (kx a i) (kx b j):Int)then 1 else 0))>0:=by
  intro y j' o e
  have q:UB y.1 (wk (kx a i) (kx b j)).1=zt:=by
   cases g:ZV a b i j with
   |true=>
    rw[(qz g).1]at hd ⊢;unfold kx at hd ⊢;cases d:a[i]? with
    |none=>simp_all
    |some x=>exact I.pb j' o y x e d
   |false=>
    rw[(q9 g).1]at hd ⊢;unfold kx at hd ⊢;cases d:b[j]? with
    |none=>grind
    |some x=>rw[o]at d;exact vb.lt e d
  grind
 refine Vx (x:=(1,((0,(0,2)),()))) (WU (s1:=(0,(0,1))) (s2:=(0,(0,2))) ?_ ?_ rfl) rfl
 ·refine(bG 0 rfl rfl rfl).trans ?_;rw[VC];by_cases f:(i:Int)>0
  ·rw[zy f];obtain⟨c,h⟩:∃ c,i=c+1:=⟨i-1,by omega⟩;have l:c<a.length:=by have:=I.ia;omega
   have d:a[c]?=zo a[c]:=by simp[l]
   refine(Xv 0 rfl (x:=a) rfl).trans ((Xv c ?_ d).trans ?_)
   ·rw[UU (by have:=va.len;omega)];omega
   rw[jI,Ug];show bd (Wf (0,(wn (kx a i) (kx b j):Int))) _=_;rw[jH,Ug,ly,Ug,VC,zx (r h d)];rfl
  ·rw[zx f];rfl
 ·refine(bG 1 rfl rfl rfl).trans ?_;rw[VC];by_cases f:(j:Int)>0
  ·rw[zy f];obtain⟨j',m⟩:∃ j',j=j'+1:=⟨j-1,by omega⟩;have n:j'<b.length:=by have:=I.jb;omega
   have e:b[j']?=zo b[j']:=by simp[n]
   refine(Xv 1 rfl (x:=b) rfl).trans ((Xv j' ?_ e).trans ?_)
   ·rw[UU (by have:=vb.len;omega)];omega
   rw[jI,Ug];show bd (Wf (1,(wn (kx a i) (kx b j):Int))) _=_;rw[jH,Ug,ly,Ug,VC,zx (s m e)];rfl
  ·rw[zx f];rfl
end
end
section
open Go Sv
theorem Yf{l:List VY}{i:Nat}{x:VY}(h:l[i]?=zo x):kx l i=(x.1,zf):=by unfold kx;rw[h]
theorem bh{l:List VY}{i:Nat}(h:l[i]?=zn):kx l i=([],zt):=by unfold kx;rw[h]
theorem ck{l:List VY}(v:VL l){i:Nat}{x:VY}(h:l[i]?=zo x):(kx l (i+1)).2=zt\/UB (kx l (i+1)).1 x.1=zf:=by
 cases a:l[i+1]? with
 |none=>rw[bh a];grind
 |some y=>rw[Yf a];exact .inr (WR (v.lt h a))
theorem ah{α β:Type}{n:Int}{l:List α}{K:Nat->α->Option β}(k:Nat){x:α}(c:n=(k:Int))(b:l[k]?=zo x):TS n (λa=>gd (JJ a (AQ l)) λ_=>ix l a λd=>K a d)=K k x:=by
 subst c;rw[VZ,Uq,zy (show k<AQ l from(a8.1 b).1),U0 b]
section
variable{a b:List VY}(va:VL a)(vb:VL b)
include va vb
theorem rZ{i j:Nat}(I:Inv a b i j){x:VY}(c:a[i]?=zo x)(g:ZV a b i j=zt):WT (bV a b i j)=zo (x,(0,(bV a b (i+1) j,0))):=by
 obtain⟨e,h⟩:=qz g;have hi:=(a8.1 c).1;have l:=va.len;have hd:(wk (kx a i) (kx b j)).2=zf:=by rw[e,Yf c]
 obtain⟨m,f⟩:=Zj (p:=kx a i) (q:=kx b j) (k:=kx a (i+1)) (WC _ _) (WC _ _) (WC _ _) hd (by rw[e,Yf c];exact ck va c)
 have d:rk (kx a i) (kx b j) (kx a (i+1))=(kx a (i+1),kx b j):=by
  simp_all[rk,ZV,zy]
 rw[d]at f;unfold WT;rw[ax va vb I,Ug,VF,zy rfl];unfold Vl Vq;refine Vx (aW (show 2<=1048576 by omega)) (Vx (aW (show 2<=1048576 by omega)) ?_);rw[show(bV a b i j).2.2=Tt (kx a i) (kx b j)from rfl,Zc (WC _ _) (WC _ _),zx (by simp[hd]),Ug,VF,zy rfl,h];refine(ah 0 rfl (x:=a) rfl).trans ((ah 0 rfl (x:=(i:Int)) rfl).trans ((Xv i rfl c).trans ((ah 0 rfl (x:=(i:Int)) rfl).trans ((ah 0 rfl (x:=(i:Int)) rfl).trans ((ah 0 rfl (x:=a) rfl).trans ((ah 0 rfl (x:=Tk .i64 (i:Int) 1) rfl).trans ?_))))));rw[Ve (by omega),Y6 (show i+1<=a.length by omega),Ug,f,Ug];rfl
theorem ra{i j:Nat}(I:Inv a b i j){y:VY}(c:b[j]?=zo y)(g:ZV a b i j=zf):WT (bV a b i j)=zo (y,(1,(bV a b i (j+1),0))):=by
 obtain⟨e,h⟩:=q9 g;have hi:=(a8.1 c).1;have l:=vb.len;have hd:(wk (kx a i) (kx b j)).2=zf:=by rw[e,Yf c]
 obtain⟨m,f⟩:=Zj (p:=kx a i) (q:=kx b j) (k:=kx b (j+1)) (WC _ _) (WC _ _) (WC _ _) hd (by rw[e,Yf c];exact ck vb c)
 have d:rk (kx a i) (kx b j) (kx b (j+1))=(kx a i,kx b (j+1)):=by
  simp_all[rk,ZV,zx]
 rw[d]at f;unfold WT;rw[ax va vb I,Ug,VF,zy rfl];unfold Vl Vq;refine Vx (aW (show 2<=1048576 by omega)) (Vx (aW (show 2<=1048576 by omega)) ?_);rw[show(bV a b i j).2.2=Tt (kx a i) (kx b j)from rfl,Zc (WC _ _) (WC _ _),zx (by simp[hd]),Ug,VF,zy rfl,h];refine(ah 1 rfl (x:=b) rfl).trans ((ah 1 rfl (x:=(j:Int)) rfl).trans ((Xv j rfl c).trans ((ah 1 rfl (x:=(j:Int)) rfl).trans ((ah 1 rfl (x:=(j:Int)) rfl).trans ((ah 1 rfl (x:=b) rfl).trans ((ah 1 rfl (x:=Tk .i64 (j:Int) 1) rfl).trans ?_))))));rw[Ve (by omega),Y6 (show j+1<=b.length by omega),Ug,f,Ug];rfl
def bJ(a b:List VY)(n:Nat):Ww:=bV a b (pos a b n).1 (pos a b n).2
def dW(a b:List VY)(n:Nat):Nat:=if ZV a b (pos a b n).1 (pos a b n).2=zt then 0 else 1
theorem dL{n:Nat}{x:VY}(h:n<a.length+b.length)(c:cX a b n=zo x):WT (bJ a b n)=zo (x,((dW a b n:Int),(bJ a b (n+1),0))):=by
 obtain⟨d,hs⟩:=Xx va vb (n:=n) (by omega);unfold bJ dW;rw[show pos a b (n+1)=if ZV a b (pos a b n).1 (pos a b n).2=zt then((pos a b n).1+1,(pos a b n).2)else((pos a b n).1,(pos a b n).2+1)from rfl]
 unfold cX at c;cases g:ZV a b (pos a b n).1 (pos a b n).2 with
 |true=>simp_all[zy,rZ]
 |false=>simp_all[zx,ra]
end
theorem dZ{s:WL}(a:s.2.1.length<=32)(b:s.1=zf->s.2.1=[]):Xr s=zo 0:=by
 unfold Xr;rw[bF,Ug,zx (by omega),VF,zy rfl,WH,VM]
 simp_all[zx,WH,Xb,zy]
def keep(s:WL)(x:VY):Bool:=!(s.1&&decide (x.1=s.2.1)) && !(s.2.2&&x.2.2.1)
theorem kK{s:WL}{x:VY}(e:s.2.1.length<=32)(f:s.1=zf->s.2.1=[])(g:kE x=0)(a:s.1=zt->UB x.1 s.2.1=zf):WY (s,x)=zo (keep s x,((zt,(x.1,s.2.2)),0)):=by
 unfold WY keep;rw[dZ e f,Ug,VF,zy rfl,Wo,g,Ug,VF,zy rfl];obtain⟨s1,s2,c⟩:=s;obtain⟨h,i,d,j⟩:=x;simp only at a ⊢;cases s1 with
 |true=>
  have:=a rfl;simp only[UN,Ta,Yi,Xb,this,lc,if_false];by_cases b:h=s2
  ·simp[b]
  ·simp only[b,if_false,decide_false];cases c<;>cases d<;>rfl
 |false=>
  simp only[UN,Ta];cases c<;>cases d<;>rfl
def Xj:WL->List VY->List VY
 |_,[]=>[]
 |s,x::l=>(if keep s x=zt then[x]else[])++Xj (zt,(x.1,s.2.2)) l
theorem Zt:∀ (s:WL) (l:List VY),(Xj s l).length<=l.length
 |_,[]=>ed _
 |s,x::l=>by
  have:=Zt (zt,(x.1,s.2.2)) l;unfold Xj
  grind
def bu:WL->List VY->Prop
 |_,[]=>True
 |s,x::l=>kE x=0/\(s.1=zt->UB x.1 s.2.1=zf)/\bu (zt,(x.1,s.2.2)) l
theorem dH{x:VY}(h:kE x=0):x.1.length<=32:=by
 unfold kE at h;omega
theorem WQ{α β σ S:Type}{l:List α}(mk:Nat->σ->S)(Inv:List α->Nat->σ->Prop)(F:List α->Nat->σ->β){f:S->Option (LR S β)}{s:S}(a:σ)(g:s=mk 0 a)(p:l.length<=9223372036854775807)(hi:Inv l 0 a)
  (o:∀ a,Inv [] l.length a->f (mk l.length a)=zo (.dn (F [] l.length a)))
  (hc:∀ k x m a,l.drop k=x::m->l[k]?=zo x->k<l.length->Inv (x::m) k a -> ∃ b,f (mk k a)=zo (.nx (mk (k+1) b))/\Inv m (k+1) b/\F (x::m) k a=F m (k+1) b):loop f s=zo (F l 0 a):=by
 subst g
 have c:∀ (m:List α) (k n:Nat) (a:σ),l.drop k=m->k<=l.length->m.length<n->Inv m k a->Iu n f (mk k a)=zo (F m k a):=by
  intro m
  induction m with
  |nil=>
   intro k n a i h e hi;obtain⟨n,rfl⟩:∃ j,n=j+1:=⟨n-1,by omega⟩
   have d:k=l.length:=by
    grind
   subst d;exact WG (o a hi)
  |cons x m q=>
   intro k n a i h e hi;obtain⟨n,rfl⟩:∃ j,n=j+1:=⟨n-1,by omega⟩
   grind [ol,mR,V7]
 exact c l 0 _ a (by simp) (by omega) (by omega) hi
def WX:WL->List VY->WL
 |s,[]=>s
 |s,x::l=>WX (zt,(x.1,s.2.2)) l
theorem eh{β:Type}{out:List VY}{n:Nat}(h:out.length<=n)(a:n<=20000)(x:VY)(k:Unit->Option β):gd (B5 (A0 (AQ out) (AQ [x])) 1048576) k=k ():=Vz (by grind [A0,AQ,dc,eb]) k
theorem je{l:List VY}{b:Bool}(B:l.length<=20000)(z:bu (zf,([],b)) l):YI (l,b)=zo (Xj (zf,([],b)) l,(0,0)):=by
 unfold YI Wt;simp only[Vd,Vc];rw[VC,zx (by omega),Ug]
 rw[WQ (l:=l) (σ:=WL×List VY) (s:=(0,(0,(0,((zf,([],b)),[]))))) (λk a=>((0:Int),((k:Int),((0:Int),a))))
  (λm k a=>bu a.1 m/\a.1.2.1.length<=32/\(a.1.1=zf->a.1.2.1=[])/\a.2.length<=k/\k+m.length=l.length)
  (λm k a=>(1,((0,((l.length:Int),(0,(WX a.1 m,a.2++Xj a.1 m)))),()))) ((zf,([],b)),[]) rfl (by omega) ⟨z,by simp,λ_=>rfl,by simp,by simp⟩ ?_ ?_,Ug]
 ·simp;rfl
 ·grind [re,Ta,WX,Xj]
 ·rintro k x m ⟨s,out⟩ C q y ⟨⟨d,e,g⟩,i,j,n,A⟩;simp only at d e g i j n ⊢;refine⟨((zt,(x.1,s.2.2)),out++if keep s x=zt then[x]else[]),?_,⟨g,dH d,(λh=>by cases h),?_,by grind⟩,?_⟩
  ·rw[rl y,UN,VZ,U0 q,dZ i j,Ug,VF,zy rfl,Wo,d,Ug,VF,zy rfl];unfold keep Vy;obtain⟨s1,s2,r⟩:=s;obtain⟨f,t,c,u⟩:=x;simp only[Ug,Vi q (show l.length<=9223372036854775807 by omega)]at e ⊢;have p:∀ {β:Type} (k:Unit->Option β),gd (B5 (A0 out.length [(f,(t,(c,u)))].length) 1048576) k=k ():=λk=>eh n (by omega) (f,(t,(c,u))) k;cases s1 with
   |true=>
    have w:=e rfl;simp only[UN,Ta,Xb,w,p];by_cases o:f=s2
    ·simp[o]
    ·simp only[o,if_false,decide_false];cases r<;>cases c<;>simp[UN,Ta,Ir]
   |false=>
    simp only[UN,Ta,p];cases r<;>cases c<;>simp[UN,Ta,Ir]
  ·grind
  grind [WX,Xj,hI]
end
section
open Go Sv
theorem fi:∀ (l:List VY) (s:WL) (x:VY),Xj s (l++[x])=Xj s l++(if keep (WX s l) x=zt then[x]else[])
 |[],s,x=>by
  show(if keep s x=zt then[x]else[])++[]=[]++(if keep s x=zt then[x]else[])
  simp_all
 |y::l,s,x=>by
  show(if keep s y=zt then[y]else[])++Xj _ (l++[x])=((if keep s y=zt then[y]else[])++Xj _ l)++_
  rw[fi l,hI];rfl
theorem aq:∀ (l:List VY) (s:WL) (x:VY),WX s (l++[x])=(zt,(x.1,(WX s l).2.2))
 |[],s,x=>rfl
 |y::l,s,x=>by simp only[List.cons_append,WX,aq l]
theorem Yg:∀ (l:List VY) (s:WL),(WX s l).2.2=s.2.2
 |[],s=>rfl
 |y::l,s=>by rw[WX,Yg l]
theorem gL:∀ (l:List VY) (s:WL) (x:VY),bu s l->kE x=0->((WX s l).1=zt->UB x.1 (WX s l).2.1=zf)->bu s (l++[x])
 |[],s,x,_,a,b=>⟨a,b,trivial⟩
 |y::l,s,x,⟨a,b,c⟩,d,h5=>⟨a,b,gL l _ x c d h5⟩
theorem d9:∀ (l:List VY) (s:WL),bu s l->s.2.1.length<=32->(s.1=zf->s.2.1=[])->(WX s l).2.1.length<=32/\((WX s l).1=zf->(WX s l).2.1=[])
 |[],s,_,h1,h2=>⟨h1,h2⟩
 |y::l,s,⟨a,_,b⟩,_,_=>d9 l _ b (dH a) (λh=>by cases h)
abbrev s0(a:Bool):WL:=(zf,([],a))
def XC(a b:List VY)(c:Bool)(n:Nat):ZH:=(bJ a b n,(WX (s0 c) (Vo a b n),(Xj (s0 c) (Vo a b n),(n:Int))))
def ZX(a b:List VY):Nat->List Int
 |0=>[]
 |n+1=>ZX a b n++[(dW a b n:Int)]
theorem cB(a b:List VY):∀ n,(ZX a b n).length=n
 |0=>rfl
 |n+1=>by simp[ZX,cB a b n]
theorem Zy{S β:Type}{f:S->Option (LR S β)}{r:β}(mk:Nat->S)(a n:Nat){s:S}(b:s=mk a)(c:a<=n)(e:n<18446744073709551616)(hs:∀ k,a<=k->k<n->f (mk k)=zo (.nx (mk (k+1))))(d:f (mk n)=zo (.dn r)):loop f s=zo r:=by
 have h:=bm (f:=f) (r:=r) (λk=>mk (a+k)) (n-a) (s:=s) b (by omega) (λk c=>hs (a+k) (by omega) (by omega)) (by simp_all);exact h
theorem cr(l:List VY)(h:l.length<=100000):Xt (l,l)=zo zt:=by
 unfold Xt;simp only[Vd,Vc]
 rw[VF,zy rfl,bn (l:=l) (σ:=Unit) (s:=(zf,0)) (λk _=>(zf,(k:Int))) (λ_ _ _=>zo (1,((zf,(l.length:Int)),()))) () rfl (by omega) (λc=>by
  simp only;rw[re];rfl) (λk x m c _ a b=>.inl ⟨(),by
   simp only;rw[rl b,UN,VZ,U0 a,VZ,U0 a,aK,aK,ZI,show PW x.2.2.2 x.2.2.2=zt by unfold PW;simp,show IR (Of zt (Of zt (Of zt (Of zt zt))))=zf from rfl,Ta,Vi a (by omega)],rfl⟩),Ug]
 rfl
section
variable{a b:List VY}(va:VL a)(vb:VL b)
include va vb
theorem YL{n:Nat}{x:VY}(c:cX a b n=zo x):Vo a b (n+1)=Vo a b n++[x]:=by
 show(match cX a b n with
  |some x=>Vo a b n++[x]
  |none=>Vo a b n)=_
 rw[c]
theorem Yn(d:Bool):∀ {n:Nat},n<=a.length+b.length->bu (s0 d) (Vo a b n)
 |0,_=>trivial
 |n+1,h=>by
  obtain⟨x,c,_⟩:=XH va vb (n:=n) (by omega);rw[YL va vb c];refine gL _ _ _ (Yn d (by omega)) (lq va vb c) λ_=> ?_;cases n with
  |zero=>rename_i f;cases f
  |succ m=>
   obtain⟨y,e,_⟩:=XH va vb (n:=m) (by omega);rw[YL va vb e,aq];exact jS va vb (by omega) e c
theorem hC(c:Bool){n:Nat}(h:n<=a.length+b.length):(WX (s0 c) (Vo a b n)).2.1.length<=32/\((WX (s0 c) (Vo a b n)).1=zf->(WX (s0 c) (Vo a b n)).2.1=[]):=
 d9 _ _ (Yn va vb c h) (by simp) (λ_=>rfl)
theorem sC{n:Nat}(h:n=a.length+b.length):(wk (kx a (pos a b n).1) (kx b (pos a b n).2)).2=zt:=by
 obtain⟨c,hs⟩:=Xx va vb (n:=n) (by omega);have d:=c.ia;have e:=c.jb;rw[bh (a9 (by omega)),bh (a9 (by omega))];rfl
theorem sE{n:Nat}{x:VY}(c:cX a b n=zo x):(wk (kx a (pos a b n).1) (kx b (pos a b n).2)).2=zf/\wn (kx a (pos a b n).1) (kx b (pos a b n).2)=dW a b n:=by
 unfold cX at c;unfold dW;cases g:ZV a b (pos a b n).1 (pos a b n).2 with
 |true=>rw[zy g]at c;grind [qz,Yf]
 |false=>rw[zx (by simp[g])]at c;grind [q9,Yf]
theorem rV:Zd [a,b]=zo (Vo a b (a.length+b.length),(ZX a b (a.length+b.length),0)):=by
 have u:=va.len;have w:=vb.len;unfold Zd;rw[bO va vb,Ug,VF,zy rfl];refine Eq.trans (b:=bd (loop _ (0,[([],zf),([],zf)])) _) rfl ?_;refine Vx (x:=(0,((2,[kx a 0,kx b 0]),()))) (WU (s1:=(1,[kx a 0,([],zf)])) (s2:=(2,[kx a 0,kx b 0])) ?_ ?_ rfl) ?_
 ·show bd (V3 (a,((0:Nat):Int))) _=_;rw[Y6 (by omega)];rfl
 ·show bd (V3 (b,((0:Nat):Int))) _=_;rw[Y6 (by omega)];rfl
 rw[show((0:Nat),(((2:Int),[kx a 0,kx b 0]),())).2.1.2=[kx a 0,kx b 0]from rfl,bw (WC _ _) (WC _ _),Ug]
 refine Vx (x:=(0,((Vo a b (a.length+b.length),(ZX a b (a.length+b.length),((),([((pos a b (a.length+b.length)).1:Int),((pos a b (a.length+b.length)).2:Int)],Tt (kx a (pos a b (a.length+b.length)).1) (kx b (pos a b (a.length+b.length)).2))))),())))
  (Zy (λk=>(Vo a b k,(ZX a b k,((),([((pos a b k).1:Int),((pos a b k).2:Int)],Tt (kx a (pos a b k).1) (kx b (pos a b k).2)))))) 0 (a.length+b.length) rfl (by omega) (by omega) (λk _ l=> ?_) ?_) rfl
 ·obtain⟨x,c,_⟩:=XH va vb (n:=k) l;obtain⟨h,s⟩:=sE va vb c;obtain⟨t,hs⟩:=Xx va vb (n:=k) (by omega);have o:(Vo a b k).length=k:=Wg va vb (by omega);have r:=cB a b k;simp only;rw[Zc (WC _ _) (WC _ _),zx (by simp[h]),Ug,VF,zy rfl,s];rw[YL va vb c];unfold cX at c;rw[show ZX a b (k+1)=ZX a b k++[(dW a b k:Int)]from rfl];unfold dW;rw[show pos a b (k+1)=if ZV a b (pos a b k).1 (pos a b k).2=zt then((pos a b k).1+1,(pos a b k).2)else((pos a b k).1,(pos a b k).2+1)from rfl]
  have i:∀ {β:Type} (y:VY) (q:Unit->Option β),gd (B5 (A0 (AQ (Vo a b k)) (AQ [y])) 1048576) q=q ():=λy q=>Vz (by grind [A0,AQ,dc,eb]) q;have j:∀ {β:Type} (y:Int) (q:Unit->Option β),gd (B5 (A0 (AQ (ZX a b k)) (AQ [y])) 1048576) q=q ():=λy q=>Vz (by grind [A0,AQ,dc,eb]) q;cases g:ZV a b (pos a b k).1 (pos a b k).2 with
  |true=>
   rw[zy g]at c;obtain⟨d,_⟩:=qz g;obtain⟨m,f⟩:=Zj (p:=kx a (pos a b k).1) (q:=kx b (pos a b k).2) (k:=kx a ((pos a b k).1+1)) (WC _ _) (WC _ _) (WC _ _) h (by rw[d,Yf c];exact ck va c)
   have e:rk (kx a (pos a b k).1) (kx b (pos a b k).2) (kx a ((pos a b k).1+1))=(kx a ((pos a b k).1+1),kx b (pos a b k).2):=by
    simp_all[rk,ZV,zy]
   rw[e]at f;have hi:=(a8.1 c).1;simp only[if_true];refine(ah 0 rfl (x:=a) rfl).trans ((ah 0 rfl (x:=((pos a b k).1:Int)) rfl).trans ((Xv _ rfl c).trans ?_));rw[i,j];refine(ah 0 rfl (x:=((pos a b k).1:Int)) rfl).trans ((ah 0 rfl (x:=((pos a b k).1:Int)) rfl).trans ((ah 0 rfl (x:=a) rfl).trans ((ah 0 rfl (x:=Tk .i64 ((pos a b k).1:Int) 1) rfl).trans ?_)));rw[Ve (by omega),Y6 (by omega),Ug,f,Ug];rfl
  |false=>
   rw[zx (by simp[g])]at c;obtain⟨d,_⟩:=q9 g;obtain⟨m,f⟩:=Zj (p:=kx a (pos a b k).1) (q:=kx b (pos a b k).2) (k:=kx b ((pos a b k).2+1)) (WC _ _) (WC _ _) (WC _ _) h (by rw[d,Yf c];exact ck vb c)
   have e:rk (kx a (pos a b k).1) (kx b (pos a b k).2) (kx b ((pos a b k).2+1))=(kx a (pos a b k).1,kx b ((pos a b k).2+1)):=by
    simp_all[rk,ZV,zx]
   rw[e]at f;have hi:=(a8.1 c).1;simp only[lc,if_false];refine(ah 1 rfl (x:=b) rfl).trans ((ah 1 rfl (x:=((pos a b k).2:Int)) rfl).trans ((Xv _ rfl c).trans ?_));rw[i,j];refine(ah 1 rfl (x:=((pos a b k).2:Int)) rfl).trans ((ah 1 rfl (x:=((pos a b k).2:Int)) rfl).trans ((ah 1 rfl (x:=b) rfl).trans ((ah 1 rfl (x:=Tk .i64 ((pos a b k).2:Int) 1) rfl).trans ?_)));rw[Ve (by omega),Y6 (by omega),Ug,f,Ug];rfl
 ·simp only;rw[Zc (WC _ _) (WC _ _),zy (sC va vb rfl),Ug,VF,zx (by decide),VF,zx (by decide)]
end
end
section
open Go Sv
theorem jL{β:Type}{out:List VY}{n:Nat}(h:out.length<=n)(a:n<=20000)(x:VY)(k:Unit->Option β):gd (B5 (A0 out.length [x].length) 1048576) k=k ():=eh h a x k
section
variable{a b:List VY}(va:VL a)(vb:VL b)
include va vb
theorem ZG{n:Nat}(h:n<=a.length+b.length):(Vo a b (a.length+b.length)).take n=Vo a b n:=iC va vb (ed _) h
theorem ae{n:Nat}{x:VY}(c:Bool)(d:cX a b n=zo x):WX (s0 c) (Vo a b (n+1))=(zt,(x.1,c)):=by
 rw[YL va vb d,aq,Yg]
theorem iR(c:Bool){n:Nat}(h:n<=a.length+b.length):Ye (XC a b c n)=zo 0:=by
 obtain⟨e,hs⟩:=Xx va vb (n:=n) h;have i:=va.len;have j:=vb.len;have f:=Zt (s0 c) (Vo a b n);have g:(Vo a b n).length=n:=Wg va vb h;unfold Ye;rw[show(XC a b c n).1=bV a b (pos a b n).1 (pos a b n).2 from rfl,ax va vb e,Ug,VF,zy rfl];refine Vx (x:=(0,((2,(n:Int)),()))) (WU (s1:=(1,((pos a b n).1:Int))) (s2:=(2,(n:Int))) ?_ ?_ rfl) ?_
 ·refine(bG 0 rfl rfl (x:=((pos a b n).1:Int)) rfl).trans ?_;show zo (LR.nx ((1:Int),Tk .i64 0 ((pos a b n).1:Int)))=_;rw[US (by omega),wl]
 ·refine(bG 1 rfl rfl (x:=((pos a b n).2:Int)) rfl).trans ?_
  grind [US,pos]
 simp only[Vd,Vc];rw[show(XC a b c n).2.2.1=Xj (s0 c) (Vo a b n)from rfl,show(XC a b c n).2.2.2=(n:Int)from rfl,show(XC a b c n).2.1=WX (s0 c) (Vo a b n)from rfl,VC,zx (by omega),VC,zx (by omega),VF,zy rfl];rw[show(bV a b (pos a b n).1 (pos a b n).2).1=[a,b]from rfl,rV va vb,Ug,VF,zy rfl,VZ];rw[Vz (by simp_all[Wg,ed]),Vz (Nat.zero_le _)];rw[show Db (Vo a b (a.length+b.length)) 0 n=Vo a b n from by simp_all[Db,sp,Nat.sub_zero,ZG],Yg];rw[show(s0 c).2.2=c from rfl,je (by omega) (Yn va vb c h),Ug,VF,zy rfl];unfold Wt;rw[Ug,VC];cases n with
 |zero=>
  rw[zx (by omega),cr _ (by omega),Ug,eR,Ta];show br (IR (Of (Sv.beq zf zf) (Of (seq [] []) (Of (Sv.beq c c) zt)))) _ _=_;rw[ZI,ZI,aK];rfl
 |succ m=>
  obtain⟨x,d,_⟩:=XH va vb (n:=m) (by omega);rw[zy (by omega),show Tp .i64 ((m+1:Nat):Int) 1=(m:Int) by rw[UU (by omega)];omega,VZ];rw[U0 (x:=x) (by rw[Z0 va vb (ed _) (by omega)];exact d),cr _ (by omega),Ug,eR,Ta,ae va vb c d];rw[ZI,ZI,aK];rfl
theorem ld{n:Nat}(h:n<=a.length+b.length):ZJ (bJ a b n)=zo (((a.length+b.length-n:Nat):Int),0):=by
 obtain⟨c,hs⟩:=Xx va vb (n:=n) h;have f:=va.len;have g:=vb.len;have d:=c.ia;have e:=c.jb;unfold ZJ;rw[show bJ a b n=bV a b (pos a b n).1 (pos a b n).2 from rfl,ax va vb c,Ug,VF,zy rfl];refine Vx (x:=(0,((2,((a.length+b.length-n:Nat):Int)),()))) (WU (s1:=(1,(a.length:Int)-((pos a b n).1:Int))) (s2:=(2,((a.length+b.length-n:Nat):Int))) ?_ ?_ rfl) rfl
 ·refine(bG 0 rfl rfl (x:=a) rfl).trans ((Xv 0 rfl (x:=((pos a b n).1:Int)) rfl).trans ?_);simp only[Vd,Vc];rw[UU (by omega)];show zo (LR.nx ((1:Int),Tk .i64 0 ((a.length:Int)-((pos a b n).1:Int))))=_;rw[US (by omega),wl]
 ·refine(bG 1 rfl rfl (x:=b) rfl).trans ((Xv 1 rfl (x:=((pos a b n).2:Int)) rfl).trans ?_)
  grind [Vd,Vc,UU,US,pos]
theorem cO(c:Bool){n:Nat}(h:n<=a.length+b.length):WD (XC a b c n)=zo (((a.length+b.length-n:Nat):Int),0):=by
 unfold WD;rw[iR va vb c h,Ug,VF,zy rfl,show(XC a b c n).1=bJ a b n from rfl,ld va vb h];rfl
theorem cp(c:Bool){n:Nat}{x:VY}(d:cX a b n=zo x):XC a b c (n+1)=(bJ a b (n+1),((zt,(x.1,c)),(Xj (s0 c) (Vo a b n)++(if keep (WX (s0 c) (Vo a b n)) x=zt then[x]else[]),((n+1:Nat):Int)))):=by
 simp_all[XC,YL,aq,Yg,fi]
theorem aL(c:Bool){n:Nat}{x:VY}(h:n<a.length+b.length)(e:cX a b n=zo x):WY (WX (s0 c) (Vo a b n),x)=zo (keep (WX (s0 c) (Vo a b n)) x,((zt,(x.1,c)),0)):=by
 have d:=hC va vb c (n:=n) (by omega);rw[kK d.1 d.2 (lq va vb e),Yg];intro g;cases n with
 |zero=>cases g
 |succ m=>
  obtain⟨y,f,_⟩:=XH va vb (n:=m) (by omega);rw[ae va vb c f];exact jS va vb (by omega) f e
def uV(k:Int)(s:ZH):Int×(Int×(List (List VY)×(List Int×(List Vj×(List Int×(Int×(Bool×(Xk×(Bool×(List VY×Int)))))))))):=
 (k,(0,(s.1.1,(s.1.2.1,(s.1.2.2.1,(s.1.2.2.2.1,(s.1.2.2.2.2,(s.2.1.1,(s.2.1.2.1,(s.2.1.2.2,(s.2.2.1,s.2.2.2)))))))))))
theorem eK(c:Bool){n:Nat}(h:n<=a.length+b.length){k:Nat}:WS (XC a b c n,(k:Int))=zo (XC a b c (n+min k (a.length+b.length-n)),(((min k (a.length+b.length-n):Nat):Int),0)):=by
 have w:=va.len;have z:=vb.len;have e:∀ m,m<=a.length+b.length->(Xj (s0 c) (Vo a b m)).length<=m:=λm r=>by have:=Zt (s0 c) (Vo a b m);have:=Wg va vb r;omega
 obtain⟨u,s⟩:∃ u,u=min k (a.length+b.length-n):=⟨_,rfl⟩
 have i:VO (k:Int) ((a.length+b.length-n:Nat):Int)=(u:Int):=by
  unfold VO;omega
 rw[<- s];unfold WS;rw[cO va vb c h,Ug,VF,zy rfl];simp only[i,Vd,Vc];rw[VE,zx (by omega),show(XC a b c n).2.2.2=(n:Int)from rfl,US (by omega),VC,zx (by omega)];rw[show(XC a b c n).2.2.1=Xj (s0 c) (Vo a b n)from rfl,show(XC a b c n).1=bJ a b n from rfl,Vz (by grind),Vz (show(bJ a b n).2.1.length<=1048576 from(show 2<=1048576 by omega)),VE];by_cases t:u=0
 ·grind
 rw[zy (by omega)];obtain⟨x,o,_⟩:=XH va vb (n:=n) (by omega);rw[dL va vb (by omega) o,Ug,VF,zy rfl,show(XC a b c n).2.1=WX (s0 c) (Vo a b n)from rfl,aL va vb c (by omega) o,Ug,VF,zy rfl]
 have q:∀ j,1<=j->j<u -> ∃ y,cX a b (n+j)=zo y:=λj f g=>by
  obtain⟨y,d,_⟩:=XH va vb (n:=n+j) (by omega)
  simp_all
 rw[VM];have hS:=cp va vb c o;cases p:keep (WX (s0 c) (Vo a b n)) x with
 |true=>
  rw[p]at hS;rw[zy rfl,jL (e n h) (by omega)];refine Vx (x:=(1,(uV u (XC a b c (n+u)),()))) (Zy (λj=>uV j (XC a b c (n+j))) 1 u ?_ (by omega) (by omega) (λj f g=> ?_) ?_) ?_
  ·rw[hS,show Tk .i64 (n:Int) 1=((n+1:Nat):Int)from Ve (by omega)];rfl
  ·obtain⟨y,d⟩:=q j f g;show br (Uv (j:Int) (u:Int)) _ _=_;rw[VE,zy (by omega)];show bd (WT (bJ a b (n+j))) _=_;rw[dL va vb (by omega) d,Ug,VF,zy rfl];show bd (WY (WX (s0 c) (Vo a b (n+j)),y)) _=_;rw[aL va vb c (by omega) d,Ug,VF,zy rfl,VM,show n+(j+1)=n+j+1 by omega,cp va vb c d];cases l:keep (WX (s0 c) (Vo a b (n+j))) y with
   |true=>
    rw[zy rfl,zy rfl];show gd (B5 (A0 (AQ (Xj (s0 c) (Vo a b (n+j)))) (AQ [y])) 1048576) _=_;rw[eh (e _ (by omega)) (by omega)];show zo (LR.nx (Tk .i64 (j:Int) 1,_))=_;unfold uV;simp only[Ve (show j+1<=9223372036854775807 by omega),Ir];rw[show Tk .i64 (XC a b c (n+j)).2.2.2 1=((n+j+1:Nat):Int)from Ve (by omega)];rfl
   |false=>
    rw[zx (by simp),zx (by simp)];show zo (LR.nx (Tk .i64 (j:Int) 1,_))=_;unfold uV;simp only[Ve (show j+1<=9223372036854775807 by omega)];rw[show Tk .i64 (XC a b c (n+j)).2.2.2 1=((n+j+1:Nat):Int)from Ve (by omega),iz];rfl
  ·show br (Uv (u:Int) (u:Int)) _ _=_;rw[VE,zx (by omega)]
  ·rfl
 |false=>
  rw[p]at hS;rw[zx (by simp)];refine Vx (x:=(1,(uV u (XC a b c (n+u)),()))) (Zy (λj=>uV j (XC a b c (n+j))) 1 u ?_ (by omega) (by omega) (λj f g=> ?_) ?_) ?_
  ·rw[hS,show Tk .i64 (n:Int) 1=((n+1:Nat):Int)from Ve (by omega),zx (by simp),iz];rfl
  ·obtain⟨y,d⟩:=q j f g;show br (Uv (j:Int) (u:Int)) _ _=_;rw[VE,zy (by omega)];show bd (WT (bJ a b (n+j))) _=_;rw[dL va vb (by omega) d,Ug,VF,zy rfl];show bd (WY (WX (s0 c) (Vo a b (n+j)),y)) _=_;rw[aL va vb c (by omega) d,Ug,VF,zy rfl,VM,show n+(j+1)=n+j+1 by omega,cp va vb c d];cases l:keep (WX (s0 c) (Vo a b (n+j))) y with
   |true=>
    rw[zy rfl,zy rfl];show gd (B5 (A0 (AQ (Xj (s0 c) (Vo a b (n+j)))) (AQ [y])) 1048576) _=_;rw[eh (e _ (by omega)) (by omega)];show zo (LR.nx (Tk .i64 (j:Int) 1,_))=_;unfold uV;simp only[Ve (show j+1<=9223372036854775807 by omega),Ir];rw[show Tk .i64 (XC a b c (n+j)).2.2.2 1=((n+j+1:Nat):Int)from Ve (by omega)];rfl
   |false=>
    rw[zx (by simp),zx (by simp)];show zo (LR.nx (Tk .i64 (j:Int) 1,_))=_;unfold uV;simp only[Ve (show j+1<=9223372036854775807 by omega)];rw[show Tk .i64 (XC a b c (n+j)).2.2.2 1=((n+j+1:Nat):Int)from Ve (by omega),iz];rfl
  ·show br (Uv (u:Int) (u:Int)) _ _=_;rw[VE,zx (by omega)]
  ·rfl
end
end
section
open Go Sv
theorem Xd{α β σ S:Type}{l:List α}(mk:Nat->σ->S)(I:List α->Nat->σ->Prop)(Q:β->Prop){f:S->Option (LR S β)}{s:S}(a:σ)(q:s=mk 0 a)(y:l.length<=9223372036854775807)(hi:I l 0 a)
  (w:∀ a,I [] l.length a -> ∃ r,f (mk l.length a)=zo (.dn r)/\Q r)
  (hc:∀ k x m a,l.drop k=x::m->l[k]?=zo x->k<l.length->I (x::m) k a->(∃ b,f (mk k a)=zo (.nx (mk (k+1) b))/\I m (k+1) b) \/ ∃ r,f (mk k a)=zo (.dn r)/\Q r):∃ r,loop f s=zo r/\Q r:=by
 subst q
 have c:∀ (m:List α) (k n:Nat) (a:σ),l.drop k=m->k<=l.length->m.length<n->I m k a -> ∃ r,Iu n f (mk k a)=zo r/\Q r:=by
  intro m
  induction m with
  |nil=>
   intro k n a o t i hi;obtain⟨n,rfl⟩:∃ j,n=j+1:=⟨n-1,by omega⟩
   have h:k=l.length:=by
    grind
   subst h;obtain⟨r,d,e⟩:=w a hi;exact⟨r,WG d,e⟩
  |cons x m z=>
   intro k n a o t i hi;obtain⟨n,rfl⟩:∃ j,n=j+1:=⟨n-1,by omega⟩
   have p:l[k]?=zo x:=by
    grind [ol]
   have g:k<l.length:=(a8.1 p).1
   have u:l.drop (k+1)=m:=by
    grind [mR]
   rcases hc k x m a o p g hi with⟨b,d,e⟩|⟨r,d,e⟩
   ·grind [V7]
   ·exact⟨r,WG d,e⟩
 exact c l 0 _ a (by simp) (by omega) (by omega) hi
theorem Zx{α:Type}(l m:List α)(n:l.length=m.length)(g:l.length<=9223372036854775806){f:(Int×Bool)->Option (LR (Int×Bool) (Nat×((Int×Bool)×Unit)))}
  (hs:∀ (k:Nat) x y,l[k]?=zo x->m[k]?=zo y->(x=y->f ((k:Int),zf)=zo (.nx (((k+1:Nat):Int),zf)))/\(x≠y->f ((k:Int),zf)=zo (.dn (0,(((k:Int),zf),())))))
  (i:f ((l.length:Int),zf)=zo (.dn (1,(((l.length:Int),zf),())))) :
  ∃ r,loop f (0,zf)=zo r/\((l=m/\r.1=1)\/(l≠m/\r.1=0/\r.2.1.2=zf)):=by
 refine Xd (l:=l) (σ:=Unit) (λk _=>((k:Int),zf)) (λt k _=>t=l.drop k/\l.take k=m.take k) _ () rfl (by omega) ⟨by simp,by simp⟩ (λd h=> ?_) (λk x t d hd b j h=> ?_)
 ·grind
 ·have a:k<m.length:=by omega
  have c:m[k]?=zo m[k]:=by simp[a]
  by_cases e:x=m[k]
  ·refine .inl ⟨(),(hs k x m[k] b c).1 e,?_,?_⟩
   ·grind [mR]
   grind [List.take_add_one]
  grind
theorem beq_eq(a b:Bool):Sv.beq a b=decide (a=b):=by rfl
theorem XS(a b:Int):PW a b=decide (a=b):=by
 rfl
theorem Z6(p q:Prop)[Decidable p][Decidable q]:Of (decide p) (decide q)=decide (p/\q):=by unfold Of;simp
theorem We(p:Prop)[Decidable p]:IR (decide p)=decide (¬ p):=by unfold IR;simp
theorem bX(a:Bool):Of a zt=a:=by cases a<;>rfl
theorem jm(l m:List Vj)(i:l.length<=9223372036854775806):Vs (l,m)=zo (decide (l=m)):=by
 unfold Vs;simp only[Vd,Vc];rw[VF];by_cases a:(l.length:Int)=(m.length:Int)
 ·rw[zy a];have b:l.length=m.length:=by omega
  obtain⟨r,h,s⟩:=Zx l m b i (f:=λs0=>br (Uv s0.1 (l.length:Int)) (λ_=>TS s0.1 λp=>ix l p λd=>TS s0.1 λq=>ix m q λg=>br (IR (Of (seq d.1 g.1) (Of (Sv.beq d.2 g.2) zt))) (λ_=>zo (.dn ((0,((s0.1,zf),()))))) λ_=>zo (.nx (Tk .i64 s0.1 1,s0.2))) λ_=>zo (.dn ((1,(s0,()))))) (λk x y c o=>by
    have n:=(a8.1 c).1
    have j:∀ {β:Type} (u v:Unit->Option β),br (IR (Of (seq x.1 y.1) (Of (Sv.beq x.2 y.2) zt))) u v=if x=y then v ()else u ():=by
     intro β u v;rw[bX,aJ,beq_eq,Z6,We,Wj]
     grind
    constructor
    ·intro e;simp only;rw[rl n,UN,VZ,U0 c,VZ,U0 o,j,zy e,Ve (by omega)]
    simp_all[rl,UN,VZ,U0,zx]) (by simp only;rw[re];rfl)
  refine Vx h ?_
  grind [Uh]
 ·rw[zx a];have:¬ l=m:=λe=>a (by rw[e]);simp[this]
theorem ao(l m:List Int)(g:l.length<=9223372036854775806):Vn (l,m)=zo (decide (l=m)):=by
 unfold Vn;simp only[Vd,Vc];rw[VF];by_cases a:(l.length:Int)=(m.length:Int)
 ·rw[zy a];have b:l.length=m.length:=by omega
  obtain⟨r,d,q⟩:=Zx l m b g (f:=λs0=>br (Uv s0.1 (l.length:Int)) (λ_=>TS s0.1 λj=>ix l j λo=>TS s0.1 λn=>ix m n λp=>br (TN o p) (λ_=>zo (.dn ((0,((s0.1,zf),()))))) λ_=>zo (.nx (Tk .i64 s0.1 1,s0.2))) λ_=>zo (.dn ((1,(s0,()))))) (λk x y c i=>by
    have h:=(a8.1 c).1;constructor
    ·intro e;simp only;rw[rl h,UN,VZ,U0 c,VZ,U0 i,VF,zy e,Ve (by omega)]
    simp_all[rl,UN,VZ,U0,VF]) (by simp only;rw[re];rfl)
  refine Vx d ?_
  grind [Uh]
 ·rw[zx a];have:¬ l=m:=λe=>a (by rw[e]);simp[this]
theorem fY{β:Type}(x y:VY)(u v:Unit->Option β):br (IR (Of (seq x.1 y.1) (Of (seq x.2.1 y.2.1) (Of (Sv.beq x.2.2.1 y.2.2.1) (Of (PW x.2.2.2 y.2.2.2) zt))))) u v=if x=y then v ()else u ():=by
 rw[bX,aJ,aJ,beq_eq,XS,Z6,Z6,Z6,We,Wj]
 grind
theorem X2(l m:List VY)(i:l.length<=9223372036854775806):V4 (l,m)=zo (decide (l=m)):=by
 unfold V4;simp only[Vd,Vc];rw[VF];by_cases c:(l.length:Int)=(m.length:Int)
 ·rw[zy c];have d:l.length=m.length:=by omega
  obtain⟨r,h,q⟩:=Zx l m d i (f:=λs0=>br (Uv s0.1 (l.length:Int)) (λ_=>TS s0.1 λo=>ix l o λa=>TS s0.1 λp=>ix m p λb=>br (IR (Of (seq a.1 b.1) (Of (seq a.2.1 b.2.1) (Of (Sv.beq a.2.2.1 b.2.2.1) (Of (PW a.2.2.2 b.2.2.2) zt))))) (λ_=>zo (.dn ((0,((s0.1,zf),()))))) λ_=>zo (.nx (Tk .i64 s0.1 1,s0.2))) λ_=>zo (.dn ((1,(s0,()))))) (λk x y g n=>by
    have j:=(a8.1 g).1;constructor
    ·intro e;simp only;rw[rl j,UN,VZ,U0 g,VZ,U0 n,fY,zy e,Ve (by omega)]
    simp_all[rl,UN,VZ,U0,fY]) (by simp only;rw[re];rfl)
  refine Vx h ?_
  grind [Uh]
 ·rw[zx c];have:¬ l=m:=λe=>c (by rw[e]);simp[this]
theorem Za(l m:List VY)(a:l.length<=9223372036854775806):WN (l,m)=zo (decide (l=m)):=by
 unfold WN;rw[X2 l m a];rfl
instance:DecidableEq VY:=inferInstance
instance:DecidableEq (List VY):=inferInstance
instance:DecidableEq (List (List VY)):=inferInstance
instance:DecidableEq Vj:=inferInstance
instance:DecidableEq XL:=inferInstance
instance:DecidableEq Ww:=inferInstance
instance:DecidableEq WL:=inferInstance
instance:DecidableEq ZH:=inferInstance
theorem f9(x y:ZH)(n:x.1.1.length<=1000)(i:∀ l∈x.1.1,l.length<=1000000)(o:x.1.2.1.length<=1000)(p:x.1.2.2.1.length<=1000)(q:x.1.2.2.2.1.length<=1000)(s:x.2.2.1.length<=1000000):XI (x,y)=zo (decide (x=y)):=by
 obtain⟨⟨a,D,E,F,M⟩,⟨xs,L,J⟩,G,K⟩:=x;obtain⟨⟨b,N,P,S,Z⟩,⟨X,Y,O⟩,W,U⟩:=y;simp only at n i o p q s;unfold XI;simp only[Vd,Vc];rw[VF];by_cases d:(a.length:Int)=(b.length:Int)
 ·rw[zy d];have g:a.length=b.length:=by omega
  obtain⟨r,z,h⟩:=Zx a b g (by omega) (f:=λs0=>br (Uv s0.1 (a.length:Int)) (λ_=>TS s0.1 λu=>ix a u λB=>TS s0.1 λw=>ix b w λC=>bd (WN (B,C)) λA=>br (IR A) (λ_=>zo (.dn ((0,((s0.1,zf),()))))) λ_=>zo (.nx (Tk .i64 s0.1 1,s0.2))) λ_=>zo (.dn ((1,(s0,()))))) (λk x y c m=>by
    have j:=(a8.1 c).1;have t:=i x (bl c);constructor
    ·intro e;simp only;rw[rl j,UN,VZ,U0 c,VZ,U0 m,Za _ _ (by omega),Ug,We,Wj,zx (by simp[e]),Ve (by omega)]
    ·intro e;simp only
     rw[rl j,UN,VZ,U0 c,VZ,U0 m,Za _ _ (by omega),Ug,We,Wj,zy e]) (by simp only;rw[re];rfl)
  refine Vx z ?_;simp only[ao _ _ (show D.length<=9223372036854775806 by omega),ao _ _ (show F.length<=9223372036854775806 by omega),jm _ _ (show E.length<=9223372036854775806 by omega),Za _ _ (show G.length<=9223372036854775806 by omega),Ug,Wj,XS,aJ,beq_eq,bX,Z6,Uh];rw[VM];rcases h with⟨e,h⟩|⟨e,h,I⟩
  ·rw[zx (show ¬ r.1=0 by omega)]
   repeat' split
   all_goals simp_all
  simp_all
 ·rw[zx d];have:¬ a=b:=λe=>d (by rw[e]);simp[this]
end
end Go.Proofs.YtoefnfbpoabinaaGreatDoor.Pl
