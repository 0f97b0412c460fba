/- Functions of the program and of the specification as plain functions, and laws about them. No condition. -/
import Derived.Test.YtiehjicadcamiaaGreatPl0
set_option linter.all false
open List renaming append_assoc->bc, append_nil->ci, drop_zero->sr, getElem?_eq_none->ab, getElem?_eq_some_iff->aa, getElem_mem->iz, head?_drop->ol, length_cons->ae, length_nil->a8, mem_cons->bl, mem_of_getElem?->ad, tail_drop->l5, take_add_one->hV, take_length->wl
open Nat renaming le_refl->a9, lt_of_not_le->lc
open Int renaming mul_le_mul->xo, zero_add->tk
open Bool renaming and_eq_true->u3, false_eq_true->fl, or_eq_true->xb
open Prod renaming ext->s9
open Option renaming some->zo, none->zn
open Bool renaming true->zt, false->zf
namespace Go.Proofs.YtiehjicadcamiaaGreat.Pl
section
open Go Sv
abbrev VI:=(Int×(Int×(Int×X3)))
def ZZ(a:X3)(k l:Nat):X3:=
 (Tl (neq l 0) (SV .i64 (Hz [a.1,a.2.1,a.2.2.1,a.2.2.2.1,a.2.2.2.2.1,a.2.2.2.2.2.1,a.2.2.2.2.2.2.1,a.2.2.2.2.2.2.2.1,a.2.2.2.2.2.2.2.2.1,a.2.2.2.2.2.2.2.2.2.1,a.2.2.2.2.2.2.2.2.2.2.1,a.2.2.2.2.2.2.2.2.2.2.2] k) 1) a.1,(Tl (neq l 1) (SV .i64 (Hz [a.1,a.2.1,a.2.2.1,a.2.2.2.1,a.2.2.2.2.1,a.2.2.2.2.2.1,a.2.2.2.2.2.2.1,a.2.2.2.2.2.2.2.1,a.2.2.2.2.2.2.2.2.1,a.2.2.2.2.2.2.2.2.2.1,a.2.2.2.2.2.2.2.2.2.2.1,a.2.2.2.2.2.2.2.2.2.2.2] k) 1) a.2.1,(Tl (neq l 2) (SV .i64 (Hz [a.1,a.2.1,a.2.2.1,a.2.2.2.1,a.2.2.2.2.1,a.2.2.2.2.2.1,a.2.2.2.2.2.2.1,a.2.2.2.2.2.2.2.1,a.2.2.2.2.2.2.2.2.1,a.2.2.2.2.2.2.2.2.2.1,a.2.2.2.2.2.2.2.2.2.2.1,a.2.2.2.2.2.2.2.2.2.2.2] k) 1) a.2.2.1,(Tl (neq l 3) (SV .i64 (Hz [a.1,a.2.1,a.2.2.1,a.2.2.2.1,a.2.2.2.2.1,a.2.2.2.2.2.1,a.2.2.2.2.2.2.1,a.2.2.2.2.2.2.2.1,a.2.2.2.2.2.2.2.2.1,a.2.2.2.2.2.2.2.2.2.1,a.2.2.2.2.2.2.2.2.2.2.1,a.2.2.2.2.2.2.2.2.2.2.2] k) 1) a.2.2.2.1,(Tl (neq l 4) (SV .i64 (Hz [a.1,a.2.1,a.2.2.1,a.2.2.2.1,a.2.2.2.2.1,a.2.2.2.2.2.1,a.2.2.2.2.2.2.1,a.2.2.2.2.2.2.2.1,a.2.2.2.2.2.2.2.2.1,a.2.2.2.2.2.2.2.2.2.1,a.2.2.2.2.2.2.2.2.2.2.1,a.2.2.2.2.2.2.2.2.2.2.2] k) 1) a.2.2.2.2.1,(Tl (neq l 5) (SV .i64 (Hz [a.1,a.2.1,a.2.2.1,a.2.2.2.1,a.2.2.2.2.1,a.2.2.2.2.2.1,a.2.2.2.2.2.2.1,a.2.2.2.2.2.2.2.1,a.2.2.2.2.2.2.2.2.1,a.2.2.2.2.2.2.2.2.2.1,a.2.2.2.2.2.2.2.2.2.2.1,a.2.2.2.2.2.2.2.2.2.2.2] k) 1) a.2.2.2.2.2.1,(Tl (neq l 6) (SV .i64 (Hz [a.1,a.2.1,a.2.2.1,a.2.2.2.1,a.2.2.2.2.1,a.2.2.2.2.2.1,a.2.2.2.2.2.2.1,a.2.2.2.2.2.2.2.1,a.2.2.2.2.2.2.2.2.1,a.2.2.2.2.2.2.2.2.2.1,a.2.2.2.2.2.2.2.2.2.2.1,a.2.2.2.2.2.2.2.2.2.2.2] k) 1) a.2.2.2.2.2.2.1,(Tl (neq l 7) (SV .i64 (Hz [a.1,a.2.1,a.2.2.1,a.2.2.2.1,a.2.2.2.2.1,a.2.2.2.2.2.1,a.2.2.2.2.2.2.1,a.2.2.2.2.2.2.2.1,a.2.2.2.2.2.2.2.2.1,a.2.2.2.2.2.2.2.2.2.1,a.2.2.2.2.2.2.2.2.2.2.1,a.2.2.2.2.2.2.2.2.2.2.2] k) 1) a.2.2.2.2.2.2.2.1,(Tl (neq l 8) (SV .i64 (Hz [a.1,a.2.1,a.2.2.1,a.2.2.2.1,a.2.2.2.2.1,a.2.2.2.2.2.1,a.2.2.2.2.2.2.1,a.2.2.2.2.2.2.2.1,a.2.2.2.2.2.2.2.2.1,a.2.2.2.2.2.2.2.2.2.1,a.2.2.2.2.2.2.2.2.2.2.1,a.2.2.2.2.2.2.2.2.2.2.2] k) 1) a.2.2.2.2.2.2.2.2.1,(Tl (neq l 9) (SV .i64 (Hz [a.1,a.2.1,a.2.2.1,a.2.2.2.1,a.2.2.2.2.1,a.2.2.2.2.2.1,a.2.2.2.2.2.2.1,a.2.2.2.2.2.2.2.1,a.2.2.2.2.2.2.2.2.1,a.2.2.2.2.2.2.2.2.2.1,a.2.2.2.2.2.2.2.2.2.2.1,a.2.2.2.2.2.2.2.2.2.2.2] k) 1) a.2.2.2.2.2.2.2.2.2.1,(Tl (neq l 10) (SV .i64 (Hz [a.1,a.2.1,a.2.2.1,a.2.2.2.1,a.2.2.2.2.1,a.2.2.2.2.2.1,a.2.2.2.2.2.2.1,a.2.2.2.2.2.2.2.1,a.2.2.2.2.2.2.2.2.1,a.2.2.2.2.2.2.2.2.2.1,a.2.2.2.2.2.2.2.2.2.2.1,a.2.2.2.2.2.2.2.2.2.2.2] k) 1) a.2.2.2.2.2.2.2.2.2.2.1,Tl (neq l 11) (SV .i64 (Hz [a.1,a.2.1,a.2.2.1,a.2.2.2.1,a.2.2.2.2.1,a.2.2.2.2.2.1,a.2.2.2.2.2.2.1,a.2.2.2.2.2.2.2.1,a.2.2.2.2.2.2.2.2.1,a.2.2.2.2.2.2.2.2.2.1,a.2.2.2.2.2.2.2.2.2.2.1,a.2.2.2.2.2.2.2.2.2.2.2] k) 1) a.2.2.2.2.2.2.2.2.2.2.2)))))))))))
def tM(a b:X3):Bool:=
 Nr (Og a.1 b.1) (Nr (Og a.2.1 b.2.1) (Nr (Og a.2.2.1 b.2.2.1) (Nr (Og a.2.2.2.1 b.2.2.2.1) (Nr (Og a.2.2.2.2.1 b.2.2.2.2.1) (Nr (Og a.2.2.2.2.2.1 b.2.2.2.2.2.1) (Nr (Og a.2.2.2.2.2.2.1 b.2.2.2.2.2.2.1) (Nr (Og a.2.2.2.2.2.2.2.1 b.2.2.2.2.2.2.2.1) (Nr (Og a.2.2.2.2.2.2.2.2.1 b.2.2.2.2.2.2.2.2.1) (Nr (Og a.2.2.2.2.2.2.2.2.2.1 b.2.2.2.2.2.2.2.2.2.1) (Nr (Og a.2.2.2.2.2.2.2.2.2.2.1 b.2.2.2.2.2.2.2.2.2.2.1) (Nr (Og a.2.2.2.2.2.2.2.2.2.2.2 b.2.2.2.2.2.2.2.2.2.2.2) (zt))))))))))))
def W1(x:Unit):Option qS:=
 bd (aw ((2,[[(1,[([(97:UInt8)],([],(zf,1)))]),(2,[([(98:UInt8)],([],(zf,2)))])]]))) λa=>zo a.1
def Vi(x:(Int×Bool)):Option Unit:=
 zo ()
def ZG(x:(qS×Int)):Option (qS×(VI×Int)):=
 bd (VE x.1) λi=>br (SD i.2 0) (λ_=>br (SD i.2 0) (λ_=>zo ((((0,[]),([],0)),((0,(0,(0,(0,(0,(0,(0,(0,(0,(0,(0,(0,(0,(0,0)))))))))))))),i.2)))) λ_=>br (TI x.2 0) (λ_=>bd (loop (β:=(Nat×(Unit×Unit))) (λs1=>zn) ()) λj=>zn) λ_=>zn) λ_=>br (TK x.2 0) (λ_=>zo ((((0,[]),([],0)),((0,(0,(0,(0,(0,(0,(0,(0,(0,(0,(0,(0,(0,(0,0)))))))))))))),7)))) λ_=>br (TI x.2 1000000) (λ_=>zo ((((0,[]),([],0)),((0,(0,(0,(0,(0,(0,(0,(0,(0,(0,(0,(0,(0,(0,0)))))))))))))),7)))) λ_=>br (TI x.2 0) (λ_=>bd (loop (λ(a:((Int×((List (List UX))×((List qJ)×(Int×Int))))×VI))=>bd (Ut (((a.1.1,a.1.2.1),(a.1.2.2.1,a.1.2.2.2.1)))) λd=>br (Og d.2 4) (λ_=>zo (.dn ((0,(a,()))))) λ_=>br (Og d.2 0) (λ_=>bd (Uj ((((a.1.1,a.1.2.1),(a.1.2.2.1,a.1.2.2.2.1)),d.1))) λc=>br (SD c.2.2 0) (λ_=>zo (.dn ((0,(((a.1.1,(a.1.2.1,(a.1.2.2.1,(a.1.2.2.2.1,c.2.2)))),a.2),()))))) λ_=>bd (Vi (d.1,c.2.1)) λk=>SG d.1 λg=>gd (Iq g 12) λ_=>SG d.1 λh=>gd (Iq h 12) λ_=>br c.2.1 (λ_=>br (Og (SV .i64 a.2.1 1) x.2) (λ_=>zo (.dn ((1,(((c.1.1.1,(c.1.1.2,(c.1.2.1,(c.1.2.2,c.2.2)))),(SV .i64 a.2.1 1,(a.2.2.1,(SV .i64 a.2.2.2.1 1,(ZZ a.2.2.2.2 g h))))),()))))) λ_=>zo (.nx (((c.1.1.1,(c.1.1.2,(c.1.2.1,(c.1.2.2,c.2.2)))),(SV .i64 a.2.1 1,(a.2.2.1,(SV .i64 a.2.2.2.1 1,(ZZ a.2.2.2.2 g h)))))))) λ_=>br (Og (SV .i64 a.2.1 1) x.2) (λ_=>zo (.dn ((1,(((c.1.1.1,(c.1.1.2,(c.1.2.1,(c.1.2.2,c.2.2)))),(SV .i64 a.2.1 1,(a.2.2.1,(a.2.2.2.1,(ZZ a.2.2.2.2 g h))))),()))))) λ_=>zo (.nx (((c.1.1.1,(c.1.1.2,(c.1.2.1,(c.1.2.2,c.2.2)))),(SV .i64 a.2.1 1,(a.2.2.1,(a.2.2.2.1,(ZZ a.2.2.2.2 g h)))))))) λ_=>br (SD d.2 0) (λ_=>zo (.dn ((0,(((a.1.1,(a.1.2.1,(a.1.2.2.1,(a.1.2.2.2.1,d.2)))),a.2),()))))) λ_=>bd (Vi (d.1,zf)) λl=>SG d.1 λe=>gd (Iq e 12) λ_=>SG d.1 λf=>gd (Iq f 12) λ_=>br (Og (SV .i64 a.2.1 1) x.2) (λ_=>zo (.dn ((1,(((0,([],([],(0,d.2)))),(SV .i64 a.2.1 1,(a.2.2.1,(a.2.2.2.1,(ZZ a.2.2.2.2 e f))))),()))))) λ_=>zo (.nx (((0,([],([],(0,d.2)))),(SV .i64 a.2.1 1,(a.2.2.1,(a.2.2.2.1,(ZZ a.2.2.2.2 e f)))))))) (((x.1.1.1,(x.1.1.2,(x.1.2.1,(x.1.2.2,0)))),(0,(0,(0,(0,(0,(0,(0,(0,(0,(0,(0,(0,(0,(0,0))))))))))))))))) λb=>br (neq b.1 0) (λ_=>br (SD b.2.1.1.2.2.2.2 0) (λ_=>zo ((((0,[]),([],0)),((0,(0,(0,(0,(0,(0,(0,(0,(0,(0,(0,(0,(0,(0,0)))))))))))))),b.2.1.1.2.2.2.2)))) λ_=>zo ((((b.2.1.1.1,b.2.1.1.2.1),(b.2.1.1.2.2.1,b.2.1.1.2.2.2.1)),((b.2.1.2.1,(SY .i64 x.2 b.2.1.2.1,b.2.1.2.2.2)),0)))) λ_=>br (SD b.2.1.1.2.2.2.2 0) (λ_=>zo ((((0,[]),([],0)),((0,(0,(0,(0,(0,(0,(0,(0,(0,(0,(0,(0,(0,(0,0)))))))))))))),b.2.1.1.2.2.2.2)))) λ_=>zo ((((b.2.1.1.1,b.2.1.1.2.1),(b.2.1.1.2.2.1,b.2.1.1.2.2.2.1)),((b.2.1.2.1,(SY .i64 x.2 b.2.1.2.1,b.2.1.2.2.2)),0)))) λ_=>zo ((x.1,((0,(SY .i64 x.2 0,(0,(0,(0,(0,(0,(0,(0,(0,(0,(0,(0,(0,0)))))))))))))),0)))
def ZF(x:(qS×Int)):Option ((List Int)×Int):=
 bd (VE x.1) λi=>br (SD i.2 0) (λ_=>br (SD i.2 0) (λ_=>zo ([],i.2)) λ_=>br (TI x.2 0) (λ_=>bd (loop (β:=(Nat×(Unit×Unit))) (λs1=>zn) ()) λj=>zn) λ_=>zn) λ_=>br (TK x.2 0) (λ_=>zo ([],7)) λ_=>br (TI x.2 1000000) (λ_=>zo ([],7)) λ_=>br (TI x.2 0) (λ_=>bd (loop (λ(a:((Int×((List (List UX))×((List qJ)×(Int×Int))))×((List Int)×VI)))=>bd (Ut (((a.1.1,a.1.2.1),(a.1.2.2.1,a.1.2.2.2.1)))) λc=>br (Og c.2 4) (λ_=>zo (.dn ((0,(a,()))))) λ_=>br (Og c.2 0) (λ_=>bd (Uj ((((a.1.1,a.1.2.1),(a.1.2.2.1,a.1.2.2.2.1)),c.1))) λb=>br (SD b.2.2 0) (λ_=>zo (.dn ((0,(((a.1.1,(a.1.2.1,(a.1.2.2.1,(a.1.2.2.2.1,b.2.2)))),a.2),()))))) λ_=>gd (CF (BC (AQ a.2.1) (AQ [c.1])) 1048576) λ_=>SG c.1 λe=>gd (Iq e 12) λ_=>SG c.1 λf=>gd (Iq f 12) λ_=>br b.2.1 (λ_=>br (Og (SV .i64 a.2.2.1 1) x.2) (λ_=>zo (.dn ((1,(((b.1.1.1,(b.1.1.2,(b.1.2.1,(b.1.2.2,b.2.2)))),(IN a.2.1 [c.1],(SV .i64 a.2.2.1 1,(a.2.2.2.1,(SV .i64 a.2.2.2.2.1 1,(ZZ a.2.2.2.2.2 e f)))))),()))))) λ_=>zo (.nx (((b.1.1.1,(b.1.1.2,(b.1.2.1,(b.1.2.2,b.2.2)))),(IN a.2.1 [c.1],(SV .i64 a.2.2.1 1,(a.2.2.2.1,(SV .i64 a.2.2.2.2.1 1,(ZZ a.2.2.2.2.2 e f))))))))) λ_=>br (Og (SV .i64 a.2.2.1 1) x.2) (λ_=>zo (.dn ((1,(((b.1.1.1,(b.1.1.2,(b.1.2.1,(b.1.2.2,b.2.2)))),(IN a.2.1 [c.1],(SV .i64 a.2.2.1 1,(a.2.2.2.1,(a.2.2.2.2.1,(ZZ a.2.2.2.2.2 e f)))))),()))))) λ_=>zo (.nx (((b.1.1.1,(b.1.1.2,(b.1.2.1,(b.1.2.2,b.2.2)))),(IN a.2.1 [c.1],(SV .i64 a.2.2.1 1,(a.2.2.2.1,(a.2.2.2.2.1,(ZZ a.2.2.2.2.2 e f))))))))) λ_=>br (SD c.2 0) (λ_=>zo (.dn ((0,(((a.1.1,(a.1.2.1,(a.1.2.2.1,(a.1.2.2.2.1,c.2)))),a.2),()))))) λ_=>gd (CF (BC (AQ a.2.1) (AQ [c.1])) 1048576) λ_=>SG c.1 λg=>gd (Iq g 12) λ_=>SG c.1 λh=>gd (Iq h 12) λ_=>br (Og (SV .i64 a.2.2.1 1) x.2) (λ_=>zo (.dn ((1,(((0,([],([],(0,c.2)))),(IN a.2.1 [c.1],(SV .i64 a.2.2.1 1,(a.2.2.2.1,(a.2.2.2.2.1,(ZZ a.2.2.2.2.2 g h)))))),()))))) λ_=>zo (.nx (((0,([],([],(0,c.2)))),(IN a.2.1 [c.1],(SV .i64 a.2.2.1 1,(a.2.2.2.1,(a.2.2.2.2.1,(ZZ a.2.2.2.2.2 g h))))))))) (((x.1.1.1,(x.1.1.2,(x.1.2.1,(x.1.2.2,0)))),([],(0,(0,(0,(0,(0,(0,(0,(0,(0,(0,(0,(0,(0,(0,0)))))))))))))))))) λd=>br (neq d.1 0) (λ_=>br (SD d.2.1.1.2.2.2.2 0) (λ_=>zo ([],d.2.1.1.2.2.2.2)) λ_=>zo (d.2.1.2.1,0)) λ_=>br (SD d.2.1.1.2.2.2.2 0) (λ_=>zo ([],d.2.1.1.2.2.2.2)) λ_=>zo (d.2.1.2.1,0)) λ_=>zo ([],0)
def Zd(x:(qS×Int)):Option (Int×Int):=
 bd (VE x.1) λd=>br (SD d.2 0) (λ_=>br (SD d.2 0) (λ_=>zo (0,d.2)) λ_=>br (TK x.2 0) (λ_=>zo (0,7)) λ_=>br (SC x.2 12) (λ_=>zo (0,7)) λ_=>bd (Wc x) λf=>br (SD f.2 0) (λ_=>zo (0,f.2)) λ_=>bd (loop (β:=(Nat×(Unit×Unit))) (λs2=>zn) ()) λh=>zn) λ_=>br (TK x.2 0) (λ_=>zo (0,7)) λ_=>br (SC x.2 12) (λ_=>zo (0,7)) λ_=>bd (Wc x) λg=>br (SD g.2 0) (λ_=>zo (0,g.2)) λ_=>bd (loop (λ(a:((Int×((List (List UX))×((List qJ)×(Int×Int))))×(Int×Int)))=>bd (Ut (((a.1.1,a.1.2.1),(a.1.2.2.1,a.1.2.2.2.1)))) λc=>br (Og c.2 4) (λ_=>zo (.dn ((0,(a,()))))) λ_=>br (Og c.2 0) (λ_=>bd (Uj ((((a.1.1,a.1.2.1),(a.1.2.2.1,a.1.2.2.2.1)),c.1))) λb=>br (SD b.2.2 0) (λ_=>zo (.dn ((0,(((a.1.1,(a.1.2.1,(a.1.2.2.1,(a.1.2.2.2.1,b.2.2)))),a.2),()))))) λ_=>br (Nr (Og c.1 x.2) (Nr (beq b.2.1 zt) zt)) (λ_=>zo (.dn ((1,(((b.1.1.1,(b.1.1.2,(b.1.2.1,(b.1.2.2,b.2.2)))),(SV .i64 a.2.1 1,0)),()))))) λ_=>zo (.nx (((b.1.1.1,(b.1.1.2,(b.1.2.1,(b.1.2.2,b.2.2)))),(SV .i64 a.2.1 1,a.2.2))))) λ_=>br (SD c.2 0) (λ_=>zo (.dn ((0,(((a.1.1,(a.1.2.1,(a.1.2.2.1,(a.1.2.2.2.1,c.2)))),a.2),()))))) λ_=>br (Nr (Og c.1 x.2) (Nr (beq zf zt) zt)) (λ_=>zo (.dn ((1,(((0,([],([],(0,c.2)))),(SV .i64 a.2.1 1,0)),()))))) λ_=>zo (.nx (((0,([],([],(0,c.2)))),(SV .i64 a.2.1 1,a.2.2))))) (((x.1.1.1,(x.1.1.2,(x.1.2.1,(x.1.2.2,0)))),(0,0)))) λe=>br (neq e.1 0) (λ_=>zo (0,e.2.1.1.2.2.2.2)) λ_=>zo e.2.1.2
def WL(x:Unit):Option Bool:=
 bd (W1 ()) λd=>bd (ZG (d,5)) λa=>bd (W1 ()) λe=>bd (ZF (e,5)) λb=>bd (W1 ()) λf=>bd (Zd (f,0)) λc=>br (Og a.2.2 0) (λ_=>br (Og b.2 0) (λ_=>br (Og c.2 0) (λ_=>br (Nr (Og a.2.1.1 3) (Nr (Og a.2.1.2.1 2) (Nr (Og a.2.1.2.2.1 1) (Nr (Nr (Og a.2.1.2.2.2.1 (Tl zt 3 0)) (Nr (Og a.2.1.2.2.2.2.1 (Tl zf 3 0)) (Nr (Og a.2.1.2.2.2.2.2.1 (Tl zf 3 0)) (Nr (Og a.2.1.2.2.2.2.2.2.1 (Tl zf 3 0)) (Nr (Og a.2.1.2.2.2.2.2.2.2.1 (Tl zf 3 0)) (Nr (Og a.2.1.2.2.2.2.2.2.2.2.1 (Tl zf 3 0)) (Nr (Og a.2.1.2.2.2.2.2.2.2.2.2.1 (Tl zf 3 0)) (Nr (Og a.2.1.2.2.2.2.2.2.2.2.2.2.1 (Tl zf 3 0)) (Nr (Og a.2.1.2.2.2.2.2.2.2.2.2.2.2.1 (Tl zf 3 0)) (Nr (Og a.2.1.2.2.2.2.2.2.2.2.2.2.2.2.1 (Tl zf 3 0)) (Nr (Og a.2.1.2.2.2.2.2.2.2.2.2.2.2.2.2.1 (Tl zf 3 0)) (Nr (Og a.2.1.2.2.2.2.2.2.2.2.2.2.2.2.2.2 (Tl zf 3 0)) zt)))))))))))) zt)))) (λ_=>br (Og (Ko (AQ a.1.2.1)) 0) (λ_=>br (Og (Ko (AQ b.1)) 3) (λ_=>zo (Og c.1 3)) λ_=>zo zf) λ_=>zo zf) λ_=>zo zf) λ_=>zo zf) λ_=>zo zf) λ_=>zo zf
def Vz(x:(qS×Int)):Option Int:=
 bd (VN x.1) λa=>br (Og a.2 0) (λ_=>br (TK x.2 0) (λ_=>zo 7) λ_=>br (TI x.2 1000000) (λ_=>zo 7) λ_=>zo a.2) λ_=>zo a.2
def WE(x:qS):Option (qS×(Int×(Bool×Int))):=
 bd (XS x) λa=>br (SD a.2 0) (λ_=>zo ((x,(0,(zf,a.2))))) λ_=>bd (Wp (x,a.1)) λb=>zo ((b.1,(a.1,b.2)))
def VS(x:(qS×Int)):Option (qS×(VI×((List Int)×Int))):=
 bd (loop (λ(s0:(Int×((List Int)×((List Int)×(qL×(qL×(VI×VI)))))))=>br (TK s0.2.2.2.2.2.2.1 x.2) (λ_=>bd (WE (((s0.2.2.2.2.1.1,s0.2.2.2.2.1.2.1),s0.2.2.2.2.1.2.2))) λa=>br (Og a.2.2.2 4) (λ_=>zo (.dn ((0,(s0,()))))) λ_=>br (SD a.2.2.2 0) (λ_=>zo (.dn ((1,((a.2.2.2,(s0.2.1,([],((0,([],([],0))),(s0.2.2.2.2.1,((0,(0,(0,(0,(0,(0,(0,(0,(0,(0,(0,(0,(0,(0,0)))))))))))))),s0.2.2.2.2.2.2)))))),()))))) λ_=>SG a.2.1 λc=>gd (Iq c 12) λ_=>SG a.2.1 λd=>gd (Iq d 12) λ_=>br a.2.2.1 (λ_=>gd (CF (BC (AQ s0.2.1) (AQ [a.2.1])) 1048576) λ_=>zo (.nx ((s0.1,(IN s0.2.1 [a.2.1],(s0.2.2.1,(s0.2.2.2.1,((a.1.1.1,(a.1.1.2,a.1.2)),(s0.2.2.2.2.2.1,(SV .i64 s0.2.2.2.2.2.2.1 1,(s0.2.2.2.2.2.2.2.1,(SV .i64 s0.2.2.2.2.2.2.2.2.1 1,(ZZ s0.2.2.2.2.2.2.2.2.2 c d))))))))))))) λ_=>gd (CF (BC (AQ s0.2.1) (AQ [a.2.1])) 1048576) λ_=>zo (.nx ((s0.1,(IN s0.2.1 [a.2.1],(s0.2.2.1,(s0.2.2.2.1,((a.1.1.1,(a.1.1.2,a.1.2)),(s0.2.2.2.2.2.1,(SV .i64 s0.2.2.2.2.2.2.1 1,(s0.2.2.2.2.2.2.2.1,(s0.2.2.2.2.2.2.2.2.1,(ZZ s0.2.2.2.2.2.2.2.2.2 c d))))))))))))) λ_=>zo (.dn ((0,(s0,()))))) ((0,([],([],((0,([],([],0))),((x.1.1.1,(x.1.1.2,x.1.2)),((0,(0,(0,(0,(0,(0,(0,(0,(0,(0,(0,(0,(0,(0,0)))))))))))))),(0,(0,(0,(0,(0,(0,(0,(0,(0,(0,(0,(0,(0,(0,0)))))))))))))))))))))) λb=>br (neq b.1 0) (λ_=>zo ((((b.2.1.2.2.2.2.1.1,b.2.1.2.2.2.2.1.2.1),b.2.1.2.2.2.2.1.2.2),((b.2.1.2.2.2.2.2.2.1,(SY .i64 x.2 b.2.1.2.2.2.2.2.2.1,b.2.1.2.2.2.2.2.2.2.2)),(b.2.1.2.1,0))))) λ_=>zo ((((b.2.1.2.2.2.1.1,b.2.1.2.2.2.1.2.1),b.2.1.2.2.2.1.2.2),(b.2.1.2.2.2.2.2.1,(b.2.1.2.2.1,b.2.1.1))))
def U7(x:(qS×(List Int))):Option (qS×((List VI)×Int)):=
 bd (VE x.1) λp=>br (SD p.2 0) (λ_=>br (SD p.2 0) (λ_=>zo ((((0,[]),([],0)),([],p.2)))) λ_=>bd (loop (λ(s1:((List VI)×(Int×Int)))=>br (TK s1.2.2 (Ko (AQ x.2))) (λ_=>SG s1.2.2 λu=>ix x.2 u λs=>br (TI s 0) (λ_=>bd (loop (β:=(Nat×(Unit×Unit))) (λF=>zn) ()) λD=>zn) λ_=>gd (CF (BC (AQ s1.1) (AQ ([(0,(SY .i64 s 0,(0,(0,(0,(0,(0,(0,(0,(0,(0,(0,(0,(0,0))))))))))))))]))) 1048576) λ_=>zn) λ_=>zo (.dn ((0,(s1,()))))) (([],(p.2,0)))) λE=>zn) λ_=>br (TI (Ko (AQ x.2)) 200) (λ_=>zo ((((0,[]),([],0)),([],3)))) λ_=>bd (loop (λl=>br (TK l.1 (Ko (AQ x.2))) (λ_=>SG l.1 λw=>ix x.2 w λt=>br (TK t 0) (λ_=>zo (.dn ((0,((l.1,(7,())),()))))) λ_=>br (TI t 1000000) (λ_=>zo (.dn ((0,((l.1,(7,())),()))))) λ_=>zo (.nx ((SV .i64 l.1 1,(l.2.1,()))))) λ_=>zo (.dn ((1,((l.1,(l.2.1,())),()))))) ((0,(0,())))) λj=>br (neq j.1 0) (λ_=>br (SD j.2.1.2.1 0) (λ_=>zo ((((0,[]),([],0)),([],j.2.1.2.1)))) λ_=>bd (loop (λ(k:((List VI)×(Int×Int)))=>br (TK k.2.2 (Ko (AQ x.2))) (λ_=>SG k.2.2 λq=>ix x.2 q λo=>br (TI o 0) (λ_=>bd (loop (β:=(Nat×(Unit×Unit))) (λC=>zn) ()) λy=>zn) λ_=>gd (CF (BC (AQ k.1) (AQ ([(0,(SY .i64 o 0,(0,(0,(0,(0,(0,(0,(0,(0,(0,(0,(0,(0,0))))))))))))))]))) 1048576) λ_=>zn) λ_=>zo (.dn ((0,(k,()))))) (([],(j.2.1.2.1,0)))) λz=>zn) λ_=>bd (loop (λ(b:((List VI)×(Int×(Int×((Int×((List (List UX))×((List qJ)×(Int×Int))))×qL)))))=>br (TK b.2.2.1 (Ko (AQ x.2))) (λ_=>SG b.2.2.1 λr=>ix x.2 r λg=>br (TI g 0) (λ_=>bd (loop (λ(a:((Int×((List (List UX))×((List qJ)×(Int×Int))))×VI))=>bd (Ut (((a.1.1,a.1.2.1),(a.1.2.2.1,a.1.2.2.2.1)))) λe=>br (Og e.2 4) (λ_=>zo (.dn ((0,(a,()))))) λ_=>br (Og e.2 0) (λ_=>bd (Uj ((((a.1.1,a.1.2.1),(a.1.2.2.1,a.1.2.2.2.1)),e.1))) λc=>br (SD c.2.2 0) (λ_=>zo (.dn ((0,(((a.1.1,(a.1.2.1,(a.1.2.2.1,(a.1.2.2.2.1,c.2.2)))),a.2),()))))) λ_=>bd (Vi (e.1,c.2.1)) λA=>SG e.1 λh=>gd (Iq h 12) λ_=>SG e.1 λi=>gd (Iq i 12) λ_=>br c.2.1 (λ_=>br (Og (SV .i64 a.2.1 1) g) (λ_=>zo (.dn ((1,(((c.1.1.1,(c.1.1.2,(c.1.2.1,(c.1.2.2,c.2.2)))),(SV .i64 a.2.1 1,(a.2.2.1,(SV .i64 a.2.2.2.1 1,(ZZ a.2.2.2.2 h i))))),()))))) λ_=>zo (.nx (((c.1.1.1,(c.1.1.2,(c.1.2.1,(c.1.2.2,c.2.2)))),(SV .i64 a.2.1 1,(a.2.2.1,(SV .i64 a.2.2.2.1 1,(ZZ a.2.2.2.2 h i)))))))) λ_=>br (Og (SV .i64 a.2.1 1) g) (λ_=>zo (.dn ((1,(((c.1.1.1,(c.1.1.2,(c.1.2.1,(c.1.2.2,c.2.2)))),(SV .i64 a.2.1 1,(a.2.2.1,(a.2.2.2.1,(ZZ a.2.2.2.2 h i))))),()))))) λ_=>zo (.nx (((c.1.1.1,(c.1.1.2,(c.1.2.1,(c.1.2.2,c.2.2)))),(SV .i64 a.2.1 1,(a.2.2.1,(a.2.2.2.1,(ZZ a.2.2.2.2 h i)))))))) λ_=>br (SD e.2 0) (λ_=>zo (.dn ((0,(((a.1.1,(a.1.2.1,(a.1.2.2.1,(a.1.2.2.2.1,e.2)))),a.2),()))))) λ_=>bd (Vi (e.1,zf)) λB=>SG e.1 λm=>gd (Iq m 12) λ_=>SG e.1 λn=>gd (Iq n 12) λ_=>br (Og (SV .i64 a.2.1 1) g) (λ_=>zo (.dn ((1,(((0,([],([],(0,e.2)))),(SV .i64 a.2.1 1,(a.2.2.1,(a.2.2.2.1,(ZZ a.2.2.2.2 m n))))),()))))) λ_=>zo (.nx (((0,([],([],(0,e.2)))),(SV .i64 a.2.1 1,(a.2.2.1,(a.2.2.2.1,(ZZ a.2.2.2.2 m n)))))))) ((b.2.2.2.1,(0,(0,(0,(0,(0,(0,(0,(0,(0,(0,(0,(0,(0,(0,0))))))))))))))))) λd=>br (neq d.1 0) (λ_=>gd (CF (BC (AQ b.1) (AQ ([(d.2.1.2.1,(SY .i64 g d.2.1.2.1,d.2.1.2.2.2))]))) 1048576) λ_=>br (SD d.2.1.1.2.2.2.2 0) (λ_=>zo (.dn ((1,(([],(d.2.1.1.2.2.2.2,(b.2.2.1,(d.2.1.1,b.2.2.2.2)))),()))))) λ_=>zo (.nx ((IN b.1 ([(d.2.1.2.1,(SY .i64 g d.2.1.2.1,d.2.1.2.2.2))]),(b.2.1,(SV .i64 b.2.2.1 1,(d.2.1.1,b.2.2.2.2))))))) λ_=>gd (CF (BC (AQ b.1) (AQ ([(d.2.1.2.1,(SY .i64 g d.2.1.2.1,d.2.1.2.2.2))]))) 1048576) λ_=>br (SD d.2.1.1.2.2.2.2 0) (λ_=>zo (.dn ((1,(([],(d.2.1.1.2.2.2.2,(b.2.2.1,(d.2.1.1,b.2.2.2.2)))),()))))) λ_=>zo (.nx ((IN b.1 ([(d.2.1.2.1,(SY .i64 g d.2.1.2.1,d.2.1.2.2.2))]),(b.2.1,(SV .i64 b.2.2.1 1,(d.2.1.1,b.2.2.2.2))))))) λ_=>gd (CF (BC (AQ b.1) (AQ ([(0,(SY .i64 g 0,(0,(0,(0,(0,(0,(0,(0,(0,(0,(0,(0,(0,0))))))))))))))]))) 1048576) λ_=>br (SD b.2.2.2.1.2.2.2.2 0) (λ_=>zo (.dn ((1,(([],(b.2.2.2.1.2.2.2.2,b.2.2)),()))))) λ_=>zo (.nx ((IN b.1 ([(0,(SY .i64 g 0,(0,(0,(0,(0,(0,(0,(0,(0,(0,(0,(0,(0,0))))))))))))))]),(b.2.1,(SV .i64 b.2.2.1 1,b.2.2.2)))))) λ_=>zo (.dn ((0,(b,()))))) (([],(0,(0,((x.1.1.1,(x.1.1.2,(x.1.2.1,(x.1.2.2,0)))),(0,([],([],0))))))))) λf=>br (neq f.1 0) (λ_=>zo ((((f.2.1.2.2.2.1.1,f.2.1.2.2.2.1.2.1),(f.2.1.2.2.2.1.2.2.1,f.2.1.2.2.2.1.2.2.2.1)),(f.2.1.1,0)))) λ_=>zo ((((f.2.1.2.2.2.2.1,f.2.1.2.2.2.2.2.1),f.2.1.2.2.2.2.2.2),(f.2.1.1,f.2.1.2.1)))
end
section
open Go Sv
end
section
open Go Sv
end
section
open Go Sv
def YU(a:X3):List Int:=[a.1,a.2.1,a.2.2.1,a.2.2.2.1,a.2.2.2.2.1,a.2.2.2.2.2.1,a.2.2.2.2.2.2.1,a.2.2.2.2.2.2.2.1,a.2.2.2.2.2.2.2.2.1,a.2.2.2.2.2.2.2.2.2.1,a.2.2.2.2.2.2.2.2.2.2.1,a.2.2.2.2.2.2.2.2.2.2.2]
def tK(a:X3)(k l:Nat)(v:Int):X3:=
 (Tl (neq l 0) (SV .i64 (Hz (YU a) k) v) a.1,(Tl (neq l 1) (SV .i64 (Hz (YU a) k) v) a.2.1,(Tl (neq l 2) (SV .i64 (Hz (YU a) k) v) a.2.2.1,(Tl (neq l 3) (SV .i64 (Hz (YU a) k) v) a.2.2.2.1,(Tl (neq l 4) (SV .i64 (Hz (YU a) k) v) a.2.2.2.2.1,(Tl (neq l 5) (SV .i64 (Hz (YU a) k) v) a.2.2.2.2.2.1,(Tl (neq l 6) (SV .i64 (Hz (YU a) k) v) a.2.2.2.2.2.2.1,(Tl (neq l 7) (SV .i64 (Hz (YU a) k) v) a.2.2.2.2.2.2.2.1,(Tl (neq l 8) (SV .i64 (Hz (YU a) k) v) a.2.2.2.2.2.2.2.2.1,(Tl (neq l 9) (SV .i64 (Hz (YU a) k) v) a.2.2.2.2.2.2.2.2.2.1,(Tl (neq l 10) (SV .i64 (Hz (YU a) k) v) a.2.2.2.2.2.2.2.2.2.2.1,Tl (neq l 11) (SV .i64 (Hz (YU a) k) v) a.2.2.2.2.2.2.2.2.2.2.2)))))))))))
def wE(a:X3):Bool:=Nr (Og a.1 0) (Nr (Og a.2.1 0) (Nr (Og a.2.2.1 0) (Nr (Og a.2.2.2.1 0) (Nr (Og a.2.2.2.2.1 0) (Nr (Og a.2.2.2.2.2.1 0) (Nr (Og a.2.2.2.2.2.2.1 0) (Nr (Og a.2.2.2.2.2.2.2.1 0) (Nr (Og a.2.2.2.2.2.2.2.2.1 0) (Nr (Og a.2.2.2.2.2.2.2.2.2.1 0) (Nr (Og a.2.2.2.2.2.2.2.2.2.2.1 0) (Nr (Og a.2.2.2.2.2.2.2.2.2.2.2 0) (zt))))))))))))
def We(x:(qS×(List Int))):Option (qS×((List VI)×Int)):=
 bd (VN x.1) λr=>br (Og r.2 0) (λ_=>br (TI (Ko (AQ x.2)) 200) (λ_=>bd (loop (λs1=>br (TK s1.1 (Ko (AQ x.2))) (λ_=>br (Og s1.2 0) (λ_=>SG s1.1 λB=>ix x.2 B λE=>bd (Vz (x.1,E)) λD=>zo (.nx (SV .i64 s1.1 1,D))) λ_=>zo (.dn ((0,(s1,()))))) λ_=>zo (.dn ((0,(s1,()))))) (0,3)) λA=>br (SD A.2.1.2 0) (λ_=>zo ((((0,[]),([],0)),([],A.2.1.2)))) λ_=>bd (loop (λ(h:(Int×((List VI)×(Int×((List VI)×(qL×qL))))))=>br (TK h.1 (Ko (AQ x.2))) (λ_=>SG h.1 λC=>ix x.2 C λF=>bd (VS ((((h.2.2.2.2.2.1,h.2.2.2.2.2.2.1),h.2.2.2.2.2.2.2),F))) λk=>br (SD k.2.2.2 0) (λ_=>zo (.dn ((1,((h.1,([],(k.2.2.2,(h.2.2.2.1,((0,([],([],0))),h.2.2.2.2.2))))),()))))) λ_=>gd (CF (BC (AQ h.2.2.2.1) (AQ [k.2.1])) 1048576) λ_=>zo (.nx ((SV .i64 h.1 1,(h.2.1,(h.2.2.1,(IN h.2.2.2.1 [k.2.1],(h.2.2.2.2.1,(k.1.1.1,(k.1.1.2,k.1.2)))))))))) λ_=>zo (.dn ((0,(h,()))))) ((0,([],(0,([],((0,([],([],0))),(x.1.1.1,(x.1.1.2,x.1.2))))))))) λc=>br (neq c.1 0) (λ_=>zo ((((c.2.1.2.2.2.2.2.1,c.2.1.2.2.2.2.2.2.1),c.2.1.2.2.2.2.2.2.2),(c.2.1.2.2.2.1,0)))) λ_=>zo ((((c.2.1.2.2.2.2.1.1,c.2.1.2.2.2.2.1.2.1),c.2.1.2.2.2.2.1.2.2),(c.2.1.2.1,c.2.1.2.2.1)))) λ_=>bd (loop (λi=>br (TK i.1 (Ko (AQ x.2))) (λ_=>br (Og i.2 0) (λ_=>SG i.1 λn=>ix x.2 n λu=>bd (Vz (x.1,u)) λs=>zo (.nx (SV .i64 i.1 1,s))) λ_=>zo (.dn ((0,(i,()))))) λ_=>zo (.dn ((0,(i,()))))) (0,r.2)) λl=>br (SD l.2.1.2 0) (λ_=>zo ((((0,[]),([],0)),([],l.2.1.2)))) λ_=>bd (loop (λ(a:(Int×((List VI)×(Int×((List VI)×(qL×qL))))))=>br (TK a.1 (Ko (AQ x.2))) (λ_=>SG a.1 λo=>ix x.2 o λw=>bd (VS ((((a.2.2.2.2.2.1,a.2.2.2.2.2.2.1),a.2.2.2.2.2.2.2),w))) λf=>br (SD f.2.2.2 0) (λ_=>zo (.dn ((1,((a.1,([],(f.2.2.2,(a.2.2.2.1,((0,([],([],0))),a.2.2.2.2.2))))),()))))) λ_=>gd (CF (BC (AQ a.2.2.2.1) (AQ [f.2.1])) 1048576) λ_=>zo (.nx ((SV .i64 a.1 1,(a.2.1,(a.2.2.1,(IN a.2.2.2.1 [f.2.1],(a.2.2.2.2.1,(f.1.1.1,(f.1.1.2,f.1.2)))))))))) λ_=>zo (.dn ((0,(a,()))))) ((0,([],(0,([],((0,([],([],0))),(x.1.1.1,(x.1.1.2,x.1.2))))))))) λd=>br (neq d.1 0) (λ_=>zo ((((d.2.1.2.2.2.2.2.1,d.2.1.2.2.2.2.2.2.1),d.2.1.2.2.2.2.2.2.2),(d.2.1.2.2.2.1,0)))) λ_=>zo ((((d.2.1.2.2.2.2.1.1,d.2.1.2.2.2.2.1.2.1),d.2.1.2.2.2.2.1.2.2),(d.2.1.2.1,d.2.1.2.2.1)))) λ_=>bd (loop (λj=>br (TK j.1 (Ko (AQ x.2))) (λ_=>br (Og j.2 0) (λ_=>SG j.1 λp=>ix x.2 p λy=>bd (Vz (x.1,y)) λt=>zo (.nx (SV .i64 j.1 1,t))) λ_=>zo (.dn ((0,(j,()))))) λ_=>zo (.dn ((0,(j,()))))) (0,r.2)) λm=>br (SD m.2.1.2 0) (λ_=>zo ((((0,[]),([],0)),([],m.2.1.2)))) λ_=>bd (loop (λ(b:(Int×((List VI)×(Int×((List VI)×(qL×qL))))))=>br (TK b.1 (Ko (AQ x.2))) (λ_=>SG b.1 λq=>ix x.2 q λz=>bd (VS ((((b.2.2.2.2.2.1,b.2.2.2.2.2.2.1),b.2.2.2.2.2.2.2),z))) λg=>br (SD g.2.2.2 0) (λ_=>zo (.dn ((1,((b.1,([],(g.2.2.2,(b.2.2.2.1,((0,([],([],0))),b.2.2.2.2.2))))),()))))) λ_=>gd (CF (BC (AQ b.2.2.2.1) (AQ [g.2.1])) 1048576) λ_=>zo (.nx ((SV .i64 b.1 1,(b.2.1,(b.2.2.1,(IN b.2.2.2.1 [g.2.1],(b.2.2.2.2.1,(g.1.1.1,(g.1.1.2,g.1.2)))))))))) λ_=>zo (.dn ((0,(b,()))))) ((0,([],(0,([],((0,([],([],0))),(x.1.1.1,(x.1.1.2,x.1.2))))))))) λe=>br (neq e.1 0) (λ_=>zo ((((e.2.1.2.2.2.2.2.1,e.2.1.2.2.2.2.2.2.1),e.2.1.2.2.2.2.2.2.2),(e.2.1.2.2.2.1,0)))) λ_=>zo ((((e.2.1.2.2.2.2.1.1,e.2.1.2.2.2.2.1.2.1),e.2.1.2.2.2.2.1.2.2),(e.2.1.2.1,e.2.1.2.2.1)))
def XI(x:((List VI)×(List VI))):Option Bool:=
 br (SD (Ko (AQ x.1)) (Ko (AQ x.2))) (λ_=>zo zf) λ_=>bd (loop (λs0=>br (TK s0.1 (Ko (AQ x.1))) (λ_=>SG s0.1 λd=>ix x.1 d λa=>SG s0.1 λe=>ix x.2 e λb=>br (H2 (Nr (Og a.1 b.1) (Nr (Og a.2.1 b.2.1) (Nr (Og a.2.2.1 b.2.2.1) (Nr (tM a.2.2.2 b.2.2.2) zt))))) (λ_=>zo (.dn ((0,((s0.1,zf),()))))) λ_=>zo (.nx (SV .i64 s0.1 1,s0.2))) λ_=>zo (.dn ((1,(s0,()))))) (0,zf)) λc=>br (neq c.1 0) (λ_=>zo c.2.1.2) λ_=>zo zt
def XF(x:(List VI)):Option (VI×Int):=
 br (TI (Ko (AQ x)) 200) (λ_=>zo (((0,(0,(0,(0,(0,(0,(0,(0,(0,(0,(0,(0,(0,(0,0)))))))))))))),3))) λ_=>bd (loop (λs0=>br (TK s0.2.1 (Ko (AQ x))) (λ_=>SG s0.2.1 λl=>ix x l λa=>gd (CF (BC (AQ ([a.1,a.2.1,a.2.2.1])) (AQ (YU a.2.2.2))) 1048576) λ_=>bd (loop (λd=>br (TK d.2 (Ko (AQ (IN ([a.1,a.2.1,a.2.2.1]) (YU a.2.2.2))))) (λ_=>SG d.2 λg=>gd (Iq g (AQ (IN ([a.1,a.2.1,a.2.2.1]) (YU a.2.2.2)))) λ_=>ix (IN ([a.1,a.2.1,a.2.2.1]) (YU a.2.2.2)) g λk=>br (TK k 0) (λ_=>zo (.dn ((0,((zf,d.2),()))))) λ_=>br (TI k 1000000) (λ_=>zo (.dn ((0,((zf,d.2),()))))) λ_=>zo (.nx (d.1,SV .i64 d.2 1))) λ_=>zo (.dn ((1,(d,()))))) (zf,0)) λj=>br (neq j.1 0) (λ_=>br (H2 j.2.1.1) (λ_=>zo (.dn ((1,((7,(s0.2.1,((0,(0,(0,(0,(0,(0,(0,(0,(0,(0,(0,(0,(0,(0,0)))))))))))))),s0.2.2.2))),()))))) λ_=>zo (.nx ((s0.1,(SV .i64 s0.2.1 1,s0.2.2))))) λ_=>br (H2 (wE a.2.2.2)) (λ_=>bd (PU (λb=>br (TK b.1 12) (λ_=>SG b.1 λh=>gd (Iq h 12) λ_=>SG b.1 λi=>gd (Iq i 12) λ_=>SG b.1 λe=>gd (Iq e 12) λ_=>zo (.nx ((SV .i64 b.1 1,(b.2.1,(b.2.2.1,(b.2.2.2.1,(tK b.2.2.2.2 i e (Hz (YU a.2.2.2) h))))))))) λ_=>zo (.dn ((0,(b,()))))) ((0,(SV .i64 s0.2.2.2.1 a.1,(SV .i64 s0.2.2.2.2.1 a.2.1,(SV .i64 s0.2.2.2.2.2.1 a.2.2.1,s0.2.2.2.2.2.2)))))) λf=>zo (.nx ((s0.1,(SV .i64 s0.2.1 1,(s0.2.2.1,f.2.1.2)))))) λ_=>zo (.nx ((s0.1,(SV .i64 s0.2.1 1,(s0.2.2.1,(SV .i64 s0.2.2.2.1 a.1,(SV .i64 s0.2.2.2.2.1 a.2.1,(SV .i64 s0.2.2.2.2.2.1 a.2.2.1,s0.2.2.2.2.2.2))))))))) λ_=>zo (.dn ((0,(s0,()))))) ((0,(0,((0,(0,(0,(0,(0,(0,(0,(0,(0,(0,(0,(0,(0,(0,0)))))))))))))),(0,(0,(0,(0,(0,(0,(0,(0,(0,(0,(0,(0,(0,(0,0))))))))))))))))))) λc=>br (neq c.1 0) (λ_=>zo (c.2.1.2.2.2,0)) λ_=>zo (c.2.1.2.2.1,c.2.1.1)
def VO(x:Int):Option Bool:=
 br (SC x 0) (λ_=>zo (TJ x 1000000)) λ_=>zo zf
def Xv(x:(List VI)):Option (VI×Int):=
 br (TI (Ko (AQ x)) 200) (λ_=>zo (((0,(0,(0,(0,(0,(0,(0,(0,(0,(0,(0,(0,(0,(0,0)))))))))))))),3))) λ_=>bd (loop (λs0=>br (TK s0.2.1 (Ko (AQ x))) (λ_=>SG s0.2.1 λi=>ix x i λd=>bd (VO d.1) λj=>br (H2 j) (λ_=>zo (.dn ((1,((7,(s0.2.1,((0,(0,(0,(0,(0,(0,(0,(0,(0,(0,(0,(0,(0,(0,0)))))))))))))),s0.2.2.2))),()))))) λ_=>bd (VO d.2.1) λk=>br (H2 k) (λ_=>zo (.dn ((1,((7,(s0.2.1,((0,(0,(0,(0,(0,(0,(0,(0,(0,(0,(0,(0,(0,(0,0)))))))))))))),s0.2.2.2))),()))))) λ_=>bd (VO d.2.2.1) λl=>br (H2 l) (λ_=>zo (.dn ((1,((7,(s0.2.1,((0,(0,(0,(0,(0,(0,(0,(0,(0,(0,(0,(0,(0,(0,0)))))))))))))),s0.2.2.2))),()))))) λ_=>bd (loop (λa=>br (TK a.2.1 12) (λ_=>SG a.2.1 λg=>gd (Iq g 12) λ_=>bd (VO (Hz (YU d.2.2.2) g)) λm=>br (H2 m) (λ_=>zo (.dn ((1,((7,(a.2.1,((0,(0,(0,(0,(0,(0,(0,(0,(0,(0,(0,(0,(0,(0,0)))))))))))))),a.2.2.2))),()))))) λ_=>SG a.2.1 λh=>gd (Iq h 12) λ_=>SG a.2.1 λe=>gd (Iq e 12) λ_=>SG a.2.1 λf=>gd (Iq f 12) λ_=>zo (.nx ((a.1,(SV .i64 a.2.1 1,(a.2.2.1,(a.2.2.2.1,(a.2.2.2.2.1,(a.2.2.2.2.2.1,(tK a.2.2.2.2.2.2 h f (Hz (YU d.2.2.2) e))))))))))) λ_=>zo (.dn ((0,(a,()))))) ((s0.1,(0,(s0.2.2.1,(SV .i64 s0.2.2.2.1 d.1,(SV .i64 s0.2.2.2.2.1 d.2.1,(SV .i64 s0.2.2.2.2.2.1 d.2.2.1,s0.2.2.2.2.2.2)))))))) λb=>br (neq b.1 0) (λ_=>zo (.nx ((b.2.1.1,(SV .i64 s0.2.1 1,b.2.1.2.2))))) λ_=>zo (.dn ((1,((b.2.1.1,(s0.2.1,b.2.1.2.2)),()))))) λ_=>zo (.dn ((0,(s0,()))))) ((0,(0,((0,(0,(0,(0,(0,(0,(0,(0,(0,(0,(0,(0,(0,(0,0)))))))))))))),(0,(0,(0,(0,(0,(0,(0,(0,(0,(0,(0,(0,(0,(0,0))))))))))))))))))) λc=>br (neq c.1 0) (λ_=>zo (c.2.1.2.2.2,0)) λ_=>zo (c.2.1.2.2.1,c.2.1.1)
def Vj(x:(qS×((List Int)×(List VI)))):Option Bool:=
 jn (γ:=(Nat×(Bool×Unit))) (λs0=>bd (YX x.1) λf=>br f (λ_=>zo (.nx zt)) λ_=>br (TI (Ko (AQ x.2.1)) 12) (λ_=>br (TJ (Ko (AQ x.2.1)) 200) (λ_=>zo (.nx zt)) λ_=>br (TI (Ko (AQ x.2.1)) 205) (λ_=>zo (.nx zt)) λ_=>br (TI (Ko (AQ x.2.2)) 30) (λ_=>br (TJ (Ko (AQ x.2.2)) 200) (λ_=>zo (.nx zt)) λ_=>zo (.nx (TI (Ko (AQ x.2.2)) 205))) λ_=>zo (.nx (TI (Ko (AQ x.2.2)) 205))) λ_=>br (TI (Ko (AQ x.2.1)) 205) (λ_=>zo (.nx zt)) λ_=>br (TI (Ko (AQ x.2.2)) 30) (λ_=>br (TJ (Ko (AQ x.2.2)) 200) (λ_=>zo (.nx zt)) λ_=>zo (.nx (TI (Ko (AQ x.2.2)) 205))) λ_=>zo (.nx (TI (Ko (AQ x.2.2)) 205))) () (λs2=>br s2 (λ_=>bd (WL ()) λi=>zo i) λ_=>bd (U7 (x.1,x.2.1)) λd=>bd (We (x.1,x.2.1)) λe=>jn (γ:=(Nat×(Bool×Unit))) (λm=>bd (WD (d.1,e.1)) λj=>br (H2 j) (λ_=>zo (.nx zt)) λ_=>bd (XI (d.2.1,e.2.1)) λk=>br (H2 k) (λ_=>zo (.nx zt)) λ_=>zo (.nx (SD d.2.2 e.2.2))) () (λl=>br l (λ_=>zo zf) λ_=>bd (XF x.2.2) λa=>bd (Xv x.2.2) λb=>br (Nr (Og a.1.1 b.1.1) (Nr (Og a.1.2.1 b.1.2.1) (Nr (Og a.1.2.2.1 b.1.2.2.1) (Nr (tM a.1.2.2.2 b.1.2.2.2) zt)))) (λ_=>br (Og a.2 b.2) (λ_=>bd (WL ()) λc=>zo c) λ_=>zo zf) λ_=>zo zf) λg=>zn) λh=>zn
end
section
open Go Sv
abbrev XZ:=List UInt8
theorem aB(a:XZ):Si a []=zf:=by unfold Si;cases a<;>rfl
theorem cr(b:UInt8)(y:XZ):Si [] (b::y)=zt:=rfl
theorem Yr(a b:UInt8)(x y:XZ):Si (a::x) (b::y)=(decide (a<b)||(a == b&&Si x y)):=rfl
theorem W8:∀ a:XZ,Si a a=zf
 |[]=>rfl
 |a::x=>by rw[Yr,W8 x];simp
theorem Ws:∀ {a b c:XZ},Si a b=zt->Si b c=zt->Si a c=zt
 |[],b,[],e,d=>by rw[aB]at d;cases d
 |[],b,c::z,_,_=>rfl
 |a::x,[],c,e,_=>by rw[aB]at e;cases e
 |a::x,b::y,[],_,d=>by rw[aB]at d;cases d
 |a::x,b::y,c::z,e,d=>by
  rw[Yr]at e d ⊢;simp only[xb,decide_eq_true_eq,u3,beq_iff_eq]at e d ⊢;rcases e with e|⟨rfl,e⟩
  ·rcases d with d|⟨rfl,d⟩
   ·exact .inl (UInt8.lt_trans e d)
   ·exact .inl e
  ·rcases d with d|⟨rfl,d⟩
   ·exact .inl d
   ·exact .inr ⟨rfl,Ws e d⟩
theorem ak:∀ a b:XZ,Si a b=zt\/a=b\/Si b a=zt
 |[],[]=>.inr (.inl rfl)
 |[],_::_=>.inl rfl
 |_::_,[]=>.inr (.inr rfl)
 |a::x,b::y=>by
  rw[Yr,Yr];simp only[xb,decide_eq_true_eq,u3,beq_iff_eq,List.cons.injEq];rcases UInt8.lt_or_lt_of_ne (a:=a) (b:=b) |> λh=>Classical.em (a=b) |>.imp id h with h|h|h
  ·subst h;rcases ak x y with h|h|h
   ·exact .inl (.inr ⟨rfl,h⟩)
   ·exact .inr (.inl ⟨rfl,h⟩)
   ·exact .inr (.inr (.inr ⟨rfl,h⟩))
  ·exact .inl (.inl h)
  ·exact .inr (.inr (.inl h))
theorem VY{a b:XZ}(h:Si a b=zt):Si b a=zf:=by
 cases c:Si b a with
 |false=>rfl
 |true=>have:=Ws h c;rw[W8]at this;cases this
theorem ZN{a b:XZ}(h:Si a b=zt):a≠b:=λe=>by subst e;rw[W8]at h;cases h
theorem Zs{a b:XZ}(h:Si a b=zf)(c:a≠b):Si b a=zt:=by
 rcases ak a b with h1|h1|h1
 ·rw[h]at h1;cases h1
 ·exact absurd h1 c
 ·exact h1
theorem bR{a b c:XZ}(h:Si b a=zf)(d:Si b c=zt):Si a c=zt:=by
 rcases ak a b with h1|h1|h1
 ·exact Ws h1 d
 ·subst h1;exact d
 ·rw[h]at h1;cases h1
theorem eA{a b c:XZ}(h:Si a b=zt)(d:Si c b=zf):Si a c=zt:=by
 rcases ak b c with h1|h1|h1
 ·exact Ws h h1
 ·subst h1;exact h
 ·rw[d]at h1;cases h1
theorem ai{a b:XZ}:seq a b=zt<->a=b:=by unfold seq;simp
theorem Zr(a b:XZ):seq a b=decide (a=b):=by
 cases h:seq a b with
 |true=>rw[ai]at h;simp[h]
 |false=>
  have:¬ a=b:=λe=>by rw[<- ai]at e;rw[h]at e;cases e
  simp[this]
section
variable{α β σ S:Type}
theorem Wa(a b:XZ)(x y:Unit->Option β):br (seq a b) x y=if a=b then x ()else y ():=Jm ai x y
theorem YP(a b:XZ)(x y:Unit->Option β):br (Si a b) x y=if Si a b=zt then x ()else y ():=Jm Iff.rfl x y
theorem Vb(p:Prop)[Decidable p](x y:Unit->Option β):br (decide p) x y=if p then x ()else y ():=Jm (by simp) x y
theorem UB(k:Nat)(c:Nat->Option β):SG (k:Int) c=c k:=by rw[Sy (by omega)];simp
theorem sf{l:List α}{k:Nat}{x:α}(h:l[k]?=zo x):TK (k:Int) (Ko (AQ l))=zt:=by
 have:=(aa.1 h).1;unfold TK Ko AQ;simp;omega
theorem py(l:List α):TK (l.length:Int) (Ko (AQ l))=zf:=by unfold TK Ko AQ;simp
theorem UI{k:Nat}(h:k+1<=9223372036854775807):SV .i64 (k:Int) 1=((k+1:Nat):Int):=by
 rw[Su (by omega)];omega
theorem UN{l:List α}{k:Nat}{x:α}(h:l[k]?=zo x)(a:l.length<=9223372036854775807):SV .i64 (k:Int) 1=((k+1:Nat):Int):=by
 have:=(aa.1 h).1;exact UI (by omega)
def bA(step:Nat->α->σ->Option (LR σ β))(fin:σ->Option β):List α->Nat->σ->Option β
 |[],_,s=>fin s
 |x::l,k,s=>match step k x s with
  |none=>zn
  |some (.nx s')=>bA step fin l (k+1) s'
  |some (.dn b)=>zo b
def zY(mk:σ->S):Option (LR σ β)->Option (LR S β)
 |none=>zn
 |some (.nx s)=>zo (.nx (mk s))
 |some (.dn b)=>zo (.dn b)
def uI:Option β->Option (LR S β)
 |none=>zn
 |some b=>zo (.dn b)
theorem eX{l:List α}{mk:Nat->σ->S}{f:S->Option (LR S β)}{step:Nat->α->σ->Option (LR σ β)}{fin:σ->Option β}
  (hs:∀ k x a,l[k]?=zo x->f (mk k a)=zY (mk (k+1)) (step k x a)) (i:∀ a,f (mk l.length a)=uI (fin a)) :
  ∀ (d n k:Nat) (a:σ),l.length-k=d->k<=l.length->d<n->IQ n f (mk k a)=bA step fin (l.drop k) k a:=by
 intro d
 induction d with
 |zero=>
  intro n k a e g h;have c:k=l.length:=by omega
  obtain⟨m,rfl⟩:∃ m,n=m+1:=⟨n-1,by omega⟩;subst c;unfold IQ;rw[i,List.drop_length];unfold uI bA;cases fin a<;>rfl
 |succ d o=>
  intro n k a e g h;obtain⟨m,rfl⟩:∃ m,n=m+1:=⟨n-1,by omega⟩;have c:k<l.length:=by omega
  have j:l[k]?=zo l[k]:=by simp[c]
  unfold IQ;rw[hs k _ a j,List.drop_eq_getElem_cons c]
  show _=match step k l[k] a with
   |none=>zn
   |some (.nx s')=>bA step fin (l.drop (k+1)) (k+1) s'
   |some (.dn b)=>zo b
  cases step k l[k] a with
  |none=>rfl
  |some r=>cases r with
   |nx s'=>exact o m (k+1) s' (by omega) (by omega) (by omega)
   |dn b=>rfl
theorem iR{l:List α}(mk:Nat->σ->S)(step:Nat->α->σ->Option (LR σ β))(fin:σ->Option β){f:S->Option (LR S β)}{s:S}(a:σ)(b:s=mk 0 a)(d:l.length<=9223372036854775807)
  (hs:∀ k x a,l[k]?=zo x->f (mk k a)=zY (mk (k+1)) (step k x a)) (c:∀ a,f (mk l.length a)=uI (fin a)) :
  loop f s=bA step fin l 0 a:=by
 subst b;have:=eX hs c l.length 18446744073709551616 0 a (by omega) (by omega) (by omega);rw[sr]at this;exact this
theorem dV{f:α->Option (LR α β)}{x:β}:∀ {n m:Nat} {s:α},n<=m->IQ n f s=zo x->IQ m f s=zo x
 |0,_,_,_,h=>by cases h
 |n+1,0,_,hl,_=>by omega
 |n+1,m+1,s,hl,h=>by
  unfold IQ at h ⊢;split at h
  ·cases h
  ·rename_i s' e;exact dV (by omega) h
  ·exact h
theorem VW{f:α->Option (LR α β)}{x:β}{n:Nat}{s:α}(a:n<=18446744073709551616)(h:IQ n f s=zo x):loop f s=zo x:=dV a h
theorem Ue{f:α->Option (LR α β)}{n:Nat}{s s':α}(h:f s=zo (.nx s')):IQ (n+1) f s=IQ n f s':=by
 show(match f s with
  |none=>zn
  |some (.nx s)=>IQ n f s
  |some (.dn x)=>zo x)=_
 rw[h]
theorem Um{f:α->Option (LR α β)}{n:Nat}{s:α}{x:β}(h:f s=zo (.dn x)):IQ (n+1) f s=zo x:=by
 show(match f s with
  |none=>zn
  |some (.nx s)=>IQ n f s
  |some (.dn x)=>zo x)=_
 rw[h]
theorem Xw{f:S -> Option (LR S β)}{r:β}(mk:Nat -> S)(n:Nat){s:S}(h0:s=mk 0)(hn:n < 18446744073709551616)(hs:∀ k,k < n -> f (mk k)=zo (.nx (mk (k + 1))))(he:f (mk n)=zo (.dn r)):loop f s=zo r:=by
  subst h0
  have:∀ d k,k + d=n -> IQ (d + 1) f (mk k)=zo r:=by
    intro d
    induction d with
    | zero => intro k hk; have : k = n := by omega
              subst this;exact Um he
    |succ d ih=>intro k hk;rw[Ue (hs k (by omega))];exact ih (k + 1) (by omega)
  exact VW (n:=n + 1) (by omega) (this n 0 (by omega))
end
end
section
open Go Sv
def kE(x:UD):Int:=if x.1.length>32\/x.2.1.length>64 then 3 else if x.2.2.1=zt/\x.2.1≠[]then 6 else if x.2.2.2<1\/x.2.2.2>1000000000 then 7 else 0
def ZC:Option XZ->Nat->List UD->Int×Int
 |_,_,[]=>(0,0)
 |p,k,x::l=>if kE x≠0 then((k:Int),kE x)else match p with
  |some q=>if Si q x.1=zt then ZC (zo x.1) (k+1) l else((k:Int),6)
  |none=>ZC (zo x.1) (k+1) l
def Wu(l:List UD):Int×Int:=if l.length>5000 then(-1,3)else ZC zn 0 l
def Asc:Option XZ->List UD->Prop
 |_,[]=>True
 |p,x::l=>(∀ q,p=zo q->Si q x.1=zt)/\Asc (zo x.1) l
theorem cO:∀ {p k l},(ZC p k l).2=0<->(∀ x∈l,kE x=0)/\Asc p l
 |p,k,[]=>by simp[ZC,Asc]
 |p,k,x::l=>by
  unfold ZC;by_cases h:kE x=0
  ·rw[zx (by simp[h])];cases p with
   |none=>
    simp only[cO (p:=some x.1) (l:=l),Asc,bl,forall_eq_or_imp];constructor
    ·rintro⟨a,b⟩;exact⟨⟨h,a⟩,(λq c=>by cases c),b⟩
    ·rintro⟨⟨_,a⟩,_,b⟩;exact⟨a,b⟩
   |some q=>
    simp only;by_cases c:Si q x.1=zt
    ·rw[zy c];simp only[cO (p:=some x.1) (l:=l),Asc,bl,forall_eq_or_imp];constructor
     ·rintro⟨a,b⟩;exact⟨⟨h,a⟩,(λe d=>by cases d;exact c),b⟩
     ·rintro⟨⟨_,a⟩,_,b⟩;exact⟨a,b⟩
    ·rw[zx c];constructor
     ·intro h;cases h
     ·rintro⟨_,b⟩;exact absurd (b.1 q rfl) c
  ·rw[zy h];constructor
   ·intro h';exact absurd h' h
   ·rintro⟨a,_⟩;exact absurd (a x (by simp)) h
theorem aH:∀ {p k l},(ZC p k l).2=0->ZC p k l=(0,0)
 |p,k,[],_=>rfl
 |p,k,x::l,h=>by
  unfold ZC at h ⊢;by_cases a:kE x=0
  ·rw[zx (by simp[a])]at h ⊢;cases p with
   |none=>exact aH h
   |some q=>
    simp only at h ⊢;by_cases b:Si q x.1=zt
    ·rw[zy b]at h ⊢;exact aH h
    ·rw[zx b]at h;cases h
  ·rw[zy a]at h;exact absurd h a
structure VL (l:List UD):Prop where
 len:l.length<=5000
 ok:∀ x∈l,kE x=0
 asc:Asc zn l
theorem aI{l:List UD}:(Wu l).2=0<->VL l:=by
 unfold Wu;by_cases h:l.length>5000
 ·rw[zy h];constructor
  ·intro h;cases h
  ·intro h';have:=h'.len;omega
 ·rw[zx h];rw[cO];exact⟨λ⟨a,b⟩=>⟨by omega,a,b⟩,λh=>⟨h.ok,h.asc⟩⟩
theorem ZD{l:List UD}(h:VL l):Wu l=(0,0):=by
 have a:=aI.2 h;unfold Wu at a ⊢;rw[zx (by have:=h.len;omega)]at a ⊢;exact aH a
theorem Asc.lt:∀ {p:Option XZ} {l:List UD},Asc p l -> ∀ {i:Nat} {x y:UD},l[i]?=zo x->l[i+1]?=zo y->Si x.1 y.1=zt
 |p,x::[],_,0,_,_,_,h2=>by simp at h2
 |p,a::b::l,h,0,x,y,h1,h2=>by
  simp at h1 h2;subst h1;subst h2;exact h.2.1 _ rfl
 |p,a::l,h,i+1,x,y,h1,h2=>by
  simp at h1 h2;exact Asc.lt h.2 h1 h2
theorem VL.lt{l:List UD}(h:VL l){i:Nat}{x y:UD}(a:l[i]?=zo x)(b:l[i+1]?=zo y):Si x.1 y.1=zt:=h.asc.lt a b
def kx(l:List UD)(i:Nat):UW:=match l[i]? with
 |some x=>(x.1,zf)
 |none=>([],zt)
def w0(p q:UW):Bool:=if p.2≠q.2 then q.2 else if p.1≠q.1 then Si p.1 q.1 else zt
def YN(a b:List UD)(i j:Nat):Bool:=w0 (kx a i) (kx b j)
def pos(a b:List UD):Nat->Nat×Nat
 |0=>(0,0)
 |n+1=>if YN a b (pos a b n).1 (pos a b n).2=zt then((pos a b n).1+1,(pos a b n).2)else((pos a b n).1,(pos a b n).2+1)
def aU(a b:List UD)(n:Nat):Option UD:=if YN a b (pos a b n).1 (pos a b n).2=zt then a[(pos a b n).1]? else b[(pos a b n).2]?
structure Inv (a b:List UD) (i j:Nat):Prop where
 ia:i<=a.length
 jb:j<=b.length
 pa:∀ i',i=i'+1 -> ∀ x y,a[i']?=zo x->b[j]?=zo y->Si y.1 x.1=zf
 pb:∀ j',j=j'+1 -> ∀ x y,b[j']?=zo x->a[i]?=zo y->Si x.1 y.1=zt
theorem ax{a b:List UD}{i j:Nat}{x y:UD}(c:a[i]?=zo x)(d:b[j]?=zo y):YN a b i j = !Si y.1 x.1:=by
 unfold YN w0 kx;rw[c,d];simp only[ne_eq,not_true,if_false];by_cases h:x.1=y.1
 ·rw[zx (by simp[h]),h,W8];rfl
 ·rw[zy h];cases hs:Si x.1 y.1 with
  |true=>rw[VY hs];rfl
  |false=>rw[Zs hs h];rfl
theorem gn{a b:List UD}{i j:Nat}{x:UD}(c:a[i]?=zo x)(d:b[j]?=zn):YN a b i j=zt:=by
 unfold YN w0 kx;rw[c,d];rfl
theorem gp{a b:List UD}{i j:Nat}{y:UD}(c:a[i]?=zn)(d:b[j]?=zo y):YN a b i j=zf:=by
 unfold YN w0 kx;rw[c,d];rfl
theorem dN{a b:List UD}{i j:Nat}(c:a[i]?=zn)(d:b[j]?=zn):YN a b i j=zt:=by
 unfold YN w0 kx;rw[c,d];rfl
theorem Inv.zero(a b:List UD):Inv a b 0 0:=⟨by omega,by omega,λ_ h=>by omega,λ_ h=>by omega⟩
theorem Inv.stepA{a b:List UD}(va:VL a){i j:Nat}(h:Inv a b i j){x:UD}(c:a[i]?=zo x)(g:YN a b i j=zt):Inv a b (i+1) j:=by
 have hi:=(aa.1 c).1;refine⟨by omega,h.jb,λl e k y d f=> ?_,λj' e k y d f=> ?_⟩
 ·have:l=i:=by omega
  subst this;rw[c]at d;cases d;rw[ax c f]at g;simpa using g
 ·exact Ws (h.pb j' e k x d c) (va.lt c f)
theorem Inv.stepB{a b:List UD}(n:VL b){i j:Nat}(h:Inv a b i j){y:UD}(c:b[j]?=zo y)(g:YN a b i j=zf):Inv a b i (j+1):=by
 have p:=(aa.1 c).1;refine⟨h.ia,by omega,λm e k o d f=> ?_,λj' e k o d f=> ?_⟩
 ·have l:=h.pa m e k y d c;exact VY (bR l (n.lt c f))
 ·have:j'=j:=by omega
  subst this;rw[c]at d;cases d;rw[ax f c]at g;simpa using g
theorem Wj{a b:List UD}(va:VL a)(f:VL b):∀ {n:Nat},n<=a.length+b.length->Inv a b (pos a b n).1 (pos a b n).2/\(pos a b n).1+(pos a b n).2=n
 |0,_=>⟨Inv.zero a b,rfl⟩
 |n+1,h=>by
  obtain⟨c,hs⟩:=Wj va f (n:=n) (by omega);rw[show pos a b (n+1)=if YN a b (pos a b n).1 (pos a b n).2=zt then((pos a b n).1+1,(pos a b n).2)else((pos a b n).1,(pos a b n).2+1)from rfl]
  revert c hs;generalize (pos a b n).1=i;generalize (pos a b n).2=j;intro c hs;cases g:YN a b i j with
  |true=>
   have hi:i<a.length:=by
    refine lc λh'=> ?_;have d:a[i]?=zn:=ab h';have e:j<b.length:=by have:=c.ia;omega
    rw[gp d (by simp[e]:b[j]?=zo b[j])]at g;cases g
   have:=c.stepA va (by simp[hi]:a[i]?=zo a[i]) g;rw[zy rfl];exact⟨this,by omega⟩
  |false=>
   have k:j<b.length:=by
    refine lc λh'=> ?_;have d:b[j]?=zn:=ab h';cases e:a[i]? with
    |none=>rw[dN e d]at g;cases g
    |some x=>rw[gn e d]at g;cases g
   have:=c.stepB f (by simp[k]:b[j]?=zo b[j]) g;rw[zx (by simp)];exact⟨this,by omega⟩
end
section
open Go Sv
def Tt(p q:UW):V9:=([p,q],([0,if w0 p q=zt then 1 else 0],if w0 p q=zt then 0 else 1))
def Zt(a b:List UD)(i j:Nat):Vp:=([a,b],([(i:Int),(j:Int)],Tt (kx a i) (kx b j)))
def qQ(a b:List UD)(n:Nat):XZ:=match aU a b n with
 |some x=>x.1
 |none=>[]
def fresh(a b:List UD)(n:Nat)(x:UD):Bool:=decide (n=0)||decide (qQ a b (n-1)≠x.1)
def pk(a b:List UD)(c:Bool):Nat->List UD
 |0=>[]
 |n+1=>match aU a b n with
  |some x=>if(fresh a b n x && !(c&&x.2.2.1))=zt then pk a b c n++[x]else pk a b c n
  |none=>pk a b c n
def shN(a b:List UD)(c:Bool)(n:Nat):U3:=(decide (n≠0),(if n=0 then[]else qQ a b (n-1),c))
def zZ(a b:List UD)(c:Bool)(n:Nat):X4:=(Zt a b (pos a b n).1 (pos a b n).2,(shN a b c n,(pk a b c n,(n:Int))))
def UR(a b:List UD):Nat->List UD
 |0=>[]
 |n+1=>match aU a b n with
  |some x=>UR a b n++[x]
  |none=>UR a b n
section
variable{a b:List UD}(va:VL a)(vb:VL b)
include va vb
theorem V6{n:Nat}(h:n<a.length+b.length):∃ x,aU a b n=zo x/\(x∈a\/x∈b):=by
 obtain⟨e,hs⟩:=Wj va vb (n:=n) (by omega);unfold aU;revert e hs;generalize (pos a b n).1=i;generalize (pos a b n).2=j;intro e hs;cases g:YN a b i j with
 |true=>
  have hi:i<a.length:=by
   refine lc λh'=> ?_;have c:a[i]?=zn:=ab h';have d:j<b.length:=by have:=e.ia;omega
   rw[gp c (by simp[d]:b[j]?=zo b[j])]at g;cases g
  exact⟨a[i],by simp[hi],.inl (iz hi)⟩
 |false=>
  have f:j<b.length:=by
   refine lc λh'=> ?_;have c:b[j]?=zn:=ab h';cases d:a[i]? with
   |none=>rw[dN d c]at g;cases g
   |some x=>rw[gn d c]at g;cases g
  exact⟨b[j],by simp[f],.inr (iz f)⟩
theorem kM{n:Nat}{x:UD}(h:aU a b n=zo x):kE x=0:=by
 have:x∈a\/x∈b:=by
  unfold aU at h;split at h
  ·exact .inl (ad h)
  ·exact .inr (ad h)
 rcases this with h|h
 ·exact va.ok x h
 ·exact vb.ok x h
theorem gw{n:Nat}(k:n+1<a.length+b.length){x y:UD}(d:aU a b n=zo x)(c:aU a b (n+1)=zo y):Si y.1 x.1=zf:=by
 obtain⟨h,hs⟩:=Wj va vb (n:=n) (by omega);unfold aU at d c;rw[show pos a b (n+1)=if YN a b (pos a b n).1 (pos a b n).2=zt then((pos a b n).1+1,(pos a b n).2)else((pos a b n).1,(pos a b n).2+1)from rfl]at c
 revert h hs d c;generalize (pos a b n).1=i;generalize (pos a b n).2=j;intro d c h hs;cases g:YN a b i j with
 |true=>
  rw[zy g]at d;simp only[g,if_true]at c;have e:=h.stepA va d g;cases f:YN a b (i+1) j with
  |true=>rw[zy f]at c;exact VY (va.lt d c)
  |false=>rw[zx (by simp[f])]at c;exact e.pa i rfl x y d c
 |false=>
  rw[zx (by simp[g])]at d;simp only[g,if_false,fl]at c;have e:=h.stepB vb d g;cases f:YN a b i (j+1)with
  |true=>rw[zy f]at c;exact VY (e.pb j rfl x y d c)
  |false=>rw[zx (by simp[f])]at c;exact VY (vb.lt d c)
theorem VX:∀ {n:Nat},n<=a.length+b.length->(UR a b n).length=n
 |0,_=>rfl
 |n+1,h=>by
  obtain⟨x,c,_⟩:=V6 va vb (n:=n) (by omega);unfold UR;rw[c];simp[VX (n:=n) (by omega)]
theorem Yp:∀ {n k:Nat},n<=a.length+b.length->k<n->(UR a b n)[k]?=aU a b k
 |n+1,k,h,hk=>by
  obtain⟨x,d,_⟩:=V6 va vb (n:=n) (by omega);unfold UR;rw[d];show(UR a b n++[x])[k]?=_;have e:=VX va vb (n:=n) (by omega);by_cases c:k<n
  ·rw[List.getElem?_append_left (by omega)];exact Yp (by omega) c
  ·have:k=n:=by omega
   subst this;rw[List.getElem?_append_right (by omega),e];simp[d]
theorem eZ{n m:Nat}(d:m<=a.length+b.length)(h:n<=m):(UR a b m).take n=UR a b n:=by
 apply List.ext_getElem?;intro k;rw[List.getElem?_take];by_cases c:k<n
 ·rw[zy c,Yp va vb d (by omega),Yp va vb (by omega) c]
 ·rw[zx c,ab];rw[VX va vb (by omega)];omega
end
end
section
open Go Sv
theorem UH(n:Nat):Ko n=(n:Int):=rfl
theorem UG{α:Type}(l:List α):AQ l=l.length:=rfl
theorem Y9(l:List UInt8):Mo l=l.length:=rfl
theorem Zl:H2 zt=zf:=rfl
theorem Ug{β:Type}(c:Bool)(x y:Unit->Option β):br (H2 c) x y=br c y x:=TD c x y
theorem Un{β:Type}{a b:Nat}(h:a<=b)(k:Unit->Option β):gd (CF a b) k=k ():=by rw[TF,zy h]
theorem Zf(k:XZ):XH k=zo (if k.length>32 then 3 else 0):=by
 unfold XH;rw[Te,UH,Y9]
 grind
theorem Xb(x:UD):VZ x=zo (kE x):=by
 unfold VZ kE;rw[Zf,TA,Ti];by_cases b:x.1.length>32
 ·simp[b]
 rw[zx b,zy rfl,Te,UH,Y9];by_cases d:x.2.1.length>64
 ·grind
 rw[zx (by omega:¬ (x.2.1.length:Int)>64),zx (by omega),Tn];by_cases a:x.2.2.1=zt
 ·rw[zy a,Ug,Wa];by_cases c:x.2.1=[]
  ·rw[zy c,zx (by simp[c]),Th,Te]
   grind
  simp_all
 ·rw[zx a,zx (by simp[a]),Th,Te]
  grind
theorem Xu(l:List UD)(j:l.length<=9223372036854775807):Ux l=zo (Wu l):=by
 unfold Ux Wu;rw[Te,UH,UG];by_cases h:l.length>5000
 ·grind
 rw[zx (by omega),zx h]
 have key:=iR (β:=Nat×(Int×Int×Int)×Unit) (l:=l) (λk (_:Int)=>((0:Int),((0:Int),(k:Int))))
  (λk x _=>if kE x≠0 then zo (.dn (0,((kE x,((k:Int),(k:Int))),())))else if k>0 then
    (match l[k-1]? with
    |some y=>if Si y.1 x.1=zt then zo (.nx 0)else zo (.dn (0,(((6:Int),((k:Int),(k:Int))),())))
    |none=>zn)else zo (.nx 0))
  (λ_=>zo (1,((0,(0,(l.length:Int))),()))) (s:=(0,(0,0))) (0:Int) rfl j (f:=(λs0=>br (TK s0.2.2 (Ko (AQ l))) (λ_=>SG s0.2.2 λz=>ix l z λt=>bd (VZ t) λr=>br (SD r 0) (λ_=>zo (.dn ((0,((r,(s0.2.2,s0.2.2)),()))))) λ_=>br (TI s0.2.2 0) (λ_=>SG (SY .i64 s0.2.2 1) λA=>ix l A λB=>br (H2 (Si B.1 t.1)) (λ_=>zo (.dn ((0,((6,(s0.2.2,s0.2.2)),()))))) λ_=>zo (.nx ((s0.1,(s0.2.1,SV .i64 s0.2.2 1))))) λ_=>zo (.nx ((s0.1,(s0.2.1,SV .i64 s0.2.2 1))))) λ_=>zo (.dn ((1,(s0,()))))))
  (λk x e b=>by
   simp only;rw[sf b,Sp,UB,TS b,Xb,TA,Ti];by_cases c:kE x=0
   ·have u:k<l.length:=(aa.1 b).1;simp only[c,if_true,ne_eq,not_true,if_false];rw[Te];by_cases g:k>0
    ·rw[zy (by omega:(k:Int)>0),zy g,Sx (by omega),show((k:Int)-1)=((k-1:Nat):Int) by omega,UB];have d:l[k-1]?=zo l[k-1]:=by simp_all
     rw[TS d,d,Ug,YP];simp only;by_cases a:Si l[k-1].1 x.1=zt
     ·rw[zy a,zy a,UN b j];rfl
     ·rw[zx a,zx a];rfl
    ·rw[zx (by omega:¬ (k:Int)>0),zx g,UN b j];rfl
   ·simp only[c,if_false,ne_eq,not_false_iff,if_true];rfl)
  (λe=>by
   simp only
   rw[py,SM];rfl)
 simp only[UH,UG]at key;rw[key]
 have q : ∀ (m:List UD) (k:Nat) (p:Option XZ),l.drop k=m->(p=if k=0 then zn else (l[k-1]?).map (·.1)) -> ∀ e,bd (bA (β:=Nat×(Int×Int×Int)×Unit) (λk x (_:Int)=>if kE x≠0 then zo (.dn (0,((kE x,((k:Int),(k:Int))),()))) else if k>0 then
    (match l[k-1]? with
    |some y=>if Si y.1 x.1=zt then zo (.nx 0)else zo (.dn (0,(((6:Int),((k:Int),(k:Int))),())))
    |none=>zn)else zo (.nx (0:Int))) (λ_=>zo (1,((0,(0,(l.length:Int))),()))) m k e) (λn=>br (neq n.1 0) (λ_=>zo (n.2.1.2.1,n.2.1.1)) λ_=>zo ((0:Int),(0:Int)))=zo (ZC p k m):=by
  intro m
  induction m with
  |nil=>intro k p _ _ e;rfl
  |cons x m D=>
   intro k p C o e
   have b:l[k]?=zo x:=by
    grind [ol]
   have u:k<l.length:=(aa.1 b).1
   have w:l.drop (k+1)=m:=by
    grind [l5]
   unfold bA ZC;by_cases c:kE x=0
   ·simp only[c,ne_eq,not_true,if_false];by_cases g:k>0
    ·have d:l[k-1]?=zo l[k-1]:=by grind
     rw[zy g,d];rw[zx (by omega:¬ k=0),d]at o;subst o;simp only[Option.map_some];by_cases a:Si l[k-1].1 x.1=zt
     ·grind
     ·rw[zx a,zx a];rfl
    ·have i:k=0:=by omega
     subst i
     grind
   ·simp only[c,ne_eq,not_false_iff,if_true];rfl
 grind
theorem Z7{α β σ S:Type}{l:List α}(mk:Nat->σ->S)(F:List α->Nat->σ->Option β){f:S->Option (LR S β)}{s:S}(a:σ)(o:s=mk 0 a)(u:l.length<=9223372036854775807)
  (r:∀ a,f (mk l.length a)=uI (F [] l.length a))
  (hc:∀ k x m a,l.drop k=x::m->l[k]?=zo x->k<l.length->(∃ b,f (mk k a)=zo (.nx (mk (k+1) b))/\F (x::m) k a=F m (k+1) b)\/f (mk k a)=uI (F (x::m) k a)):loop f s=F l 0 a:=by
 subst o
 have c:∀ (m:List α) (k n:Nat) (a:σ),l.drop k=m->k<=l.length->m.length<n->IQ n f (mk k a)=F m k a:=by
  intro m
  induction m with
  |nil=>
   intro k n a h p g;obtain⟨n,rfl⟩:∃ j,n=j+1:=⟨n-1,by omega⟩
   have e:k=l.length:=by
    grind
   subst e;unfold IQ;rw[r];cases F [] l.length a<;>rfl
  |cons x m w=>
   intro k n a h p g;obtain⟨n,rfl⟩:∃ j,n=j+1:=⟨n-1,by omega⟩
   have i:l[k]?=zo x:=by
    grind [ol]
   have d:k<l.length:=(aa.1 i).1
   have q:l.drop (k+1)=m:=by
    grind [l5]
   rcases hc k x m a h i d with⟨b,h1,t⟩|h1
   ·grind [Ue]
   ·unfold IQ;rw[h1];cases F (x::m) k a<;>rfl
 exact c l 0 _ a (by simp) (by omega) (by omega)
theorem rl{α:Type}{l:List α}{k:Nat}(h:k<l.length):TK (k:Int) (l.length:Int)=zt:=by unfold TK;simp;omega
theorem re{α:Type}(l:List α):TK (l.length:Int) (l.length:Int)=zf:=by unfold TK;simp
theorem UZ{α β:Type}{m:Option α}{x:α}{k:α->Option β}{r:Option β}(h:m=zo x)(e:k x=r):bd m k=r:=by subst h;exact e
theorem aL(k:UW):WH k=zo (k.2&&decide (k.1≠[])):=by
 unfold WH;rw[Tn];cases h:k.2 with
 |true=>rw[zy rfl,Zr];simp[H2]
 |false=>rfl
def WX(k:UW):Prop:=k.2=zt->k.1=[]
theorem pV{k:UW}(h:WX k):WH k=zo zf:=by
 rw[aL];cases a:k.2 with
 |true=>simp[h a]
 |false=>rfl
theorem Uw(l:List UD)(i:Nat):WX (kx l i):=by
 unfold kx WX
 grind
theorem Xc{l:List UW}(h:∀ k∈l,WX k)(d:l≠[])(e:l.length<=32):WN l=zo 0:=by
 unfold WN;simp only[UH,UG];rw[Tc,Te,zx (by simp_all),zx (by omega)]
 rw[Z7 (l:=l) (σ:=Unit) (s:=(0,0)) (λk _=>((0:Int),(k:Int))) (λ_ _ _=>zo (1,((0,(l.length:Int)),()))) () rfl (by omega) (λc=>by
  simp only;rw[re];rfl) (λk x m c _ a b=>.inl ⟨(),by
   simp only;rw[rl b,Sp,UB,TS a,pV (h x (ad a)),TA,SM,UN a (by omega)],rfl⟩),TA]
 rfl
theorem ZE{α:Type}{l:List α}(h:l.length<=1048576):(gd (CF (AQ l) 1048576) λ_=>zo l)=zo l:=Un h _
theorem de(p q:UW):XK [p,q]=zo (Tt p q):=by
 have o:w0 p q=(if p.2≠q.2 then q.2 else if p.1≠q.1 then Si p.1 q.1 else zt):=rfl
 unfold XK;simp only[UH,UG,ae,a8];rw[show SW .i64 2 ((0+1+1:Nat):Int)=4 from rfl,show SY .i64 4 1=3 from rfl];unfold UP;rw[show SG 4=λk=>k 4 from rfl];simp only[Un (show 4<=1048576 by omega),ZE (show[p,q].length<=1048576 by simp),TA];rw[show SG ((0+1+1:Nat):Int)=λk=>k 2 from rfl];simp only[Un (show 2<=1048576 by omega)];have fin:∀ {w l:Int} {x:Nat×((Int×(List Int×(List UW×(List Int×Int))))×Unit)},x=(0,((0,([0,w,0,1],([p,q],([0,l],0)))),()))->(gd (Iq 1 (AQ x.2.1.2.1)) λ_=>ix x.2.1.2.1 1 λb=>zo ((x.2.1.2.2.1,(x.2.1.2.2.2.1,b))))=zo ([p,q],([0,l],w)):=λe=>by subst e;rfl
 have m:∀ {f:(Int×(List Int×(List UW×(List Int×Int))))->Option (LR (Int×(List Int×(List UW×(List Int×Int)))) (Nat×((Int×(List Int×(List UW×(List Int×Int))))×Unit)))} {w l:Int},f (3,([0,0,0,0],([p,q],([0,0],0))))=zo (.nx (2,([0,0,0,1],([p,q],([0,0],0)))))->f (2,([0,0,0,1],([p,q],([0,0],0))))=zo (.nx (1,([0,0,0,1],([p,q],([0,0],0))))) ->
   f (1,([0,0,0,1],([p,q],([0,0],0))))=zo (.nx (0,([0,w,0,1],([p,q],([0,l],0)))))->f (0,([0,w,0,1],([p,q],([0,l],0))))=zo (.dn (0,((0,([0,w,0,1],([p,q],([0,l],0)))),()))) ->
   loop f (3,([0,0,0,0],([p,q],([0,0],0))))=zo (0,((0,([0,w,0,1],([p,q],([0,l],0)))),())):=λc d g i=>
  VW (n:=4) (by omega) ((Ue c).trans ((Ue d).trans ((Ue g).trans (Um i))))
 have j:∀ {β:Type} (A B:Option β),w0 p q=zt->br (H2 (beq p.2 q.2)) (λ_=>br (H2 q.2) (λ_=>B) λ_=>A) (λ_=>br (H2 (seq p.1 q.1)) (λ_=>br (H2 (Si p.1 q.1)) (λ_=>B) λ_=>A) λ_=>A)=A:=fun {β} A B h=>by
  grind [Ug,beq,Tn,seq,Wa]
 have a:∀ {β:Type} (A B:Option β),w0 p q≠zt->br (H2 (beq p.2 q.2)) (λ_=>br (H2 q.2) (λ_=>B) λ_=>A) (λ_=>br (H2 (seq p.1 q.1)) (λ_=>br (H2 (Si p.1 q.1)) (λ_=>B) λ_=>A) λ_=>A)=B:=fun {β} A B h=>by
  grind [Ug,beq,Tn,seq,Wa]
 rw[show Rn 4 (0:Int)=[0,0,0,0]from rfl,show Rn 2 (0:Int)=[0,0]from rfl];by_cases h:w0 p q=zt
 ·refine UZ (x:=(0,((0,([0,0,0,1],([p,q],([0,1],0)))),()))) ?_ ?_;refine VW (n:=4) (by omega) ?_;refine(Ue (s':=(2,([0,0,0,1],([p,q],([0,0],0))))) ?_).trans ((Ue (s':=(1,([0,0,0,1],([p,q],([0,0],0))))) ?_).trans ((Ue (s':=(0,([0,0,0,1],([p,q],([0,1],0))))) ?_).trans (Um ?_)))
  ·rfl
  ·rfl
  ·exact j _ _ h
  ·rfl
  ·show zo ([p,q],([0,1],0))=_;unfold Tt;simp[h]
 ·refine UZ (x:=(0,((0,([0,1,0,1],([p,q],([0,0],0)))),()))) ?_ ?_;refine VW (n:=4) (by omega) ?_;refine(Ue (s':=(2,([0,0,0,1],([p,q],([0,0],0))))) ?_).trans ((Ue (s':=(1,([0,0,0,1],([p,q],([0,0],0))))) ?_).trans ((Ue (s':=(0,([0,1,0,1],([p,q],([0,0],0))))) ?_).trans (Um ?_)))
  ·rfl
  ·rfl
  ·exact a _ _ h
  ·rfl
  ·show zo ([p,q],([0,0],1))=_;unfold Tt;simp[h]
theorem aG{p q:UW}(a:WX p)(b:WX q):Vg [p,q]=zo (Tt p q,0):=by
 unfold Vg;rw[Xc (by grind) (by simp) (by simp),TA,Ti,zy rfl,de,TA]
theorem eW{p q:UW}(d:WX p)(e:WX q):Xl (Tt p q)=zo (0,0):=by
 unfold Xl;rw[show(Tt p q).1=[p,q]from rfl,Xc (by grind) (by simp) (by simp),TA,Ti,zy rfl,Ti,zy (show Ko (AQ (Tt p q).2.1)=Ko (AQ [p,q])from rfl),de,TA];simp only[UH,UG]
 rw[Z7 (l:=(Tt p q).2.1) (σ:=Unit) (s:=(0,(0,0))) (λk _=>((0:Int),((k:Int),(0:Int)))) (λ_ _ _=>zo (1,((0,(((Tt p q).2.1.length:Int),0)),()))) () rfl (show 2<=9223372036854775807 by omega) (λc=>by
  rfl) (λk x m c _ a b=>.inl ⟨(),by
   simp only;rw[rl b,Sp,UB,TS a,UB,TS a,Ti,zy rfl,UN a (show 2<=9223372036854775807 by omega)],rfl⟩),TA]
 rw[show neq 1 0=zf from rfl,SM,Ti,zy rfl]
def wn(p q:UW):Nat:=if w0 p q=zt then 0 else 1
def wk(p q:UW):UW:=if w0 p q=zt then p else q
theorem eI(p q:UW):(Tt p q).2.2=(wn p q:Int):=by unfold Tt wn;grind
theorem eG(p q:UW):(Tt p q).1[wn p q]?=zo (wk p q):=by unfold Tt wn wk;grind
theorem da{p q:UW}(a:WX p)(b:WX q):XJ (Tt p q)=zo (if(wk p q).2=zt then 12 else 0):=by
 unfold XJ;rw[eW a b,TA,Ti,zy rfl,eI,UB,TS (eG p q),Tn]
 grind
theorem YT{p q:UW}(a:WX p)(b:WX q):Vk (Tt p q)=zo (if(wk p q).2=zt then(0,([],12))else((wn p q:Int),((wk p q).1,0))):=by
 unfold Vk;rw[da a b,TA,Ti,eI,UB,TS (eG p q)]
 grind
def rk(p q k:UW):UW×UW:=if w0 p q=zt then(k,q)else(p,k)
theorem kA(p q:UW):Uv (0,(1,([p,q],())))=zo (w0 p q):=by
 unfold Uv w0;show br (H2 (beq p.2 q.2)) (λ_=>zo q.2) (λ_=>br (H2 (seq p.1 q.1)) (λ_=>zo (Si p.1 q.1)) λ_=>zo (TK 0 1))=_;rw[Ug (beq p.2 q.2),Tn (beq p.2 q.2),Ug (seq p.1 q.1),Wa];by_cases a:p.2=q.2
 ·rw[zy (show Sv.beq p.2 q.2=zt by simp[Sv.beq,a]),zx (show ¬ p.2≠q.2 by simp[a])];by_cases b:p.1=q.1
  ·rw[zy b,zx (show ¬ p.1≠q.1 by simp[b])];rfl
  simp_all
 simp_all[zx,Sv.beq]
theorem kB(p q:UW):Uv (1,(0,([p,q],())))=zo (!w0 p q):=by
 unfold Uv w0;show br (H2 (beq q.2 p.2)) (λ_=>zo p.2) (λ_=>br (H2 (seq q.1 p.1)) (λ_=>zo (Si q.1 p.1)) λ_=>zo (TK 1 0))=_;rw[Ug (beq q.2 p.2),Tn (beq q.2 p.2),Ug (seq q.1 p.1),Wa];by_cases b:p.2=q.2
 ·rw[zy (show Sv.beq q.2 p.2=zt by simp[Sv.beq,b]),zx (show ¬ p.2≠q.2 by simp[b])];by_cases a:p.1=q.1
  ·rw[zy a.symm,zx (show ¬ p.1≠q.1 by simp[a])];rfl
  ·rw[zx (show ¬ q.1=p.1 from λe=>a e.symm),zy a];cases hs:Si p.1 q.1 with
   |true=>rw[VY hs];rfl
   |false=>rw[Zs hs a];rfl
 ·rw[zx (show ¬ Sv.beq q.2 p.2=zt by simp[Sv.beq,Ne.symm b]),zy b];cases c:p.2<;>cases d:q.2<;>simp_all
theorem Yb{p q k:UW}(y:WX p)(z:WX q)(w:WX k)(A:(wk p q).2=zf)(x:k.2=zt\/Si k.1 (wk p q).1=zf) :
  ∃ n,Va (Tt p q,k)=zo (Tt (rk p q k).1 (rk p q k).2,(n,0)):=by
 have g:(Tt p q).1.length<=1048576:=by show 2<=_;omega
 have b:(Tt p q).2.1.length<=1048576:=by show 2<=_;omega
 have i:lset (Tt p q).1 (wn p q) k=[(rk p q k).1,(rk p q k).2]:=by unfold Tt wn rk;split<;>rfl
 have c:(Tt p q).2.1=[0,(1-(wn p q:Int))]:=by unfold Tt wn;grind
 have m:wn p q=0\/wn p q=1:=by unfold wn;grind
 have up:∀ {f:(Int×(Int×(Unit×(List Int×Int))))->Option (LR (Int×(Int×(Unit×(List Int×Int)))) (Nat×((Int×(Int×(Unit×(List Int×Int))))×Unit)))},
   (f=λa=>br (Og (TM .i64 a.2.1 2) 0) (λ_=>zo (.dn ((0,((a.1,(TM .i64 a.2.1 2,((),a.2.2.2))),()))))) λ_=>SG (TM .i64 a.2.1 2) λt=>gd (Iq t (AQ a.2.2.2.1)) λ_=>ix a.2.2.2.1 t λr=>bd (Uv ((r,(a.2.2.2.2,([(rk p q k).1,(rk p q k).2],()))))) λo=>br o (λ_=>SG (TM .i64 a.2.1 2) λj=>gd (Iq j (AQ a.2.2.2.1)) λ_=>ix a.2.2.2.1 j λs=>SG (TM .i64 a.2.1 2) λd=>gd (Iq d (AQ a.2.2.2.1)) λ_=>ix a.2.2.2.1 d λD=>zo (.nx ((SV .i64 a.1 1,(TM .i64 a.2.1 2,((),(lset a.2.2.2.1 d a.2.2.2.2,s))))))) λ_=>zo (.nx ((SV .i64 a.1 1,(TM .i64 a.2.1 2,((),a.2.2.2))))))
   -> loop f (0,((2:Int)+wn p q,((),([0,(1-(wn p q:Int))],(wn p q:Int)))))=zo (0,((1,(0,((),(Tt (rk p q k).1 (rk p q k).2).2))),())):=by
  intro f u;subst u;refine VW (n:=2) (by omega) ((Ue (s':=(1,(1,((),(Tt (rk p q k).1 (rk p q k).2).2)))) ?_).trans (Um rfl));rcases m with h|h
  ·rw[h]
   have B:w0 p q=zt:=by
    simp_all[wn,zx]
   show bd (Uv (1,(0,([(rk p q k).1,(rk p q k).2],())))) _=_;rw[kB,TA];unfold Tt;cases C:w0 (rk p q k).1 (rk p q k).2<;>rfl
  ·rw[h];show bd (Uv (0,(1,([(rk p q k).1,(rk p q k).2],())))) _=_;rw[kA,TA];unfold Tt;cases C:w0 (rk p q k).1 (rk p q k).2<;>rfl
 unfold Va;simp only[da y z,A,TA,Ti,if_true,if_false,fl];rw[Xc (by simp[w]) (by simp) (by simp),TA];simp only[if_true,Ug];rw[Tn];unfold UP UU;simp only[eI,UB,TS (eG p q),Un g,Un b,TA,YP,TG,UG,UH,i];have l:wn p q<(Tt p q).1.length:=by show wn p q<2;omega
 have hi:SV .i64 (([(rk p q k).1,(rk p q k).2].length:Nat):Int) (wn p q:Int)=(2:Int)+wn p q:=by
  rw[Su (by simp;omega)];rfl
 rw[hi,c];simp only[UG,TG]at up;have key:=up rfl;rw[zy l];by_cases e:k.2=zt
 ·rw[zy e,key,TA];exact⟨_,rfl⟩
 ·rw[zx e,zx (by simp_all),key,TA];exact⟨_,rfl⟩
end
section
open Go Sv
theorem VT{S β:Type}{f:S->Option (LR S β)}{s0 s1 s2:S}{r:β}(a:f s0=zo (.nx s1))(b:f s1=zo (.nx s2))(c:f s2=zo (.dn r)):loop f s0=zo r:=
 VW (n:=3) (by omega) ((Ue a).trans ((Ue b).trans (Um c)))
theorem aZ{α β:Type}{c:Bool}{n:Int}{l:List α}{K:Nat->α->Option β}{E:Unit->Option β}(k:Nat){x:α}(hc:c=zt)(b:n=(k:Int))(d:l[k]?=zo x):br c (λ_=>SG n λa=>ix l a λe=>K a e) E=K k x:=by
 subst hc;subst b;rw[Sp,UB,TS d]
theorem Wi{α β:Type}{n:Int}{l:List α}{K:Nat->α->Option β}(k:Nat){x:α}(b:n=(k:Int))(c:l[k]?=zo x):SG n (λa=>ix l a λd=>K a d)=K k x:=by
 subst b;rw[UB,TS c]
theorem Xr{l:List UD}{i:Nat}(h:i<=l.length):Ui (l,(i:Int))=zo (kx l i):=by
 unfold Ui kx;simp only[UH,UG];rw[Tc];by_cases hi:i=l.length
 ·rw[zy (by omega),ab (by omega)]
 ·have a:l[i]?=zo l[i]:=by rw[List.getElem?_eq_getElem (by omega)]
  rw[zx (by omega),UB,TS a,a]
section
variable{a b:List UD}(va:VL a)(vb:VL b)
theorem pC{i j:Nat}(hi:i<=a.length)(c:j<=b.length):XL ([a,b],[(i:Int),(j:Int)])=zo (Tt (kx a i) (kx b j)):=by
 unfold XL;refine UZ (x:=(0,((2,[kx a i,kx b j]),()))) (VT (s1:=(1,[kx a i,([],zf)])) (s2:=(2,[kx a i,kx b j])) ?_ ?_ rfl) ?_
 ·show bd (Ui (a,(i:Int))) _=_;rw[Xr hi];rfl
 ·show bd (Ui (b,(j:Int))) _=_;rw[Xr c];rfl
 ·show bd (Vg [kx a i,kx b j]) _=_;rw[aG (Uw _ _) (Uw _ _)];rfl
include va vb
theorem Zv:Ux a=zo (0,0):=by
 rw[Xu _ (by have:=va.len;omega),ZD va]
theorem Zn:WP [a,b]=zo (0,0):=by
 unfold WP;refine UZ (x:=(1,((0,(0,2)),()))) (VT (s1:=(0,(0,1))) (s2:=(0,(0,2))) ?_ ?_ rfl) rfl
 ·show bd (Ux a) _=_;rw[Zv va va];rfl
 ·show bd (Ux b) _=_;rw[Zv vb vb];rfl
theorem iH(c:Bool):XU ([a,b],c)=zo (zZ a b c 0,(0,0)):=by
 unfold XU;rw[Zn va vb,TA,Ti,zy rfl];refine UZ (x:=(0,((2,[kx a 0,kx b 0]),()))) (VT (s1:=(1,[kx a 0,([],zf)])) (s2:=(2,[kx a 0,kx b 0])) ?_ ?_ rfl) ?_
 ·show bd (Ui (a,((0:Nat):Int))) _=_;rw[Xr (by omega)];rfl
 ·show bd (Ui (b,((0:Nat):Int))) _=_;rw[Xr (by omega)];rfl
 ·show bd (Vg [kx a 0,kx b 0]) _=_;rw[aG (Uw _ _) (Uw _ _)];rfl
end
theorem YV(x:Bool):Sv.beq x x=zt:=by cases x<;>rfl
theorem Y7(x:XZ):seq x x=zt:=by rw[ai]
theorem eM(l:List UW)(h:l.length<=1000):UV (l,l)=zo zt:=by
 unfold UV;simp only[UH,UG]
 rw[Ti,zy rfl,Z7 (l:=l) (σ:=Unit) (s:=(0,zf)) (λk _=>((k:Int),zf)) (λ_ _ _=>zo (1,(((l.length:Int),zf),()))) () rfl (by omega) (λc=>by
  simp only;rw[re];rfl) (λk x m c _ a b=>.inl ⟨(),by
   simp only;rw[rl b,Sp,UB,TS a,UB,TS a,Y7,YV,show H2 (Nr zt (Nr zt zt))=zf from rfl,SM,UN a (by omega)],rfl⟩),TA]
 rfl
theorem eL(l:List Int)(h:l.length<=1000):UQ (l,l)=zo zt:=by
 unfold UQ;simp only[UH,UG]
 rw[Ti,zy rfl,Z7 (l:=l) (σ:=Unit) (s:=(0,zf)) (λk _=>((k:Int),zf)) (λ_ _ _=>zo (1,(((l.length:Int),zf),()))) () rfl (by omega) (λc=>by
  simp only;rw[re];rfl) (λk x m c _ a b=>.inl ⟨(),by
   simp only;rw[rl b,Sp,UB,TS a,UB,TS a,Ti,zy rfl,UN a (by omega)],rfl⟩),TA]
 rfl
theorem iE(t:V9)(a:t.1.length<=1000)(b:t.2.1.length<=1000):Wv (t,t)=zo zt:=by
 unfold Wv;rw[Tc,zy rfl,eM _ a,TA,Sp,eL _ b];rfl
theorem iF(p q:UW):Wv (Tt p q,Tt p q)=zo zt:=iE _ (show 2<=1000 by omega) (show 2<=1000 by omega)
theorem jm{a b:List UD}{i j:Nat}(h:YN a b i j=zt):wk (kx a i) (kx b j)=kx a i/\wn (kx a i) (kx b j)=0:=by
 unfold YN at h;unfold wk wn;rw[zy h,zy h];exact⟨rfl,rfl⟩
theorem jo{a b:List UD}{i j:Nat}(h:YN a b i j=zf):wk (kx a i) (kx b j)=kx b j/\wn (kx a i) (kx b j)=1:=by
 unfold YN at h;unfold wk wn;rw[zx (by simp[h]),zx (by simp[h])];exact⟨rfl,rfl⟩
theorem gf(x y:XZ):Vr (x,y)=zo (if Si x y=zt then -1 else if Si y x=zt then 1 else 0):=by
 unfold Vr WA;simp only[Y7,Zl,TA,SM];rw[YP,YP];split
 ·rfl
 ·split<;>rfl
theorem gb(x y:Int):VV (x,y)=zo (if x<y then -1 else if x>y then 1 else 0):=by
 unfold VV Wz;simp only[TA,Ti,if_true,Th,Te];split
 ·rfl
 ·split<;>rfl
theorem kO(x y:Int):X5 [x,y]=zo (if x≠0 then x else y):=by
 unfold X5;by_cases h:x=0
 ·rw[zx (by simp[h])];by_cases a:y=0
  ·refine UZ (x:=(1,((0,2),()))) (VT (s1:=(0,1)) (s2:=(0,2)) ?_ ?_ rfl) (by rw[a];rfl)
   ·refine(aZ 0 rfl rfl rfl).trans ?_;rw[Ti,zy h];rfl
   ·refine(aZ 1 rfl rfl rfl).trans ?_;rw[Ti,zy a];rfl
  ·refine UZ (x:=(0,((y,1),()))) (VW (n:=2) (by omega) ((Ue (s':=(0,1)) ?_).trans (Um ?_))) rfl
   ·refine(aZ 0 rfl rfl rfl).trans ?_;rw[Ti,zy h];rfl
   ·refine(aZ 1 rfl rfl rfl).trans ?_;rw[Ti,zx a]
 ·rw[zy h];refine UZ (x:=(0,((x,0),()))) (VW (n:=1) (by omega) (Um ?_)) rfl;refine(aZ 0 rfl rfl rfl).trans ?_;rw[Ti,zx h]
section
variable{a b:List UD}(va:VL a)(vb:VL b)
include va vb
theorem ZV{i j:Nat}(I:Inv a b i j):WO (Zt a b i j)=zo (0,0):=by
 unfold WO;rw[show(Zt a b i j).1=[a,b]from rfl,Zn va vb,TA,Ti,zy rfl];rw[show(Zt a b i j).2.1=[(i:Int),(j:Int)]from rfl,Ti,zy (show Ko (AQ [(i:Int),(j:Int)])=Ko (AQ [a,b])from rfl)];refine UZ (x:=(1,((0,(0,2)),()))) (VT (s1:=(0,(0,1))) (s2:=(0,(0,2))) ?_ ?_ rfl) ?_
 ·refine(aZ 0 rfl rfl rfl).trans ?_;rw[Th,zx (by omega),show SG (((0:Int),((0:Int),(0:Int))).2.2)=λ(k:Nat->Option (LR (Int×(Int×Int)) (Nat×((Int×(Int×Int))×Unit))))=>k 0 from rfl];simp only;rw[TS (x:=a) rfl,Te,zx (by have:=I.ia;simp only[UH,UG];omega)];rfl
 ·refine(aZ 1 rfl rfl rfl).trans ?_;rw[Th,zx (by omega),show SG (((0:Int),((0:Int),(1:Int))).2.2)=λ(k:Nat->Option (LR (Int×(Int×Int)) (Nat×((Int×(Int×Int))×Unit))))=>k 1 from rfl];simp only;rw[TS (x:=b) rfl,Te,zx (by have:=I.jb;simp only[UH,UG];omega)];rfl
 rw[show neq ((1:Nat),(((0:Int),((0:Int),(2:Int))),())).1 0=zf from rfl,SM,pC I.ia I.jb,TA,show(Zt a b i j).2.2=Tt (kx a i) (kx b j)from rfl,iF,TA,show H2 zt=zf from rfl,SM,YT (Uw _ _) (Uw _ _),TA];by_cases c:(wk (kx a i) (kx b j)).2=zt
 ·rw[zy c];rfl
 rw[zx c,Ti,zy rfl]
 have s:∀ {x:UD} {f:Nat},i=f+1->a[f]?=zo x -> ¬ (if(if Si x.1 (wk (kx a i) (kx b j)).1=zt then(-1:Int)else if Si (wk (kx a i) (kx b j)).1 x.1=zt then 1 else 0)≠0 then(if Si x.1 (wk (kx a i) (kx b j)).1=zt then(-1:Int)else if Si (wk (kx a i) (kx b j)).1 x.1=zt then 1 else 0)else(if(0:Int)<(wn (kx a i) (kx b j):Int)then -1 else if(0:Int)>(wn (kx a i) (kx b j):Int)then 1 else 0))>0:=by
  intro x f hi d
  have p:Si (wk (kx a i) (kx b j)).1 x.1=zf:=by
   cases g:YN a b i j with
   |true=>
    rw[(jm g).1]at c ⊢;unfold kx at c ⊢;cases e:a[i]? with
    |none=>rw[e]at c;exact absurd rfl c
    |some y=>rw[hi]at e;exact VY (va.lt d e)
   |false=>
    rw[(jo g).1]at c ⊢;unfold kx at c ⊢;cases e:b[j]? with
    |none=>rw[e]at c;exact absurd rfl c
    |some y=>exact I.pa f hi x y d e
  rw[p];have:¬ (0:Int)>(wn (kx a i) (kx b j):Int):=by omega
  by_cases hs:Si x.1 (wk (kx a i) (kx b j)).1=zt
  ·simp[hs]
  ·simp only[hs,fl,if_false,ne_eq,not_true,this];split<;>omega
 have t:∀ {y:UD} {j':Nat},j=j'+1->b[j']?=zo y -> ¬ (if(if Si y.1 (wk (kx a i) (kx b j)).1=zt then(-1:Int)else if Si (wk (kx a i) (kx b j)).1 y.1=zt then 1 else 0)≠0 then(if Si y.1 (wk (kx a i) (kx b j)).1=zt then(-1:Int)else if Si (wk (kx a i) (kx b j)).1 y.1=zt then 1 else 0)else(if(1:Int)<(wn (kx a i) (kx b j):Int)then -1 else if(1:Int)>(wn (kx a i) (kx b j):Int)then 1 else 0))>0:=by
  intro y j' r e
  have q:Si y.1 (wk (kx a i) (kx b j)).1=zt:=by
   cases g:YN a b i j with
   |true=>
    rw[(jm g).1]at c ⊢;unfold kx at c ⊢;cases d:a[i]? with
    |none=>rw[d]at c;exact absurd rfl c
    |some x=>exact I.pb j' r y x e d
   |false=>
    rw[(jo g).1]at c ⊢;unfold kx at c ⊢;cases d:b[j]? with
    |none=>rw[d]at c;exact absurd rfl c
    |some x=>rw[r]at d;exact vb.lt e d
  rw[q];simp
 refine UZ (x:=(1,((0,(0,2)),()))) (VT (s1:=(0,(0,1))) (s2:=(0,(0,2))) ?_ ?_ rfl) rfl
 ·refine(aZ 0 rfl rfl rfl).trans ?_;rw[Te];by_cases h:(i:Int)>0
  ·rw[zy h];obtain⟨f,l⟩:∃ f,i=f+1:=⟨i-1,by omega⟩;have m:f<a.length:=by have:=I.ia;omega
   have d:a[f]?=zo a[f]:=by simp[m]
   refine(Wi 0 rfl (x:=a) rfl).trans ((Wi f ?_ d).trans ?_)
   ·rw[Sx (by have:=va.len;have:=I.ia;omega)];omega
   rw[gf,TA];show bd (VV (0,(wn (kx a i) (kx b j):Int))) _=_;rw[gb,TA,kO,TA,Te,zx (s l d)];rfl
  ·rw[zx h];rfl
 ·refine(aZ 1 rfl rfl rfl).trans ?_;rw[Te];by_cases h:(j:Int)>0
  ·rw[zy h];obtain⟨j',n⟩:∃ j',j=j'+1:=⟨j-1,by omega⟩;have o:j'<b.length:=by have:=I.jb;omega
   have e:b[j']?=zo b[j']:=by simp[o]
   refine(Wi 1 rfl (x:=b) rfl).trans ((Wi j' ?_ e).trans ?_)
   ·rw[Sx (by have:=vb.len;have:=I.jb;omega)];omega
   rw[gf,TA];show bd (VV (1,(wn (kx a i) (kx b j):Int))) _=_;rw[gb,TA,kO,TA,Te,zx (t n e)];rfl
  ·rw[zx h];rfl
end
end
section
open Go Sv
theorem XW{l:List UD}{i:Nat}{x:UD}(h:l[i]?=zo x):kx l i=(x.1,zf):=by unfold kx;rw[h]
theorem Z4{l:List UD}{i:Nat}(h:l[i]?=zn):kx l i=([],zt):=by unfold kx;rw[h]
theorem af{l:List UD}(v:VL l){i:Nat}{x:UD}(h:l[i]?=zo x):(kx l (i+1)).2=zt\/Si (kx l (i+1)).1 x.1=zf:=by
 cases a:l[i+1]? with
 |none=>rw[Z4 a];grind
 |some y=>rw[XW a];exact .inr (VY (v.lt h a))
theorem ZK{α β:Type}{n:Int}{l:List α}{K:Nat->α->Option β}(k:Nat){x:α}(c:n=(k:Int))(b:l[k]?=zo x):SG n (λa=>gd (Iq a (AQ l)) λ_=>ix l a λd=>K a d)=K k x:=by
 subst c;rw[UB,TG,zy (show k<AQ l from(aa.1 b).1),TS b]
section
variable{a b:List UD}(va:VL a)(vb:VL b)
include va vb
theorem pY{i j:Nat}(I:Inv a b i j){x:UD}(c:a[i]?=zo x)(g:YN a b i j=zt):VF (Zt a b i j)=zo (x,(0,(Zt a b (i+1) j,0))):=by
 obtain⟨f,l⟩:=jm g;have hi:=(aa.1 c).1;have n:=va.len;have e:(wk (kx a i) (kx b j)).2=zf:=by rw[f,XW c]
 obtain⟨m,h⟩:=Yb (p:=kx a i) (q:=kx b j) (k:=kx a (i+1)) (Uw _ _) (Uw _ _) (Uw _ _) e (by rw[f,XW c];exact af va c)
 have d:rk (kx a i) (kx b j) (kx a (i+1))=(kx a (i+1),kx b j):=by
  simp_all[rk,YN,zy]
 rw[d]at h;unfold VF;rw[ZV va vb I,TA,Ti,zy rfl];unfold UO UU;refine UZ (ZE (show 2<=1048576 by omega)) (UZ (ZE (show 2<=1048576 by omega)) ?_);rw[show(Zt a b i j).2.2=Tt (kx a i) (kx b j)from rfl,YT (Uw _ _) (Uw _ _),zx (by simp[e]),TA,Ti,zy rfl,l];refine(ZK 0 rfl (x:=a) rfl).trans ((ZK 0 rfl (x:=(i:Int)) rfl).trans ((Wi i rfl c).trans ((ZK 0 rfl (x:=(i:Int)) rfl).trans ((ZK 0 rfl (x:=(i:Int)) rfl).trans ((ZK 0 rfl (x:=a) rfl).trans ((ZK 0 rfl (x:=SV .i64 (i:Int) 1) rfl).trans ?_))))));rw[UI (by omega),Xr (show i+1<=a.length by omega),TA,h,TA];rfl
theorem pZ{i j:Nat}(I:Inv a b i j){y:UD}(c:b[j]?=zo y)(g:YN a b i j=zf):VF (Zt a b i j)=zo (y,(1,(Zt a b i (j+1),0))):=by
 obtain⟨f,l⟩:=jo g;have hi:=(aa.1 c).1;have n:=vb.len;have e:(wk (kx a i) (kx b j)).2=zf:=by rw[f,XW c]
 obtain⟨m,h⟩:=Yb (p:=kx a i) (q:=kx b j) (k:=kx b (j+1)) (Uw _ _) (Uw _ _) (Uw _ _) e (by rw[f,XW c];exact af vb c)
 have d:rk (kx a i) (kx b j) (kx b (j+1))=(kx a i,kx b (j+1)):=by
  simp_all[rk,YN,zx]
 rw[d]at h;unfold VF;rw[ZV va vb I,TA,Ti,zy rfl];unfold UO UU;refine UZ (ZE (show 2<=1048576 by omega)) (UZ (ZE (show 2<=1048576 by omega)) ?_);rw[show(Zt a b i j).2.2=Tt (kx a i) (kx b j)from rfl,YT (Uw _ _) (Uw _ _),zx (by simp[e]),TA,Ti,zy rfl,l];refine(ZK 1 rfl (x:=b) rfl).trans ((ZK 1 rfl (x:=(j:Int)) rfl).trans ((Wi j rfl c).trans ((ZK 1 rfl (x:=(j:Int)) rfl).trans ((ZK 1 rfl (x:=(j:Int)) rfl).trans ((ZK 1 rfl (x:=b) rfl).trans ((ZK 1 rfl (x:=SV .i64 (j:Int) 1) rfl).trans ?_))))));rw[UI (by omega),Xr (show j+1<=b.length by omega),TA,h,TA];rfl
def Zi(a b:List UD)(n:Nat):Vp:=Zt a b (pos a b n).1 (pos a b n).2
def bO(a b:List UD)(n:Nat):Nat:=if YN a b (pos a b n).1 (pos a b n).2=zt then 0 else 1
theorem bC{n:Nat}{x:UD}(h:n<a.length+b.length)(c:aU a b n=zo x):VF (Zi a b n)=zo (x,((bO a b n:Int),(Zi a b (n+1),0))):=by
 obtain⟨d,hs⟩:=Wj va vb (n:=n) (by omega);unfold Zi bO;rw[show pos a b (n+1)=if YN a b (pos a b n).1 (pos a b n).2=zt then((pos a b n).1+1,(pos a b n).2)else((pos a b n).1,(pos a b n).2+1)from rfl]
 unfold aU at c;cases g:YN a b (pos a b n).1 (pos a b n).2 with
 |true=>simp_all[zy,pY]
 |false=>simp_all[zx,pZ]
end
theorem bQ{s:U3}(a:s.2.1.length<=32)(b:s.1=zf->s.2.1=[]):Wf s=zo 0:=by
 unfold Wf;rw[Zf,TA,zx (by omega),Ti,zy rfl,Ug,Tn]
 simp_all[zx,Ug,Wa,zy]
def keep(s:U3)(x:UD):Bool:=!(s.1&&decide (x.1=s.2.1)) && !(s.2.2&&x.2.2.1)
theorem ic{s:U3}{x:UD}(e:s.2.1.length<=32)(f:s.1=zf->s.2.1=[])(g:kE x=0)(a:s.1=zt->Si x.1 s.2.1=zf):VP (s,x)=zo (keep s x,((zt,(x.1,s.2.2)),0)):=by
 unfold VP keep;rw[bQ e f,TA,Ti,zy rfl,Xb,g,TA,Ti,zy rfl];obtain⟨s1,s2,c⟩:=s;obtain⟨h,i,d,j⟩:=x;simp only at a ⊢;cases s1 with
 |true=>
  have:=a rfl;simp only[Sp,SM,YP,Wa,this,fl,if_false];by_cases b:h=s2
  ·simp[b]
  ·simp only[b,if_false,decide_false];cases c<;>cases d<;>rfl
 |false=>
  simp only[Sp,SM];cases c<;>cases d<;>rfl
def WZ:U3->List UD->List UD
 |_,[]=>[]
 |s,x::l=>(if keep s x=zt then[x]else[])++WZ (zt,(x.1,s.2.2)) l
theorem Yi:∀ (s:U3) (l:List UD),(WZ s l).length<=l.length
 |_,[]=>a9 _
 |s,x::l=>by
  have:=Yi (zt,(x.1,s.2.2)) l;unfold WZ
  grind
def aD:U3->List UD->Prop
 |_,[]=>True
 |s,x::l=>kE x=0/\(s.1=zt->Si x.1 s.2.1=zf)/\aD (zt,(x.1,s.2.2)) l
theorem az{x:UD}(h:kE x=0):x.1.length<=32:=by
 unfold kE at h;omega
theorem Vo{α β σ S:Type}{l:List α}(mk:Nat->σ->S)(Inv:List α->Nat->σ->Prop)(F:List α->Nat->σ->β){f:S->Option (LR S β)}{s:S}(a:σ)(g:s=mk 0 a)(p:l.length<=9223372036854775807)(hi:Inv l 0 a)
  (o:∀ a,Inv [] l.length a->f (mk l.length a)=zo (.dn (F [] l.length a)))
  (hc:∀ k x m a,l.drop k=x::m->l[k]?=zo x->k<l.length->Inv (x::m) k a -> ∃ b,f (mk k a)=zo (.nx (mk (k+1) b))/\Inv m (k+1) b/\F (x::m) k a=F m (k+1) b):loop f s=zo (F l 0 a):=by
 subst g
 have c:∀ (m:List α) (k n:Nat) (a:σ),l.drop k=m->k<=l.length->m.length<n->Inv m k a->IQ n f (mk k a)=zo (F m k a):=by
  intro m
  induction m with
  |nil=>
   intro k n a i h e hi;obtain⟨n,rfl⟩:∃ j,n=j+1:=⟨n-1,by omega⟩
   have d:k=l.length:=by
    grind
   subst d;exact Um (o a hi)
  |cons x m q=>
   intro k n a i h e hi;obtain⟨n,rfl⟩:∃ j,n=j+1:=⟨n-1,by omega⟩
   grind [ol,l5,Ue]
 exact c l 0 _ a (by simp) (by omega) (by omega) hi
def VK:U3->List UD->U3
 |s,[]=>s
 |s,x::l=>VK (zt,(x.1,s.2.2)) l
theorem cV{β:Type}{out:List UD}{n:Nat}(h:out.length<=n)(a:n<=20000)(x:UD)(k:Unit->Option β):gd (CF (BC (AQ out) (AQ [x])) 1048576) k=k ():=Un (by grind [BC,AQ,ae,a8]) k
theorem iD{l:List UD}{b:Bool}(B:l.length<=20000)(z:aD (zf,([],b)) l):W4 (l,b)=zo (WZ (zf,([],b)) l,(0,0)):=by
 unfold W4 Vl;simp only[UH,UG];rw[Te,zx (by omega),TA]
 rw[Vo (l:=l) (σ:=U3×List UD) (s:=(0,(0,(0,((zf,([],b)),[]))))) (λk a=>((0:Int),((k:Int),((0:Int),a))))
  (λm k a=>aD a.1 m/\a.1.2.1.length<=32/\(a.1.1=zf->a.1.2.1=[])/\a.2.length<=k/\k+m.length=l.length)
  (λm k a=>(1,((0,((l.length:Int),(0,(VK a.1 m,a.2++WZ a.1 m)))),()))) ((zf,([],b)),[]) rfl (by omega) ⟨z,by simp,λ_=>rfl,by simp,by simp⟩ ?_ ?_,TA]
 ·simp;rfl
 ·grind [re,SM,VK,WZ]
 ·rintro k x m ⟨s,out⟩ C q y ⟨⟨d,e,g⟩,i,j,n,A⟩;simp only at d e g i j n ⊢;refine⟨((zt,(x.1,s.2.2)),out++if keep s x=zt then[x]else[]),?_,⟨g,az d,(λh=>by cases h),?_,by grind⟩,?_⟩
  ·rw[rl y,Sp,UB,TS q,bQ i j,TA,Ti,zy rfl,Xb,d,TA,Ti,zy rfl];unfold keep Uf;obtain⟨s1,s2,r⟩:=s;obtain⟨f,t,c,u⟩:=x;simp only[TA,UN q (show l.length<=9223372036854775807 by omega)]at e ⊢;have p:∀ {β:Type} (k:Unit->Option β),gd (CF (BC out.length [(f,(t,(c,u)))].length) 1048576) k=k ():=λk=>cV n (by omega) (f,(t,(c,u))) k;cases s1 with
   |true=>
    have w:=e rfl;simp only[Sp,SM,Wa,w,p];by_cases o:f=s2
    ·simp[o]
    ·simp only[o,if_false,decide_false];cases r<;>cases c<;>simp[Sp,SM,IN]
   |false=>
    simp only[Sp,SM,p];cases r<;>cases c<;>simp[Sp,SM,IN]
  ·grind
  grind [VK,WZ,bc]
end
section
open Go Sv
theorem dG:∀ (l:List UD) (s:U3) (x:UD),WZ s (l++[x])=WZ s l++(if keep (VK s l) x=zt then[x]else[])
 |[],s,x=>by
  show(if keep s x=zt then[x]else[])++[]=[]++(if keep s x=zt then[x]else[])
  rw[ci,List.nil_append]
 |y::l,s,x=>by
  show(if keep s y=zt then[y]else[])++WZ _ (l++[x])=((if keep s y=zt then[y]else[])++WZ _ l)++_
  rw[dG l,bc];rfl
theorem ZT:∀ (l:List UD) (s:U3) (x:UD),VK s (l++[x])=(zt,(x.1,(VK s l).2.2))
 |[],s,x=>rfl
 |y::l,s,x=>by simp only[List.cons_append,VK,ZT l]
theorem XX:∀ (l:List UD) (s:U3),(VK s l).2.2=s.2.2
 |[],s=>rfl
 |y::l,s=>by rw[VK,XX l]
theorem dl:∀ (l:List UD) (s:U3) (x:UD),aD s l->kE x=0->((VK s l).1=zt->Si x.1 (VK s l).2.1=zf)->aD s (l++[x])
 |[],s,x,_,a,b=>⟨a,b,trivial⟩
 |y::l,s,x,⟨a,b,c⟩,d,h5=>⟨a,b,dl l _ x c d h5⟩
theorem bp:∀ (l:List UD) (s:U3),aD s l->s.2.1.length<=32->(s.1=zf->s.2.1=[])->(VK s l).2.1.length<=32/\((VK s l).1=zf->(VK s l).2.1=[])
 |[],s,_,h1,h2=>⟨h1,h2⟩
 |y::l,s,⟨a,_,b⟩,_,_=>bp l _ b (az a) (λh=>by cases h)
abbrev s0(a:Bool):U3:=(zf,([],a))
def Vq(a b:List UD)(c:Bool)(n:Nat):X4:=(Zi a b n,(VK (s0 c) (UR a b n),(WZ (s0 c) (UR a b n),(n:Int))))
def YQ(a b:List UD):Nat->List Int
 |0=>[]
 |n+1=>YQ a b n++[(bO a b n:Int)]
theorem aJ(a b:List UD):∀ n,(YQ a b n).length=n
 |0=>rfl
 |n+1=>by simp[YQ,aJ a b n]
theorem YO{S β:Type}{f:S->Option (LR S β)}{r:β}(mk:Nat->S)(a n:Nat){s:S}(b:s=mk a)(d:a<=n)(e:n<18446744073709551616)(hs:∀ k,a<=k->k<n->f (mk k)=zo (.nx (mk (k+1))))(c:f (mk n)=zo (.dn r)):loop f s=zo r:=by
 have h:=Xw (f:=f) (r:=r) (λk=>mk (a+k)) (n-a) (s:=s) b (by omega) (λk d=>hs (a+k) (by omega) (by omega)) (by show f (mk (a+(n-a)))=_;rw[show a+(n-a)=n by omega];exact c);exact h
theorem an(l:List UD)(h:l.length<=100000):Wg (l,l)=zo zt:=by
 unfold Wg;simp only[UH,UG]
 rw[Ti,zy rfl,Z7 (l:=l) (σ:=Unit) (s:=(zf,0)) (λk _=>(zf,(k:Int))) (λ_ _ _=>zo (1,((zf,(l.length:Int)),()))) () rfl (by omega) (λc=>by
  simp only;rw[re];rfl) (λk x m c _ a b=>.inl ⟨(),by
   simp only;rw[rl b,Sp,UB,TS a,UB,TS a,Y7,Y7,YV,show Og x.2.2.2 x.2.2.2=zt by unfold Og;simp,show H2 (Nr zt (Nr zt (Nr zt (Nr zt zt))))=zf from rfl,SM,UN a (by omega)],rfl⟩),TA]
 rfl
section
variable{a b:List UD}(va:VL a)(vb:VL b)
include va vb
theorem W6{n:Nat}{x:UD}(c:aU a b n=zo x):UR a b (n+1)=UR a b n++[x]:=by
 show(match aU a b n with
  |some x=>UR a b n++[x]
  |none=>UR a b n)=_
 rw[c]
theorem Xf(d:Bool):∀ {n:Nat},n<=a.length+b.length->aD (s0 d) (UR a b n)
 |0,_=>trivial
 |n+1,h=>by
  obtain⟨x,c,_⟩:=V6 va vb (n:=n) (by omega);rw[W6 va vb c];refine dl _ _ _ (Xf d (by omega)) (kM va vb c) λ_=> ?_;cases n with
  |zero=>rename_i f;cases f
  |succ m=>
   obtain⟨y,e,_⟩:=V6 va vb (n:=m) (by omega);rw[W6 va vb e,ZT];exact gw va vb (by omega) e c
theorem eV(c:Bool){n:Nat}(h:n<=a.length+b.length):(VK (s0 c) (UR a b n)).2.1.length<=32/\((VK (s0 c) (UR a b n)).1=zf->(VK (s0 c) (UR a b n)).2.1=[]):=
 bp _ _ (Xf va vb c h) (by simp) (λ_=>rfl)
theorem qN{n:Nat}(h:n=a.length+b.length):(wk (kx a (pos a b n).1) (kx b (pos a b n).2)).2=zt:=by
 obtain⟨c,hs⟩:=Wj va vb (n:=n) (by omega);have d:=c.ia;have e:=c.jb;rw[Z4 (ab (by omega)),Z4 (ab (by omega))];rfl
theorem qO{n:Nat}{x:UD}(c:aU a b n=zo x):(wk (kx a (pos a b n).1) (kx b (pos a b n).2)).2=zf/\wn (kx a (pos a b n).1) (kx b (pos a b n).2)=bO a b n:=by
 unfold aU at c;unfold bO;cases g:YN a b (pos a b n).1 (pos a b n).2 with
 |true=>rw[zy g]at c;rw[(jm g).1,(jm g).2,XW c];exact⟨rfl,rfl⟩
 |false=>rw[zx (by simp[g])]at c;rw[(jo g).1,(jo g).2,XW c];exact⟨rfl,rfl⟩
theorem pX:YY [a,b]=zo (UR a b (a.length+b.length),(YQ a b (a.length+b.length),0)):=by
 have u:=va.len;have w:=vb.len;unfold YY;rw[Zn va vb,TA,Ti,zy rfl];refine Eq.trans (b:=bd (loop _ (0,[([],zf),([],zf)])) _) rfl ?_;refine UZ (x:=(0,((2,[kx a 0,kx b 0]),()))) (VT (s1:=(1,[kx a 0,([],zf)])) (s2:=(2,[kx a 0,kx b 0])) ?_ ?_ rfl) ?_
 ·show bd (Ui (a,((0:Nat):Int))) _=_;rw[Xr (by omega)];rfl
 ·show bd (Ui (b,((0:Nat):Int))) _=_;rw[Xr (by omega)];rfl
 rw[show((0:Nat),(((2:Int),[kx a 0,kx b 0]),())).2.1.2=[kx a 0,kx b 0]from rfl,aG (Uw _ _) (Uw _ _),TA]
 refine UZ (x:=(0,((UR a b (a.length+b.length),(YQ a b (a.length+b.length),((),([((pos a b (a.length+b.length)).1:Int),((pos a b (a.length+b.length)).2:Int)],Tt (kx a (pos a b (a.length+b.length)).1) (kx b (pos a b (a.length+b.length)).2))))),())))
  (YO (λk=>(UR a b k,(YQ a b k,((),([((pos a b k).1:Int),((pos a b k).2:Int)],Tt (kx a (pos a b k).1) (kx b (pos a b k).2)))))) 0 (a.length+b.length) rfl (by omega) (by omega) (λk _ r=> ?_) ?_) rfl
 ·obtain⟨x,c,_⟩:=V6 va vb (n:=k) r;obtain⟨j,s⟩:=qO va vb c;obtain⟨t,hs⟩:=Wj va vb (n:=k) (by omega);have h:(UR a b k).length=k:=VX va vb (by omega);have i:=aJ a b k;simp only;rw[YT (Uw _ _) (Uw _ _),zx (by simp[j]),TA,Ti,zy rfl,s];rw[W6 va vb c];unfold aU at c;rw[show YQ a b (k+1)=YQ a b k++[(bO a b k:Int)]from rfl];unfold bO;rw[show pos a b (k+1)=if YN a b (pos a b k).1 (pos a b k).2=zt then((pos a b k).1+1,(pos a b k).2)else((pos a b k).1,(pos a b k).2+1)from rfl]
  have l:∀ {β:Type} (y:UD) (q:Unit->Option β),gd (CF (BC (AQ (UR a b k)) (AQ [y])) 1048576) q=q ():=λy q=>Un (by simp only[BC,AQ,h,ae,a8];omega) q;have o:∀ {β:Type} (y:Int) (q:Unit->Option β),gd (CF (BC (AQ (YQ a b k)) (AQ [y])) 1048576) q=q ():=λy q=>Un (by simp only[BC,AQ,i,ae,a8];omega) q;cases g:YN a b (pos a b k).1 (pos a b k).2 with
  |true=>
   rw[zy g]at c;obtain⟨d,_⟩:=jm g;obtain⟨m,f⟩:=Yb (p:=kx a (pos a b k).1) (q:=kx b (pos a b k).2) (k:=kx a ((pos a b k).1+1)) (Uw _ _) (Uw _ _) (Uw _ _) j (by rw[d,XW c];exact af va c)
   have e:rk (kx a (pos a b k).1) (kx b (pos a b k).2) (kx a ((pos a b k).1+1))=(kx a ((pos a b k).1+1),kx b (pos a b k).2):=by
    unfold rk;unfold YN at g;rw[zy g]
   rw[e]at f;have hi:=(aa.1 c).1;simp only[if_true];refine(ZK 0 rfl (x:=a) rfl).trans ((ZK 0 rfl (x:=((pos a b k).1:Int)) rfl).trans ((Wi _ rfl c).trans ?_));rw[l,o];refine(ZK 0 rfl (x:=((pos a b k).1:Int)) rfl).trans ((ZK 0 rfl (x:=((pos a b k).1:Int)) rfl).trans ((ZK 0 rfl (x:=a) rfl).trans ((ZK 0 rfl (x:=SV .i64 ((pos a b k).1:Int) 1) rfl).trans ?_)));rw[UI (by omega),Xr (by omega),TA,f,TA];rfl
  |false=>
   rw[zx (by simp[g])]at c;obtain⟨d,_⟩:=jo g;obtain⟨m,f⟩:=Yb (p:=kx a (pos a b k).1) (q:=kx b (pos a b k).2) (k:=kx b ((pos a b k).2+1)) (Uw _ _) (Uw _ _) (Uw _ _) j (by rw[d,XW c];exact af vb c)
   have e:rk (kx a (pos a b k).1) (kx b (pos a b k).2) (kx b ((pos a b k).2+1))=(kx a (pos a b k).1,kx b ((pos a b k).2+1)):=by
    unfold rk;unfold YN at g;rw[zx (by simp[g])]
   rw[e]at f;have hi:=(aa.1 c).1;simp only[fl,if_false];refine(ZK 1 rfl (x:=b) rfl).trans ((ZK 1 rfl (x:=((pos a b k).2:Int)) rfl).trans ((Wi _ rfl c).trans ?_));rw[l,o];refine(ZK 1 rfl (x:=((pos a b k).2:Int)) rfl).trans ((ZK 1 rfl (x:=((pos a b k).2:Int)) rfl).trans ((ZK 1 rfl (x:=b) rfl).trans ((ZK 1 rfl (x:=SV .i64 ((pos a b k).2:Int) 1) rfl).trans ?_)));rw[UI (by omega),Xr (by omega),TA,f,TA];rfl
 ·simp only;rw[YT (Uw _ _) (Uw _ _),zy (qN va vb rfl),TA,Ti,zx (by decide),Ti,zx (by decide)]
end
end
section
open Go Sv
theorem gm{β:Type}{out:List UD}{n:Nat}(h:out.length<=n)(a:n<=20000)(x:UD)(k:Unit->Option β):gd (CF (BC out.length [x].length) 1048576) k=k ():=cV h a x k
section
variable{a b:List UD}(va:VL a)(vb:VL b)
include va vb
theorem Xz{n:Nat}(h:n<=a.length+b.length):(UR a b (a.length+b.length)).take n=UR a b n:=eZ va vb (a9 _) h
theorem ZJ{n:Nat}{x:UD}(c:Bool)(d:aU a b n=zo x):VK (s0 c) (UR a b (n+1))=(zt,(x.1,c)):=by
 rw[W6 va vb d,ZT,XX]
theorem fG(c:Bool){n:Nat}(h:n<=a.length+b.length):XV (Vq a b c n)=zo 0:=by
 obtain⟨e,hs⟩:=Wj va vb (n:=n) h;have i:=va.len;have j:=vb.len;have f:=Yi (s0 c) (UR a b n);have g:(UR a b n).length=n:=VX va vb h;unfold XV;rw[show(Vq a b c n).1=Zt a b (pos a b n).1 (pos a b n).2 from rfl,ZV va vb e,TA,Ti,zy rfl];refine UZ (x:=(0,((2,(n:Int)),()))) (VT (s1:=(1,((pos a b n).1:Int))) (s2:=(2,(n:Int))) ?_ ?_ rfl) ?_
 ·refine(aZ 0 rfl rfl (x:=((pos a b n).1:Int)) rfl).trans ?_;show zo (LR.nx ((1:Int),SV .i64 0 ((pos a b n).1:Int)))=_;rw[Su (by omega),tk]
 ·refine(aZ 1 rfl rfl (x:=((pos a b n).2:Int)) rfl).trans ?_;show zo (LR.nx ((2:Int),SV .i64 ((pos a b n).1:Int) ((pos a b n).2:Int)))=_;rw[Su (by omega),show((pos a b n).1:Int)+((pos a b n).2:Int)=(n:Int) by omega]
 simp only[UH,UG];rw[show(Vq a b c n).2.2.1=WZ (s0 c) (UR a b n)from rfl,show(Vq a b c n).2.2.2=(n:Int)from rfl,show(Vq a b c n).2.1=VK (s0 c) (UR a b n)from rfl,Te,zx (by omega),Te,zx (by omega),Ti,zy rfl];rw[show(Zt a b (pos a b n).1 (pos a b n).2).1=[a,b]from rfl,pX va vb,TA,Ti,zy rfl,UB];rw[Un (by rw[VX va vb (a9 _)];exact h),Un (Nat.zero_le _)];rw[show Dy (UR a b (a.length+b.length)) 0 n=UR a b n from by unfold Dy;rw[sr,Nat.sub_zero];exact Xz va vb h,XX];rw[show(s0 c).2.2=c from rfl,iD (by omega) (Xf va vb c h),TA,Ti,zy rfl];unfold Vl;rw[TA,Te];cases n with
 |zero=>
  rw[zx (by omega),an _ (by omega),TA,Zl,SM];show br (H2 (Nr (Sv.beq zf zf) (Nr (seq [] []) (Nr (Sv.beq c c) zt)))) _ _=_;rw[YV,YV,Y7];rfl
 |succ m=>
  obtain⟨x,d,_⟩:=V6 va vb (n:=m) (by omega);rw[zy (by omega),show SY .i64 ((m+1:Nat):Int) 1=(m:Int) by rw[Sx (by omega)];omega,UB];rw[TS (x:=x) (by rw[Yp va vb (a9 _) (by omega)];exact d),an _ (by omega),TA,Zl,SM,ZJ va vb c d];rw[YV,YV,Y7];rfl
theorem kH{n:Nat}(h:n<=a.length+b.length):X7 (Zi a b n)=zo (((a.length+b.length-n:Nat):Int),0):=by
 obtain⟨c,hs⟩:=Wj va vb (n:=n) h;have f:=va.len;have g:=vb.len;have d:=c.ia;have e:=c.jb;unfold X7;rw[show Zi a b n=Zt a b (pos a b n).1 (pos a b n).2 from rfl,ZV va vb c,TA,Ti,zy rfl];refine UZ (x:=(0,((2,((a.length+b.length-n:Nat):Int)),()))) (VT (s1:=(1,(a.length:Int)-((pos a b n).1:Int))) (s2:=(2,((a.length+b.length-n:Nat):Int))) ?_ ?_ rfl) rfl
 ·refine(aZ 0 rfl rfl (x:=a) rfl).trans ((Wi 0 rfl (x:=((pos a b n).1:Int)) rfl).trans ?_);simp only[UH,UG];rw[Sx (by omega)];show zo (LR.nx ((1:Int),SV .i64 0 ((a.length:Int)-((pos a b n).1:Int))))=_;rw[Su (by omega),tk]
 ·refine(aZ 1 rfl rfl (x:=b) rfl).trans ((Wi 1 rfl (x:=((pos a b n).2:Int)) rfl).trans ?_);simp only[UH,UG];rw[Sx (by omega)];show zo (LR.nx ((2:Int),SV .i64 ((a.length:Int)-((pos a b n).1:Int)) ((b.length:Int)-((pos a b n).2:Int))))=_;rw[Su (by omega),show(a.length:Int)-((pos a b n).1:Int)+((b.length:Int)-((pos a b n).2:Int))=((a.length+b.length-n:Nat):Int) by omega]
theorem aR(c:Bool){n:Nat}(h:n<=a.length+b.length):U2 (Vq a b c n)=zo (((a.length+b.length-n:Nat):Int),0):=by
 unfold U2;rw[fG va vb c h,TA,Ti,zy rfl,show(Vq a b c n).1=Zi a b n from rfl,kH va vb h];rfl
theorem am(c:Bool){n:Nat}{x:UD}(d:aU a b n=zo x):Vq a b c (n+1)=(Zi a b (n+1),((zt,(x.1,c)),(WZ (s0 c) (UR a b n)++(if keep (VK (s0 c) (UR a b n)) x=zt then[x]else[]),((n+1:Nat):Int)))):=by
 unfold Vq;rw[W6 va vb d,ZT,XX,dG]
theorem Y8(c:Bool){n:Nat}{x:UD}(h:n<a.length+b.length)(e:aU a b n=zo x):VP (VK (s0 c) (UR a b n),x)=zo (keep (VK (s0 c) (UR a b n)) x,((zt,(x.1,c)),0)):=by
 have d:=eV va vb c (n:=n) (by omega);rw[ic d.1 d.2 (kM va vb e),XX];intro g;cases n with
 |zero=>cases g
 |succ m=>
  obtain⟨y,f,_⟩:=V6 va vb (n:=m) (by omega);rw[ZJ va vb c f];exact gw va vb (by omega) f e
def sN(k:Int)(s:X4):Int×(Int×(List (List UD)×(List Int×(List UW×(List Int×(Int×(Bool×(XZ×(Bool×(List UD×Int)))))))))):=
 (k,(0,(s.1.1,(s.1.2.1,(s.1.2.2.1,(s.1.2.2.2.1,(s.1.2.2.2.2,(s.2.1.1,(s.2.1.2.1,(s.2.1.2.2,(s.2.2.1,s.2.2.2)))))))))))
theorem cE(c:Bool){n:Nat}(h:n<=a.length+b.length){k:Nat}:VD (Vq a b c n,(k:Int))=zo (Vq a b c (n+min k (a.length+b.length-n)),(((min k (a.length+b.length-n):Nat):Int),0)):=by
 have w:=va.len;have z:=vb.len;have d:∀ m,m<=a.length+b.length->(WZ (s0 c) (UR a b m)).length<=m:=λm s=>by have:=Yi (s0 c) (UR a b m);have:=VX va vb s;omega
 obtain⟨u,t⟩:∃ u,u=min k (a.length+b.length-n):=⟨_,rfl⟩
 have i:Tp (k:Int) ((a.length+b.length-n:Nat):Int)=(u:Int):=by
  unfold Tp;split<;>omega
 rw[<- t];unfold VD;rw[aR va vb c h,TA,Ti,zy rfl];simp only[i,UH,UG];rw[Th,zx (by omega),show(Vq a b c n).2.2.2=(n:Int)from rfl,Su (by omega),Te,zx (by omega)];rw[show(Vq a b c n).2.2.1=WZ (s0 c) (UR a b n)from rfl,show(Vq a b c n).1=Zi a b n from rfl,Un (by have:=d n h;omega),Un (show(Zi a b n).2.1.length<=1048576 from(show 2<=1048576 by omega)),Th];by_cases r:u=0
 ·rw[r,zx (by omega)];rfl
 rw[zy (by omega)];obtain⟨x,o,_⟩:=V6 va vb (n:=n) (by omega);rw[bC va vb (by omega) o,TA,Ti,zy rfl,show(Vq a b c n).2.1=VK (s0 c) (UR a b n)from rfl,Y8 va vb c (by omega) o,TA,Ti,zy rfl]
 have q:∀ j,1<=j->j<u -> ∃ y,aU a b (n+j)=zo y:=λj f g=>by
  obtain⟨y,e,_⟩:=V6 va vb (n:=n+j) (by omega);exact⟨y,e⟩
 rw[Tn];have hS:=am va vb c o;cases p:keep (VK (s0 c) (UR a b n)) x with
 |true=>
  rw[p]at hS;rw[zy rfl,gm (d n h) (by omega)];refine UZ (x:=(1,(sN u (Vq a b c (n+u)),()))) (YO (λj=>sN j (Vq a b c (n+j))) 1 u ?_ (by omega) (by omega) (λj f g=> ?_) ?_) ?_
  ·rw[hS,show SV .i64 (n:Int) 1=((n+1:Nat):Int)from UI (by omega)];rfl
  ·obtain⟨y,e⟩:=q j f g;show br (TK (j:Int) (u:Int)) _ _=_;rw[Th,zy (by omega)];show bd (VF (Zi a b (n+j))) _=_;rw[bC va vb (by omega) e,TA,Ti,zy rfl];show bd (VP (VK (s0 c) (UR a b (n+j)),y)) _=_;rw[Y8 va vb c (by omega) e,TA,Ti,zy rfl,Tn,show n+(j+1)=n+j+1 by omega,am va vb c e];cases l:keep (VK (s0 c) (UR a b (n+j))) y with
   |true=>
    rw[zy rfl,zy rfl];show gd (CF (BC (AQ (WZ (s0 c) (UR a b (n+j)))) (AQ [y])) 1048576) _=_;rw[cV (d _ (by omega)) (by omega)];show zo (LR.nx (SV .i64 (j:Int) 1,_))=_;unfold sN;simp only[UI (show j+1<=9223372036854775807 by omega),IN];rw[show SV .i64 (Vq a b c (n+j)).2.2.2 1=((n+j+1:Nat):Int)from UI (by omega)];rfl
   |false=>
    rw[zx (by simp),zx (by simp)];show zo (LR.nx (SV .i64 (j:Int) 1,_))=_;unfold sN;simp only[UI (show j+1<=9223372036854775807 by omega)];rw[show SV .i64 (Vq a b c (n+j)).2.2.2 1=((n+j+1:Nat):Int)from UI (by omega),ci];rfl
  ·show br (TK (u:Int) (u:Int)) _ _=_;rw[Th,zx (by omega)]
  ·rfl
 |false=>
  rw[p]at hS;rw[zx (by simp)];refine UZ (x:=(1,(sN u (Vq a b c (n+u)),()))) (YO (λj=>sN j (Vq a b c (n+j))) 1 u ?_ (by omega) (by omega) (λj f g=> ?_) ?_) ?_
  ·rw[hS,show SV .i64 (n:Int) 1=((n+1:Nat):Int)from UI (by omega),zx (by simp),ci];rfl
  ·obtain⟨y,e⟩:=q j f g;show br (TK (j:Int) (u:Int)) _ _=_;rw[Th,zy (by omega)];show bd (VF (Zi a b (n+j))) _=_;rw[bC va vb (by omega) e,TA,Ti,zy rfl];show bd (VP (VK (s0 c) (UR a b (n+j)),y)) _=_;rw[Y8 va vb c (by omega) e,TA,Ti,zy rfl,Tn,show n+(j+1)=n+j+1 by omega,am va vb c e];cases l:keep (VK (s0 c) (UR a b (n+j))) y with
   |true=>
    rw[zy rfl,zy rfl];show gd (CF (BC (AQ (WZ (s0 c) (UR a b (n+j)))) (AQ [y])) 1048576) _=_;rw[cV (d _ (by omega)) (by omega)];show zo (LR.nx (SV .i64 (j:Int) 1,_))=_;unfold sN;simp only[UI (show j+1<=9223372036854775807 by omega),IN];rw[show SV .i64 (Vq a b c (n+j)).2.2.2 1=((n+j+1:Nat):Int)from UI (by omega)];rfl
   |false=>
    rw[zx (by simp),zx (by simp)];show zo (LR.nx (SV .i64 (j:Int) 1,_))=_;unfold sN;simp only[UI (show j+1<=9223372036854775807 by omega)];rw[show SV .i64 (Vq a b c (n+j)).2.2.2 1=((n+j+1:Nat):Int)from UI (by omega),ci];rfl
  ·show br (TK (u:Int) (u:Int)) _ _=_;rw[Th,zx (by omega)]
  ·rfl
end
end
section
open Go Sv
theorem Wh{α β σ S:Type}{l:List α}(mk:Nat->σ->S)(I:List α->Nat->σ->Prop)(Q:β->Prop){f:S->Option (LR S β)}{s:S}(a:σ)(t:s=mk 0 a)(z:l.length<=9223372036854775807)(hi:I l 0 a)
  (w:∀ a,I [] l.length a -> ∃ r,f (mk l.length a)=zo (.dn r)/\Q r)
  (hc:∀ k x m a,l.drop k=x::m->l[k]?=zo x->k<l.length->I (x::m) k a->(∃ b,f (mk k a)=zo (.nx (mk (k+1) b))/\I m (k+1) b) \/ ∃ r,f (mk k a)=zo (.dn r)/\Q r):∃ r,loop f s=zo r/\Q r:=by
 subst t
 have h:∀ (m:List α) (k n:Nat) (a:σ),l.drop k=m->k<=l.length->m.length<n->I m k a -> ∃ r,IQ n f (mk k a)=zo r/\Q r:=by
  intro m
  induction m with
  |nil=>
   intro k n a e u g hi;obtain⟨n,rfl⟩:∃ j,n=j+1:=⟨n-1,by omega⟩
   have o:k=l.length:=by
    have:=congrArg List.length e;simp at this;omega
   subst o;obtain⟨r,c,d⟩:=w a hi;exact⟨r,Um c,d⟩
  |cons x m y=>
   intro k n a e u g hi;obtain⟨n,rfl⟩:∃ j,n=j+1:=⟨n-1,by omega⟩
   have q:l[k]?=zo x:=by
    have:=congrArg List.head? e;rw[ol]at this;simpa using this
   have i:k<l.length:=(aa.1 q).1
   have p:l.drop (k+1)=m:=by
    have:=congrArg List.tail e;rw[l5]at this;simpa using this
   rcases hc k x m a e q i hi with⟨b,c,d⟩|⟨r,c,d⟩
   ·rw[Ue c];exact y (k+1) n b p (by omega) (by simp at g;omega) d
   ·exact⟨r,Um c,d⟩
 exact h l 0 _ a (by simp) (by omega) (by omega) hi
theorem Yo{α:Type}(l m:List α)(i:l.length=m.length)(n:l.length<=9223372036854775806){f:(Int×Bool)->Option (LR (Int×Bool) (Nat×((Int×Bool)×Unit)))}
  (hs:∀ (k:Nat) x y,l[k]?=zo x->m[k]?=zo y->(x=y->f ((k:Int),zf)=zo (.nx (((k+1:Nat):Int),zf)))/\(x≠y->f ((k:Int),zf)=zo (.dn (0,(((k:Int),zf),())))))
  (g:f ((l.length:Int),zf)=zo (.dn (1,(((l.length:Int),zf),())))) :
  ∃ r,loop f (0,zf)=zo r/\((l=m/\r.1=1)\/(l≠m/\r.1=0/\r.2.1.2=zf)):=by
 refine Wh (l:=l) (σ:=Unit) (λk _=>((k:Int),zf)) (λt k _=>t=l.drop k/\l.take k=m.take k) _ () rfl (by omega) ⟨by simp,by simp⟩ (λj h=> ?_) (λk x t j d b o h=> ?_)
 ·refine⟨_,g,.inl ⟨?_,rfl⟩⟩;have:=h.2;rw[wl,i,wl]at this;exact this
 ·have c:k<m.length:=by omega
  have a:m[k]?=zo m[k]:=by simp[c]
  by_cases e:x=m[k]
  ·refine .inl ⟨(),(hs k x m[k] b a).1 e,?_,?_⟩
   ·have:=congrArg List.tail d;rw[l5]at this;simp at this;exact this.symm
   ·rw[hV,hV,h.2,b,a,e]
  ·refine .inr ⟨_,(hs k x m[k] b a).2 e,.inr ⟨?_,rfl,rfl⟩⟩;intro e2;subst e2;rw[b]at a;exact e (Option.some.inj a)
theorem beq_eq(a b:Bool):Sv.beq a b=decide (a=b):=by cases a<;>cases b<;>rfl
theorem Vm(a b:Int):Og a b=decide (a=b):=by
 unfold Og;by_cases h:a=b<;>simp[h]
theorem Yt(p q:Prop)[Decidable p][Decidable q]:Nr (decide p) (decide q)=decide (p/\q):=by unfold Nr;simp
theorem VU(p:Prop)[Decidable p]:H2 (decide p)=decide (¬ p):=by unfold H2;simp
theorem Zu(a:Bool):Nr a zt=a:=by cases a<;>rfl
theorem iK(l m:List UW)(s:l.length<=9223372036854775806):UV (l,m)=zo (decide (l=m)):=by
 unfold UV;simp only[UH,UG];rw[Ti];by_cases b:(l.length:Int)=(m.length:Int)
 ·rw[zy b];have c:l.length=m.length:=by omega
  obtain⟨r,p,a⟩:=Yo l m c s (f:=λs0=>br (TK s0.1 (l.length:Int)) (λ_=>SG s0.1 λt=>ix l t λn=>SG s0.1 λw=>ix m w λo=>br (H2 (Nr (seq n.1 o.1) (Nr (Sv.beq n.2 o.2) zt))) (λ_=>zo (.dn ((0,((s0.1,zf),()))))) λ_=>zo (.nx (SV .i64 s0.1 1,s0.2))) λ_=>zo (.dn ((1,(s0,()))))) (λk x y d j=>by
    have i:=(aa.1 d).1
    have g:∀ {β:Type} (u v:Unit->Option β),br (H2 (Nr (seq x.1 y.1) (Nr (Sv.beq x.2 y.2) zt))) u v=if x=y then v ()else u ():=by
     intro β u v;rw[Zu,Zr,beq_eq,Yt,VU,Vb];by_cases e:x=y
     ·subst e;simp
     ·rw[zy (λh=>e (s9 h.1 h.2)),zx e]
    constructor
    ·intro e;simp only;rw[rl i,Sp,UB,TS d,UB,TS j,g,zy e,UI (by omega)]
    ·intro e;simp only
     rw[rl i,Sp,UB,TS d,UB,TS j,g,zx e]) (by simp only;rw[re];rfl)
  refine UZ p ?_;rcases a with⟨e,a⟩|⟨e,a,q⟩
  ·rw[TB,a];simp[e]
  ·rw[TB,a];simp[e,q]
 ·rw[zx b];have:¬ l=m:=λe=>b (by rw[e]);simp[this]
theorem ZR(l m:List Int)(n:l.length<=9223372036854775806):UQ (l,m)=zo (decide (l=m)):=by
 unfold UQ;simp only[UH,UG];rw[Ti];by_cases b:(l.length:Int)=(m.length:Int)
 ·rw[zy b];have c:l.length=m.length:=by omega
  obtain⟨r,i,a⟩:=Yo l m c n (f:=λs0=>br (TK s0.1 (l.length:Int)) (λ_=>SG s0.1 λo=>ix l o λq=>SG s0.1 λp=>ix m p λs=>br (SD q s) (λ_=>zo (.dn ((0,((s0.1,zf),()))))) λ_=>zo (.nx (SV .i64 s0.1 1,s0.2))) λ_=>zo (.dn ((1,(s0,()))))) (λk x y d h=>by
    have g:=(aa.1 d).1;constructor
    ·intro e;simp only;rw[rl g,Sp,UB,TS d,UB,TS h,Ti,zy e,UI (by omega)]
    ·intro e;simp only
     rw[rl g,Sp,UB,TS d,UB,TS h,Ti,zx e]) (by simp only;rw[re];rfl)
  refine UZ i ?_;rcases a with⟨e,a⟩|⟨e,a,j⟩
  ·rw[TB,a];simp[e]
  ·rw[TB,a];simp[e,j]
 ·rw[zx b];have:¬ l=m:=λe=>b (by rw[e]);simp[this]
theorem aq{β:Type}(x y:UD)(u v:Unit->Option β):br (H2 (Nr (seq x.1 y.1) (Nr (seq x.2.1 y.2.1) (Nr (Sv.beq x.2.2.1 y.2.2.1) (Nr (Og x.2.2.2 y.2.2.2) zt))))) u v=if x=y then v ()else u ():=by
 rw[Zu,Zr,Zr,beq_eq,Vm,Yt,Yt,Yt,VU,Vb];by_cases e:x=y
 ·subst e;simp
 ·rw[zy (λh=>e (s9 h.1 (s9 h.2.1 (s9 h.2.2.1 h.2.2.2)))),zx e]
theorem XE(l m:List UD)(p:l.length<=9223372036854775806):U1 (l,m)=zo (decide (l=m)):=by
 unfold U1;simp only[UH,UG];rw[Ti];by_cases d:(l.length:Int)=(m.length:Int)
 ·rw[zy d];have g:l.length=m.length:=by omega
  obtain⟨r,n,a⟩:=Yo l m g p (f:=λs0=>br (TK s0.1 (l.length:Int)) (λ_=>SG s0.1 λq=>ix l q λb=>SG s0.1 λs=>ix m s λc=>br (H2 (Nr (seq b.1 c.1) (Nr (seq b.2.1 c.2.1) (Nr (Sv.beq b.2.2.1 c.2.2.1) (Nr (Og b.2.2.2 c.2.2.2) zt))))) (λ_=>zo (.dn ((0,((s0.1,zf),()))))) λ_=>zo (.nx (SV .i64 s0.1 1,s0.2))) λ_=>zo (.dn ((1,(s0,()))))) (λk x y h j=>by
    have i:=(aa.1 h).1;constructor
    ·intro e;simp only;rw[rl i,Sp,UB,TS h,UB,TS j,aq,zy e,UI (by omega)]
    ·intro e;simp only
     rw[rl i,Sp,UB,TS h,UB,TS j,aq,zx e]) (by simp only;rw[re];rfl)
  refine UZ n ?_;rcases a with⟨e,a⟩|⟨e,a,o⟩
  ·rw[TB,a];simp[e]
  ·rw[TB,a];simp[e,o]
 ·rw[zx d];have:¬ l=m:=λe=>d (by rw[e]);simp[this]
theorem YR(l m:List UD)(a:l.length<=9223372036854775806):U9 (l,m)=zo (decide (l=m)):=by
 unfold U9;rw[XE l m a];rfl
instance:DecidableEq UD:=inferInstance
instance:DecidableEq (List UD):=inferInstance
instance:DecidableEq (List (List UD)):=inferInstance
instance:DecidableEq UW:=inferInstance
instance:DecidableEq V9:=inferInstance
instance:DecidableEq Vp:=inferInstance
instance:DecidableEq U3:=inferInstance
instance:DecidableEq X4:=inferInstance
theorem dS(x y:X4)(n:x.1.1.length<=1000)(i:∀ l∈x.1.1,l.length<=1000000)(o:x.1.2.1.length<=1000)(p:x.1.2.2.1.length<=1000)(q:x.1.2.2.2.1.length<=1000)(s:x.2.2.1.length<=1000000):V8 (x,y)=zo (decide (x=y)):=by
 obtain⟨⟨a,E,F,G,M⟩,⟨xs,L,J⟩,I,K⟩:=x;obtain⟨⟨b,N,P,S,Z⟩,⟨X,Y,O⟩,W,U⟩:=y;simp only at n i o p q s;unfold V8;simp only[UH,UG];rw[Ti];by_cases g:(a.length:Int)=(b.length:Int)
 ·rw[zy g];have h:a.length=b.length:=by omega
  obtain⟨r,z,d⟩:=Yo a b h (by omega) (f:=λs0=>br (TK s0.1 (a.length:Int)) (λ_=>SG s0.1 λu=>ix a u λC=>SG s0.1 λw=>ix b w λD=>bd (U9 (C,D)) λB=>br (H2 B) (λ_=>zo (.dn ((0,((s0.1,zf),()))))) λ_=>zo (.nx (SV .i64 s0.1 1,s0.2))) λ_=>zo (.dn ((1,(s0,()))))) (λk x y c m=>by
    have j:=(aa.1 c).1;have t:=i x (ad c);constructor
    ·intro e;simp only;rw[rl j,Sp,UB,TS c,UB,TS m,YR _ _ (by omega),TA,VU,Vb,zx (by simp[e]),UI (by omega)]
    ·intro e;simp only
     rw[rl j,Sp,UB,TS c,UB,TS m,YR _ _ (by omega),TA,VU,Vb,zy e]) (by simp only;rw[re];rfl)
  refine UZ z ?_;simp only[ZR _ _ (show E.length<=9223372036854775806 by omega),ZR _ _ (show G.length<=9223372036854775806 by omega),iK _ _ (show F.length<=9223372036854775806 by omega),YR _ _ (show I.length<=9223372036854775806 by omega),TA,Vb,Vm,Zr,beq_eq,Zu,Yt,TB];rw[Tn];rcases d with⟨e,d⟩|⟨e,d,A⟩
  ·rw[zx (show ¬ r.1=0 by omega)]
   repeat' split
   all_goals simp_all
  ·rw[zy d,zx (show ¬ r.2.1.2=zt by simp[A])];simp[e]
 ·rw[zx g];have:¬ a=b:=λe=>g (by rw[e]);simp[this]
end
section
open Go Sv
def kR(a:List Int)(most:Int)(r:UX):Int:=
 if r.1<1\/r.1>1000000 then 7 else if(Wu r.2).2≠0 then(Wu r.2).2 else if r.2.length=0 then 4 else if(r.2.length:Int)>most then 3 else if r.1∈a then 8 else 0
def Zc(most:Int):Nat->List Int->List UX->Option (Nat×Int)
 |_,_,[]=>zn
 |k,ids,r::rs=>if kR ids most r≠0 then zo (k,kR ids most r)else Zc most (k+1) (ids++[r.1]) rs
def VG(B:Int)(i:Nat):Int:=B*2 ^ i
def Zb(B:Int):Nat->List Int->List (List UX)->Option (Nat×(Nat×Int))
 |_,_,[]=>zn
 |i,ids,rs::ls=>if rs.length>2 then zo (i,(0,3))else match Zc (VG B i) 0 ids rs with
  |some (k,e)=>zo (i,(k,e))
  |none=>Zb B (i+1) (ids++rs.map (·.1)) ls
def WF(L:UF):Int×(Int×Int):=
 if L.1<1\/L.1>16 then(0,(0,7))else if L.2.length>12 then(0,(0,3))else match Zb L.1 0 [] L.2 with
  |some (i,(k,e))=>((i:Int),((k:Int),e))
  |none=>if L.2.getLast?=zo []then(((L.2.length-1:Nat):Int),(0,6))else(0,(0,0))
theorem iB{most:Int}:∀ {rs:List UX} {k:Nat} {a:List Int} {b:Nat} {e:Int},Zc most k a rs=zo (b,e)->e≠0
 |[],_,_,_,_,h=>by cases h
 |r::rs,k,a,b,e,h=>by
  unfold Zc at h;by_cases c:kR a most r≠0
  ·simp_all
  ·rw[zx c]at h;exact iB h
theorem cZ{B:Int}:∀ {ls:List (List UX)} {i:Nat} {a:List Int} {c d:Nat} {e:Int},Zb B i a ls=zo (c,(d,e))->e≠0
 |[],_,_,_,_,_,h=>by cases h
 |rs::ls,i,a,c,d,e,h=>by
  unfold Zb at h;by_cases f:rs.length>2
  ·grind
  ·rw[zx f]at h;cases b:Zc (VG B i) 0 a rs with
   |none=>rw[b]at h;exact cZ h
   |some x=>rw[b]at h;cases h;exact iB b
def bY(a:List Int):List (Int×Bool):=a.map λi=>(i,zt)
theorem kK(c:List Int)(i:Int):Sc (MY (λa b=>Og a b) (bY c) i) zf=decide (i∈c):=by
 induction c with
 |nil=>rfl
 |cons j c d=>
  show Sc (bif Og i j then zo zt else MY (λa b=>Og a b) (bY c) i) zf=_
  rw[Vm];by_cases h:i=j
  ·simp[h,Sc]
  simp_all
theorem kL{c:List Int}{i:Int}(h:i ∉ c):IX (λa b=>Og a b) (bY c) i zt=bY (c++[i]):=by
 induction c with
 |nil=>rfl
 |cons j c f=>
  show(bif Og i j then(i,zt)::bY c else(j,zt)::IX (λa b=>Og a b) (bY c) i zt)=_
  rw[Vm];have d:¬ i=j:=λe=>h (by simp[e]);rw[f (λe=>h (by simp[e]))];simp only[d,decide_false,zj];rfl
theorem ck(r:UX)(a:r.2.length<=9223372036854775807):YH r=zo (if r.1<1\/r.1>1000000 then(-1,7)else Wu r.2):=by
 grind [YH,Th,Te,Xu,TA]
theorem bq(r:UX)(most:Int)(b:r.2.length<=9223372036854775807):Vw (r,most)=zo (kR [] most r):=by
 unfold Vw kR;rw[ck r b,TA];simp only[UH,UG];by_cases h:r.1<1\/r.1>1000000
 ·rw[zy h,zy h];rfl
 ·rw[zx h,zx h,Ti];by_cases a:(Wu r.2).2=0
  ·rw[zy a,zx (by simp[a]),Tc,Te]
   grind
  simp_all
theorem sV(a:List Int)(most:Int)(r:UX):kR a most r=if kR [] most r=0 then(if r.1∈a then 8 else 0)else kR [] most r:=by
 grind [kR]
theorem sc(i:Nat)(h:i<=12):(2:Int) ^ i<=4096/\1<=(2:Int) ^ i:=by
 have a:(2:Nat) ^ i<=2 ^ 12:=Nat.pow_le_pow_right (by omega) h
 grind
theorem d9{B:Int}{i:Nat}(a:1<=B)(b:B<=16)(hi:i<=12):1<=VG B i/\VG B i<=65536:=by
 obtain⟨c,d⟩:=sc i hi;unfold VG;constructor
 ·have:=xo a d (by omega) (by omega);omega
 ·have:=xo b c (by omega) (by omega);omega
theorem aK{B:Int}{i:Nat}(a:1<=B)(b:B<=16)(hi:i<=12):TP .i64 B (i:Int)=VG B i:=by
 have c:=d9 a b hi;unfold TP;rw[show min ((i:Int).toNat) IntKind.i64.bits=i by rw[Int.toNat_natCast];exact Nat.min_eq_left (Nat.le_trans hi (by decide))];unfold VG at c ⊢;exact IntWalk.i64_in _ (by omega)
def Q1:Option (Nat×(Nat×Int))->Int->Int->Int->Prop
 |some (i,(k,e)),a,b,c=>a=(k:Int)/\b=(i:Int)/\c=e
 |none,_,_,c=>c=0
def Q2(m:List (Int×Bool)):Option (Nat×Int)->Nat->Int->Int->List (Int×Bool)->Prop
 |some (k,e),r,a,c,_=>r=0/\a=(k:Int)/\c=e
 |none,r,_,c,m'=>r=1/\c=0/\m'=m
theorem Zm(L:UF)(hb:L.2.length<=1048576)(hr:∀ rs∈L.2,rs.length<=1048576 /\ ∀ r∈rs,r.2.length<=9223372036854775807):V3 L=zo (WF L):=by
 unfold V3 WF;simp only[UH,UG];rw[Th,Te,Te];by_cases J:L.1<1
 ·simp_all
 rw[zx J];by_cases K:L.1>16
 ·simp_all
 rw[zx K,zx (show ¬ (L.1<1\/L.1>16) by omega)];by_cases hl:(L.2.length:Int)>12
 ·grind
 rw[zx hl,zx (by omega)];have hl2:L.2.length<=12:=by omega
 obtain⟨T,D⟩:∃ T,T=Zb L.1 0 [] L.2:=⟨_,rfl⟩;rw[<- D]
 have A:∀ P:Int,P=0->T=zn->(br (SD P 0) (λ_=>(zn:Option (Int×(Int×Int)))) λ_=>br (TI (L.2.length:Int) 0) (λ_=>SG (SY .i64 (L.2.length:Int) 1) λM=>ix L.2 M λS=>br (Og (S.length:Int) 0) (λ_=>zo ((SY .i64 (L.2.length:Int) 1,(0,6)))) λ_=>zo ((0,(0,0)))) λ_=>zo ((0,(0,0))))=zo (if L.2.getLast?=zo []then(((L.2.length-1:Nat):Int),(0,6))else(0,(0,0))):=by
  intro P n _;rw[Ti,zy n,Te];by_cases Z:L.2=[]
  ·rw[Z];rfl
  ·have hp:=List.length_pos_iff.2 Z;rw[zy (by omega),show SY .i64 (L.2.length:Int) 1=((L.2.length-1:Nat):Int) by rw[Sx (by omega)];omega,UB,List.getLast?_eq_getElem?];have o:L.2[L.2.length-1]?=zo (L.2[L.2.length-1]'(by omega)):=by simp
   rw[TS o,o,Tc];by_cases he:L.2[L.2.length-1]'(by omega)=[]<;>simp_all
 obtain⟨r,O,b⟩:=Wh (l:=L.2) (σ:=Int×(Int×List Int)) (λi j=>(j.1,(j.2.1,((0:Int),((i:Int),bY j.2.2)))))
  (λm i j=>Zb L.1 i j.2.2 m=T) (λ(r:Nat×((Int×(Int×(Int×(Int×List (Int×Bool)))))×Unit))=>Q1 T r.2.1.1 r.2.1.2.1 r.2.1.2.2.1)
  (f:=λs0=>br (TK s0.2.2.2.1 (L.2.length:Int)) (λ_=>SG s0.2.2.2.1 λk1=>ix L.2 k1 λW=>br (TI (W.length:Int) 2) (λ_=>zo (.dn ((0,((0,(s0.2.2.2.1,(3,s0.2.2.2))),()))))) λ_=>bd (loop (λa=>br (TK a.2.1 (W.length:Int)) (λ_=>SG a.2.1 λN=>ix W N λp=>gd (SC s0.2.2.2.1 0) λ_=>bd (Vw (p,TP .i64 L.1 s0.2.2.2.1)) λg=>br (Og g 0) (λ_=>br (Sc (MY ((λF=>(λG=>Og F G))) a.2.2.2 p.1) zf) (λ_=>zo (.dn ((0,((a.2.1,(a.2.1,(8,a.2.2.2))),()))))) λ_=>br (SD g 0) (λ_=>zo (.dn ((0,((a.2.1,(a.2.1,(g,a.2.2.2))),()))))) λ_=>zo (.nx ((a.2.1,(SV .i64 a.2.1 1,(g,IX ((λI=>(λw=>Og I w))) a.2.2.2 p.1 zt)))))) λ_=>br (SD g 0) (λ_=>zo (.dn ((0,((a.2.1,(a.2.1,(g,a.2.2.2))),()))))) λ_=>zo (.nx ((a.2.1,(SV .i64 a.2.1 1,(g,IX ((λx=>(λy=>Og x y))) a.2.2.2 p.1 zt)))))) λ_=>zo (.dn ((1,(a,()))))) ((0,(0,(s0.2.2.1,s0.2.2.2.2))))) λd=>br (neq d.1 0) (λ_=>zo (.dn ((0,((d.2.1.1,(s0.2.2.2.1,(d.2.1.2.2.1,(s0.2.2.2.1,d.2.1.2.2.2)))),()))))) λ_=>zo (.nx ((d.2.1.1,(s0.2.2.2.1,(d.2.1.2.2.1,(SV .i64 s0.2.2.2.1 1,d.2.1.2.2.2))))))) λ_=>zo (.dn ((0,(s0,())))))
  (s:=(0,(0,(0,(0,[]))))) (0,(0,[])) rfl (by omega) D.symm (λj h=>by
   refine⟨_,by simp only;rw[re];rfl,?_⟩;simp only at h ⊢;rw[<- h];exact rfl) (λi rs m j hd o hi h=>by
   obtain⟨s1,s2,c⟩:=j;simp only at h ⊢;obtain⟨hrs1,C⟩:=hr rs (ad o);rw[rl hi,Sp,UB,TS o,Te];unfold Zb at h;by_cases X:rs.length>2
   ·rw[zy (by omega)];rw[zy X]at h;refine .inr ⟨_,rfl,?_⟩;rw[<- h];exact⟨rfl,rfl,rfl⟩
   rw[zx (by omega)];rw[zx X]at h;obtain⟨U,Y⟩:∃ U,U=Zc (VG L.1 i) 0 c rs:=⟨_,rfl⟩;rw[<- Y]at h
   obtain⟨r,O,b⟩:=Wh (l:=rs) (σ:=Int) (λk j=>(j,((k:Int),((0:Int),bY (c++(rs.take k).map (·.1))))))
    (λm k _=>Zc (VG L.1 i) k (c++(rs.take k).map (·.1)) m=U) (λ(r:Nat×((Int×(Int×(Int×List (Int×Bool))))×Unit))=>Q2 (bY (c++rs.map (·.1))) U r.1 r.2.1.1 r.2.1.2.2.1 r.2.1.2.2.2)
    (f:=λa=>br (TK a.2.1 (rs.length:Int)) (λ_=>SG a.2.1 λN=>ix rs N λp=>gd (SC (i:Int) 0) λ_=>bd (Vw (p,TP .i64 L.1 (i:Int))) λg=>br (Og g 0) (λ_=>br (Sc (MY ((λF=>(λG=>Og F G))) a.2.2.2 p.1) zf) (λ_=>zo (.dn ((0,((a.2.1,(a.2.1,(8,a.2.2.2))),()))))) λ_=>br (SD g 0) (λ_=>zo (.dn ((0,((a.2.1,(a.2.1,(g,a.2.2.2))),()))))) λ_=>zo (.nx ((a.2.1,(SV .i64 a.2.1 1,(g,IX ((λI=>(λw=>Og I w))) a.2.2.2 p.1 zt)))))) λ_=>br (SD g 0) (λ_=>zo (.dn ((0,((a.2.1,(a.2.1,(g,a.2.2.2))),()))))) λ_=>zo (.nx ((a.2.1,(SV .i64 a.2.1 1,(g,IX ((λx=>(λy=>Og x y))) a.2.2.2 p.1 zt)))))) λ_=>zo (.dn ((1,(a,())))))
    (s:=(0,(0,(0,bY c)))) 0 (by simp) (by omega) (by simp[Y]) (λj h=>by
     refine⟨_,by simp only;rw[re];rfl,?_⟩;rw[<- h];exact⟨rfl,rfl,by simp⟩) (λk r m j hd o hk h=>by
     simp only at h ⊢;have hr2:=C r (ad o);have htk:(rs.take (k+1)).map (·.1)=(rs.take k).map (·.1)++[r.1]:=by grind
     rw[rl hk,Sp,UB,TS o,show gd (SC (i:Int) 0)=λ(q:Unit->Option (LR (Int×(Int×(Int×List (Int×Bool)))) (Nat×((Int×(Int×(Int×List (Int×Bool))))×Unit))))=>q ()from by rfl,aK (by omega) (by omega) (by omega)];simp only;rw[bq _ _ (by omega),TA,Tc,kK,Ti];unfold Zc at h;rw[sV]at h;by_cases n:kR [] (VG L.1 i) r=0
     ·rw[zy n]at h;rw[zy n,zy n,Vb];by_cases E:r.1∈c++(rs.take k).map (·.1)
      ·rw[zy E];rw[zy E,zy (by decide)]at h;refine .inr ⟨_,rfl,?_⟩;rw[<- h];exact⟨rfl,rfl,rfl⟩
      ·rw[zx E];rw[zx E,zx (by decide)]at h;refine .inl ⟨(k:Int),?_,?_⟩
       ·grind [kL,UN,bc]
       simp_all
     ·rw[zx n,zy n]at h;rw[zx n,zx n];refine .inr ⟨_,rfl,?_⟩;rw[<- h]
      exact⟨rfl,rfl,rfl⟩)
   rw[O,TA,TB];cases B:U with
   |some u=>
    obtain⟨k,e⟩:=u;rw[B]at b h;rw[zy b.1];refine .inr ⟨_,rfl,?_⟩;rw[<- h];exact⟨b.2.1,rfl,b.2.2⟩
   |none=>
    rw[B]at b h;rw[zx (show ¬ r.1=0 by have:=b.1;omega)];refine .inl ⟨(r.2.1.1,((i:Int),c++rs.map (·.1))),?_,h⟩
    rw[b.2.1,b.2.2,UN o (by omega)])
 refine UZ O ?_;cases z:T with
 |some t=>
  obtain⟨i,k,e⟩:=t;rw[z]at b D;rw[Ti,zx (by rw[b.2.2];exact cZ D.symm),b.1,b.2.1,b.2.2]
 |none=>
  rw[z]at b;have h:=A _ b z;have q3:r.2.1.2.2.1=0:=b;rw[Ti,zy q3]at h ⊢;exact h
end
end Go.Proofs.YtiehjicadcamiaaGreat.Pl
