/- Functions of the program and of the specification as plain functions, and laws about them. No condition. -/
import Derived.Test.YtfceigpbgndbgaaGreatDoorPs3
set_option linter.all false
open List renaming getElem?_eq_getElem->co, getElem?_eq_none->a9, getElem?_eq_some_iff->a8, getElem_mem->rY, head?->vt, head?_drop->sp, mem_cons->ey, mem_of_getElem?->bo, tail->tb, tail_drop->q0
open Nat renaming lt_of_not_le->ol
open Bool renaming and_eq_true->xw, false_eq_true->kd, or_eq_true->x8
open Option renaming some->zo, none->zn
open Bool renaming true->zt, false->zf
namespace Go.Proofs.YtfceigpbgndbgaaGreatDoor.Pl
section
open Go Sv
abbrev UZ:=((List UInt8)×((List UInt8)×(Bool×Int)))
abbrev Uy:=(Int×(List UZ))
abbrev Ub:=(Int×(List (List Uy)))
abbrev Uv:=((List UInt8)×Bool)
abbrev We:=((List Uv)×((List Int)×Int))
abbrev WE:=((List (List UZ))×((List Int)×We))
abbrev qW:=(WE×((Bool×Uv)×((List UZ)×Int)))
abbrev qJ:=(Int×qW)
abbrev qS:=(Ub×((List qJ)×Int))
abbrev qF:=(Uy×qS)
abbrev qL:=(Int×((List (List Uy))×((List qJ)×Int)))
abbrev qM:=((List (List UZ))×((List Int)×((List Uv)×((List Int)×(Int×(Bool×((List UInt8)×(Bool×((List UZ)×Int)))))))))
abbrev VO:=(Bool×((List UInt8)×Bool))
abbrev YZ:=(WE×(VO×((List UZ)×Int)))
abbrev Job:=(Int×YZ)
abbrev UX:=(Ub×((List Job)×Int))
abbrev ib:=(Int×(Int×(Int×(Int×(Int×(Int×(Int×(Int×(Int×(Int×(Int×Int)))))))))))
abbrev VZ:=(Uy×UX)
def Xp(x:(List UInt8)):Option Int:=
 br (Ti (Kx (NA x)) 32) (λ_=>zo 3) λ_=>zo 0
def Vi(x:UZ):Option Int:=
 bd (Xp x.1) λa=>br (SS a 0) (λ_=>zo 3) λ_=>br (Ti (Kx (NA x.2.1)) 64) (λ_=>zo 3) λ_=>br x.2.2.1 (λ_=>br (Hl (seq x.2.1 [])) (λ_=>zo 6) λ_=>br (Tk x.2.2.2 1) (λ_=>zo 7) λ_=>br (Ti x.2.2.2 1000000000) (λ_=>zo 7) λ_=>zo 0) λ_=>br (Tk x.2.2.2 1) (λ_=>zo 7) λ_=>br (Ti x.2.2.2 1000000000) (λ_=>zo 7) λ_=>zo 0
def U8(x:(List UZ)):Option (Int×Int):=
 br (Ti (Kx (AR x)) 5000) (λ_=>zo (((-1),3))) λ_=>bd (loop (λs0=>br (Tk s0.2.2 (Kx (AR x))) (λ_=>SW s0.2.2 λd=>ix x d λc=>bd (Vi c) λb=>br (SS b 0) (λ_=>zo (.dn ((0,((b,(s0.2.2,s0.2.2)),()))))) λ_=>br (Ti s0.2.2 0) (λ_=>SW (Ss .i64 s0.2.2 1) λe=>ix x e λf=>br (Hl (S4 f.1 c.1)) (λ_=>zo (.dn ((0,((6,(s0.2.2,s0.2.2)),()))))) λ_=>zo (.nx ((s0.1,(s0.2.1,So .i64 s0.2.2 1))))) λ_=>zo (.nx ((s0.1,(s0.2.1,So .i64 s0.2.2 1))))) λ_=>zo (.dn ((1,(s0,()))))) ((0,(0,0)))) λa=>br (neq a.1 0) (λ_=>zo (a.2.1.2.1,a.2.1.1)) λ_=>zo (0,0)
def X3(x:Uy):Option (Int×Int):=
 br (Tk x.1 1) (λ_=>zo (((-1),7))) λ_=>br (Ti x.1 1000000) (λ_=>zo (((-1),7))) λ_=>bd (U8 x.2) λa=>zo a
def WQ(x:(Uy×Int)):Option Int:=
 bd (X3 x.1) λa=>br (SS a.2 0) (λ_=>zo a.2) λ_=>br (O3 (Kx (AR x.1.2)) 0) (λ_=>zo 4) λ_=>br (Ti (Kx (AR x.1.2)) x.2) (λ_=>zo 3) λ_=>zo 0
def WA(x:Ub):Option (Int×(Int×Int)):=
 br (Tk x.1 1) (λ_=>zo ((0,(0,7)))) λ_=>br (Ti x.1 16) (λ_=>zo ((0,(0,7)))) λ_=>br (Ti (Kx (AR x.2)) 12) (λ_=>zo ((0,(0,3)))) λ_=>bd (loop (λs0=>br (Tk s0.2.2.2.1 (Kx (AR x.2))) (λ_=>SW s0.2.2.2.1 λo=>ix x.2 o λk=>br (Ti (Kx (AR k)) 2) (λ_=>zo (.dn ((0,((0,(s0.2.2.2.1,(3,s0.2.2.2))),()))))) λ_=>bd (loop (λa=>br (Tk a.2.1 (Kx (AR k))) (λ_=>SW a.2.1 λp=>ix k p λe=>gd (SR s0.2.2.2.1 0) λ_=>bd (WQ (e,To .i64 x.1 s0.2.2.2.1)) λd=>br (O3 d 0) (λ_=>br (Sy (Mo ((λl=>(λm=>O3 l m))) a.2.2.2 e.1) zf) (λ_=>zo (.dn ((0,((a.2.1,(a.2.1,(8,a.2.2.2))),()))))) λ_=>br (SS d 0) (λ_=>zo (.dn ((0,((a.2.1,(a.2.1,(d,a.2.2.2))),()))))) λ_=>zo (.nx ((a.2.1,(So .i64 a.2.1 1,(d,If ((λn=>(λf=>O3 n f))) a.2.2.2 e.1 zt)))))) λ_=>br (SS d 0) (λ_=>zo (.dn ((0,((a.2.1,(a.2.1,(d,a.2.2.2))),()))))) λ_=>zo (.nx ((a.2.1,(So .i64 a.2.1 1,(d,If ((λg=>(λh=>O3 g h))) a.2.2.2 e.1 zt)))))) λ_=>zo (.dn ((1,(a,()))))) ((0,(0,(s0.2.2.1,s0.2.2.2.2))))) λb=>br (neq b.1 0) (λ_=>zo (.dn ((0,((b.2.1.1,(s0.2.2.2.1,(b.2.1.2.2.1,(s0.2.2.2.1,b.2.1.2.2.2)))),()))))) λ_=>zo (.nx ((b.2.1.1,(s0.2.2.2.1,(b.2.1.2.2.1,(So .i64 s0.2.2.2.1 1,b.2.1.2.2.2))))))) λ_=>zo (.dn ((0,(s0,()))))) ((0,(0,(0,(0,[])))))) λc=>br (SS c.2.1.2.2.1 0) (λ_=>zo ((c.2.1.2.1,(c.2.1.1,c.2.1.2.2.1)))) λ_=>br (Ti (Kx (AR x.2)) 0) (λ_=>SW (Ss .i64 (Kx (AR x.2)) 1) λi=>ix x.2 i λj=>br (O3 (Kx (AR j)) 0) (λ_=>zo ((Ss .i64 (Kx (AR x.2)) 1,(0,6)))) λ_=>zo ((0,(0,0)))) λ_=>zo ((0,(0,0)))
def XX(x:Ub):Option Int:=
 bd (loop (λs0=>br (Tk s0.2 (Kx (AR x.2))) (λ_=>SW s0.2 λc=>ix x.2 c λb=>bd (loop (λa=>br (Tk a.1 (Kx (AR b))) (λ_=>SW a.1 λd=>ix b d λg=>zo (.nx (So .i64 a.1 1,UP a.2 g.1))) λ_=>zo (.dn ((0,(a,()))))) (0,s0.1)) λe=>zo (.nx (e.2.1.2,So .i64 s0.2 1))) λ_=>zo (.dn ((0,(s0,()))))) (0,0)) λf=>zo f.2.1.1
def WP(x:(Ub×Int)):Option Bool:=
 zo (O3 x.2 (Ss .i64 (Kx (AR x.1.2)) 1))
def Wr(x:(List (List UZ))):Option (Int×Int):=
 br (O3 (Kx (AR x)) 0) (λ_=>zo (((-1),6))) λ_=>br (Ti (Kx (AR x)) 32) (λ_=>zo (((-1),3))) λ_=>bd (loop (λs0=>br (Tk s0.2.2 (Kx (AR x))) (λ_=>SW s0.2.2 λc=>ix x c λd=>bd (U8 d) λb=>br (SS b.2 0) (λ_=>zo (.dn ((0,((b.2,(s0.2.2,s0.2.2)),()))))) λ_=>zo (.nx ((s0.1,(s0.2.1,So .i64 s0.2.2 1))))) λ_=>zo (.dn ((1,(s0,()))))) ((0,(0,0)))) λa=>br (neq a.1 0) (λ_=>zo (a.2.1.2.1,a.2.1.1)) λ_=>zo (0,0)
def WC(x:Bool):Option (Bool×Uv):=
 zo ((zf,([],x)))
def Uk(x:(List (List UZ))):Option (List (List UZ)):=
 gd (CI (AR x) 1048576) λ_=>zo x
def U9(x:((List UZ)×Int)):Option Uv:=
 br (O3 x.2 (Kx (AR x.1))) (λ_=>zo ([],zt)) λ_=>SW x.2 λa=>ix x.1 a λb=>zo (b.1,zf)
def Wk(x:Uv):Option Bool:=
 br x.2 (λ_=>zo (Hl (seq x.1 []))) λ_=>zo zf
def Wp(x:(List Uv)):Option Int:=
 br (O3 (Kx (AR x)) 0) (λ_=>zo 6) λ_=>br (Ti (Kx (AR x)) 32) (λ_=>zo 3) λ_=>bd (loop (λs0=>br (Tk s0.2 (Kx (AR x))) (λ_=>SW s0.2 λb=>ix x b λd=>bd (Wk d) λc=>br c (λ_=>zo (.dn ((0,((s0.2,s0.2),()))))) λ_=>zo (.nx (s0.1,So .i64 s0.2 1))) λ_=>zo (.dn ((1,(s0,()))))) (0,0)) λa=>br (neq a.1 0) (λ_=>br (SR a.2.1.1 0) (λ_=>zo 2) λ_=>zo 0) λ_=>br (SR (-1) 0) (λ_=>zo 2) λ_=>zo 0
def Ul(x:(List Uv)):Option (List Uv):=
 gd (CI (AR x) 1048576) λ_=>zo x
def Xr(x:(List Uv)):Option We:=
 SW (Sp .i64 2 (Kx (AR x))) λS=>SW (Sp .i64 2 (Kx (AR x))) λz=>gd (CI z 1048576) λ_=>bd (Ul x) λC=>SW (Kx (AR x)) λU=>SW (Kx (AR x)) λA=>gd (CI A 1048576) λ_=>bd (loop (λa=>br (Ti a.1 0) (λ_=>br (SR a.1 (Kx (AR x))) (λ_=>SW a.1 λw=>gd (KW w (AR a.2.1)) λ_=>ix a.2.1 w λW=>zo (.nx ((Ss .i64 a.1 1,(lset a.2.1 w (Ss .i64 a.1 (Kx (AR x))),a.2.2))))) λ_=>SW (Sp .i64 2 a.1) λB=>gd (KW B (AR a.2.1)) λ_=>ix a.2.1 B λe=>SW (So .i64 (Sp .i64 2 a.1) 1) λs=>gd (KW s (AR a.2.1)) λ_=>ix a.2.1 s λb=>SW e λt=>ix x t λr=>SW b λu=>ix x u λd=>br (Hl (beq r.2 d.2)) (λ_=>br (Hl d.2) (λ_=>SW a.1 λf=>gd (KW f (AR a.2.1)) λ_=>ix a.2.1 f λD=>SW a.1 λg=>gd (KW g (AR a.2.2.2.1)) λ_=>ix a.2.2.2.1 g λE=>zo (.nx ((Ss .i64 a.1 1,(lset a.2.1 f b,(a.2.2.1,(lset a.2.2.2.1 g e,a.2.2.2.2))))))) λ_=>SW a.1 λh=>gd (KW h (AR a.2.1)) λ_=>ix a.2.1 h λF=>SW a.1 λi=>gd (KW i (AR a.2.2.2.1)) λ_=>ix a.2.2.2.1 i λG=>zo (.nx ((Ss .i64 a.1 1,(lset a.2.1 h e,(a.2.2.1,(lset a.2.2.2.1 i b,a.2.2.2.2))))))) λ_=>br (Hl (seq r.1 d.1)) (λ_=>br (Hl (S4 r.1 d.1)) (λ_=>SW a.1 λj=>gd (KW j (AR a.2.1)) λ_=>ix a.2.1 j λI=>SW a.1 λk=>gd (KW k (AR a.2.2.2.1)) λ_=>ix a.2.2.2.1 k λJ=>zo (.nx ((Ss .i64 a.1 1,(lset a.2.1 j b,(a.2.2.1,(lset a.2.2.2.1 k e,a.2.2.2.2))))))) λ_=>SW a.1 λl=>gd (KW l (AR a.2.1)) λ_=>ix a.2.1 l λK=>SW a.1 λm=>gd (KW m (AR a.2.2.2.1)) λ_=>ix a.2.2.2.1 m λL=>zo (.nx ((Ss .i64 a.1 1,(lset a.2.1 l e,(a.2.2.1,(lset a.2.2.2.1 m b,a.2.2.2.2))))))) λ_=>br (Hl (Tk e b)) (λ_=>SW a.1 λn=>gd (KW n (AR a.2.1)) λ_=>ix a.2.1 n λM=>SW a.1 λo=>gd (KW o (AR a.2.2.2.1)) λ_=>ix a.2.2.2.1 o λN=>zo (.nx ((Ss .i64 a.1 1,(lset a.2.1 n b,(a.2.2.1,(lset a.2.2.2.1 o e,a.2.2.2.2))))))) λ_=>SW a.1 λp=>gd (KW p (AR a.2.1)) λ_=>ix a.2.1 p λO=>SW a.1 λq=>gd (KW q (AR a.2.2.2.1)) λ_=>ix a.2.2.2.1 q λP=>zo (.nx ((Ss .i64 a.1 1,(lset a.2.1 p e,(a.2.2.1,(lset a.2.2.2.1 q b,a.2.2.2.2))))))) λ_=>zo (.dn ((0,(a,()))))) ((Ss .i64 (Sp .i64 2 (Kx (AR x))) 1,(R5 z 0,(C,(R5 A 0,(0:Int))))))) λc=>gd (KW 1 (AR c.2.1.2.1)) λ_=>ix c.2.1.2.1 1 λy=>zo ((c.2.1.2.2.1,(c.2.1.2.2.2.1,y)))
def V6(x:(List Uv)):Option (We×Int):=
 bd (Wp x) λa=>br (SS a 0) (λ_=>zo ((([],([],0)),a))) λ_=>bd (Xr x) λb=>zo (b,0)
def X4(x:((List (List UZ))×Bool)):Option (qW×(Int×Int)):=
 bd (Wr x.1) λe=>br (SS e.2 0) (λ_=>br (SS e.2 0) (λ_=>zo (((([],([],([],([],0)))),((zf,([],zf)),([],0))),e))) λ_=>bd (WC x.2) λm=>zo (((([],([],([],([],0)))),(m,([],0))),(0,0)))) λ_=>SW (Kx (AR x.1)) λq=>SW (Kx (AR x.1)) λd=>gd (CI d 1048576) λ_=>bd (Uk x.1) λn=>SW (Kx (AR x.1)) λr=>SW (Kx (AR x.1)) λk=>gd (CI k 1048576) λ_=>bd (loop (λa=>br (Tk a.1 (Kx (AR x.1))) (λ_=>SW a.1 λl=>ix x.1 l λp=>SW a.1 λc=>gd (KW c (AR (R5 d (0:Int)))) λ_=>ix (R5 d 0) c λj=>bd (U9 (p,j)) λf=>SW a.1 λb=>gd (KW b (AR a.2)) λ_=>ix a.2 b λo=>zo (.nx (So .i64 a.1 1,lset a.2 b f))) λ_=>zo (.dn ((0,(a,()))))) ((0,R5 k ([],zf)))) λg=>bd (V6 g.2.1.2) λh=>bd (WC x.2) λi=>zo ((((n,(R5 d 0,h.1)),(i,([],0))),(0,0)))
def V3(x:(Ub×(Int×Bool))):Option qJ:=
 SW x.2.1 λb=>ix x.1.2 b λa=>ix a 1 λd=>ix a 0 λe=>bd (X4 ([d.2,e.2],x.2.2)) λc=>zo (x.2.1,c.1)
def Xs(x:((List (List UZ))×(List Int))):Option We:=
 SW (Kx (AR x.1)) λj=>SW (Kx (AR x.1)) λd=>gd (CI d 1048576) λ_=>bd (loop (λs2=>br (Tk s2.1 (Kx (AR x.1))) (λ_=>SW s2.1 λe=>ix x.1 e λh=>SW s2.1 λf=>ix x.2 f λi=>bd (U9 (h,i)) λg=>SW s2.1 λa=>gd (KW a (AR s2.2)) λ_=>ix s2.2 a λk=>zo (.nx (So .i64 s2.1 1,lset s2.2 a g))) λ_=>zo (.dn ((0,(s2,()))))) ((0,R5 d ([],zf)))) λb=>bd (V6 b.2.1.2) λc=>zo c.1
def Uu(x:((List Uv)×(List Uv))):Option Bool:=
 br (SS (Kx (AR x.1)) (Kx (AR x.2))) (λ_=>zo zf) λ_=>bd (loop (λs0=>br (Tk s0.1 (Kx (AR x.1))) (λ_=>SW s0.1 λd=>ix x.1 d λb=>SW s0.1 λe=>ix x.2 e λc=>br (Hl (OG (seq b.1 c.1) (OG (beq b.2 c.2) zt))) (λ_=>zo (.dn ((0,((s0.1,zf),()))))) λ_=>zo (.nx (So .i64 s0.1 1,s0.2))) λ_=>zo (.dn ((1,(s0,()))))) (0,zf)) λa=>br (neq a.1 0) (λ_=>zo a.2.1.2) λ_=>zo zt
def Um(x:((List Int)×(List Int))):Option Bool:=
 br (SS (Kx (AR x.1)) (Kx (AR x.2))) (λ_=>zo zf) λ_=>bd (loop (λs0=>br (Tk s0.1 (Kx (AR x.1))) (λ_=>SW s0.1 λb=>ix x.1 b λd=>SW s0.1 λc=>ix x.2 c λe=>br (SS d e) (λ_=>zo (.dn ((0,((s0.1,zf),()))))) λ_=>zo (.nx (So .i64 s0.1 1,s0.2))) λ_=>zo (.dn ((1,(s0,()))))) (0,zf)) λa=>br (neq a.1 0) (λ_=>zo a.2.1.2) λ_=>zo zt
def XR(x:(We×We)):Option Bool:=
 br (O3 x.1.2.2 x.2.2.2) (λ_=>bd (Uu (x.1.1,x.2.1)) λa=>br a (λ_=>bd (Um (x.1.2.1,x.2.2.1)) λb=>zo b) λ_=>zo zf) λ_=>zo zf
def YK(x:We):Option (Int×Int):=
 bd (Wp x.1) λc=>br (SS c 0) (λ_=>zo (0,c)) λ_=>br (SS (Kx (AR x.2.1)) (Kx (AR x.1))) (λ_=>zo (0,6)) λ_=>bd (Xr x.1) λa=>bd (loop (λs2=>br (Tk s2.2.1 (Kx (AR a.2.1))) (λ_=>SW s2.2.1 λd=>ix a.2.1 d λf=>SW s2.2.1 λe=>ix x.2.1 e λg=>br (SS g f) (λ_=>zo (.dn ((0,((6,(s2.2.1,s2.2.1)),()))))) λ_=>zo (.nx ((s2.1,(So .i64 s2.2.1 1,s2.2.2))))) λ_=>zo (.dn ((1,(s2,()))))) ((0,(0,0)))) λb=>br (neq b.1 0) (λ_=>zo (b.2.1.2.2,b.2.1.1)) λ_=>br (SS x.2.2 a.2.2) (λ_=>zo (0,6)) λ_=>zo (0,0)
def Xq(x:We):Option Int:=
 bd (YK x) λa=>br (SS a.2 0) (λ_=>zo a.2) λ_=>SW x.2.2 λb=>ix x.1 b λc=>br c.2 (λ_=>zo 12) λ_=>zo 0
def WB(x:We):Option (Int×((List UInt8)×Int)):=
 bd (Xq x) λa=>br (SS a 0) (λ_=>zo ((0,([],a)))) λ_=>SW x.2.2 λb=>ix x.1 b λc=>zo ((x.2.2,(c.1,0)))
def Wh(x:(List UInt8)):Option Bool:=
 zo (Hl (seq x x))
def WJ(x:((List UInt8)×(List UInt8))):Option Int:=
 bd (Wh x.1) λb=>bd (Wh x.2) λa=>br b (λ_=>br a (λ_=>zo 0) λ_=>zo (-1)) λ_=>br a (λ_=>zo 1) λ_=>br (S4 x.1 x.2) (λ_=>zo (-1)) λ_=>br (S4 x.2 x.1) (λ_=>zo 1) λ_=>zo 0
def XW(x:Int):Option Bool:=
 zo (SS x x)
def Vu(x:(Int×Int)):Option Int:=
 bd (XW x.1) λb=>bd (XW x.2) λa=>br b (λ_=>br a (λ_=>zo 0) λ_=>zo (-1)) λ_=>br a (λ_=>zo 1) λ_=>br (Tk x.1 x.2) (λ_=>zo (-1)) λ_=>br (Ti x.1 x.2) (λ_=>zo 1) λ_=>zo 0
def Ya(x:(List Int)):Option Int:=
 bd (loop (λs0=>br (Tk s0.2 (Kx (AR x))) (λ_=>SW s0.2 λc=>ix x c λb=>br (SS b 0) (λ_=>zo (.dn ((0,((b,s0.2),()))))) λ_=>zo (.nx (s0.1,So .i64 s0.2 1))) λ_=>zo (.dn ((1,(s0,()))))) (0,0)) λa=>br (neq a.1 0) (λ_=>zo a.2.1.1) λ_=>zo 0
def Wq(x:WE):Option (Int×Int):=
 bd (Wr x.1) λn=>br (SS n.2 0) (λ_=>zo n) λ_=>br (SS (Kx (AR x.2.1)) (Kx (AR x.1))) (λ_=>zo (((-1),6))) λ_=>bd (loop (λs1=>br (Tk s1.2.2 (Kx (AR x.2.1))) (λ_=>SW s1.2.2 λp=>ix x.2.1 p λo=>br (Tk o 0) (λ_=>zo (.dn ((0,((6,(s1.2.2,s1.2.2)),()))))) λ_=>SW s1.2.2 λq=>ix x.1 q λt=>br (Ti o (Kx (AR t))) (λ_=>zo (.dn ((0,((6,(s1.2.2,s1.2.2)),()))))) λ_=>zo (.nx ((s1.1,(s1.2.1,So .i64 s1.2.2 1))))) λ_=>zo (.dn ((1,(s1,()))))) ((0,(0,0)))) λe=>br (neq e.1 0) (λ_=>zo (e.2.1.2.1,e.2.1.1)) λ_=>bd (Xs (x.1,x.2.1)) λr=>bd (XR (x.2.2,r)) λs=>br (Hl s) (λ_=>zo (((-1),6))) λ_=>bd (WB x.2.2) λc=>br (SS c.2.2 0) (λ_=>zo (0,0)) λ_=>bd (loop (λa=>br (Tk a.2.2 (Kx (AR x.2.1))) (λ_=>SW a.2.2 λf=>ix x.2.1 f λd=>br (Ti d 0) (λ_=>SW a.2.2 λg=>ix x.1 g λl=>SW (Ss .i64 d 1) λh=>ix l h λm=>bd (WJ (m.1,c.2.1)) λi=>bd (Vu (a.2.2,c.1)) λj=>bd (Ya ([i,j])) λk=>br (Ti k 0) (λ_=>zo (.dn ((0,((6,(c.1,a.2.2)),()))))) λ_=>zo (.nx ((a.1,(a.2.1,So .i64 a.2.2 1))))) λ_=>zo (.nx ((a.1,(a.2.1,So .i64 a.2.2 1))))) λ_=>zo (.dn ((1,(a,()))))) ((c.2.2,(e.2.1.2.1,0)))) λb=>br (neq b.1 0) (λ_=>zo (b.2.1.2.1,b.2.1.1)) λ_=>zo (0,0)
def Us(x:(List Int)):Option (List Int):=
 gd (CI (AR x) 1048576) λ_=>zo x
def VE(x:(Int×(Int×((List Uv)×Unit)))):Option Bool:=
 SW x.1 λc=>ix x.2.2.1 c λb=>SW x.2.1 λd=>ix x.2.2.1 d λa=>br (Hl (beq b.2 a.2)) (λ_=>zo a.2) λ_=>br (Hl (seq b.1 a.1)) (λ_=>zo (S4 b.1 a.1)) λ_=>zo (Tk x.1 x.2.1)
def Vy(x:(We×Uv)):Option (We×(Int×Int)):=
 bd (Xq x.1) λw=>br (SS w 0) (λ_=>zo ((([],([],0)),(0,w)))) λ_=>bd (Wp [x.2]) λy=>br (SS y 0) (λ_=>zo ((([],([],0)),(0,y)))) λ_=>br (Hl x.2.2) (λ_=>SW x.1.2.2 λz=>ix x.1.1 z λE=>br (S4 x.2.1 E.1) (λ_=>zo ((([],([],0)),(0,6)))) λ_=>bd (Ul x.1.1) λm=>bd (Us x.1.2.1) λA=>SW x.1.2.2 λj=>gd (KW j (AR m)) λ_=>ix m j λF=>bd (loop (λb=>br (O3 (Tl .i64 b.2.1 2) 0) (λ_=>zo (.dn ((0,((b.1,(Tl .i64 b.2.1 2,((),b.2.2.2))),()))))) λ_=>SW (Tl .i64 b.2.1 2) λu=>gd (KW u (AR b.2.2.2.1)) λ_=>ix b.2.2.2.1 u λq=>bd (VE ((q,(b.2.2.2.2,(lset m j x.2,()))))) λn=>br n (λ_=>SW (Tl .i64 b.2.1 2) λg=>gd (KW g (AR b.2.2.2.1)) λ_=>ix b.2.2.2.1 g λr=>SW (Tl .i64 b.2.1 2) λe=>gd (KW e (AR b.2.2.2.1)) λ_=>ix b.2.2.2.1 e λB=>zo (.nx ((So .i64 b.1 1,(Tl .i64 b.2.1 2,((),(lset b.2.2.2.1 e b.2.2.2.2,r))))))) λ_=>zo (.nx ((So .i64 b.1 1,(Tl .i64 b.2.1 2,((),b.2.2.2)))))) ((0,(So .i64 (Kx (AR (lset m j x.2))) x.1.2.2,((),(A,x.1.2.2)))))) λk=>zo (((lset m j x.2,k.2.1.2.2.2),(k.2.1.1,0)))) λ_=>bd (Ul x.1.1) λd=>bd (Us x.1.2.1) λo=>SW x.1.2.2 λc=>gd (KW c (AR d)) λ_=>ix d c λC=>bd (loop (λa=>br (O3 (Tl .i64 a.2.1 2) 0) (λ_=>zo (.dn ((0,((a.1,(Tl .i64 a.2.1 2,((),a.2.2.2))),()))))) λ_=>SW (Tl .i64 a.2.1 2) λh=>gd (KW h (AR a.2.2.2.1)) λ_=>ix a.2.2.2.1 h λs=>bd (VE ((s,(a.2.2.2.2,(lset d c x.2,()))))) λp=>br p (λ_=>SW (Tl .i64 a.2.1 2) λi=>gd (KW i (AR a.2.2.2.1)) λ_=>ix a.2.2.2.1 i λt=>SW (Tl .i64 a.2.1 2) λf=>gd (KW f (AR a.2.2.2.1)) λ_=>ix a.2.2.2.1 f λD=>zo (.nx ((So .i64 a.1 1,(Tl .i64 a.2.1 2,((),(lset a.2.2.2.1 f a.2.2.2.2,t))))))) λ_=>zo (.nx ((So .i64 a.1 1,(Tl .i64 a.2.1 2,((),a.2.2.2)))))) ((0,(So .i64 (Kx (AR (lset d c x.2))) x.1.2.2,((),(o,x.1.2.2)))))) λl=>zo (((lset d c x.2,l.2.1.2.2.2),(l.2.1.1,0)))
def Y7(x:(List (List UZ))):Option ((List UZ)×((List Int)×Int)):=
 bd (Wr x) λt=>br (SS t.2 0) (λ_=>br (SS t.2 0) (λ_=>zo (([],([],t.2)))) λ_=>bd (loop (λs1=>bd (WB (([],([],0)))) λz=>br (SS z.2.2 0) (λ_=>br (SS z.2.2 0) (λ_=>zo (.dn ((0,(s1,()))))) λ_=>gd (CI (BG (AR s1.1) (AR ([(([],([],(zf,0))):UZ)]))) 1048576) λ_=>gd (CI (BG (AR s1.2) (AR [0])) 1048576) λ_=>zn) λ_=>SW z.1 λW=>zn) ([],[])) λO=>zo ((O.2.1.1,(O.2.1.2,0)))) λ_=>SW (Kx (AR x)) λX=>SW (Kx (AR x)) λq=>gd (CI q 1048576) λ_=>bd (Uk x) λh=>SW (Kx (AR x)) λY=>SW (Kx (AR x)) λN=>gd (CI N 1048576) λ_=>bd (loop (λc=>br (Tk c.1 (Kx (AR x))) (λ_=>SW c.1 λr=>ix x r λE=>SW c.1 λi=>gd (KW i (AR (R5 q (0:Int)))) λ_=>ix (R5 q 0) i λF=>bd (U9 (E,F)) λu=>SW c.1 λe=>gd (KW e (AR c.2)) λ_=>ix c.2 e λP=>zo (.nx (So .i64 c.1 1,lset c.2 e u))) λ_=>zo (.dn ((0,(c,()))))) ((0,R5 N ([],zf)))) λw=>bd (V6 w.2.1.2) λy=>bd (loop (λa=>bd (WB a.2.2.2.2) λb=>br (SS b.2.2 0) (λ_=>br (SS b.2.2 0) (λ_=>zo (.dn ((0,((a.1,(a.2.1,((),a.2.2.2))),()))))) λ_=>gd (CI (BG (AR a.1) (AR ([(([],([],(zf,0))):UZ)]))) 1048576) λ_=>gd (CI (BG (AR a.2.1) (AR [0])) 1048576) λ_=>gd (KW 0 (AR a.2.2.2.1)) λ_=>ix a.2.2.2.1 0 λf=>gd (KW 0 (AR a.2.2.2.1)) λ_=>ix a.2.2.2.1 0 λS=>gd (KW 0 (AR h)) λ_=>ix h 0 λG=>gd (KW 0 (AR (lset a.2.2.2.1 0 (So .i64 f 1)))) λ_=>ix (lset a.2.2.2.1 0 (So .i64 f 1)) 0 λI=>bd (U9 (G,I)) λA=>bd (Vy (a.2.2.2.2,A)) λB=>zo (.nx ((Iy a.1 ([(([],([],(zf,0))):UZ)]),(Iy a.2.1 [0],((),(lset a.2.2.2.1 0 (So .i64 f 1),B.1))))))) λ_=>SW b.1 λj=>gd (KW j (AR h)) λ_=>ix h j λJ=>SW b.1 λk=>gd (KW k (AR a.2.2.2.1)) λ_=>ix a.2.2.2.1 k λK=>SW K λs=>ix J s λp=>gd (CI (BG (AR a.1) (AR [p])) 1048576) λ_=>gd (CI (BG (AR a.2.1) (AR [b.1])) 1048576) λ_=>SW b.1 λl=>gd (KW l (AR a.2.2.2.1)) λ_=>ix a.2.2.2.1 l λg=>SW b.1 λd=>gd (KW d (AR a.2.2.2.1)) λ_=>ix a.2.2.2.1 d λU=>SW b.1 λm=>gd (KW m (AR h)) λ_=>ix h m λL=>SW b.1 λn=>gd (KW n (AR (lset a.2.2.2.1 d (So .i64 g 1)))) λ_=>ix (lset a.2.2.2.1 d (So .i64 g 1)) n λM=>bd (U9 (L,M)) λC=>bd (Vy (a.2.2.2.2,C)) λD=>zo (.nx ((Iy a.1 [p],(Iy a.2.1 [b.1],((),(lset a.2.2.2.1 d (So .i64 g 1),D.1))))))) (([],([],((),(R5 q 0,y.1)))))) λo=>zo ((o.2.1.1,(o.2.1.2.1,0)))
def W6(x:(Bool×Uv)):Option Int:=
 bd (Xp x.2.1) λa=>br (SS a 0) (λ_=>zo a) λ_=>br (Hl x.1) (λ_=>br (Hl (seq x.2.1 [])) (λ_=>zo 6) λ_=>zo 0) λ_=>zo 0
def U3(x:UZ):Option UZ:=
 zo x
def Xd(x:((List UZ)×Bool)):Option ((List UZ)×(Int×Int)):=
 br (Ti (Kx (AR x.1)) 20000) (λ_=>zo (([],((-1),3)))) λ_=>bd (WC x.2) λn=>bd (loop (λs1=>br (Tk s1.2.1 (Kx (AR x.1))) (λ_=>SW s1.2.1 λm=>ix x.1 m λa=>bd (W6 s1.2.2.2.1) λg=>br (SS g 0) (λ_=>br (SS g 0) (λ_=>zo (.dn ((0,((g,(s1.2.1,(s1.2.1,s1.2.2.2))),()))))) λ_=>zo (.nx ((s1.1,(So .i64 s1.2.1 1,(s1.2.2.1,((zf,([],zf)),s1.2.2.2.2))))))) λ_=>bd (Vi a) λh=>br (SS h 0) (λ_=>br (SS h 0) (λ_=>zo (.dn ((0,((h,(s1.2.1,(s1.2.1,s1.2.2.2))),()))))) λ_=>zo (.nx ((s1.1,(So .i64 s1.2.1 1,(s1.2.2.1,((zf,([],zf)),s1.2.2.2.2))))))) λ_=>br s1.2.2.2.1.1 (λ_=>br (S4 a.1 s1.2.2.2.1.2.1) (λ_=>zo (.dn ((0,((6,(s1.2.1,(s1.2.1,s1.2.2.2))),()))))) λ_=>br s1.2.2.2.1.1 (λ_=>br (seq a.1 s1.2.2.2.1.2.1) (λ_=>zo (.nx ((s1.1,(So .i64 s1.2.1 1,(s1.2.2.1,((zt,(a.1,s1.2.2.2.1.2.2)),s1.2.2.2.2))))))) λ_=>br s1.2.2.2.1.2.2 (λ_=>br a.2.2.1 (λ_=>zo (.nx ((s1.1,(So .i64 s1.2.1 1,(s1.2.2.1,((zt,(a.1,s1.2.2.2.1.2.2)),s1.2.2.2.2))))))) λ_=>bd (U3 a) λi=>gd (CI (BG (AR s1.2.2.2.2) (AR [i])) 1048576) λ_=>zo (.nx ((s1.1,(So .i64 s1.2.1 1,(s1.2.2.1,((zt,(a.1,s1.2.2.2.1.2.2)),Iy s1.2.2.2.2 [i]))))))) λ_=>bd (U3 a) λj=>gd (CI (BG (AR s1.2.2.2.2) (AR [j])) 1048576) λ_=>zo (.nx ((s1.1,(So .i64 s1.2.1 1,(s1.2.2.1,((zt,(a.1,s1.2.2.2.1.2.2)),Iy s1.2.2.2.2 [j]))))))) λ_=>br s1.2.2.2.1.2.2 (λ_=>br a.2.2.1 (λ_=>zo (.nx ((s1.1,(So .i64 s1.2.1 1,(s1.2.2.1,((zt,(a.1,s1.2.2.2.1.2.2)),s1.2.2.2.2))))))) λ_=>bd (U3 a) λk=>gd (CI (BG (AR s1.2.2.2.2) (AR [k])) 1048576) λ_=>zo (.nx ((s1.1,(So .i64 s1.2.1 1,(s1.2.2.1,((zt,(a.1,s1.2.2.2.1.2.2)),Iy s1.2.2.2.2 [k]))))))) λ_=>bd (U3 a) λl=>gd (CI (BG (AR s1.2.2.2.2) (AR [l])) 1048576) λ_=>zo (.nx ((s1.1,(So .i64 s1.2.1 1,(s1.2.2.1,((zt,(a.1,s1.2.2.2.1.2.2)),Iy s1.2.2.2.2 [l]))))))) λ_=>br s1.2.2.2.1.1 (λ_=>br (seq a.1 s1.2.2.2.1.2.1) (λ_=>zo (.nx ((s1.1,(So .i64 s1.2.1 1,(s1.2.2.1,((zt,(a.1,s1.2.2.2.1.2.2)),s1.2.2.2.2))))))) λ_=>br s1.2.2.2.1.2.2 (λ_=>br a.2.2.1 (λ_=>zo (.nx ((s1.1,(So .i64 s1.2.1 1,(s1.2.2.1,((zt,(a.1,s1.2.2.2.1.2.2)),s1.2.2.2.2))))))) λ_=>bd (U3 a) λc=>gd (CI (BG (AR s1.2.2.2.2) (AR [c])) 1048576) λ_=>zo (.nx ((s1.1,(So .i64 s1.2.1 1,(s1.2.2.1,((zt,(a.1,s1.2.2.2.1.2.2)),Iy s1.2.2.2.2 [c]))))))) λ_=>bd (U3 a) λd=>gd (CI (BG (AR s1.2.2.2.2) (AR [d])) 1048576) λ_=>zo (.nx ((s1.1,(So .i64 s1.2.1 1,(s1.2.2.1,((zt,(a.1,s1.2.2.2.1.2.2)),Iy s1.2.2.2.2 [d]))))))) λ_=>br s1.2.2.2.1.2.2 (λ_=>br a.2.2.1 (λ_=>zo (.nx ((s1.1,(So .i64 s1.2.1 1,(s1.2.2.1,((zt,(a.1,s1.2.2.2.1.2.2)),s1.2.2.2.2))))))) λ_=>bd (U3 a) λe=>gd (CI (BG (AR s1.2.2.2.2) (AR [e])) 1048576) λ_=>zo (.nx ((s1.1,(So .i64 s1.2.1 1,(s1.2.2.1,((zt,(a.1,s1.2.2.2.1.2.2)),Iy s1.2.2.2.2 [e]))))))) λ_=>bd (U3 a) λf=>gd (CI (BG (AR s1.2.2.2.2) (AR [f])) 1048576) λ_=>zo (.nx ((s1.1,(So .i64 s1.2.1 1,(s1.2.2.1,((zt,(a.1,s1.2.2.2.1.2.2)),Iy s1.2.2.2.2 [f]))))))) λ_=>zo (.dn ((1,(s1,()))))) ((0,(0,(0,(n,[])))))) λb=>br (neq b.1 0) (λ_=>br (SS b.2.1.1 0) (λ_=>zo (([],(b.2.1.2.2.1,b.2.1.1)))) λ_=>zo ((b.2.1.2.2.2.2,(0,0)))) λ_=>zo ((b.2.1.2.2.2.2,(0,0)))
def W7(x:((List UZ)×(List UZ))):Option Bool:=
 br (SS (Kx (AR x.1)) (Kx (AR x.2))) (λ_=>zo zf) λ_=>bd (loop (λs0=>br (Tk s0.2 (Kx (AR x.1))) (λ_=>SW s0.2 λd=>ix x.1 d λa=>SW s0.2 λe=>ix x.2 e λb=>br (Hl (OG (seq a.1 b.1) (OG (seq a.2.1 b.2.1) (OG (beq a.2.2.1 b.2.2.1) (OG (O3 a.2.2.2 b.2.2.2) zt))))) (λ_=>zo (.dn ((0,((zf,s0.2),()))))) λ_=>zo (.nx (s0.1,So .i64 s0.2 1))) λ_=>zo (.dn ((1,(s0,()))))) (zf,0)) λc=>br (neq c.1 0) (λ_=>zo c.2.1.1) λ_=>zo zt
def X5(x:qW):Option Int:=
 bd (Wq x.1) λi=>br (SS i.2 0) (λ_=>zo i.2) λ_=>bd (loop (λs1=>br (Tk s1.1 (Kx (AR x.1.2.1))) (λ_=>SW s1.1 λj=>ix x.1.2.1 j λl=>zo (.nx (So .i64 s1.1 1,So .i64 s1.2 l))) λ_=>zo (.dn ((0,(s1,()))))) (0,0)) λa=>br (Ti (Kx (AR x.2.2.1)) 20000) (λ_=>zo 3) λ_=>br (Ti a.2.1.2 20000) (λ_=>zo 3) λ_=>br (SS x.2.2.2 a.2.1.2) (λ_=>zo 7) λ_=>bd (Y7 x.1.1) λb=>br (SS b.2.2 0) (λ_=>zo b.2.2) λ_=>SW a.2.1.2 λe=>gd (CI e (AR b.1)) λ_=>gd (CI 0 e) λ_=>bd (Xd (D6 b.1 0 e,x.2.1.2.2)) λc=>br (SS c.2.2 0) (λ_=>zo c.2.2) λ_=>bd (WC x.2.1.2.2) λd=>br (Ti a.2.1.2 0) (λ_=>SW (Ss .i64 a.2.1.2 1) λk=>ix b.1 k λh=>bd (W7 (x.2.2.1,c.1)) λf=>br (Hl f) (λ_=>zo 6) λ_=>br (Hl (OG (beq x.2.1.1 zt) (OG (seq x.2.1.2.1 h.1) (OG (beq x.2.1.2.2 d.2.2) zt)))) (λ_=>zo 6) λ_=>zo 0) λ_=>bd (W7 (x.2.2.1,c.1)) λg=>br (Hl g) (λ_=>zo 6) λ_=>br (Hl (OG (beq x.2.1.1 d.1) (OG (seq x.2.1.2.1 d.2.1) (OG (beq x.2.1.2.2 d.2.2) zt)))) (λ_=>zo 6) λ_=>zo 0
def Yc(x:WE):Option (Int×Int):=
 bd (Wq x) λa=>br (SS a.2 0) (λ_=>zo (0,a.2)) λ_=>bd (loop (λs1=>br (Tk s1.1 (Kx (AR x.1))) (λ_=>SW s1.1 λb=>ix x.1 b λe=>SW s1.1 λc=>ix x.2.1 c λf=>zo (.nx ((So .i64 s1.1 1,So .i64 s1.2 (Ss .i64 (Kx (AR e)) f))))) λ_=>zo (.dn ((0,(s1,()))))) (0,0)) λd=>zo (d.2.1.2,0)
def VI(x:qW):Option (Int×Int):=
 bd (X5 x) λa=>br (SS a 0) (λ_=>zo (0,a)) λ_=>bd (Yc x.1) λb=>zo b
def Ve(x:WE):Option (UZ×(Int×(WE×Int))):=
 bd (Wq x) λl=>br (SS l.2 0) (λ_=>br (SS l.2 0) (λ_=>zo (((([],([],(zf,0))):UZ),(0,(([],([],([],([],0)))),l.2))))) λ_=>zn) λ_=>bd (Uk x.1) λd=>bd (Us x.2.1) λa=>bd (WB x.2.2) λc=>br (SS c.2.2 0) (λ_=>br (SS c.2.2 0) (λ_=>zo (((([],([],(zf,0))):UZ),(0,(([],([],([],([],0)))),c.2.2))))) λ_=>gd (KW 0 (AR a)) λ_=>ix a 0 λt=>gd (KW 0 (AR a)) λ_=>ix a 0 λB=>gd (KW 0 (AR d)) λ_=>ix d 0 λz=>gd (KW 0 (AR (lset a 0 (So .i64 t 1)))) λ_=>ix (lset a 0 (So .i64 t 1)) 0 λA=>bd (U9 (z,A)) λu=>bd (Vy (x.2.2,u)) λw=>zo (((([],([],(zf,0))):UZ),(0,((d,(lset a 0 (So .i64 t 1),w.1)),0))))) λ_=>SW c.1 λf=>gd (KW f (AR d)) λ_=>ix d f λo=>SW c.1 λg=>gd (KW g (AR a)) λ_=>ix a g λp=>SW p λk=>ix o k λq=>SW c.1 λh=>gd (KW h (AR a)) λ_=>ix a h λe=>SW c.1 λb=>gd (KW b (AR a)) λ_=>ix a b λy=>SW c.1 λi=>gd (KW i (AR d)) λ_=>ix d i λr=>SW c.1 λj=>gd (KW j (AR (lset a b (So .i64 e 1)))) λ_=>ix (lset a b (So .i64 e 1)) j λs=>bd (U9 (r,s)) λm=>bd (Vy (x.2.2,m)) λn=>zo ((q,(c.1,((d,(lset a b (So .i64 e 1),n.1)),0))))
def Vo(x:((Bool×Uv)×UZ)):Option (Bool×((Bool×Uv)×Int)):=
 bd (W6 x.1) λa=>br (SS a 0) (λ_=>zo ((zf,((zf,([],zf)),a)))) λ_=>bd (Vi x.2) λb=>br (SS b 0) (λ_=>zo ((zf,((zf,([],zf)),b)))) λ_=>br x.1.1 (λ_=>br (S4 x.2.1 x.1.2.1) (λ_=>zo ((zf,((zf,([],zf)),6)))) λ_=>br x.1.1 (λ_=>br (seq x.2.1 x.1.2.1) (λ_=>zo ((zf,((zt,(x.2.1,x.1.2.2)),0)))) λ_=>br x.1.2.2 (λ_=>br x.2.2.2.1 (λ_=>zo ((zf,((zt,(x.2.1,x.1.2.2)),0)))) λ_=>zo ((zt,((zt,(x.2.1,x.1.2.2)),0)))) λ_=>zo ((zt,((zt,(x.2.1,x.1.2.2)),0)))) λ_=>br x.1.2.2 (λ_=>br x.2.2.2.1 (λ_=>zo ((zf,((zt,(x.2.1,x.1.2.2)),0)))) λ_=>zo ((zt,((zt,(x.2.1,x.1.2.2)),0)))) λ_=>zo ((zt,((zt,(x.2.1,x.1.2.2)),0)))) λ_=>br x.1.1 (λ_=>br (seq x.2.1 x.1.2.1) (λ_=>zo ((zf,((zt,(x.2.1,x.1.2.2)),0)))) λ_=>br x.1.2.2 (λ_=>br x.2.2.2.1 (λ_=>zo ((zf,((zt,(x.2.1,x.1.2.2)),0)))) λ_=>zo ((zt,((zt,(x.2.1,x.1.2.2)),0)))) λ_=>zo ((zt,((zt,(x.2.1,x.1.2.2)),0)))) λ_=>br x.1.2.2 (λ_=>br x.2.2.2.1 (λ_=>zo ((zf,((zt,(x.2.1,x.1.2.2)),0)))) λ_=>zo ((zt,((zt,(x.2.1,x.1.2.2)),0)))) λ_=>zo ((zt,((zt,(x.2.1,x.1.2.2)),0)))
def Vc(x:(qW×Int)):Option (qW×(Int×Int)):=
 bd (VI x.1) λh=>br (SS h.2 0) (λ_=>zo (((([],([],([],([],0)))),((zf,([],zf)),([],0))),(0,h.2)))) λ_=>br (Tk x.2 0) (λ_=>zo (((([],([],([],([],0)))),((zf,([],zf)),([],0))),(0,7)))) λ_=>br (Ti (So .i64 x.1.2.2.2 (UO x.2 h.1)) 20000) (λ_=>zo (((([],([],([],([],0)))),((zf,([],zf)),([],0))),(0,3)))) λ_=>gd (CI (AR x.1.2.2.1) 1048576) λ_=>gd (CI (AR x.1.1.2.1) 1048576) λ_=>br (Tk 0 (UO x.2 h.1)) (λ_=>bd (Ve x.1.1) λe=>br (SS e.2.2.2 0) (λ_=>br (SS e.2.2.2 0) (λ_=>br (SS e.2.2.2 0) (λ_=>zo (((([],([],([],([],0)))),((zf,([],zf)),([],0))),(0,e.2.2.2)))) λ_=>zo ((x.1,(UO x.2 h.1,0)))) λ_=>zn) λ_=>bd (Vo (x.1.2.1,e.1)) λi=>br (SS i.2.2 0) (λ_=>br (SS i.2.2 0) (λ_=>br (SS i.2.2 0) (λ_=>zo (((([],([],([],([],0)))),((zf,([],zf)),([],0))),(0,i.2.2)))) λ_=>zo ((x.1,(UO x.2 h.1,0)))) λ_=>zn) λ_=>br i.1 (λ_=>gd (CI (BG (AR x.1.2.2.1) (AR [e.1])) 1048576) λ_=>bd (loop (λb=>br (Tk b.1 (UO x.2 h.1)) (λ_=>bd (Ve ((b.2.2.1,(b.2.2.2.1,(b.2.2.2.2.1,(b.2.2.2.2.2.1,b.2.2.2.2.2.2.1)))))) λf=>br (SS f.2.2.2 0) (λ_=>br (SS f.2.2.2 0) (λ_=>zo (.dn ((0,((b.1,(f.2.2.2,b.2.2)),()))))) λ_=>zo (.nx (So .i64 b.1 1,b.2))) λ_=>bd (Vo (((b.2.2.2.2.2.2.2.1,(b.2.2.2.2.2.2.2.2.1,b.2.2.2.2.2.2.2.2.2.1)),f.1))) λj=>br (SS j.2.2 0) (λ_=>br (SS j.2.2 0) (λ_=>zo (.dn ((0,((b.1,(j.2.2,b.2.2)),()))))) λ_=>zo (.nx (So .i64 b.1 1,b.2))) λ_=>br j.1 (λ_=>gd (CI (BG (AR b.2.2.2.2.2.2.2.2.2.2.1) (AR [f.1])) 1048576) λ_=>zo (.nx ((So .i64 b.1 1,(b.2.1,(f.2.2.1.1,(f.2.2.1.2.1,(f.2.2.1.2.2.1,(f.2.2.1.2.2.2.1,(f.2.2.1.2.2.2.2,(j.2.1.1,(j.2.1.2.1,(j.2.1.2.2,(Iy b.2.2.2.2.2.2.2.2.2.2.1 [f.1],So .i64 b.2.2.2.2.2.2.2.2.2.2.2 1)))))))))))))) λ_=>zo (.nx ((So .i64 b.1 1,(b.2.1,(f.2.2.1.1,(f.2.2.1.2.1,(f.2.2.1.2.2.1,(f.2.2.1.2.2.2.1,(f.2.2.1.2.2.2.2,(j.2.1.1,(j.2.1.2.1,(j.2.1.2.2,(b.2.2.2.2.2.2.2.2.2.2.1,So .i64 b.2.2.2.2.2.2.2.2.2.2.2 1)))))))))))))) λ_=>zo (.dn ((1,(b,()))))) ((1,(0,(e.2.2.1.1,(e.2.2.1.2.1,(e.2.2.1.2.2.1,(e.2.2.1.2.2.2.1,(e.2.2.1.2.2.2.2,(i.2.1.1,(i.2.1.2.1,(i.2.1.2.2,(Iy x.1.2.2.1 [e.1],So .i64 x.1.2.2.2 1))))))))))))) λd=>br (neq d.1 0) (λ_=>br (SS d.2.1.2.1 0) (λ_=>zo (((([],([],([],([],0)))),((zf,([],zf)),([],0))),(0,d.2.1.2.1)))) λ_=>zo ((((d.2.1.2.2.1,(d.2.1.2.2.2.1,(d.2.1.2.2.2.2.1,(d.2.1.2.2.2.2.2.1,d.2.1.2.2.2.2.2.2.1)))),((d.2.1.2.2.2.2.2.2.2.1,(d.2.1.2.2.2.2.2.2.2.2.1,d.2.1.2.2.2.2.2.2.2.2.2.1)),d.2.1.2.2.2.2.2.2.2.2.2.2)),(UO x.2 h.1,0)))) λ_=>zo ((((d.2.1.2.2.1,(d.2.1.2.2.2.1,(d.2.1.2.2.2.2.1,(d.2.1.2.2.2.2.2.1,d.2.1.2.2.2.2.2.2.1)))),((d.2.1.2.2.2.2.2.2.2.1,(d.2.1.2.2.2.2.2.2.2.2.1,d.2.1.2.2.2.2.2.2.2.2.2.1)),d.2.1.2.2.2.2.2.2.2.2.2.2)),(UO x.2 h.1,0)))) λ_=>bd (loop (λc=>br (Tk c.1 (UO x.2 h.1)) (λ_=>bd (Ve ((c.2.2.1,(c.2.2.2.1,(c.2.2.2.2.1,(c.2.2.2.2.2.1,c.2.2.2.2.2.2.1)))))) λg=>br (SS g.2.2.2 0) (λ_=>br (SS g.2.2.2 0) (λ_=>zo (.dn ((0,((c.1,(g.2.2.2,c.2.2)),()))))) λ_=>zo (.nx (So .i64 c.1 1,c.2))) λ_=>bd (Vo (((c.2.2.2.2.2.2.2.1,(c.2.2.2.2.2.2.2.2.1,c.2.2.2.2.2.2.2.2.2.1)),g.1))) λk=>br (SS k.2.2 0) (λ_=>br (SS k.2.2 0) (λ_=>zo (.dn ((0,((c.1,(k.2.2,c.2.2)),()))))) λ_=>zo (.nx (So .i64 c.1 1,c.2))) λ_=>br k.1 (λ_=>gd (CI (BG (AR c.2.2.2.2.2.2.2.2.2.2.1) (AR [g.1])) 1048576) λ_=>zo (.nx ((So .i64 c.1 1,(c.2.1,(g.2.2.1.1,(g.2.2.1.2.1,(g.2.2.1.2.2.1,(g.2.2.1.2.2.2.1,(g.2.2.1.2.2.2.2,(k.2.1.1,(k.2.1.2.1,(k.2.1.2.2,(Iy c.2.2.2.2.2.2.2.2.2.2.1 [g.1],So .i64 c.2.2.2.2.2.2.2.2.2.2.2 1)))))))))))))) λ_=>zo (.nx ((So .i64 c.1 1,(c.2.1,(g.2.2.1.1,(g.2.2.1.2.1,(g.2.2.1.2.2.1,(g.2.2.1.2.2.2.1,(g.2.2.1.2.2.2.2,(k.2.1.1,(k.2.1.2.1,(k.2.1.2.2,(c.2.2.2.2.2.2.2.2.2.2.1,So .i64 c.2.2.2.2.2.2.2.2.2.2.2 1)))))))))))))) λ_=>zo (.dn ((1,(c,()))))) ((1,(0,(e.2.2.1.1,(e.2.2.1.2.1,(e.2.2.1.2.2.1,(e.2.2.1.2.2.2.1,(e.2.2.1.2.2.2.2,(i.2.1.1,(i.2.1.2.1,(i.2.1.2.2,(x.1.2.2.1,So .i64 x.1.2.2.2 1))))))))))))) λa=>br (neq a.1 0) (λ_=>br (SS a.2.1.2.1 0) (λ_=>zo (((([],([],([],([],0)))),((zf,([],zf)),([],0))),(0,a.2.1.2.1)))) λ_=>zo ((((a.2.1.2.2.1,(a.2.1.2.2.2.1,(a.2.1.2.2.2.2.1,(a.2.1.2.2.2.2.2.1,a.2.1.2.2.2.2.2.2.1)))),((a.2.1.2.2.2.2.2.2.2.1,(a.2.1.2.2.2.2.2.2.2.2.1,a.2.1.2.2.2.2.2.2.2.2.2.1)),a.2.1.2.2.2.2.2.2.2.2.2.2)),(UO x.2 h.1,0)))) λ_=>zo ((((a.2.1.2.2.1,(a.2.1.2.2.2.1,(a.2.1.2.2.2.2.1,(a.2.1.2.2.2.2.2.1,a.2.1.2.2.2.2.2.2.1)))),((a.2.1.2.2.2.2.2.2.2.1,(a.2.1.2.2.2.2.2.2.2.2.1,a.2.1.2.2.2.2.2.2.2.2.2.1)),a.2.1.2.2.2.2.2.2.2.2.2.2)),(UO x.2 h.1,0)))) λ_=>zo ((x.1,(UO x.2 h.1,0)))
def VB(x:((List UZ)×(List UZ))):Option Bool:=
 br (SS (Kx (AR x.1)) (Kx (AR x.2))) (λ_=>zo zf) λ_=>bd (loop (λs0=>br (Tk s0.1 (Kx (AR x.1))) (λ_=>SW s0.1 λd=>ix x.1 d λa=>SW s0.1 λe=>ix x.2 e λb=>br (Hl (OG (seq a.1 b.1) (OG (seq a.2.1 b.2.1) (OG (beq a.2.2.1 b.2.2.1) (OG (O3 a.2.2.2 b.2.2.2) zt))))) (λ_=>zo (.dn ((0,((s0.1,zf),()))))) λ_=>zo (.nx (So .i64 s0.1 1,s0.2))) λ_=>zo (.dn ((1,(s0,()))))) (0,zf)) λc=>br (neq c.1 0) (λ_=>zo c.2.1.2) λ_=>zo zt
def VW(x:((List UZ)×(List UZ))):Option Bool:=
 bd (VB x) λa=>zo a
def Wd(x:(qW×qW)):Option Bool:=
 br (SS (Kx (AR x.1.1.1)) (Kx (AR x.2.1.1))) (λ_=>zo zf) λ_=>bd (loop (λs0=>br (Tk s0.1 (Kx (AR x.1.1.1))) (λ_=>SW s0.1 λg=>ix x.1.1.1 g λm=>SW s0.1 λh=>ix x.2.1.1 h λn=>bd (VW (m,n)) λi=>br (Hl i) (λ_=>zo (.dn ((0,((s0.1,zf),()))))) λ_=>zo (.nx (So .i64 s0.1 1,s0.2))) λ_=>zo (.dn ((1,(s0,()))))) (0,zf)) λf=>br (neq f.1 0) (λ_=>br f.2.1.2 (λ_=>bd (Um (x.1.1.2.1,x.2.1.2.1)) λj=>br j (λ_=>bd (Uu (x.1.1.2.2.1,x.2.1.2.2.1)) λk=>br k (λ_=>bd (Um (x.1.1.2.2.2.1,x.2.1.2.2.2.1)) λl=>br l (λ_=>br (O3 x.1.1.2.2.2.2 x.2.1.2.2.2.2) (λ_=>br (OG (beq x.1.2.1.1 x.2.2.1.1) (OG (seq x.1.2.1.2.1 x.2.2.1.2.1) (OG (beq x.1.2.1.2.2 x.2.2.1.2.2) zt))) (λ_=>bd (VW (x.1.2.2.1,x.2.2.2.1)) λa=>br a (λ_=>zo (O3 x.1.2.2.2 x.2.2.2.2)) λ_=>zo zf) λ_=>zo zf) λ_=>zo zf) λ_=>zo zf) λ_=>zo zf) λ_=>zo zf) λ_=>zo zf) λ_=>bd (Um (x.1.1.2.1,x.2.1.2.1)) λb=>br b (λ_=>bd (Uu (x.1.1.2.2.1,x.2.1.2.2.1)) λc=>br c (λ_=>bd (Um (x.1.1.2.2.2.1,x.2.1.2.2.2.1)) λd=>br d (λ_=>br (O3 x.1.1.2.2.2.2 x.2.1.2.2.2.2) (λ_=>br (OG (beq x.1.2.1.1 x.2.2.1.1) (OG (seq x.1.2.1.2.1 x.2.2.1.2.1) (OG (beq x.1.2.1.2.2 x.2.2.1.2.2) zt))) (λ_=>bd (VW (x.1.2.2.1,x.2.2.2.1)) λe=>br e (λ_=>zo (O3 x.1.2.2.2 x.2.2.2.2)) λ_=>zo zf) λ_=>zo zf) λ_=>zo zf) λ_=>zo zf) λ_=>zo zf) λ_=>zo zf
def VP(x:qS):Option (Int×Int):=
 bd (WA x.1) λg=>br (SS g.2.2 0) (λ_=>zo (((-1),g.2.2))) λ_=>br (Tk x.2.2 1) (λ_=>zo (((-1),7))) λ_=>br (Ti x.2.2 1000001) (λ_=>zo (((-1),7))) λ_=>bd (XX x.1) λs=>br (Tj x.2.2 s) (λ_=>zo (((-1),6))) λ_=>bd (loop (λs2=>br (Tk s2.1 (Kx (AR x.1.2))) (λ_=>SW s2.1 λq=>ix x.1.2 q λt=>br (O3 (Kx (AR t)) 2) (λ_=>gd (CI (BG (AR s2.2) (AR [s2.1])) 1048576) λ_=>zo (.nx (So .i64 s2.1 1,Iy s2.2 [s2.1]))) λ_=>zo (.nx (So .i64 s2.1 1,s2.2))) λ_=>zo (.dn ((0,(s2,()))))) (0,[])) λf=>bd (loop (λa=>br (Tk a.2.2 (Kx (AR x.2.1))) (λ_=>SW a.2.2 λr=>ix x.2.1 r λb=>br (SR a.2.2 (Kx (AR f.2.1.2))) (λ_=>zo (.dn ((0,((6,(a.2.2,a.2.2)),()))))) λ_=>SW a.2.2 λp=>gd (KW p (AR f.2.1.2)) λ_=>ix f.2.1.2 p λo=>br (SS b.1 o) (λ_=>zo (.dn ((0,((6,(a.2.2,a.2.2)),()))))) λ_=>br b.2.2.1.2.2 (λ_=>bd (WP (x.1,b.1)) λh=>br (Hl h) (λ_=>zo (.dn ((0,((6,(a.2.2,a.2.2)),()))))) λ_=>bd (V3 ((x.1,(b.1,b.2.2.1.2.2)))) λd=>bd (VI d.2) λi=>br (Tk b.2.2.2.2 0) (λ_=>zo (.dn ((0,((6,(a.2.2,a.2.2)),()))))) λ_=>br (Ti b.2.2.2.2 i.1) (λ_=>zo (.dn ((0,((6,(a.2.2,a.2.2)),()))))) λ_=>bd (Vc (d.2,b.2.2.2.2)) λj=>bd (Wd (j.1,b.2)) λk=>br (Hl k) (λ_=>zo (.dn ((0,((6,(a.2.2,a.2.2)),()))))) λ_=>zo (.nx ((a.1,(a.2.1,So .i64 a.2.2 1))))) λ_=>bd (V3 ((x.1,(b.1,b.2.2.1.2.2)))) λe=>bd (VI e.2) λl=>br (Tk b.2.2.2.2 0) (λ_=>zo (.dn ((0,((6,(a.2.2,a.2.2)),()))))) λ_=>br (Ti b.2.2.2.2 l.1) (λ_=>zo (.dn ((0,((6,(a.2.2,a.2.2)),()))))) λ_=>bd (Vc (e.2,b.2.2.2.2)) λm=>bd (Wd (m.1,b.2)) λn=>br (Hl n) (λ_=>zo (.dn ((0,((6,(a.2.2,a.2.2)),()))))) λ_=>zo (.nx ((a.1,(a.2.1,So .i64 a.2.2 1))))) λ_=>zo (.dn ((1,(a,()))))) ((g.2.2,(0,0)))) λc=>br (neq c.1 0) (λ_=>zo (c.2.1.2.1,c.2.1.1)) λ_=>br (Tk (Kx (AR x.2.1)) (Kx (AR f.2.1.2))) (λ_=>zo (((-1),4))) λ_=>zo (0,0)
end
section
open Go Sv
def Wj(x:(Int×Int)):Option Int:=
 bd (loop (λs0=>br (Tk s0.2 x.2) (λ_=>zo (.nx (Sp .i64 2 s0.1,So .i64 s0.2 1))) λ_=>zo (.dn ((0,(s0,()))))) (x.1,0)) λa=>zo a.2.1.1
def Ws(x:UZ):Option Int:=
 br (Ti (Kx (NA x.1)) 32) (λ_=>zo 3) λ_=>br (Ti (Kx (NA x.2.1)) 64) (λ_=>zo 3) λ_=>br x.2.2.1 (λ_=>br (Hl (seq x.2.1 [])) (λ_=>zo 6) λ_=>br (Tk x.2.2.2 1) (λ_=>zo 7) λ_=>br (Ti x.2.2.2 1000000000) (λ_=>zo 7) λ_=>zo 0) λ_=>br (Tk x.2.2.2 1) (λ_=>zo 7) λ_=>br (Ti x.2.2.2 1000000000) (λ_=>zo 7) λ_=>zo 0
def Xt(x:((List UInt8)×(List UInt8))):Option Int:=
 bd (loop (λs0=>br (Tk s0 (Kx (NA x.1))) (λ_=>br (Tk s0 (Kx (NA x.2))) (λ_=>SW s0 λa=>ix x.1 a λd=>SW s0 λb=>ix x.2 b λe=>br (O3 (UT d) (UT e)) (λ_=>zo (.nx (So .i64 s0 1))) λ_=>zo (.dn ((0,(s0,()))))) λ_=>zo (.dn ((0,(s0,()))))) λ_=>zo (.dn ((0,(s0,()))))) 0) λc=>zo c.2.1
def XS(x:((List UInt8)×(List UInt8))):Option Int:=
 bd (Xt x) λa=>br (O3 a (Kx (NA x.1))) (λ_=>br (O3 a (Kx (NA x.2))) (λ_=>zo 0) λ_=>br (O3 a (Kx (NA x.1))) (λ_=>zo (-1)) λ_=>br (Tk a (Kx (NA x.2))) (λ_=>SW a λb=>ix x.1 b λf=>SW a λc=>ix x.2 c λg=>br (Tk (UT f) (UT g)) (λ_=>zo (-1)) λ_=>zo 1) λ_=>zo 1) λ_=>br (O3 a (Kx (NA x.1))) (λ_=>zo (-1)) λ_=>br (Tk a (Kx (NA x.2))) (λ_=>SW a λd=>ix x.1 d λh=>SW a λe=>ix x.2 e λi=>br (Tk (UT h) (UT i)) (λ_=>zo (-1)) λ_=>zo 1) λ_=>zo 1
def WL(x:(List UZ)):Option (Int×Int):=
 br (Ti (Kx (AR x)) 5000) (λ_=>zo (((-1),3))) λ_=>bd (loop (λs0=>br (Tk s0.2.2 (Kx (AR x))) (λ_=>SW s0.2.2 λc=>ix x c λg=>bd (Ws g) λa=>br (O3 a 0) (λ_=>br (Ti s0.2.2 0) (λ_=>SW (Ss .i64 s0.2.2 1) λd=>ix x d λh=>SW s0.2.2 λe=>ix x e λi=>bd (XS (h.1,i.1)) λf=>br (SR f 0) (λ_=>zo (.dn ((0,((6,(s0.2.2,s0.2.2)),()))))) λ_=>br (SS a 0) (λ_=>zo (.dn ((0,((a,(s0.2.2,s0.2.2)),()))))) λ_=>zo (.nx ((s0.1,(s0.2.1,So .i64 s0.2.2 1))))) λ_=>br (SS a 0) (λ_=>zo (.dn ((0,((a,(s0.2.2,s0.2.2)),()))))) λ_=>zo (.nx ((s0.1,(s0.2.1,So .i64 s0.2.2 1))))) λ_=>br (SS a 0) (λ_=>zo (.dn ((0,((a,(s0.2.2,s0.2.2)),()))))) λ_=>zo (.nx ((s0.1,(s0.2.1,So .i64 s0.2.2 1))))) λ_=>zo (.dn ((1,(s0,()))))) ((0,(0,0)))) λb=>br (neq b.1 0) (λ_=>zo (b.2.1.2.1,b.2.1.1)) λ_=>zo (0,0)
def YL(x:Uy):Option (Int×Int):=
 br (Tk x.1 1) (λ_=>zo (((-1),7))) λ_=>br (Ti x.1 1000000) (λ_=>zo (((-1),7))) λ_=>bd (WL x.2) λa=>zo a
def XH(x:(Uy×(Int×(List Int)))):Option Int:=
 bd (YL x.1) λa=>br (SS a.2 0) (λ_=>zo a.2) λ_=>br (O3 (Kx (AR x.1.2)) 0) (λ_=>zo 4) λ_=>br (Ti (Kx (AR x.1.2)) x.2.1) (λ_=>zo 3) λ_=>bd (loop (λs1=>br (Tk s1.1 (Kx (AR x.2.2))) (λ_=>SW s1.1 λc=>ix x.2.2 c λd=>br (O3 d x.1.1) (λ_=>zo (.dn ((0,((s1.1,8),()))))) λ_=>zo (.nx (So .i64 s1.1 1,s1.2))) λ_=>zo (.dn ((1,(s1,()))))) (0,0)) λb=>br (neq b.1 0) (λ_=>zo b.2.1.2) λ_=>zo 0
def V7(x:Ub):Option (Int×(Int×Int)):=
 br (Tk x.1 1) (λ_=>zo ((0,(0,7)))) λ_=>br (Ti x.1 16) (λ_=>zo ((0,(0,7)))) λ_=>br (Ti (Kx (AR x.2)) 12) (λ_=>zo ((0,(0,3)))) λ_=>bd (loop (λ(s0:(Int×((List Int)×(Int×(Int×Int)))))=>br (Tk s0.2.2.2.2 (Kx (AR x.2))) (λ_=>SW s0.2.2.2.2 λi=>ix x.2 i λd=>br (Ti (Kx (AR d)) 2) (λ_=>zo (.dn ((0,((0,(s0.2.1,(s0.2.2.2.2,(3,s0.2.2.2.2)))),()))))) λ_=>bd (loop (λ(b:(Int×((List Int)×(Int×(Int×Int)))))=>br (Tk b.2.2.2.2 (Kx (AR d))) (λ_=>SW b.2.2.2.2 λj=>ix d j λm=>bd (Wj (x.1,s0.2.2.2.2)) λl=>bd (XH ((m,(l,b.2.1)))) λg=>br (SS g 0) (λ_=>zo (.dn ((0,((b.2.2.2.2,(b.2.1,(s0.2.2.2.2,(g,b.2.2.2.2)))),()))))) λ_=>SW b.2.2.2.2 λk=>ix d k λh=>gd (CI (BG (AR b.2.1) (AR [h.1])) 1048576) λ_=>zo (.nx ((b.1,(Iy b.2.1 [h.1],(b.2.2.1,(b.2.2.2.1,So .i64 b.2.2.2.2 1))))))) λ_=>zo (.dn ((1,(b,()))))) ((s0.1,(s0.2.1,(s0.2.2.1,(s0.2.2.2.1,0)))))) λa=>br (neq a.1 0) (λ_=>zo (.dn ((0,((a.2.1.1,(a.2.1.2.1,(a.2.1.2.2.1,(a.2.1.2.2.2.1,s0.2.2.2.2)))),()))))) λ_=>zo (.nx ((a.2.1.1,(a.2.1.2.1,(a.2.1.2.2.1,(a.2.1.2.2.2.1,So .i64 s0.2.2.2.2 1))))))) λ_=>zo (.dn ((1,(s0,()))))) ((0,([],(0,(0,0)))))) λc=>br (neq c.1 0) (λ_=>zo ((c.2.1.2.2.1,(c.2.1.1,c.2.1.2.2.2.1)))) λ_=>br (Ti (Kx (AR x.2)) 0) (λ_=>SW (Ss .i64 (Kx (AR x.2)) 1) λe=>ix x.2 e λf=>br (O3 (Kx (AR f)) 0) (λ_=>zo ((Ss .i64 (Kx (AR x.2)) 1,(0,6)))) λ_=>zo ((0,(0,0)))) λ_=>zo ((0,(0,0)))
def W3(x:Ub):Option ((List Uy)×Int):=
 bd (V7 x) λc=>br (SS c.2.2 0) (λ_=>zo ([],c.2.2)) λ_=>bd (loop (λs1=>br (Tk s1.2 (Kx (AR x.2))) (λ_=>SW s1.2 λe=>ix x.2 e λi=>bd (loop (λa=>br (SR a.2 0) (λ_=>SW s1.2 λf=>ix x.2 f λj=>SW a.2 λg=>ix j g λd=>gd (CI (BG (AR a.1) (AR [d])) 1048576) λ_=>zo (.nx (Iy a.1 [d],Ss .i64 a.2 1))) λ_=>zo (.dn ((0,(a,()))))) ((s1.1,Ss .i64 (Kx (AR i)) 1))) λh=>zo (.nx (h.2.1.1,So .i64 s1.2 1))) λ_=>zo (.dn ((0,(s1,()))))) ([],0)) λb=>zo (b.2.1.1,0)
def Wa(x:Ub):Option Int:=
 bd (W3 x) λa=>bd (loop (λs1=>br (Tk s1.2 (Kx (AR a.1))) (λ_=>SW s1.2 λb=>ix a.1 b λd=>zo (.nx (UP s1.1 d.1,So .i64 s1.2 1))) λ_=>zo (.dn ((0,(s1,()))))) (0,0)) λc=>zo c.2.1.1
def VV(x:Ub):Option (List Int):=
 bd (loop (λs0=>br (Tk s0.2 (Kx (AR x.2))) (λ_=>SW s0.2 λa=>ix x.2 a λc=>br (O3 (Kx (AR c)) 2) (λ_=>gd (CI (BG (AR s0.1) (AR [s0.2])) 1048576) λ_=>zo (.nx (Iy s0.1 [s0.2],So .i64 s0.2 1))) λ_=>zo (.nx (s0.1,So .i64 s0.2 1))) λ_=>zo (.dn ((0,(s0,()))))) ([],0)) λb=>zo b.2.1.1
def Za(x:(Ub×Int)):Option Int:=
 bd (V7 x.1) λa=>br (O3 a.2.2 0) (λ_=>br (Tk x.2 0) (λ_=>zo 7) λ_=>br (SR x.2 12) (λ_=>zo 7) λ_=>zo a.2.2) λ_=>zo a.2.2
def ZA(x:(Ub×Int)):Option (Bool×Int):=
 bd (Za x) λa=>br (SS a 0) (λ_=>zo (zf,a)) λ_=>zo ((Ti (Kx (AR x.1.2)) (So .i64 x.2 1),0))
def VF(x:(Ub×Int)):Option Bool:=
 bd (ZA x) λa=>zo (Hl a.1)
def Wv(x:(List (List UZ))):Option (Int×Int):=
 br (O3 (Kx (AR x)) 0) (λ_=>zo (((-1),6))) λ_=>br (Ti (Kx (AR x)) 32) (λ_=>zo (((-1),3))) λ_=>bd (loop (λs0=>br (Tk s0.2.2 (Kx (AR x))) (λ_=>SW s0.2.2 λc=>ix x c λd=>bd (WL d) λb=>br (SS b.2 0) (λ_=>zo (.dn ((0,((b.2,(s0.2.2,s0.2.2)),()))))) λ_=>zo (.nx ((s0.1,(s0.2.1,So .i64 s0.2.2 1))))) λ_=>zo (.dn ((1,(s0,()))))) ((0,(0,0)))) λa=>br (neq a.1 0) (λ_=>zo (a.2.1.2.1,a.2.1.1)) λ_=>zo (0,0)
def YM(x:(List Uv)):Option Int:=
 br (O3 (Kx (AR x)) 0) (λ_=>zo 6) λ_=>br (Ti (Kx (AR x)) 32) (λ_=>zo 3) λ_=>bd (loop (λs0=>br (Tk s0.1 (Kx (AR x))) (λ_=>SW s0.1 λb=>ix x b λd=>br d.2 (λ_=>SW s0.1 λc=>ix x c λe=>br (Hl (seq e.1 [])) (λ_=>zo (.dn ((0,((s0.1,2),()))))) λ_=>zo (.nx (So .i64 s0.1 1,s0.2))) λ_=>zo (.nx (So .i64 s0.1 1,s0.2))) λ_=>zo (.dn ((1,(s0,()))))) (0,0)) λa=>br (neq a.1 0) (λ_=>zo a.2.1.2) λ_=>zo 0
def Xw(x:((List Uv)×(Int×Int))):Option Bool:=
 SW x.2.1 λc=>ix x.1 c λa=>SW x.2.2 λd=>ix x.1 d λb=>br (Hl (beq a.2 b.2)) (λ_=>zo b.2) λ_=>br (Hl a.2) (λ_=>br (Hl (seq a.1 b.1)) (λ_=>zo (S4 a.1 b.1)) λ_=>zo (Tk x.2.1 x.2.2)) λ_=>zo (Tk x.2.1 x.2.2)
def Ur(rec:((List Uv)×Int)->Option (Int×Int))(x:((List Uv)×Int)):Option (Int×Int):=
 br (SR x.2 (Kx (AR x.1))) (λ_=>zo ((Ss .i64 x.2 (Kx (AR x.1)),0))) λ_=>bd (rec (x.1,Sp .i64 2 x.2)) λa=>bd (rec ((x.1,So .i64 (Sp .i64 2 x.2) 1))) λb=>bd (Xw ((x.1,(a.1,b.1)))) λc=>br c (λ_=>zo (a.1,b.1)) λ_=>zo (b.1,a.1)
def Xv:((List Uv)×Int)->Option (Int×Int):=Nb Ur 100
def Yf(x:(List Uv)):Option We:=
 gd (CI (AR x) 1048576) λ_=>SW (Kx (AR x)) λf=>SW (Kx (AR x)) λb=>gd (CI b 1048576) λ_=>bd (loop (λs2=>br (Tk s2.1 (Kx (AR x))) (λ_=>bd (Xv (x,s2.1)) λd=>SW s2.1 λa=>gd (KW a (AR s2.2.2.1)) λ_=>ix s2.2.2.1 a λg=>zo (.nx ((So .i64 s2.1 1,(s2.2.1,(lset s2.2.2.1 a d.2,s2.2.2.2)))))) λ_=>zo (.dn ((0,(s2,()))))) ((1,(x,(R5 b 0,(0:Int)))))) λc=>bd (Xv (x,1)) λe=>zo ((c.2.1.2.1,(c.2.1.2.2.1,e.1)))
def XT(x:(List Uv)):Option (We×Int):=
 bd (YM x) λa=>br (SS a 0) (λ_=>zo ((([],([],0)),a))) λ_=>bd (Yf x) λb=>zo (b,0)
def WR(x:((List (List UZ))×(List Int))):Option WE:=
 gd (CI (AR x.1) 1048576) λ_=>gd (CI (AR x.2) 1048576) λ_=>bd (loop (λs0=>br (Tk s0.1 (Kx (AR x.1))) (λ_=>SW s0.1 λf=>ix x.2 f λb=>SW s0.1 λg=>ix x.1 g λc=>br (Hl (O3 b (Kx (AR c)))) (λ_=>SW s0.1 λh=>ix x.1 h λk=>SW s0.1 λi=>ix x.2 i λl=>SW l λj=>ix k j λa=>gd (CI (BG (AR s0.2) (AR ([(a.1,O3 b (Kx (AR c)))]))) 1048576) λ_=>zo (.nx ((So .i64 s0.1 1,Iy s0.2 ([(a.1,O3 b (Kx (AR c)))]))))) λ_=>gd (CI (BG (AR s0.2) (AR ([(([]:List UInt8),O3 b (Kx (AR c)))]))) 1048576) λ_=>zo (.nx ((So .i64 s0.1 1,Iy s0.2 ([([],O3 b (Kx (AR c)))]))))) λ_=>zo (.dn ((0,(s0,()))))) (0,[])) λd=>bd (XT d.2.1.2) λe=>zo ((x.1,(x.2,e.1)))
def Y9(x:(List (List UZ))):Option (WE×(Int×Int)):=
 bd (Wv x) λb=>br (SS b.2 0) (λ_=>zo ((([],([],([],([],0)))),b))) λ_=>SW (Kx (AR x)) λd=>SW (Kx (AR x)) λa=>gd (CI a 1048576) λ_=>bd (WR (x,R5 a 0)) λc=>zo ((c,(0,0)))
def WS(x:Bool):Option (Bool×Uv):=
 zo ((zf,([],x)))
def YO(x:((List (List UZ))×Bool)):Option (qW×(Int×Int)):=
 bd (Y9 x.1) λa=>br (SS a.2.2 0) (λ_=>zo (((([],([],([],([],0)))),((zf,([],zf)),([],0))),a.2))) λ_=>bd (WS x.2) λb=>zo (((a.1,(b,([],0))),(0,0)))
def Ux(x:(Ub×(Int×Bool))):Option qJ:=
 br (SR x.2.1 (Kx (AR x.1.2))) (λ_=>zn) λ_=>SW x.2.1 λb=>ix x.1.2 b λa=>ix a 1 λd=>ix a 0 λe=>bd (YO ([d.2,e.2],x.2.2)) λc=>zo (x.2.1,c.1)
def Ye(x:((List Int)×(List Int))):Option Bool:=
 br (SS (Kx (AR x.1)) (Kx (AR x.2))) (λ_=>zo zf) λ_=>bd (loop (λs0=>br (Tk s0.1 (Kx (AR x.1))) (λ_=>SW s0.1 λb=>ix x.1 b λd=>SW s0.1 λc=>ix x.2 c λe=>br (SS d e) (λ_=>zo (.dn ((0,((s0.1,zf),()))))) λ_=>zo (.nx (So .i64 s0.1 1,s0.2))) λ_=>zo (.dn ((1,(s0,()))))) (0,zf)) λa=>br (neq a.1 0) (λ_=>zo a.2.1.2) λ_=>zo zt
def Xu(x:(We×We)):Option Bool:=
 br (SS (Kx (AR x.1.1)) (Kx (AR x.2.1))) (λ_=>zo zf) λ_=>br (SS x.1.2.2 x.2.2.2) (λ_=>zo zf) λ_=>bd (Ye (x.1.2.1,x.2.2.1)) λf=>br (Hl f) (λ_=>zo zf) λ_=>bd (loop (λs1=>br (Tk s1.1 (Kx (AR x.1.1))) (λ_=>SW s1.1 λd=>ix x.1.1 d λb=>SW s1.1 λe=>ix x.2.1 e λc=>br (Hl (OG (seq b.1 c.1) (OG (beq b.2 c.2) zt))) (λ_=>zo (.dn ((0,((s1.1,zf),()))))) λ_=>zo (.nx (So .i64 s1.1 1,s1.2))) λ_=>zo (.dn ((1,(s1,()))))) (0,zf)) λa=>br (neq a.1 0) (λ_=>zo a.2.1.2) λ_=>zo zt
def Wu(x:((List (List UZ))×(List Int))):Option Int:=
 bd (loop (λs0=>br (Tk s0.2 (Kx (AR x.1))) (λ_=>SW s0.2 λi=>ix x.2 i λn=>SW s0.2 λj=>ix x.1 j λo=>br (Tk n (Kx (AR o))) (λ_=>br (Tk s0.1 0) (λ_=>zo (.nx (s0.2,So .i64 s0.2 1))) λ_=>SW s0.2 λk=>ix x.1 k λp=>SW s0.2 λl=>ix x.2 l λq=>SW q λm=>ix p m λe=>SW s0.1 λa=>ix x.1 a λf=>SW s0.1 λb=>ix x.2 b λg=>SW g λc=>ix f c λh=>br (S4 e.1 h.1) (λ_=>zo (.nx (s0.2,So .i64 s0.2 1))) λ_=>zo (.nx (s0.1,So .i64 s0.2 1))) λ_=>zo (.nx (s0.1,So .i64 s0.2 1))) λ_=>zo (.dn ((0,(s0,()))))) (((-1),0))) λd=>zo d.2.1.1
def Wt(x:WE):Option (Int×Int):=
 bd (Wv x.1) λt=>br (SS t.2 0) (λ_=>zo t) λ_=>br (SS (Kx (AR x.2.1)) (Kx (AR x.1))) (λ_=>zo (((-1),6))) λ_=>bd (loop (λs1=>br (Tk s1.2.2 (Kx (AR x.2.1))) (λ_=>SW s1.2.2 λu=>ix x.2.1 u λA=>br (Tk A 0) (λ_=>zo (.dn ((0,((6,(s1.2.2,s1.2.2)),()))))) λ_=>SW s1.2.2 λw=>ix x.2.1 w λB=>SW s1.2.2 λy=>ix x.1 y λC=>br (Ti B (Kx (AR C))) (λ_=>zo (.dn ((0,((6,(s1.2.2,s1.2.2)),()))))) λ_=>zo (.nx ((s1.1,(s1.2.1,So .i64 s1.2.2 1))))) λ_=>zo (.dn ((1,(s1,()))))) ((0,(0,0)))) λd=>br (neq d.1 0) (λ_=>zo (d.2.1.2.1,d.2.1.1)) λ_=>bd (WR (x.1,x.2.1)) λz=>bd (Xu (x.2.2,z.2.2)) λn=>br (Hl n) (λ_=>zo (((-1),6))) λ_=>bd (Wu (x.1,x.2.1)) λb=>bd (loop (λa=>br (Tk a.2.2 (Kx (AR x.1))) (λ_=>br (SR b 0) (λ_=>SW a.2.2 λg=>ix x.2.1 g λo=>br (O3 o 0) (λ_=>zo (.nx ((a.1,(a.2.1,So .i64 a.2.2 1))))) λ_=>SW a.2.2 λh=>ix x.1 h λp=>SW a.2.2 λi=>ix x.2.1 i λq=>SW (Ss .i64 q 1) λj=>ix p j λe=>SW b λk=>ix x.1 k λr=>SW b λl=>ix x.2.1 l λs=>SW s λm=>ix r m λf=>br (S4 f.1 e.1) (λ_=>zo (.dn ((0,((6,(b,a.2.2)),()))))) λ_=>br (seq e.1 f.1) (λ_=>br (Ti a.2.2 b) (λ_=>zo (.dn ((0,((6,(b,a.2.2)),()))))) λ_=>zo (.nx ((a.1,(a.2.1,So .i64 a.2.2 1))))) λ_=>zo (.nx ((a.1,(a.2.1,So .i64 a.2.2 1))))) λ_=>zo (.dn ((1,(a,()))))) λ_=>zo (.dn ((1,(a,()))))) ((d.2.1.1,(d.2.1.2.1,0)))) λc=>br (neq c.1 0) (λ_=>zo (c.2.1.2.1,c.2.1.1)) λ_=>zo (0,0)
def XF(x:qW):Option Int:=
 bd (loop (λs0=>br (Tk s0.2 (Kx (AR x.1.2.1))) (λ_=>SW s0.2 λa=>ix x.1.2.1 a λc=>zo (.nx (So .i64 s0.1 c,So .i64 s0.2 1))) λ_=>zo (.dn ((0,(s0,()))))) (0,0)) λb=>zo b.2.1.1
def Xm(x:(List (List UZ))):Option ((List UZ)×((List Int)×Int)):=
 bd (Wv x) λj=>br (SS j.2 0) (λ_=>zo (([],([],j.2)))) λ_=>SW (Kx (AR x)) λp=>SW (Kx (AR x)) λh=>gd (CI h 1048576) λ_=>bd (loop (λ(a:((List Int)×((List UZ)×((List UZ)×(Int×((List Int)×(List Int)))))))=>bd (Wu (x,a.2.2.2.2.2)) λd=>br (Tk d 0) (λ_=>zo (.dn ((0,((a.2.2.2.2.1,(a.2.1,0)),()))))) λ_=>SW d λk=>ix x k λn=>SW d λi=>gd (KW i (AR a.2.2.2.2.2)) λ_=>ix a.2.2.2.2.2 i λo=>SW o λl=>ix n l λf=>gd (CI (BG (AR a.2.1) (AR [f])) 1048576) λ_=>gd (CI (BG (AR a.2.2.2.2.1) (AR [d])) 1048576) λ_=>SW d λe=>gd (KW e (AR a.2.2.2.2.2)) λ_=>ix a.2.2.2.2.2 e λg=>SW d λb=>gd (KW b (AR a.2.2.2.2.2)) λ_=>ix a.2.2.2.2.2 b λm=>zo (.nx ((a.1,(Iy a.2.1 [f],(a.2.2.1,(a.2.2.2.1,(Iy a.2.2.2.2.1 [d],lset a.2.2.2.2.2 b (So .i64 g 1))))))))) (([],([],([],(0,([],R5 h 0))))))) λc=>zo ((c.2.1.2.1,(c.2.1.1,c.2.1.2.2)))
def YN(x:(Bool×Uv)):Option Int:=
 br (Ti (Kx (NA x.2.1)) 32) (λ_=>zo 3) λ_=>br (Hl x.1) (λ_=>br (Hl (seq x.2.1 [])) (λ_=>zo 6) λ_=>zo 0) λ_=>zo 0
def Yi(x:((Bool×Uv)×UZ)):Option (Bool×((Bool×Uv)×Int)):=
 bd (YN x.1) λa=>br (O3 a 0) (λ_=>bd (Ws x.2) λb=>br (O3 b 0) (λ_=>br x.1.1 (λ_=>br (S4 x.2.1 x.1.2.1) (λ_=>zo ((zf,((zf,([],zf)),6)))) λ_=>br (SS b 0) (λ_=>zo ((zf,((zf,([],zf)),b)))) λ_=>br (Hl x.1.1) (λ_=>br x.1.2.2 (λ_=>zo ((Hl x.2.2.2.1,((zt,(x.2.1,x.1.2.2)),0)))) λ_=>zo ((zt,((zt,(x.2.1,x.1.2.2)),0)))) λ_=>br (Hl (seq x.2.1 x.1.2.1)) (λ_=>br x.1.2.2 (λ_=>zo ((Hl x.2.2.2.1,((zt,(x.2.1,x.1.2.2)),0)))) λ_=>zo ((zt,((zt,(x.2.1,x.1.2.2)),0)))) λ_=>zo ((zf,((zt,(x.2.1,x.1.2.2)),0)))) λ_=>br (SS b 0) (λ_=>zo ((zf,((zf,([],zf)),b)))) λ_=>br (Hl x.1.1) (λ_=>br x.1.2.2 (λ_=>zo ((Hl x.2.2.2.1,((zt,(x.2.1,x.1.2.2)),0)))) λ_=>zo ((zt,((zt,(x.2.1,x.1.2.2)),0)))) λ_=>br (Hl (seq x.2.1 x.1.2.1)) (λ_=>br x.1.2.2 (λ_=>zo ((Hl x.2.2.2.1,((zt,(x.2.1,x.1.2.2)),0)))) λ_=>zo ((zt,((zt,(x.2.1,x.1.2.2)),0)))) λ_=>zo ((zf,((zt,(x.2.1,x.1.2.2)),0)))) λ_=>br (SS b 0) (λ_=>zo ((zf,((zf,([],zf)),b)))) λ_=>br (Hl x.1.1) (λ_=>br x.1.2.2 (λ_=>zo ((Hl x.2.2.2.1,((zt,(x.2.1,x.1.2.2)),0)))) λ_=>zo ((zt,((zt,(x.2.1,x.1.2.2)),0)))) λ_=>br (Hl (seq x.2.1 x.1.2.1)) (λ_=>br x.1.2.2 (λ_=>zo ((Hl x.2.2.2.1,((zt,(x.2.1,x.1.2.2)),0)))) λ_=>zo ((zt,((zt,(x.2.1,x.1.2.2)),0)))) λ_=>zo ((zf,((zt,(x.2.1,x.1.2.2)),0)))) λ_=>br (O3 a 0) (λ_=>br x.1.1 (λ_=>br (S4 x.2.1 x.1.2.1) (λ_=>zo ((zf,((zf,([],zf)),6)))) λ_=>br (SS a 0) (λ_=>zo ((zf,((zf,([],zf)),a)))) λ_=>br (Hl x.1.1) (λ_=>br x.1.2.2 (λ_=>zo ((Hl x.2.2.2.1,((zt,(x.2.1,x.1.2.2)),0)))) λ_=>zo ((zt,((zt,(x.2.1,x.1.2.2)),0)))) λ_=>br (Hl (seq x.2.1 x.1.2.1)) (λ_=>br x.1.2.2 (λ_=>zo ((Hl x.2.2.2.1,((zt,(x.2.1,x.1.2.2)),0)))) λ_=>zo ((zt,((zt,(x.2.1,x.1.2.2)),0)))) λ_=>zo ((zf,((zt,(x.2.1,x.1.2.2)),0)))) λ_=>br (SS a 0) (λ_=>zo ((zf,((zf,([],zf)),a)))) λ_=>br (Hl x.1.1) (λ_=>br x.1.2.2 (λ_=>zo ((Hl x.2.2.2.1,((zt,(x.2.1,x.1.2.2)),0)))) λ_=>zo ((zt,((zt,(x.2.1,x.1.2.2)),0)))) λ_=>br (Hl (seq x.2.1 x.1.2.1)) (λ_=>br x.1.2.2 (λ_=>zo ((Hl x.2.2.2.1,((zt,(x.2.1,x.1.2.2)),0)))) λ_=>zo ((zt,((zt,(x.2.1,x.1.2.2)),0)))) λ_=>zo ((zf,((zt,(x.2.1,x.1.2.2)),0)))) λ_=>br (SS a 0) (λ_=>zo ((zf,((zf,([],zf)),a)))) λ_=>br (Hl x.1.1) (λ_=>br x.1.2.2 (λ_=>zo ((Hl x.2.2.2.1,((zt,(x.2.1,x.1.2.2)),0)))) λ_=>zo ((zt,((zt,(x.2.1,x.1.2.2)),0)))) λ_=>br (Hl (seq x.2.1 x.1.2.1)) (λ_=>br x.1.2.2 (λ_=>zo ((Hl x.2.2.2.1,((zt,(x.2.1,x.1.2.2)),0)))) λ_=>zo ((zt,((zt,(x.2.1,x.1.2.2)),0)))) λ_=>zo ((zf,((zt,(x.2.1,x.1.2.2)),0)))
def Xx(x:((List UZ)×Bool)):Option ((List UZ)×(Int×Int)):=
 br (Ti (Kx (AR x.1)) 20000) (λ_=>zo (([],((-1),3)))) λ_=>bd (WS x.2) λf=>bd (loop (λ(s1:(Int×(Int×((List UZ)×((List UZ)×(Int×(Bool×Uv)))))))=>br (Tk s1.2.1 (Kx (AR x.1))) (λ_=>SW s1.2.1 λd=>ix x.1 d λg=>bd (Yi (s1.2.2.2.2.2,g)) λa=>br (SS a.2.2 0) (λ_=>zo (.dn ((0,((s1.2.1,(s1.2.1,([],(s1.2.2.2.1,(a.2.2,s1.2.2.2.2.2))))),()))))) λ_=>br a.1 (λ_=>SW s1.2.1 λe=>ix x.1 e λc=>gd (CI (BG (AR s1.2.2.2.1) (AR [c])) 1048576) λ_=>zo (.nx ((s1.1,(So .i64 s1.2.1 1,(s1.2.2.1,(Iy s1.2.2.2.1 [c],(s1.2.2.2.2.1,a.2.1)))))))) λ_=>zo (.nx ((s1.1,(So .i64 s1.2.1 1,(s1.2.2.1,(s1.2.2.2.1,(s1.2.2.2.2.1,a.2.1)))))))) λ_=>zo (.dn ((1,(s1,()))))) ((0,(0,([],([],(0,f))))))) λb=>br (neq b.1 0) (λ_=>zo ((b.2.1.2.2.1,(b.2.1.1,b.2.1.2.2.2.2.1)))) λ_=>zo ((b.2.1.2.2.2.1,(0,0)))
def WY(x:((List UZ)×Bool)):Option ((List UZ)×(Bool×Uv)):=
 bd (Xx x) λa=>bd (WS x.2) λb=>br (Ti (Kx (AR x.1)) 0) (λ_=>SW (Ss .i64 (Kx (AR x.1)) 1) λc=>ix x.1 c λd=>zo ((a.1,(zt,(d.1,b.2.2))))) λ_=>zo (a.1,b)
def Vh(x:((List UZ)×(List UZ))):Option Bool:=
 br (SS (Kx (AR x.1)) (Kx (AR x.2))) (λ_=>zo zf) λ_=>bd (loop (λs0=>br (Tk s0.1 (Kx (AR x.1))) (λ_=>SW s0.1 λd=>ix x.1 d λa=>SW s0.1 λe=>ix x.2 e λb=>br (Hl (OG (seq a.1 b.1) (OG (seq a.2.1 b.2.1) (OG (beq a.2.2.1 b.2.2.1) (OG (O3 a.2.2.2 b.2.2.2) zt))))) (λ_=>zo (.dn ((0,((s0.1,zf),()))))) λ_=>zo (.nx (So .i64 s0.1 1,s0.2))) λ_=>zo (.dn ((1,(s0,()))))) (0,zf)) λc=>br (neq c.1 0) (λ_=>zo c.2.1.2) λ_=>zo zt
def YP(x:qW):Option Int:=
 bd (Wt x.1) λd=>br (SS d.2 0) (λ_=>zo d.2) λ_=>bd (XF x) λc=>br (Ti (Kx (AR x.2.2.1)) 20000) (λ_=>zo 3) λ_=>br (Ti c 20000) (λ_=>zo 3) λ_=>br (SS x.2.2.2 c) (λ_=>zo 7) λ_=>bd (Xm x.1.1) λe=>SW c λb=>gd (CI b (AR e.1)) λ_=>gd (CI 0 b) λ_=>bd (WY (D6 e.1 0 b,x.2.1.2.2)) λa=>bd (Vh (x.2.2.1,a.1)) λf=>br (Hl f) (λ_=>zo 6) λ_=>br (Hl (OG (beq x.2.1.1 a.2.1) (OG (seq x.2.1.2.1 a.2.2.1) (OG (beq x.2.1.2.2 a.2.2.2) zt)))) (λ_=>zo 6) λ_=>zo 0
def Yg(x:WE):Option (Int×Int):=
 bd (Wt x) λa=>br (SS a.2 0) (λ_=>zo (0,a.2)) λ_=>bd (loop (λs1=>br (Tk s1.1 (Kx (AR x.1))) (λ_=>SW s1.1 λb=>ix x.1 b λe=>SW s1.1 λc=>ix x.2.1 c λf=>zo (.nx ((So .i64 s1.1 1,Ss .i64 (So .i64 s1.2 (Kx (AR e))) f)))) λ_=>zo (.dn ((0,(s1,()))))) (0,0)) λd=>zo (d.2.1.2,0)
def U6(x:qW):Option (Int×Int):=
 bd (YP x) λa=>br (SS a 0) (λ_=>zo (0,a)) λ_=>bd (Yg x.1) λb=>zo b
def XE(x:WE):Option (UZ×(Int×(WE×Int))):=
 bd (Wt x) λg=>br (SS g.2 0) (λ_=>zo (((([],([],(zf,0))):UZ),(0,(([],([],([],([],0)))),g.2))))) λ_=>bd (Wu (x.1,x.2.1)) λa=>br (Tk a 0) (λ_=>zo (((([],([],(zf,0))):UZ),(0,(([],([],([],([],0)))),12))))) λ_=>gd (CI (AR x.2.1) 1048576) λ_=>SW a λf=>gd (KW f (AR x.2.1)) λ_=>ix x.2.1 f λj=>SW a λc=>gd (KW c (AR x.2.1)) λ_=>ix x.2.1 c λm=>SW a λh=>ix x.1 h λk=>SW a λi=>ix x.2.1 i λl=>SW l λb=>ix k b λe=>bd (WR ((x.1,lset x.2.1 c (So .i64 j 1)))) λd=>zo ((e,(a,(d,0))))
def Uz(x:(qW×Int)):Option (qW×(Int×Int)):=
 bd (U6 x.1) λa=>br (O3 a.2 0) (λ_=>br (Tk x.2 0) (λ_=>zo (((([],([],([],([],0)))),((zf,([],zf)),([],0))),(0,7)))) λ_=>br (SS a.2 0) (λ_=>zo (((([],([],([],([],0)))),((zf,([],zf)),([],0))),(0,a.2)))) λ_=>bd (XF x.1) λm=>br (Ti (So .i64 m (UO x.2 a.1)) 20000) (λ_=>zo (((([],([],([],([],0)))),((zf,([],zf)),([],0))),(0,3)))) λ_=>bd (loop (λ(s2:(Int×qM))=>br (Tk s2.1 (UO x.2 a.1)) (λ_=>bd (XE ((s2.2.1,(s2.2.2.1,(s2.2.2.2.1,(s2.2.2.2.2.1,s2.2.2.2.2.2.1)))))) λh=>zo (.nx ((So .i64 s2.1 1,(h.2.2.1.1,(h.2.2.1.2.1,(h.2.2.1.2.2.1,(h.2.2.1.2.2.2.1,(h.2.2.1.2.2.2.2,s2.2.2.2.2.2.2))))))))) λ_=>zo (.dn ((0,(s2,()))))) ((0,(x.1.1.1,(x.1.1.2.1,(x.1.1.2.2.1,(x.1.1.2.2.2.1,(x.1.1.2.2.2.2,(x.1.2.1.1,(x.1.2.1.2.1,(x.1.2.1.2.2,x.1.2.2))))))))))) λi=>bd (Xm x.1.1.1) λk=>SW (So .i64 x.1.2.2.2 (UO x.2 a.1)) λj=>gd (CI j (AR k.1)) λ_=>gd (CI 0 j) λ_=>bd (WY (D6 k.1 0 j,x.1.2.1.2.2)) λl=>zo ((((i.2.1.2.1,(i.2.1.2.2.1,(i.2.1.2.2.2.1,(i.2.1.2.2.2.2.1,i.2.1.2.2.2.2.2.1)))),(l.2,(l.1,So .i64 x.1.2.2.2 (UO x.2 a.1)))),(UO x.2 a.1,0)))) λ_=>br (SS a.2 0) (λ_=>zo (((([],([],([],([],0)))),((zf,([],zf)),([],0))),(0,a.2)))) λ_=>bd (XF x.1) λn=>br (Ti (So .i64 n (UO x.2 a.1)) 20000) (λ_=>zo (((([],([],([],([],0)))),((zf,([],zf)),([],0))),(0,3)))) λ_=>bd (loop (λ(d:(Int×qM))=>br (Tk d.1 (UO x.2 a.1)) (λ_=>bd (XE ((d.2.1,(d.2.2.1,(d.2.2.2.1,(d.2.2.2.2.1,d.2.2.2.2.2.1)))))) λb=>zo (.nx ((So .i64 d.1 1,(b.2.2.1.1,(b.2.2.1.2.1,(b.2.2.1.2.2.1,(b.2.2.1.2.2.2.1,(b.2.2.1.2.2.2.2,d.2.2.2.2.2.2))))))))) λ_=>zo (.dn ((0,(d,()))))) ((0,(x.1.1.1,(x.1.1.2.1,(x.1.1.2.2.1,(x.1.1.2.2.2.1,(x.1.1.2.2.2.2,(x.1.2.1.1,(x.1.2.1.2.1,(x.1.2.1.2.2,x.1.2.2))))))))))) λc=>bd (Xm x.1.1.1) λf=>SW (So .i64 x.1.2.2.2 (UO x.2 a.1)) λe=>gd (CI e (AR f.1)) λ_=>gd (CI 0 e) λ_=>bd (WY (D6 f.1 0 e,x.1.2.1.2.2)) λg=>zo ((((c.2.1.2.1,(c.2.1.2.2.1,(c.2.1.2.2.2.1,(c.2.1.2.2.2.2.1,c.2.1.2.2.2.2.2.1)))),(g.2,(g.1,So .i64 x.1.2.2.2 (UO x.2 a.1)))),(UO x.2 a.1,0)))
def Yh(x:(WE×WE)):Option Bool:=
 br (SS (Kx (AR x.1.1)) (Kx (AR x.2.1))) (λ_=>zo zf) λ_=>bd (Ye (x.1.2.1,x.2.2.1)) λd=>br (Hl d) (λ_=>zo zf) λ_=>bd (Xu (x.1.2.2,x.2.2.2)) λe=>br (Hl e) (λ_=>zo zf) λ_=>bd (loop (λs2=>br (Tk s2.1 (Kx (AR x.1.1))) (λ_=>SW s2.1 λb=>ix x.1.1 b λg=>SW s2.1 λc=>ix x.2.1 c λh=>bd (Vh (g,h)) λf=>br (Hl f) (λ_=>zo (.dn ((0,((s2.1,zf),()))))) λ_=>zo (.nx (So .i64 s2.1 1,s2.2))) λ_=>zo (.dn ((1,(s2,()))))) (0,zf)) λa=>br (neq a.1 0) (λ_=>zo a.2.1.2) λ_=>zo zt
def VD(x:(qW×qW)):Option Bool:=
 bd (Yh (x.1.1,x.2.1)) λa=>br a (λ_=>br (OG (beq x.1.2.1.1 x.2.2.1.1) (OG (seq x.1.2.1.2.1 x.2.2.1.2.1) (OG (beq x.1.2.1.2.2 x.2.2.1.2.2) zt))) (λ_=>bd (Vh (x.1.2.2.1,x.2.2.2.1)) λb=>br b (λ_=>zo (O3 x.1.2.2.2 x.2.2.2.2)) λ_=>zo zf) λ_=>zo zf) λ_=>zo zf
def V8(x:qS):Option (Int×Int):=
 bd (V7 x.1) λi=>br (O3 i.2.2 0) (λ_=>br (Tk x.2.2 1) (λ_=>zo (((-1),7))) λ_=>br (Ti x.2.2 1000001) (λ_=>zo (((-1),7))) λ_=>br (O3 i.2.2 0) (λ_=>bd (Wa x.1) λr1=>br (Tj x.2.2 r1) (λ_=>zo (((-1),6))) λ_=>br (SS i.2.2 0) (λ_=>zo (((-1),i.2.2))) λ_=>bd (VV x.1) λM=>bd (loop (λg=>br (Tk g.2.2 (Kx (AR x.2.1))) (λ_=>SW g.2.2 λk4=>ix x.2.1 k4 λh=>br (SR g.2.2 (Kx (AR M))) (λ_=>zo (.dn ((0,((6,(g.2.2,g.2.2)),()))))) λ_=>SW g.2.2 λk6=>ix M k6 λx7=>br (SS h.1 x7) (λ_=>zo (.dn ((0,((6,(g.2.2,g.2.2)),()))))) λ_=>br h.2.2.1.2.2 (λ_=>bd (VF (x.1,h.1)) λr8=>br (Hl r8) (λ_=>zo (.dn ((0,((6,(g.2.2,g.2.2)),()))))) λ_=>bd (Ux ((x.1,(h.1,h.2.2.1.2.2)))) λr9=>bd (U6 r9.2) λF=>br (Tk h.2.2.2.2 0) (λ_=>zo (.dn ((0,((6,(g.2.2,g.2.2)),()))))) λ_=>br (Ti h.2.2.2.2 F.1) (λ_=>zo (.dn ((0,((6,(g.2.2,g.2.2)),()))))) λ_=>bd (Uz (r9.2,h.2.2.2.2)) λG=>bd (VD (G.1,h.2)) λI=>br (Hl I) (λ_=>zo (.dn ((0,((6,(g.2.2,g.2.2)),()))))) λ_=>zo (.nx ((g.1,(g.2.1,So .i64 g.2.2 1))))) λ_=>bd (Ux ((x.1,(h.1,h.2.2.1.2.2)))) λq=>bd (U6 q.2) λJ=>br (Tk h.2.2.2.2 0) (λ_=>zo (.dn ((0,((6,(g.2.2,g.2.2)),()))))) λ_=>br (Ti h.2.2.2.2 J.1) (λ_=>zo (.dn ((0,((6,(g.2.2,g.2.2)),()))))) λ_=>bd (Uz (q.2,h.2.2.2.2)) λK=>bd (VD (K.1,h.2)) λL=>br (Hl L) (λ_=>zo (.dn ((0,((6,(g.2.2,g.2.2)),()))))) λ_=>zo (.nx ((g.1,(g.2.1,So .i64 g.2.2 1))))) λ_=>zo (.dn ((1,(g,()))))) ((0,(0,0)))) λj=>br (neq j.1 0) (λ_=>zo (j.2.1.2.1,j.2.1.1)) λ_=>br (Tk (Kx (AR x.2.1)) (Kx (AR M))) (λ_=>zo (((-1),4))) λ_=>zo (0,0)) λ_=>br (SS i.2.2 0) (λ_=>zo (((-1),i.2.2))) λ_=>bd (VV x.1) λk=>bd (loop (λa=>br (Tk a.2.2 (Kx (AR x.2.1))) (λ_=>SW a.2.2 λz=>ix x.2.1 z λd=>br (SR a.2.2 (Kx (AR k))) (λ_=>zo (.dn ((0,((6,(a.2.2,a.2.2)),()))))) λ_=>SW a.2.2 λA=>ix k A λx23=>br (SS d.1 x23) (λ_=>zo (.dn ((0,((6,(a.2.2,a.2.2)),()))))) λ_=>br d.2.2.1.2.2 (λ_=>bd (VF (x.1,d.1)) λN=>br (Hl N) (λ_=>zo (.dn ((0,((6,(a.2.2,a.2.2)),()))))) λ_=>bd (Ux ((x.1,(d.1,d.2.2.1.2.2)))) λr=>bd (U6 r.2) λO=>br (Tk d.2.2.2.2 0) (λ_=>zo (.dn ((0,((6,(a.2.2,a.2.2)),()))))) λ_=>br (Ti d.2.2.2.2 O.1) (λ_=>zo (.dn ((0,((6,(a.2.2,a.2.2)),()))))) λ_=>bd (Uz (r.2,d.2.2.2.2)) λP=>bd (VD (P.1,d.2)) λS=>br (Hl S) (λ_=>zo (.dn ((0,((6,(a.2.2,a.2.2)),()))))) λ_=>zo (.nx ((a.1,(a.2.1,So .i64 a.2.2 1))))) λ_=>bd (Ux ((x.1,(d.1,d.2.2.1.2.2)))) λs=>bd (U6 s.2) λU=>br (Tk d.2.2.2.2 0) (λ_=>zo (.dn ((0,((6,(a.2.2,a.2.2)),()))))) λ_=>br (Ti d.2.2.2.2 U.1) (λ_=>zo (.dn ((0,((6,(a.2.2,a.2.2)),()))))) λ_=>bd (Uz (s.2,d.2.2.2.2)) λW=>bd (VD (W.1,d.2)) λX=>br (Hl X) (λ_=>zo (.dn ((0,((6,(a.2.2,a.2.2)),()))))) λ_=>zo (.nx ((a.1,(a.2.1,So .i64 a.2.2 1))))) λ_=>zo (.dn ((1,(a,()))))) ((0,(0,0)))) λl=>br (neq l.1 0) (λ_=>zo (l.2.1.2.1,l.2.1.1)) λ_=>br (Tk (Kx (AR x.2.1)) (Kx (AR k))) (λ_=>zo (((-1),4))) λ_=>zo (0,0)) λ_=>br (O3 i.2.2 0) (λ_=>bd (Wa x.1) λY=>br (Tj x.2.2 Y) (λ_=>zo (((-1),6))) λ_=>br (SS i.2.2 0) (λ_=>zo (((-1),i.2.2))) λ_=>bd (VV x.1) λm=>bd (loop (λb=>br (Tk b.2.2 (Kx (AR x.2.1))) (λ_=>SW b.2.2 λB=>ix x.2.1 B λe=>br (SR b.2.2 (Kx (AR m))) (λ_=>zo (.dn ((0,((6,(b.2.2,b.2.2)),()))))) λ_=>SW b.2.2 λC=>ix m C λx40=>br (SS e.1 x40) (λ_=>zo (.dn ((0,((6,(b.2.2,b.2.2)),()))))) λ_=>br e.2.2.1.2.2 (λ_=>bd (VF (x.1,e.1)) λZ=>br (Hl Z) (λ_=>zo (.dn ((0,((6,(b.2.2,b.2.2)),()))))) λ_=>bd (Ux ((x.1,(e.1,e.2.2.1.2.2)))) λt=>bd (U6 t.2) λr43=>br (Tk e.2.2.2.2 0) (λ_=>zo (.dn ((0,((6,(b.2.2,b.2.2)),()))))) λ_=>br (Ti e.2.2.2.2 r43.1) (λ_=>zo (.dn ((0,((6,(b.2.2,b.2.2)),()))))) λ_=>bd (Uz (t.2,e.2.2.2.2)) λr44=>bd (VD (r44.1,e.2)) λr45=>br (Hl r45) (λ_=>zo (.dn ((0,((6,(b.2.2,b.2.2)),()))))) λ_=>zo (.nx ((b.1,(b.2.1,So .i64 b.2.2 1))))) λ_=>bd (Ux ((x.1,(e.1,e.2.2.1.2.2)))) λu=>bd (U6 u.2) λr47=>br (Tk e.2.2.2.2 0) (λ_=>zo (.dn ((0,((6,(b.2.2,b.2.2)),()))))) λ_=>br (Ti e.2.2.2.2 r47.1) (λ_=>zo (.dn ((0,((6,(b.2.2,b.2.2)),()))))) λ_=>bd (Uz (u.2,e.2.2.2.2)) λr48=>bd (VD (r48.1,e.2)) λr49=>br (Hl r49) (λ_=>zo (.dn ((0,((6,(b.2.2,b.2.2)),()))))) λ_=>zo (.nx ((b.1,(b.2.1,So .i64 b.2.2 1))))) λ_=>zo (.dn ((1,(b,()))))) ((0,(0,0)))) λn=>br (neq n.1 0) (λ_=>zo (n.2.1.2.1,n.2.1.1)) λ_=>br (Tk (Kx (AR x.2.1)) (Kx (AR m))) (λ_=>zo (((-1),4))) λ_=>zo (0,0)) λ_=>br (SS i.2.2 0) (λ_=>zo (((-1),i.2.2))) λ_=>bd (VV x.1) λo=>bd (loop (λc=>br (Tk c.2.2 (Kx (AR x.2.1))) (λ_=>SW c.2.2 λD=>ix x.2.1 D λf=>br (SR c.2.2 (Kx (AR o))) (λ_=>zo (.dn ((0,((6,(c.2.2,c.2.2)),()))))) λ_=>SW c.2.2 λE=>ix o E λx56=>br (SS f.1 x56) (λ_=>zo (.dn ((0,((6,(c.2.2,c.2.2)),()))))) λ_=>br f.2.2.1.2.2 (λ_=>bd (VF (x.1,f.1)) λr57=>br (Hl r57) (λ_=>zo (.dn ((0,((6,(c.2.2,c.2.2)),()))))) λ_=>bd (Ux ((x.1,(f.1,f.2.2.1.2.2)))) λw=>bd (U6 w.2) λr59=>br (Tk f.2.2.2.2 0) (λ_=>zo (.dn ((0,((6,(c.2.2,c.2.2)),()))))) λ_=>br (Ti f.2.2.2.2 r59.1) (λ_=>zo (.dn ((0,((6,(c.2.2,c.2.2)),()))))) λ_=>bd (Uz (w.2,f.2.2.2.2)) λr60=>bd (VD (r60.1,f.2)) λr61=>br (Hl r61) (λ_=>zo (.dn ((0,((6,(c.2.2,c.2.2)),()))))) λ_=>zo (.nx ((c.1,(c.2.1,So .i64 c.2.2 1))))) λ_=>bd (Ux ((x.1,(f.1,f.2.2.1.2.2)))) λy=>bd (U6 y.2) λr63=>br (Tk f.2.2.2.2 0) (λ_=>zo (.dn ((0,((6,(c.2.2,c.2.2)),()))))) λ_=>br (Ti f.2.2.2.2 r63.1) (λ_=>zo (.dn ((0,((6,(c.2.2,c.2.2)),()))))) λ_=>bd (Uz (y.2,f.2.2.2.2)) λr64=>bd (VD (r64.1,f.2)) λr65=>br (Hl r65) (λ_=>zo (.dn ((0,((6,(c.2.2,c.2.2)),()))))) λ_=>zo (.nx ((c.1,(c.2.1,So .i64 c.2.2 1))))) λ_=>zo (.dn ((1,(c,()))))) ((0,(0,0)))) λp=>br (neq p.1 0) (λ_=>zo (p.2.1.2.1,p.2.1.1)) λ_=>br (Tk (Kx (AR x.2.1)) (Kx (AR o))) (λ_=>zo (((-1),4))) λ_=>zo (0,0)
def XZ(x:qS):Option ((List Int)×Int):=
 bd (V8 x) λa=>br (SS a.2 0) (λ_=>zo ([],a.2)) λ_=>bd (VV x.1) λb=>zo (b,0)
def Vf(x:(qS×Int)):Option (Int×Int):=
 bd (XZ x.1) λa=>br (SS a.2 0) (λ_=>zo (0,a.2)) λ_=>bd (loop (λs1=>br (Tk s1.2.2 (Kx (AR a.1))) (λ_=>SW s1.2.2 λc=>ix a.1 c λd=>br (O3 d x.2) (λ_=>zo (.dn ((0,((0,(s1.2.2,s1.2.2)),()))))) λ_=>zo (.nx ((s1.1,(s1.2.1,So .i64 s1.2.2 1))))) λ_=>zo (.dn ((1,(s1,()))))) ((0,(0,0)))) λb=>br (neq b.1 0) (λ_=>zo (b.2.1.2.1,b.2.1.1)) λ_=>zo (0,4)
def V4(x:(qS×Int)):Option (Int×Int):=
 bd (Vf x) λa=>br (SS a.2 0) (λ_=>zo (0,a.2)) λ_=>SW a.1 λb=>ix x.1.2.1 b λd=>bd (U6 d.2) λc=>zo c
end
section
open Go Sv
def Xk(x:(qS×Int)):Option (Int×Int):=
 bd (VP x.1) λb=>br (SS b.2 0) (λ_=>zo (0,b.2)) λ_=>bd (loop (λs1=>br (Tk s1.2 (Kx (AR x.1.2.1))) (λ_=>SW s1.2 λc=>ix x.1.2.1 c λd=>br (O3 d.1 x.2) (λ_=>zo (.dn ((0,((s1.2,s1.2),()))))) λ_=>zo (.nx (s1.1,So .i64 s1.2 1))) λ_=>zo (.dn ((1,(s1,()))))) (0,0)) λa=>br (neq a.1 0) (λ_=>br (Tk a.2.1.1 0) (λ_=>zo (0,4)) λ_=>zo (a.2.1.1,0)) λ_=>br (Tk (-1) 0) (λ_=>zo (0,4)) λ_=>zo (((-1),0))
def V2(x:(qS×Int)):Option ((qS×(qJ×Int))×Int):=
 bd (Xk x) λa=>br (SS a.2 0) (λ_=>zo (((((0,[]),([],0)),((0,(([],([],([],([],0)))),((zf,([],zf)),([],0)))),0)),a.2))) λ_=>SW a.1 λd=>ix x.1.2.1 d λc=>bd (VI c.2) λb=>zo (((x.1,(c,b.1)),b.2))
def U0(x:(qS×(qJ×Int))):Option Bool:=
 zo (Ti x.2.2 0)
def YJ(x:(Int×Int)):Option (Int×Int):=
 br (Tk x.1 1) (λ_=>zo (0,7)) λ_=>br (Ti x.1 16) (λ_=>zo (0,7)) λ_=>br (Tk x.2 0) (λ_=>zo (0,7)) λ_=>br (SR x.2 12) (λ_=>zo (0,7)) λ_=>gd (SR x.2 0) λ_=>zo (To .i64 x.1 x.2,0)
def VC(x:(qS×(qJ×Int))):Option Bool:=
 bd (YJ (x.1.1.1,x.2.1.1)) λa=>br (O3 a.2 0) (λ_=>zo (Tj (Kx (AR x.2.1.2.2.2.1)) a.1)) λ_=>zo zf
def Xl(x:(Ub×Int)):Option Int:=
 bd (WA x.1) λa=>br (SS a.2.2 0) (λ_=>zo a.2.2) λ_=>br (Tk x.2 0) (λ_=>zo 7) λ_=>br (SR x.2 12) (λ_=>zo 7) λ_=>zo 0
def V5(x:(Ub×Int)):Option (Bool×Int):=
 bd (Xl x) λa=>br (SS a 0) (λ_=>zo (zf,a)) λ_=>br (Tk x.2 (Kx (AR x.1.2))) (λ_=>SW x.2 λb=>ix x.1.2 b λc=>zo ((Tk (Kx (AR c)) 2,0))) λ_=>zo (zt,0)
def WK(x:(qS×(qJ×Int))):Option Bool:=
 bd (V5 (x.1.1,So .i64 x.2.1.1 1)) λa=>br (O3 a.2 0) (λ_=>zo a.1) λ_=>zo zf
def VM(x:(qS×(qJ×Int))):Option Bool:=
 bd (loop (λs0=>br (Tk s0.1 3) (λ_=>SW s0.1 λa=>br (neq a 0) (λ_=>bd (U0 x) λc=>br c (λ_=>zo (.dn ((0,((s0.1,zt),()))))) λ_=>zo (.nx (So .i64 s0.1 1,s0.2))) λ_=>br (neq a 1) (λ_=>bd (VC x) λd=>br d (λ_=>zo (.dn ((0,((s0.1,zt),()))))) λ_=>zo (.nx (So .i64 s0.1 1,s0.2))) λ_=>gd (neq a 2) λ_=>bd (WK x) λe=>br e (λ_=>zo (.dn ((0,((s0.1,zt),()))))) λ_=>zo (.nx (So .i64 s0.1 1,s0.2))) λ_=>zo (.dn ((1,(s0,()))))) (0,zf)) λb=>br (neq b.1 0) (λ_=>zo b.2.1.2) λ_=>zo zf
def VA(x:(List qJ)):Option (List qJ):=
 gd (CI (AR x) 1048576) λ_=>zo x
def Y6(x:(qS×(Int×Int))):Option (qS×(Int×Int)):=
 bd (VP x.1) λf=>br (SS f.2 0) (λ_=>zo ((((0,[]),([],0)),(0,f.2)))) λ_=>br (Tk x.2.2 0) (λ_=>zo ((((0,[]),([],0)),(0,7)))) λ_=>bd (Xk (x.1,x.2.1)) λa=>br (SS a.2 0) (λ_=>zo ((((0,[]),([],0)),(0,a.2)))) λ_=>SW a.1 λg=>ix x.1.2.1 g λj=>bd (VI j.2) λi=>br (O3 i.1 0) (λ_=>zo ((((0,[]),([],0)),(0,9)))) λ_=>SW a.1 λh=>ix x.1.2.1 h λk=>bd (Vc (k.2,x.2.2)) λb=>br (SS b.2.2 0) (λ_=>zo ((((0,[]),([],0)),(0,b.2.2)))) λ_=>bd (VA x.1.2.1) λd=>SW a.1 λc=>gd (KW c (AR d)) λ_=>ix d c λe=>zo (((x.1.1,(lset d c (e.1,b.1),x.1.2.2)),(b.2.1,0)))
def Wo(x:(Ub×(Int×(List Uy)))):Option Ub:=
 SW (UP (Kx (AR x.1.2)) (So .i64 x.2.1 1)) λh=>SW (UP (Kx (AR x.1.2)) (So .i64 x.2.1 1)) λa=>gd (CI a 1048576) λ_=>SW x.2.1 λb=>gd (KW b (AR (LU (R5 a ([]:List Uy)) 0 x.1.2 (AR (R5 a ([]:List Uy)))))) λ_=>ix (LU (R5 a ([]:List Uy)) 0 x.1.2 (AR (R5 a ([]:List Uy)))) b λi=>bd (loop (λc=>br (Ti c 0) (λ_=>SW (Ss .i64 c 1) λe=>gd (KW e (AR (lset (LU (R5 a ([]:List Uy)) 0 x.1.2 (AR (R5 a ([]:List Uy)))) b x.2.2))) λ_=>ix (lset (LU (R5 a ([]:List Uy)) 0 x.1.2 (AR (R5 a ([]:List Uy)))) b x.2.2) e λg=>br (O3 (Kx (AR g)) 0) (λ_=>zo (.nx (Ss .i64 c 1))) λ_=>zo (.dn ((0,(c,()))))) λ_=>zo (.dn ((0,(c,()))))) (Kx (AR (lset (LU (R5 a ([]:List Uy)) 0 x.1.2 (AR (R5 a ([]:List Uy)))) b x.2.2)))) λf=>SW f.2.1 λd=>gd (CI d (AR (lset (LU (R5 a ([]:List Uy)) 0 x.1.2 (AR (R5 a ([]:List Uy)))) b x.2.2))) λ_=>gd (CI 0 d) λ_=>br (KW 0 (AR (lset (LU (R5 a ([]:List Uy)) 0 x.1.2 (AR (R5 a ([]:List Uy)))) b x.2.2))) (λ_=>gd (CI (BG 0 (P2 d 0)) (AR (lset (LU (R5 a ([]:List Uy)) 0 x.1.2 (AR (R5 a ([]:List Uy)))) b x.2.2))) λ_=>zo ((x.1.1,D6 (lset (LU (R5 a ([]:List Uy)) 0 x.1.2 (AR (R5 a ([]:List Uy)))) b x.2.2) 0 (BG 0 (P2 d 0))))) λ_=>zo (x.1.1,[])
def WW(x:(Ub×Int)):Option (Ub×((List Uy)×Int)):=
 bd (Xl x) λb=>br (SS b 0) (λ_=>zo (((0,[]),([],b)))) λ_=>br (Tk x.2 (Kx (AR x.1.2))) (λ_=>SW x.2 λc=>ix x.1.2 c λa=>br (O3 (Kx (AR a)) 0) (λ_=>zo (((0,[]),([],4)))) λ_=>bd (Wo ((x.1,(x.2,[])))) λd=>gd (CI (AR a) 1048576) λ_=>zo ((d,(a,0)))) λ_=>zo (((0,[]),([],4)))
def U5(x:(Ub×(Int×Uy))):Option (Ub×Int):=
 bd (Xl (x.1,x.2.1)) λi=>br (SS i 0) (λ_=>zo (((0,[]),i))) λ_=>gd (SR x.2.1 0) λ_=>bd (WQ (x.2.2,To .i64 x.1.1 x.2.1)) λj=>br (SS j 0) (λ_=>zo (((0,[]),j))) λ_=>bd (loop (λ(s2:(Int×(Ub×Int)))=>br (Tk s2.1 (Kx (AR x.1.2))) (λ_=>SW s2.1 λm=>ix x.1.2 m λl=>bd (loop (λ(c:(Int×(Ub×Int)))=>br (SR c.1 0) (λ_=>SW c.1 λn=>ix l n λo=>br (O3 o.1 x.2.2.1) (λ_=>zo (.dn ((1,((c.1,((0,[]),8)),()))))) λ_=>zo (.nx (Ss .i64 c.1 1,c.2))) λ_=>zo (.dn ((0,(c,()))))) ((Ss .i64 (Kx (AR l)) 1,s2.2))) λh=>br (neq h.1 0) (λ_=>zo (.nx (So .i64 s2.1 1,h.2.1.2))) λ_=>zo (.dn ((1,((s2.1,h.2.1.2),()))))) λ_=>zo (.dn ((0,(s2,()))))) ((0,((0,[]),0)))) λk=>br (neq k.1 0) (λ_=>br (Tk x.2.1 (Kx (AR x.1.2))) (λ_=>SW x.2.1 λd=>ix x.1.2 d λa=>br (O3 (Kx (AR a)) 2) (λ_=>zo (((0,[]),5))) λ_=>SW (Kx (AR a)) λb=>SW (Kx (AR a)) λe=>gd (CI b (AR a)) λ_=>gd (neq b e) λ_=>gd (CI 0 b) λ_=>gd (CI (BG (AR (D6 a 0 b)) (AR [x.2.2])) 1048576) λ_=>bd (Wo ((x.1,(x.2.1,Iy (D6 a 0 b) [x.2.2])))) λf=>zo (f,0)) λ_=>gd (CI (AR [x.2.2]) 1048576) λ_=>bd (Wo ((x.1,(x.2.1,[x.2.2])))) λg=>zo (g,0)) λ_=>zo k.2.1.2
def Yb(x:(Ub×Int)):Option (qJ×Int):=
 bd (WA x.1) λa=>br (SS a.2.2 0) (λ_=>zo (((0,(([],([],([],([],0)))),((zf,([],zf)),([],0)))),a.2.2))) λ_=>br (Tk x.2 0) (λ_=>zo (((0,(([],([],([],([],0)))),((zf,([],zf)),([],0)))),7))) λ_=>br (SR x.2 12) (λ_=>zo (((0,(([],([],([],([],0)))),((zf,([],zf)),([],0)))),7))) λ_=>br (SR x.2 (Kx (AR x.1.2))) (λ_=>zo (((0,(([],([],([],([],0)))),((zf,([],zf)),([],0)))),4))) λ_=>SW x.2 λb=>ix x.1.2 b λe=>br (Tk (Kx (AR e)) 2) (λ_=>zo (((0,(([],([],([],([],0)))),((zf,([],zf)),([],0)))),4))) λ_=>bd (WP x) λc=>bd (V3 ((x.1,(x.2,c)))) λd=>zo (d,0)
def Ut(x:(qS×(Ub×(Int×Int)))):Option (qS×Int):=
 bd (loop (λ(s0:(Int×(List (Int×qJ))))=>br (Tk s0.1 (Kx (AR x.1.2.1))) (λ_=>SW s0.1 λn=>ix x.1.2.1 n λj=>zo (.nx ((So .i64 s0.1 1,If ((λk=>(λl=>O3 k l))) s0.2 j.1 j)))) λ_=>zo (.dn ((0,(s0,()))))) (0,[])) λi=>bd (loop (λ(c:(Int×(Int×(qL×qL))))=>br (Tk c.2.1 (Kx (AR x.2.1.2))) (λ_=>SW c.2.1 λo=>ix x.2.1.2 o λp=>br (Tk (Kx (AR p)) 2) (λ_=>zo (.nx ((c.1,(So .i64 c.2.1 1,c.2.2))))) λ_=>br (Hl (US (Mo ((λm=>(λf=>O3 m f))) (Ie ((λg=>(λh=>O3 g h))) i.2.1.2 x.2.2.2) c.2.1))) (λ_=>bd (Yb (x.2.1,c.2.1)) λe=>br (SS e.2 0) (λ_=>zo (.dn ((1,((e.2,(c.2.1,((0,([],([],0))),c.2.2.2))),()))))) λ_=>gd (CI (BG (AR c.2.2.2.2.2.1) (AR [e.1])) 1048576) λ_=>zo (.nx ((c.1,(So .i64 c.2.1 1,(c.2.2.1,(c.2.2.2.1,(c.2.2.2.2.1,(Iy c.2.2.2.2.2.1 [e.1],c.2.2.2.2.2.2))))))))) λ_=>gd (CI (BG (AR c.2.2.2.2.2.1) (AR ([Sy (Mo (λa b=>O3 a b) (Ie (λa b=>O3 a b) i.2.1.2 x.2.2.2) c.2.1) (0,(([],([],([],([],0)))),((zf,([],zf)),([],0))))]))) 1048576) λ_=>zo (.nx ((c.1,(So .i64 c.2.1 1,(c.2.2.1,(c.2.2.2.1,(c.2.2.2.2.1,(Iy c.2.2.2.2.2.1 ([Sy (Mo (λa b=>O3 a b) (Ie (λa b=>O3 a b) i.2.1.2 x.2.2.2) c.2.1) (0,(([],([],([],([],0)))),((zf,([],zf)),([],0))))]),c.2.2.2.2.2.2))))))))) λ_=>zo (.dn ((0,(c,()))))) ((0,(0,((0,([],([],0))),(x.2.1.1,(x.2.1.2,([],x.2.2.1)))))))) λd=>br (neq d.1 0) (λ_=>zo ((((d.2.1.2.2.2.1,d.2.1.2.2.2.2.1),d.2.1.2.2.2.2.2),0))) λ_=>zo ((((d.2.1.2.2.1.1,d.2.1.2.2.1.2.1),d.2.1.2.2.1.2.2),d.2.1.1))
def Wx(x:(qS×Int)):Option (qS×Int):=
 bd (V2 x) λb=>br (SS b.2 0) (λ_=>zo ((((0,[]),([],0)),b.2))) λ_=>bd (U0 b.1) λn=>br n (λ_=>zo ((((0,[]),([],0)),9))) λ_=>bd (VM b.1) λo=>br (Hl o) (λ_=>zo ((((0,[]),([],0)),9))) λ_=>br (Ti x.1.2.2 1000000) (λ_=>br (Ti (Kx (AR b.1.2.1.2.2.2.1)) 0) (λ_=>zo ((((0,[]),([],0)),5))) λ_=>bd (WW (x.1.1,x.2)) λc=>br (O3 c.2.2 0) (λ_=>br (Ti (Kx (AR b.1.2.1.2.2.2.1)) 0) (λ_=>bd (VC b.1) λp=>br (Hl p) (λ_=>bd (U5 ((c.1,(So .i64 x.2 1,(x.1.2.2,b.1.2.1.2.2.2.1))))) λl=>br (SS l.2 0) (λ_=>zo ((((0,[]),([],0)),l.2))) λ_=>bd (Ut ((x.1,(l.1,(So .i64 x.1.2.2 1,x.2))))) λq=>zo q) λ_=>bd (U5 ((c.1,(x.2,(x.1.2.2,b.1.2.1.2.2.2.1))))) λm=>br (SS m.2 0) (λ_=>zo ((((0,[]),([],0)),m.2))) λ_=>bd (Ut ((x.1,(m.1,(So .i64 x.1.2.2 1,x.2))))) λr=>zo r) λ_=>br (SS c.2.2 0) (λ_=>zo ((((0,[]),([],0)),c.2.2))) λ_=>bd (Ut ((x.1,(c.1,(x.1.2.2,x.2))))) λs=>zo s) λ_=>br (SS c.2.2 0) (λ_=>zo ((((0,[]),([],0)),c.2.2))) λ_=>bd (Ut ((x.1,(c.1,(x.1.2.2,x.2))))) λf=>zo f) λ_=>bd (WW (x.1.1,x.2)) λa=>br (O3 a.2.2 0) (λ_=>br (Ti (Kx (AR b.1.2.1.2.2.2.1)) 0) (λ_=>bd (VC b.1) λg=>br (Hl g) (λ_=>bd (U5 ((a.1,(So .i64 x.2 1,(x.1.2.2,b.1.2.1.2.2.2.1))))) λd=>br (SS d.2 0) (λ_=>zo ((((0,[]),([],0)),d.2))) λ_=>bd (Ut ((x.1,(d.1,(So .i64 x.1.2.2 1,x.2))))) λh=>zo h) λ_=>bd (U5 ((a.1,(x.2,(x.1.2.2,b.1.2.1.2.2.2.1))))) λe=>br (SS e.2 0) (λ_=>zo ((((0,[]),([],0)),e.2))) λ_=>bd (Ut ((x.1,(e.1,(So .i64 x.1.2.2 1,x.2))))) λi=>zo i) λ_=>br (SS a.2.2 0) (λ_=>zo ((((0,[]),([],0)),a.2.2))) λ_=>bd (Ut ((x.1,(a.1,(x.1.2.2,x.2))))) λj=>zo j) λ_=>br (SS a.2.2 0) (λ_=>zo ((((0,[]),([],0)),a.2.2))) λ_=>bd (Ut ((x.1,(a.1,(x.1.2.2,x.2))))) λk=>zo k
def Vd(x:(qS×Int)):Option (qS×(Bool×Int)):=
 bd (V2 x) λa=>br (SS a.2 0) (λ_=>zo ((((0,[]),([],0)),(zf,a.2)))) λ_=>bd (VM a.1) λd=>br (Hl d) (λ_=>zo ((((0,[]),([],0)),(zf,9)))) λ_=>bd (U0 a.1) λe=>br e (λ_=>bd (Y6 ((x.1,(x.2,1)))) λc=>zo ((c.1,(zf,c.2.2)))) λ_=>bd (Wx x) λb=>zo ((b.1,(O3 b.2 0,b.2)))
def ZH(x:(qS×Int)):Option (Int×Int):=
 bd (V2 x) λa=>br (SS a.2 0) (λ_=>zo (0,a.2)) λ_=>bd (U0 a.1) λb=>br b (λ_=>zo (0,9)) λ_=>bd (VC a.1) λc=>br c (λ_=>zo (x.2,0)) λ_=>zo (So .i64 x.2 1,0)
def Xo(x:qS):Option ((List Int)×Int):=
 bd (VP x) λa=>br (SS a.2 0) (λ_=>zo ([],a.2)) λ_=>bd (loop (λs1=>br (Tk s1.1 (Kx (AR x.1.2))) (λ_=>SW s1.1 λb=>ix x.1.2 b λd=>br (O3 (Kx (AR d)) 2) (λ_=>gd (CI (BG (AR s1.2) (AR [s1.1])) 1048576) λ_=>zo (.nx (So .i64 s1.1 1,Iy s1.2 [s1.1]))) λ_=>zo (.nx (So .i64 s1.1 1,s1.2))) λ_=>zo (.dn ((0,(s1,()))))) (0,[])) λc=>zo (c.2.1.2,0)
def Vp(x:qS):Option (Int×Int):=
 bd (Xo x) λa=>br (SS a.2 0) (λ_=>zo (0,a.2)) λ_=>br (O3 (Kx (AR a.1)) 0) (λ_=>zo (0,4)) λ_=>bd (loop (λs1=>br (Tk s1.2.2.1 (Kx (AR a.1))) (λ_=>SW s1.2.2.1 λe=>ix a.1 e λd=>bd (V2 (x,d)) λc=>br (SS c.2 0) (λ_=>zo (.dn ((0,((c.2,(s1.2.1,(s1.2.2.1,0))),()))))) λ_=>bd (VM c.1) λf=>br f (λ_=>zo (.dn ((1,((s1.1,(zt,(s1.2.2.1,d))),()))))) λ_=>zo (.nx ((s1.1,(s1.2.1,(So .i64 s1.2.2.1 1,s1.2.2.2)))))) λ_=>zo (.dn ((1,(s1,()))))) ((a.2,(zf,(0,0))))) λb=>br (neq b.1 0) (λ_=>zo (b.2.1.2.2.2,b.2.1.1)) λ_=>br (Hl b.2.1.2.1) (λ_=>zo (0,9)) λ_=>zo (b.2.1.2.2.2,0)
def XP(x:(qS×Int)):Option (Bool×Int):=
 bd (V2 x) λa=>br (SS a.2 0) (λ_=>zo (zf,a.2)) λ_=>bd (VM a.1) λb=>zo (b,0)
def Xz(x:(Int×Int)):Option (Int×Int):=
 br (Tk x.1 1) (λ_=>zo (0,7)) λ_=>br (Ti x.1 16) (λ_=>zo (0,7)) λ_=>br (Tk x.2 0) (λ_=>zo (0,7)) λ_=>br (SR x.2 12) (λ_=>zo (0,7)) λ_=>bd (Wj x) λa=>zo (a,0)
def XU(x:(qS×qJ)):Option Bool:=
 bd (Xz (x.1.1.1,x.2.1)) λa=>zo (Tj (Kx (AR x.2.2.2.2.1)) a.1)
def Zd(x:(qS×Int)):Option Bool:=
 br (Tk (So .i64 x.2 1) 12) (λ_=>br (SR (So .i64 x.2 1) (Kx (AR x.1.1.2))) (λ_=>zo zt) λ_=>SW (So .i64 x.2 1) λa=>ix x.1.1.2 a λb=>zo (Tk (Kx (AR b)) 2)) λ_=>zo zf
def Xn(x:(qS×Int)):Option (Bool×Int):=
 bd (V4 x) λa=>br (SS a.2 0) (λ_=>zo (zf,a.2)) λ_=>bd (Vf x) λc=>br (Ti a.1 0) (λ_=>zo (zt,0)) λ_=>SW c.1 λb=>ix x.1.2.1 b λf=>bd (XU (x.1,f)) λd=>br d (λ_=>zo (zt,0)) λ_=>bd (Zd x) λe=>zo (e,0)
def Ys(x:(qS×Int)):Option (Int×Int):=
 bd (V4 x) λa=>br (O3 a.2 0) (λ_=>br (Ti a.1 0) (λ_=>zo (0,9)) λ_=>br (SS a.2 0) (λ_=>zo (0,a.2)) λ_=>bd (Vf x) λd=>SW d.1 λb=>ix x.1.2.1 b λh=>bd (XU (x.1,h)) λe=>br e (λ_=>zo (x.2,0)) λ_=>zo (So .i64 x.2 1,0)) λ_=>br (SS a.2 0) (λ_=>zo (0,a.2)) λ_=>bd (Vf x) λf=>SW f.1 λc=>ix x.1.2.1 c λi=>bd (XU (x.1,i)) λg=>br g (λ_=>zo (x.2,0)) λ_=>zo (So .i64 x.2 1,0)
def Zb(x:qS):Option (Int×Int):=
 bd (XZ x) λa=>br (SS a.2 0) (λ_=>zo (0,a.2)) λ_=>br (O3 (Kx (AR a.1)) 0) (λ_=>zo (0,4)) λ_=>bd (loop (λs1=>br (Tk s1.2.2 (Kx (AR a.1))) (λ_=>SW s1.2.2 λc=>ix a.1 c λf=>bd (Xn (x,f)) λe=>br e.1 (λ_=>SW s1.2.2 λd=>ix a.1 d λg=>zo (.dn ((0,((0,(g,s1.2.2)),()))))) λ_=>zo (.nx ((s1.1,(s1.2.1,So .i64 s1.2.2 1))))) λ_=>zo (.dn ((1,(s1,()))))) ((0,(0,0)))) λb=>br (neq b.1 0) (λ_=>zo (b.2.1.2.1,b.2.1.1)) λ_=>zo (0,9)
end
section
open Go Sv
def YU(x:qS):Option Bool:=
 bd (loop (λs0=>br (Tk s0.2.2 (Kx (AR x.1.2))) (λ_=>br (Tk s0.2.2 20) (λ_=>bd (loop (λs1=>SW s0.2.2 λs=>ix x.1.2 s λy=>br (Tk s1.2.1 (Kx (AR y))) (λ_=>br (Tk s1.2.1 9) (λ_=>SW s0.2.2 λt=>ix x.1.2 t λz=>SW s1.2.1 λu=>ix z u λi=>bd (loop (λe=>br (Tk e.1 (Kx (AR i.2))) (λ_=>br (Tk e.1 50) (λ_=>SW e.1 λw=>ix i.2 w λo=>br (Ti (Kx (NA o.1)) 100) (λ_=>zo (.dn ((0,((e.1,zt),()))))) λ_=>SW e.1 λj=>ix i.2 j λp=>br (Ti (Kx (NA p.2.1)) 100) (λ_=>zo (.dn ((0,((e.1,zt),()))))) λ_=>zo (.nx (So .i64 e.1 1,e.2))) λ_=>zo (.dn ((1,(e,()))))) λ_=>zo (.dn ((1,(e,()))))) (0,s1.2.2)) λg=>br (neq g.1 0) (λ_=>zo (.dn ((1,((So .i64 s1.1 (Kx (AR i.2)),(s1.2.1,g.2.1.2)),()))))) λ_=>zo (.nx ((So .i64 s1.1 (Kx (AR i.2)),(So .i64 s1.2.1 1,g.2.1.2))))) λ_=>zo (.dn ((0,(s1,()))))) λ_=>zo (.dn ((0,(s1,()))))) ((s0.1,(0,s0.2.1)))) λc=>br (neq c.1 0) (λ_=>SW s0.2.2 λk=>ix x.1.2 k λq=>br (Ti (Kx (AR q)) 8) (λ_=>zo (.dn ((1,((c.2.1.1,(zt,s0.2.2)),()))))) λ_=>zo (.nx ((c.2.1.1,(c.2.1.2.2,So .i64 s0.2.2 1))))) λ_=>zo (.dn ((1,((c.2.1.1,(c.2.1.2.2,s0.2.2)),()))))) λ_=>zo (.dn ((0,(s0,()))))) λ_=>zo (.dn ((0,(s0,()))))) ((0,(zf,0)))) λf=>br (neq f.1 0) (λ_=>bd (loop (λa=>br (Tk a.2 (Kx (AR x.2.1))) (λ_=>br (Tk a.2 20) (λ_=>SW a.2 λl=>ix x.2.1 l λb=>br (Ti (Kx (AR b.2.1.1)) 20) (λ_=>zo (.dn ((0,((zt,a.2),()))))) λ_=>br (Ti (Kx (AR b.2.1.2.1)) 100) (λ_=>zo (.dn ((0,((zt,a.2),()))))) λ_=>br (Ti (Kx (AR b.2.1.2.2.1)) 100) (λ_=>zo (.dn ((0,((zt,a.2),()))))) λ_=>br (Ti (Kx (AR b.2.1.2.2.2.1)) 100) (λ_=>zo (.dn ((0,((zt,a.2),()))))) λ_=>bd (loop (λd=>br (Tk d.1 (Kx (AR b.2.1.1))) (λ_=>SW d.1 λm=>ix b.2.1.1 m λr=>zo (.nx ((So .i64 d.1 1,So .i64 d.2 (Kx (AR r)))))) λ_=>zo (.dn ((0,(d,()))))) ((0,Kx (AR b.2.2.2.1)))) λn=>br (Ti n.2.1.2 200) (λ_=>zo (.dn ((0,((zt,a.2),()))))) λ_=>zo (.nx (a.1,So .i64 a.2 1))) λ_=>zo (.dn ((1,(a,()))))) λ_=>zo (.dn ((1,(a,()))))) (f.2.1.2.1,0)) λh=>br (neq h.1 0) (λ_=>zo h.2.1.1) λ_=>br (Ti f.2.1.1 40) (λ_=>zo zt) λ_=>br (Ti (Kx (AR x.1.2)) 15) (λ_=>zo zt) λ_=>zo (Ti (Kx (AR x.2.1)) 15)) λ_=>zo f.2.1.2.1
def Zt(x:qF):Option Bool:=
 bd (loop (λs0=>br (Tk s0.1 (Kx (AR x.1.2))) (λ_=>br (Tk s0.1 25) (λ_=>SW s0.1 λb=>ix x.1.2 b λe=>br (Ti (Kx (NA e.1)) 100) (λ_=>zo (.dn ((0,((s0.1,zt),()))))) λ_=>SW s0.1 λc=>ix x.1.2 c λf=>br (Ti (Kx (NA f.2.1)) 100) (λ_=>zo (.dn ((0,((s0.1,zt),()))))) λ_=>zo (.nx (So .i64 s0.1 1,s0.2))) λ_=>zo (.dn ((1,(s0,()))))) λ_=>zo (.dn ((1,(s0,()))))) (0,zf)) λa=>br (neq a.1 0) (λ_=>zo a.2.1.2) λ_=>bd (YU x.2) λd=>br d (λ_=>zo zt) λ_=>zo (Ti (Kx (AR x.1.2)) 20)
def WV(x:Uy):Option (Int×Int):=
 br (Tk x.1 1) (λ_=>zo (0,7)) λ_=>br (Ti x.1 16) (λ_=>zo (0,7)) λ_=>br (Ti (Kx (AR x.2)) x.1) (λ_=>zo (0,3)) λ_=>bd (loop (λs0=>br (Tk s0.2.2 (Kx (AR x.2))) (λ_=>SW s0.2.2 λd=>ix x.2 d λc=>bd (Vi c) λb=>br (SS b 0) (λ_=>zo (.dn ((0,((b,(s0.2.2,s0.2.2)),()))))) λ_=>br (Ti s0.2.2 0) (λ_=>SW (Ss .i64 s0.2.2 1) λe=>ix x.2 e λf=>br (Hl (S4 f.1 c.1)) (λ_=>zo (.dn ((0,((6,(s0.2.2,s0.2.2)),()))))) λ_=>zo (.nx ((s0.1,(s0.2.1,So .i64 s0.2.2 1))))) λ_=>zo (.nx ((s0.1,(s0.2.1,So .i64 s0.2.2 1))))) λ_=>zo (.dn ((1,(s0,()))))) ((0,(0,0)))) λa=>br (neq a.1 0) (λ_=>zo (a.2.1.2.1,a.2.1.1)) λ_=>zo (0,0)
def WX(x:qF):Option Int:=
 bd (WV x.1) λa=>br (SS a.2 0) (λ_=>zo a.2) λ_=>bd (VP x.2) λb=>br (SS b.2 0) (λ_=>zo b.2) λ_=>br (SS x.1.1 x.2.1.1) (λ_=>zo 6) λ_=>zo 0
def Zr(x:(qS×Int)):Option (Int×Int):=
 bd (Xk x) λa=>br (SS a.2 0) (λ_=>zo (0,a.2)) λ_=>SW a.1 λb=>ix x.1.2.1 b λd=>bd (VI d.2) λc=>zo c
def cB(x:(qS×Int)):Option (Int×Int):=
 bd (Zr x) λa=>br (SS a.2 0) (λ_=>zo (0,a.2)) λ_=>zo (So .i64 a.1 1,0)
def Yr(x:Ub):Option (Int×(Int×Int)):=
 bd (WA x) λb=>br (SS b.2.2 0) (λ_=>zo ((0,(0,b.2.2)))) λ_=>bd (loop (λs1=>br (Tk s1.1 (Kx (AR x.2))) (λ_=>SW s1.1 λe=>ix x.2 e λd=>bd (loop (λa=>br (SR a.1 0) (λ_=>SW a.1 λf=>ix d f λh=>zo (.nx ((Ss .i64 a.1 1,(So .i64 a.2.1 (Kx (AR h.2)),So .i64 a.2.2 1))))) λ_=>zo (.dn ((0,(a,()))))) ((Ss .i64 (Kx (AR d)) 1,s1.2))) λg=>zo (.nx (So .i64 s1.1 1,g.2.1.2))) λ_=>zo (.dn ((0,(s1,()))))) ((0,(0,0)))) λc=>zo ((c.2.1.2.1,(c.2.1.2.2,0)))
def bT(x:(qS×Int)):Option (Int×Int):=
 bd (V4 x) λa=>br (SS a.2 0) (λ_=>zo (0,a.2)) λ_=>zo (So .i64 a.1 1,0)
def YQ(x:Ub):Option (Int×(Int×Int)):=
 bd (W3 x) λa=>br (SS a.2 0) (λ_=>zo ((0,(0,a.2)))) λ_=>bd (loop (λs1=>br (Tk s1.2 (Kx (AR a.1))) (λ_=>SW s1.2 λb=>ix a.1 b λd=>zo (.nx ((So .i64 s1.1 (Kx (AR d.2)),So .i64 s1.2 1)))) λ_=>zo (.dn ((0,(s1,()))))) (0,0)) λc=>zo ((c.2.1.1,(Kx (AR a.1),0)))
end
section
open Go Sv
def WM(x:(Ub×(Int×(List Uy)))):Option Ub:=
 bd (loop (λ(s0:(Int×Ub))=>br (Tk s0.1 (Kx (AR x.1.2))) (λ_=>br (SR s0.1 (Kx (AR x.1.2))) (λ_=>br (O3 s0.1 x.2.1) (λ_=>gd (CI (AR x.2.2) 1048576) λ_=>gd (CI (BG (AR s0.2.2) (AR [x.2.2])) 1048576) λ_=>zo (.nx ((So .i64 s0.1 1,(s0.2.1,Iy s0.2.2 [x.2.2]))))) λ_=>gd (CI (BG (AR s0.2.2) (AR ([[]]:(List (List Uy))))) 1048576) λ_=>zo (.nx ((So .i64 s0.1 1,(s0.2.1,Iy s0.2.2 [[]]))))) λ_=>SW s0.1 λf=>ix x.1.2 f λd=>br (O3 s0.1 x.2.1) (λ_=>gd (CI (AR x.2.2) 1048576) λ_=>gd (CI (BG (AR s0.2.2) (AR [x.2.2])) 1048576) λ_=>zo (.nx ((So .i64 s0.1 1,(s0.2.1,Iy s0.2.2 [x.2.2]))))) λ_=>gd (CI (AR d) 1048576) λ_=>gd (CI (BG (AR s0.2.2) (AR [d])) 1048576) λ_=>zo (.nx ((So .i64 s0.1 1,(s0.2.1,Iy s0.2.2 [d]))))) λ_=>br (Tj s0.1 x.2.1) (λ_=>br (SR s0.1 (Kx (AR x.1.2))) (λ_=>br (O3 s0.1 x.2.1) (λ_=>gd (CI (AR x.2.2) 1048576) λ_=>gd (CI (BG (AR s0.2.2) (AR [x.2.2])) 1048576) λ_=>zo (.nx ((So .i64 s0.1 1,(s0.2.1,Iy s0.2.2 [x.2.2]))))) λ_=>gd (CI (BG (AR s0.2.2) (AR ([[]]:(List (List Uy))))) 1048576) λ_=>zo (.nx ((So .i64 s0.1 1,(s0.2.1,Iy s0.2.2 [[]]))))) λ_=>SW s0.1 λg=>ix x.1.2 g λe=>br (O3 s0.1 x.2.1) (λ_=>gd (CI (AR x.2.2) 1048576) λ_=>gd (CI (BG (AR s0.2.2) (AR [x.2.2])) 1048576) λ_=>zo (.nx ((So .i64 s0.1 1,(s0.2.1,Iy s0.2.2 [x.2.2]))))) λ_=>gd (CI (AR e) 1048576) λ_=>gd (CI (BG (AR s0.2.2) (AR [e])) 1048576) λ_=>zo (.nx ((So .i64 s0.1 1,(s0.2.1,Iy s0.2.2 [e]))))) λ_=>zo (.dn ((0,(s0,()))))) ((0,(x.1.1,[])))) λi=>bd (loop (λ(a:Ub)=>br (Ti (Kx (AR a.2)) 0) (λ_=>SW (Ss .i64 (Kx (AR a.2)) 1) λh=>ix a.2 h λj=>br (O3 (Kx (AR j)) 0) (λ_=>SW (Ss .i64 (Kx (AR a.2)) 1) λb=>gd (CI b (AR a.2)) λ_=>gd (CI 0 b) λ_=>zo (.nx (a.1,D6 a.2 0 b))) λ_=>zo (.dn ((0,(a,()))))) λ_=>zo (.dn ((0,(a,()))))) i.2.1.2) λc=>zo c.2.1
def Xy(x:(Ub×Int)):Option (List Uy):=
 br (SR x.2 (Kx (AR x.1.2))) (λ_=>zo []) λ_=>SW x.2 λa=>ix x.1.2 a λb=>zo b
def Vb(x:(Ub×Int)):Option (qJ×Int):=
 bd (V7 x.1) λa=>br (O3 a.2.2 0) (λ_=>br (Tk x.2 0) (λ_=>zo (((0,(([],([],([],([],0)))),((zf,([],zf)),([],0)))),7))) λ_=>br (SR x.2 12) (λ_=>zo (((0,(([],([],([],([],0)))),((zf,([],zf)),([],0)))),7))) λ_=>br (O3 a.2.2 0) (λ_=>br (SR x.2 (Kx (AR x.1.2))) (λ_=>zo (((0,(([],([],([],([],0)))),((zf,([],zf)),([],0)))),4))) λ_=>SW x.2 λe=>ix x.1.2 e λl=>br (Tk (Kx (AR l)) 2) (λ_=>zo (((0,(([],([],([],([],0)))),((zf,([],zf)),([],0)))),4))) λ_=>br (SS a.2.2 0) (λ_=>zo (((0,(([],([],([],([],0)))),((zf,([],zf)),([],0)))),a.2.2))) λ_=>bd (VF x) λg=>bd (Ux ((x.1,(x.2,g)))) λh=>zo (h,0)) λ_=>br (SS a.2.2 0) (λ_=>zo (((0,(([],([],([],([],0)))),((zf,([],zf)),([],0)))),a.2.2))) λ_=>bd (VF x) λi=>bd (Ux ((x.1,(x.2,i)))) λj=>zo (j,0)) λ_=>br (O3 a.2.2 0) (λ_=>br (SR x.2 (Kx (AR x.1.2))) (λ_=>zo (((0,(([],([],([],([],0)))),((zf,([],zf)),([],0)))),4))) λ_=>SW x.2 λf=>ix x.1.2 f λm=>br (Tk (Kx (AR m)) 2) (λ_=>zo (((0,(([],([],([],([],0)))),((zf,([],zf)),([],0)))),4))) λ_=>br (SS a.2.2 0) (λ_=>zo (((0,(([],([],([],([],0)))),((zf,([],zf)),([],0)))),a.2.2))) λ_=>bd (VF x) λk=>bd (Ux ((x.1,(x.2,k)))) λb=>zo (b,0)) λ_=>br (SS a.2.2 0) (λ_=>zo (((0,(([],([],([],([],0)))),((zf,([],zf)),([],0)))),a.2.2))) λ_=>bd (VF x) λc=>bd (Ux ((x.1,(x.2,c)))) λd=>zo (d,0)
def Xb(x:(qS×Int)):Option (qS×Int):=
 bd (Ys x) λI=>br (SS I.2 0) (λ_=>zo ((((0,[]),([],0)),I.2))) λ_=>bd (Vf x) λr1=>SW r1.1 λk2=>ix x.1.2.1 k2 λG=>bd (Xn x) λr4=>br (Hl r4.1) (λ_=>zo ((((0,[]),([],0)),9))) λ_=>br (Ti x.1.2.2 1000000) (λ_=>br (Ti (Kx (AR G.2.2.2.1)) 0) (λ_=>zo ((((0,[]),([],0)),5))) λ_=>bd (WM ((x.1.1,(x.2,[])))) λJ=>br (Ti (Kx (AR G.2.2.2.1)) 0) (λ_=>bd (Xy (J,I.1)) λr6=>gd (CI (AR r6) 1048576) λ_=>gd (CI (BG (AR r6) (AR ([(x.1.2.2,G.2.2.2.1)]))) 1048576) λ_=>bd (WM ((J,(I.1,Iy r6 ([(x.1.2.2,G.2.2.2.1)]))))) λr7=>bd (VV r7) λK=>bd (loop (λ(t:(Int×qL))=>br (Tk t.1 (Kx (AR K))) (λ_=>SW t.1 λL=>ix K L λx11=>bd (Vb (((t.2.1,t.2.2.1),x11))) λh=>bd (loop (λ(p:(Int×(Int×qM)))=>br (Tk p.1 (Kx (AR x.1.2.1))) (λ_=>SW p.1 λM=>ix x.1.2.1 M λx15=>SW t.1 λN=>ix K N λx17=>br (O3 x15.1 x17) (λ_=>SW t.1 λO=>ix K O λx19=>br (SS x19 x.2) (λ_=>SW p.1 λP=>ix x.1.2.1 P λl=>zo (.nx ((So .i64 p.1 1,(l.1,(l.2.1.1,(l.2.1.2.1,(l.2.1.2.2.1,(l.2.1.2.2.2.1,(l.2.1.2.2.2.2,(l.2.2.1.1,(l.2.2.1.2.1,(l.2.2.1.2.2,l.2.2.2))))))))))))) λ_=>zo (.nx (So .i64 p.1 1,p.2))) λ_=>zo (.nx (So .i64 p.1 1,p.2))) λ_=>zo (.dn ((0,(p,()))))) ((0,(h.1.1,(h.1.2.1.1,(h.1.2.1.2.1,(h.1.2.1.2.2.1,(h.1.2.1.2.2.2.1,(h.1.2.1.2.2.2.2,(h.1.2.2.1.1,(h.1.2.2.1.2.1,(h.1.2.2.1.2.2,h.1.2.2.2)))))))))))) λa=>gd (CI (BG (AR t.2.2.2.1) (AR ([(a.2.1.2.1,((a.2.1.2.2.1,(a.2.1.2.2.2.1,(a.2.1.2.2.2.2.1,(a.2.1.2.2.2.2.2.1,a.2.1.2.2.2.2.2.2.1)))),((a.2.1.2.2.2.2.2.2.2.1,(a.2.1.2.2.2.2.2.2.2.2.1,a.2.1.2.2.2.2.2.2.2.2.2.1)),a.2.1.2.2.2.2.2.2.2.2.2.2)))]))) 1048576) λ_=>zo (.nx ((So .i64 t.1 1,(t.2.1,(t.2.2.1,(Iy t.2.2.2.1 ([(a.2.1.2.1,((a.2.1.2.2.1,(a.2.1.2.2.2.1,(a.2.1.2.2.2.2.1,(a.2.1.2.2.2.2.2.1,a.2.1.2.2.2.2.2.2.1)))),((a.2.1.2.2.2.2.2.2.2.1,(a.2.1.2.2.2.2.2.2.2.2.1,a.2.1.2.2.2.2.2.2.2.2.2.1)),a.2.1.2.2.2.2.2.2.2.2.2.2)))]),t.2.2.2.2))))))) λ_=>zo (.dn ((0,(t,()))))) ((0,(r7.1,(r7.2,([],So .i64 x.1.2.2 1)))))) λA=>zo ((((A.2.1.2.1,A.2.1.2.2.1),A.2.1.2.2.2),0))) λ_=>bd (VV J) λw=>bd (loop (λ(e:(Int×qL))=>br (Tk e.1 (Kx (AR w))) (λ_=>SW e.1 λS=>ix w S λx27=>bd (Vb (((e.2.1,e.2.2.1),x27))) λi=>bd (loop (λ(q:(Int×(Int×qM)))=>br (Tk q.1 (Kx (AR x.1.2.1))) (λ_=>SW q.1 λU=>ix x.1.2.1 U λx31=>SW e.1 λW=>ix w W λx33=>br (O3 x31.1 x33) (λ_=>SW e.1 λX=>ix w X λx35=>br (SS x35 x.2) (λ_=>SW q.1 λY=>ix x.1.2.1 Y λm=>zo (.nx ((So .i64 q.1 1,(m.1,(m.2.1.1,(m.2.1.2.1,(m.2.1.2.2.1,(m.2.1.2.2.2.1,(m.2.1.2.2.2.2,(m.2.2.1.1,(m.2.2.1.2.1,(m.2.2.1.2.2,m.2.2.2))))))))))))) λ_=>zo (.nx (So .i64 q.1 1,q.2))) λ_=>zo (.nx (So .i64 q.1 1,q.2))) λ_=>zo (.dn ((0,(q,()))))) ((0,(i.1.1,(i.1.2.1.1,(i.1.2.1.2.1,(i.1.2.1.2.2.1,(i.1.2.1.2.2.2.1,(i.1.2.1.2.2.2.2,(i.1.2.2.1.1,(i.1.2.2.1.2.1,(i.1.2.2.1.2.2,i.1.2.2.2)))))))))))) λb=>gd (CI (BG (AR e.2.2.2.1) (AR ([(b.2.1.2.1,((b.2.1.2.2.1,(b.2.1.2.2.2.1,(b.2.1.2.2.2.2.1,(b.2.1.2.2.2.2.2.1,b.2.1.2.2.2.2.2.2.1)))),((b.2.1.2.2.2.2.2.2.2.1,(b.2.1.2.2.2.2.2.2.2.2.1,b.2.1.2.2.2.2.2.2.2.2.2.1)),b.2.1.2.2.2.2.2.2.2.2.2.2)))]))) 1048576) λ_=>zo (.nx ((So .i64 e.1 1,(e.2.1,(e.2.2.1,(Iy e.2.2.2.1 ([(b.2.1.2.1,((b.2.1.2.2.1,(b.2.1.2.2.2.1,(b.2.1.2.2.2.2.1,(b.2.1.2.2.2.2.2.1,b.2.1.2.2.2.2.2.2.1)))),((b.2.1.2.2.2.2.2.2.2.1,(b.2.1.2.2.2.2.2.2.2.2.1,b.2.1.2.2.2.2.2.2.2.2.2.1)),b.2.1.2.2.2.2.2.2.2.2.2.2)))]),e.2.2.2.2))))))) λ_=>zo (.dn ((0,(e,()))))) ((0,(J.1,(J.2,([],x.1.2.2)))))) λB=>zo ((((B.2.1.2.1,B.2.1.2.2.1),B.2.1.2.2.2),0))) λ_=>bd (WM ((x.1.1,(x.2,[])))) λu=>br (Ti (Kx (AR G.2.2.2.1)) 0) (λ_=>bd (Xy (u,I.1)) λC=>gd (CI (AR C) 1048576) λ_=>gd (CI (BG (AR C) (AR ([(x.1.2.2,G.2.2.2.1)]))) 1048576) λ_=>bd (WM ((u,(I.1,Iy C ([(x.1.2.2,G.2.2.2.1)]))))) λD=>bd (VV D) λy=>bd (loop (λ(f:(Int×qL))=>br (Tk f.1 (Kx (AR y))) (λ_=>SW f.1 λZ=>ix y Z λx46=>bd (Vb (((f.2.1,f.2.2.1),x46))) λj=>bd (loop (λ(r:(Int×(Int×qM)))=>br (Tk r.1 (Kx (AR x.1.2.1))) (λ_=>SW r.1 λk49=>ix x.1.2.1 k49 λx50=>SW f.1 λk51=>ix y k51 λx52=>br (O3 x50.1 x52) (λ_=>SW f.1 λk53=>ix y k53 λx54=>br (SS x54 x.2) (λ_=>SW r.1 λk55=>ix x.1.2.1 k55 λn=>zo (.nx ((So .i64 r.1 1,(n.1,(n.2.1.1,(n.2.1.2.1,(n.2.1.2.2.1,(n.2.1.2.2.2.1,(n.2.1.2.2.2.2,(n.2.2.1.1,(n.2.2.1.2.1,(n.2.2.1.2.2,n.2.2.2))))))))))))) λ_=>zo (.nx (So .i64 r.1 1,r.2))) λ_=>zo (.nx (So .i64 r.1 1,r.2))) λ_=>zo (.dn ((0,(r,()))))) ((0,(j.1.1,(j.1.2.1.1,(j.1.2.1.2.1,(j.1.2.1.2.2.1,(j.1.2.1.2.2.2.1,(j.1.2.1.2.2.2.2,(j.1.2.2.1.1,(j.1.2.2.1.2.1,(j.1.2.2.1.2.2,j.1.2.2.2)))))))))))) λc=>gd (CI (BG (AR f.2.2.2.1) (AR ([(c.2.1.2.1,((c.2.1.2.2.1,(c.2.1.2.2.2.1,(c.2.1.2.2.2.2.1,(c.2.1.2.2.2.2.2.1,c.2.1.2.2.2.2.2.2.1)))),((c.2.1.2.2.2.2.2.2.2.1,(c.2.1.2.2.2.2.2.2.2.2.1,c.2.1.2.2.2.2.2.2.2.2.2.1)),c.2.1.2.2.2.2.2.2.2.2.2.2)))]))) 1048576) λ_=>zo (.nx ((So .i64 f.1 1,(f.2.1,(f.2.2.1,(Iy f.2.2.2.1 ([(c.2.1.2.1,((c.2.1.2.2.1,(c.2.1.2.2.2.1,(c.2.1.2.2.2.2.1,(c.2.1.2.2.2.2.2.1,c.2.1.2.2.2.2.2.2.1)))),((c.2.1.2.2.2.2.2.2.2.1,(c.2.1.2.2.2.2.2.2.2.2.1,c.2.1.2.2.2.2.2.2.2.2.2.1)),c.2.1.2.2.2.2.2.2.2.2.2.2)))]),f.2.2.2.2))))))) λ_=>zo (.dn ((0,(f,()))))) ((0,(D.1,(D.2,([],So .i64 x.1.2.2 1)))))) λE=>zo ((((E.2.1.2.1,E.2.1.2.2.1),E.2.1.2.2.2),0))) λ_=>bd (VV u) λz=>bd (loop (λ(g:(Int×qL))=>br (Tk g.1 (Kx (AR z))) (λ_=>SW g.1 λk61=>ix z k61 λx62=>bd (Vb (((g.2.1,g.2.2.1),x62))) λk=>bd (loop (λ(s:(Int×(Int×qM)))=>br (Tk s.1 (Kx (AR x.1.2.1))) (λ_=>SW s.1 λk65=>ix x.1.2.1 k65 λx66=>SW g.1 λk67=>ix z k67 λx68=>br (O3 x66.1 x68) (λ_=>SW g.1 λk69=>ix z k69 λx70=>br (SS x70 x.2) (λ_=>SW s.1 λk71=>ix x.1.2.1 k71 λo=>zo (.nx ((So .i64 s.1 1,(o.1,(o.2.1.1,(o.2.1.2.1,(o.2.1.2.2.1,(o.2.1.2.2.2.1,(o.2.1.2.2.2.2,(o.2.2.1.1,(o.2.2.1.2.1,(o.2.2.1.2.2,o.2.2.2))))))))))))) λ_=>zo (.nx (So .i64 s.1 1,s.2))) λ_=>zo (.nx (So .i64 s.1 1,s.2))) λ_=>zo (.dn ((0,(s,()))))) ((0,(k.1.1,(k.1.2.1.1,(k.1.2.1.2.1,(k.1.2.1.2.2.1,(k.1.2.1.2.2.2.1,(k.1.2.1.2.2.2.2,(k.1.2.2.1.1,(k.1.2.2.1.2.1,(k.1.2.2.1.2.2,k.1.2.2.2)))))))))))) λd=>gd (CI (BG (AR g.2.2.2.1) (AR ([(d.2.1.2.1,((d.2.1.2.2.1,(d.2.1.2.2.2.1,(d.2.1.2.2.2.2.1,(d.2.1.2.2.2.2.2.1,d.2.1.2.2.2.2.2.2.1)))),((d.2.1.2.2.2.2.2.2.2.1,(d.2.1.2.2.2.2.2.2.2.2.1,d.2.1.2.2.2.2.2.2.2.2.2.1)),d.2.1.2.2.2.2.2.2.2.2.2.2)))]))) 1048576) λ_=>zo (.nx ((So .i64 g.1 1,(g.2.1,(g.2.2.1,(Iy g.2.2.2.1 ([(d.2.1.2.1,((d.2.1.2.2.1,(d.2.1.2.2.2.1,(d.2.1.2.2.2.2.1,(d.2.1.2.2.2.2.2.1,d.2.1.2.2.2.2.2.2.1)))),((d.2.1.2.2.2.2.2.2.2.1,(d.2.1.2.2.2.2.2.2.2.2.1,d.2.1.2.2.2.2.2.2.2.2.2.1)),d.2.1.2.2.2.2.2.2.2.2.2.2)))]),g.2.2.2.2))))))) λ_=>zo (.dn ((0,(g,()))))) ((0,(u.1,(u.2,([],x.1.2.2)))))) λF=>zo ((((F.2.1.2.1,F.2.1.2.2.1),F.2.1.2.2.2),0))
def WZ(x:((List UZ)×(List UZ))):Option Bool:=
 bd (loop (λs0=>br (Tk s0.1 (Kx (AR x.1))) (λ_=>br (Tk s0.1 (Kx (AR x.2))) (λ_=>SW s0.1 λd=>ix x.1 d λa=>SW s0.1 λe=>ix x.2 e λb=>br (Hl (OG (seq a.1 b.1) (OG (seq a.2.1 b.2.1) (OG (beq a.2.2.1 b.2.2.1) (OG (O3 a.2.2.2 b.2.2.2) zt))))) (λ_=>zo (.dn ((0,((s0.1,zf),()))))) λ_=>zo (.nx (So .i64 s0.1 1,s0.2))) λ_=>zo (.dn ((1,(s0,()))))) λ_=>zo (.dn ((1,(s0,()))))) (0,zf)) λc=>br (neq c.1 0) (λ_=>zo c.2.1.2) λ_=>zo (O3 (Kx (AR x.1)) (Kx (AR x.2)))
def XY(x:(Uy×Uy)):Option Bool:=
 br (O3 x.1.1 x.2.1) (λ_=>bd (WZ (x.1.2,x.2.2)) λa=>zo a) λ_=>zo zf
def XG(x:((List Uy)×(List Uy))):Option Bool:=
 br (SS (Kx (AR x.1)) (Kx (AR x.2))) (λ_=>zo zf) λ_=>bd (loop (λs0=>br (Tk s0.1 (Kx (AR x.1))) (λ_=>SW s0.1 λb=>ix x.1 b λe=>SW s0.1 λc=>ix x.2 c λf=>bd (XY (e,f)) λd=>br (Hl d) (λ_=>zo (.dn ((0,((s0.1,zf),()))))) λ_=>zo (.nx (So .i64 s0.1 1,s0.2))) λ_=>zo (.dn ((1,(s0,()))))) (0,zf)) λa=>br (neq a.1 0) (λ_=>zo a.2.1.2) λ_=>zo zt
def Yj(x:(Ub×Ub)):Option Bool:=
 br (SS x.1.1 x.2.1) (λ_=>zo zf) λ_=>br (SS (Kx (AR x.1.2)) (Kx (AR x.2.2))) (λ_=>zo zf) λ_=>bd (loop (λs0=>br (Tk s0.1 (Kx (AR x.1.2))) (λ_=>SW s0.1 λb=>ix x.1.2 b λe=>SW s0.1 λc=>ix x.2.2 c λf=>bd (XG (e,f)) λd=>br (Hl d) (λ_=>zo (.dn ((0,((s0.1,zf),()))))) λ_=>zo (.nx (So .i64 s0.1 1,s0.2))) λ_=>zo (.dn ((1,(s0,()))))) (0,zf)) λa=>br (neq a.1 0) (λ_=>zo a.2.1.2) λ_=>zo zt
def Xa(x:(qJ×qJ)):Option Bool:=
 br (O3 x.1.1 x.2.1) (λ_=>bd (VD (x.1.2,x.2.2)) λa=>zo a) λ_=>zo zf
def XI(x:(qS×qS)):Option Bool:=
 bd (Yj (x.1.1,x.2.1)) λd=>br (Hl d) (λ_=>zo zf) λ_=>br (SS (Kx (AR x.1.2.1)) (Kx (AR x.2.2.1))) (λ_=>zo zf) λ_=>br (SS x.1.2.2 x.2.2.2) (λ_=>zo zf) λ_=>bd (loop (λs1=>br (Tk s1.1 (Kx (AR x.1.2.1))) (λ_=>SW s1.1 λb=>ix x.1.2.1 b λf=>SW s1.1 λc=>ix x.2.2.1 c λg=>bd (Xa (f,g)) λe=>br (Hl e) (λ_=>zo (.dn ((0,((s1.1,zf),()))))) λ_=>zo (.nx (So .i64 s1.1 1,s1.2))) λ_=>zo (.dn ((1,(s1,()))))) (0,zf)) λa=>br (neq a.1 0) (λ_=>zo a.2.1.2) λ_=>zo zt
def Yk(x:(qS×(Int×Int))):Option (qS×(Int×Int)):=
 bd (V8 x.1) λf=>br (O3 f.2 0) (λ_=>br (Tk x.2.2 0) (λ_=>zo ((((0,[]),([],0)),(0,7)))) λ_=>br (SS f.2 0) (λ_=>zo ((((0,[]),([],0)),(0,f.2)))) λ_=>bd (V4 (x.1,x.2.1)) λe=>br (O3 e.2 0) (λ_=>br (O3 e.1 0) (λ_=>zo ((((0,[]),([],0)),(0,9)))) λ_=>br (SS e.2 0) (λ_=>zo ((((0,[]),([],0)),(0,e.2)))) λ_=>bd (Vf (x.1,x.2.1)) λr=>SW r.1 λu=>ix x.1.2.1 u λB=>bd (Uz (B.2,x.2.2)) λs=>gd (CI (AR x.1.2.1) 1048576) λ_=>SW r.1 λn=>gd (KW n (AR x.1.2.1)) λ_=>ix x.1.2.1 n λC=>zo (((x.1.1,(lset x.1.2.1 n (x.2.1,s.1),x.1.2.2)),(s.2.1,0)))) λ_=>br (SS e.2 0) (λ_=>zo ((((0,[]),([],0)),(0,e.2)))) λ_=>bd (Vf (x.1,x.2.1)) λt=>SW t.1 λw=>ix x.1.2.1 w λo=>bd (Uz (o.2,x.2.2)) λg=>gd (CI (AR x.1.2.1) 1048576) λ_=>SW t.1 λb=>gd (KW b (AR x.1.2.1)) λ_=>ix x.1.2.1 b λy=>zo (((x.1.1,(lset x.1.2.1 b (x.2.1,g.1),x.1.2.2)),(g.2.1,0)))) λ_=>br (SS f.2 0) (λ_=>zo ((((0,[]),([],0)),(0,f.2)))) λ_=>bd (V4 (x.1,x.2.1)) λa=>br (O3 a.2 0) (λ_=>br (O3 a.1 0) (λ_=>zo ((((0,[]),([],0)),(0,9)))) λ_=>br (SS a.2 0) (λ_=>zo ((((0,[]),([],0)),(0,a.2)))) λ_=>bd (Vf (x.1,x.2.1)) λh=>SW h.1 λl=>ix x.1.2.1 l λp=>bd (Uz (p.2,x.2.2)) λi=>gd (CI (AR x.1.2.1) 1048576) λ_=>SW h.1 λc=>gd (KW c (AR x.1.2.1)) λ_=>ix x.1.2.1 c λz=>zo (((x.1.1,(lset x.1.2.1 c (x.2.1,i.1),x.1.2.2)),(i.2.1,0)))) λ_=>br (SS a.2 0) (λ_=>zo ((((0,[]),([],0)),(0,a.2)))) λ_=>bd (Vf (x.1,x.2.1)) λj=>SW j.1 λm=>ix x.1.2.1 m λq=>bd (Uz (q.2,x.2.2)) λk=>gd (CI (AR x.1.2.1) 1048576) λ_=>SW j.1 λd=>gd (KW d (AR x.1.2.1)) λ_=>ix x.1.2.1 d λA=>zo (((x.1.1,(lset x.1.2.1 d (x.2.1,k.1),x.1.2.2)),(k.2.1,0)))
def Zc(x:(qS×Int)):Option (qS×(Bool×Int)):=
 bd (Xn x) λa=>br (O3 a.2 0) (λ_=>br (Hl a.1) (λ_=>zo ((((0,[]),([],0)),(zf,9)))) λ_=>br (SS a.2 0) (λ_=>zo ((((0,[]),([],0)),(zf,a.2)))) λ_=>bd (V4 x) λf=>br (Ti f.1 0) (λ_=>bd (Yk ((x.1,(x.2,1)))) λd=>zo ((d.1,(zf,d.2.2)))) λ_=>bd (Xb x) λb=>zo ((b.1,(O3 b.2 0,b.2)))) λ_=>br (SS a.2 0) (λ_=>zo ((((0,[]),([],0)),(zf,a.2)))) λ_=>bd (V4 x) λg=>br (Ti g.1 0) (λ_=>bd (Yk ((x.1,(x.2,1)))) λe=>zo ((e.1,(zf,e.2.2)))) λ_=>bd (Xb x) λc=>zo ((c.1,(O3 c.2 0,c.2)))
end
section
open Go Sv
def XD(x:(qS×(List UZ))):Option (qS×Int):=
 bd (VP x.1) λc=>br (SS c.2 0) (λ_=>zo ((((0,[]),([],0)),c.2))) λ_=>bd (V5 (x.1.1,0)) λa=>br (SS a.2 0) (λ_=>zo ((((0,[]),([],0)),a.2))) λ_=>br (Ti x.1.2.2 1000000) (λ_=>zo ((((0,[]),([],0)),5))) λ_=>br (Hl a.1) (λ_=>zo ((((0,[]),([],0)),5))) λ_=>gd (CI (AR x.2) 1048576) λ_=>bd (X3 (x.1.2.2,x.2)) λd=>br (SS d.2 0) (λ_=>zo ((((0,[]),([],0)),d.2))) λ_=>bd (U5 ((x.1.1,(0,(x.1.2.2,x.2))))) λb=>br (SS b.2 0) (λ_=>zo ((((0,[]),([],0)),b.2))) λ_=>bd (Ut ((x.1,(b.1,(So .i64 x.1.2.2 1,(-1)))))) λe=>zo e
end
section
open Go Sv
end
section
open Go Sv
abbrev YA:=List UInt8
theorem ap(a:YA):S4 a []=zf:=by unfold S4;cases a<;>rfl
theorem dv(b:UInt8)(y:YA):S4 [] (b::y)=zt:=rfl
theorem ZS(a b:UInt8)(x y:YA):S4 (a::x) (b::y)=(decide (a<b)||(a == b&&S4 x y)):=rfl
theorem Xj:∀ a:YA,S4 a a=zf
 |[]=>rfl
 |a::x=>by rw[ZS,Xj x];simp
theorem XL:∀ {a b c:YA},S4 a b=zt->S4 b c=zt->S4 a c=zt
 |[],b,[],e,d=>by rw[ap]at d;cases d
 |[],b,c::z,_,_=>rfl
 |a::x,[],c,e,_=>by rw[ap]at e;cases e
 |a::x,b::y,[],_,d=>by rw[ap]at d;cases d
 |a::x,b::y,c::z,e,d=>by
  rw[ZS]at e d ⊢;simp only[x8,decide_eq_true_eq,xw,beq_iff_eq]at e d ⊢;rcases e with e|⟨rfl,e⟩
  ·rcases d with d|⟨rfl,d⟩
   ·exact .inl (UInt8.lt_trans e d)
   ·exact .inl e
  ·rcases d with d|⟨rfl,d⟩
   ·exact .inl d
   ·exact .inr ⟨rfl,XL e d⟩
theorem bh:∀ a b:YA,S4 a b=zt\/a=b\/S4 b a=zt
 |[],[]=>.inr (.inl rfl)
 |[],_::_=>.inl rfl
 |_::_,[]=>.inr (.inr rfl)
 |a::x,b::y=>by
  rw[ZS,ZS];simp only[x8,decide_eq_true_eq,xw,beq_iff_eq,List.cons.injEq];rcases UInt8.lt_or_lt_of_ne (a:=a) (b:=b) |> λh=>Classical.em (a=b) |>.imp id h with h|h|h
  ·subst h;rcases bh x y with h|h|h
   ·exact .inl (.inr ⟨rfl,h⟩)
   ·exact .inr (.inl ⟨rfl,h⟩)
   ·exact .inr (.inr (.inr ⟨rfl,h⟩))
  ·exact .inl (.inl h)
  ·exact .inr (.inr (.inl h))
theorem Vw{a b:YA}(h:S4 a b=zt):S4 b a=zf:=by
 cases c:S4 b a with
 |false=>rfl
 |true=>have:=XL h c;rw[Xj]at this;cases this
theorem Z6{a b:YA}(h:S4 a b=zt):a≠b:=λe=>by subst e;rw[Xj]at h;cases h
theorem aV{a b:YA}(h:S4 a b=zf)(c:a≠b):S4 b a=zt:=by
 rcases bh a b with h1|h1|h1
 ·rw[h]at h1;cases h1
 ·exact absurd h1 c
 ·exact h1
theorem cb{a b c:YA}(h:S4 b a=zf)(d:S4 b c=zt):S4 a c=zt:=by
 rcases bh a b with h1|h1|h1
 ·exact XL h1 d
 ·subst h1;exact d
 ·rw[h]at h1;cases h1
theorem fX{a b c:YA}(h:S4 a b=zt)(d:S4 c b=zf):S4 a c=zt:=by
 rcases bh b c with h1|h1|h1
 ·exact XL h h1
 ·subst h1;exact h
 ·rw[d]at h1;cases h1
theorem bg{a b:YA}:seq a b=zt<->a=b:=by unfold seq;simp
theorem aU(a b:YA):seq a b=decide (a=b):=by
 cases h:seq a b with
 |true=>rw[bg]at h;simp[h]
 |false=>
  have:¬ a=b:=λe=>by rw[<- bg]at e;rw[h]at e;cases e
  simp[this]
section
variable{α β σ S:Type}
theorem W1(a b:YA)(x y:Unit->Option β):br (seq a b) x y=if a=b then x ()else y ():=Jt bg x y
theorem YB(a b:YA)(x y:Unit->Option β):br (S4 a b) x y=if S4 a b=zt then x ()else y ():=Jt Iff.rfl x y
theorem Vx(p:Prop)[Decidable p](x y:Unit->Option β):br (decide p) x y=if p then x ()else y ():=Jt (by simp) x y
theorem UY(k:Nat)(c:Nat->Option β):SW (k:Int) c=c k:=by rw[TI (by omega)];simp
theorem vT{l:List α}{k:Nat}{x:α}(h:l[k]?=zo x):Tk (k:Int) (Kx (AR l))=zt:=by
 have:=(a8.1 h).1;unfold Tk Kx AR;simp;omega
theorem rQ(l:List α):Tk (l.length:Int) (Kx (AR l))=zf:=by unfold Tk Kx AR;simp
theorem Uh{k:Nat}(h:k+1<=9223372036854775807):So .i64 (k:Int) 1=((k+1:Nat):Int):=by
 rw[TE (by omega)];omega
theorem Ui{l:List α}{k:Nat}{x:α}(h:l[k]?=zo x)(a:l.length<=9223372036854775807):So .i64 (k:Int) 1=((k+1:Nat):Int):=by
 have:=(a8.1 h).1;exact Uh (by omega)
def cG(step:Nat->α->σ->Option (LR σ β))(fin:σ->Option β):List α->Nat->σ->Option β
 |[],_,s=>fin s
 |x::l,k,s=>match step k x s with
  |none=>zn
  |some (.nx s')=>cG step fin l (k+1) s'
  |some (.dn b)=>zo b
def upS(mk:σ->S):Option (LR σ β)->Option (LR S β)
 |none=>zn
 |some (.nx s)=>zo (.nx (mk s))
 |some (.dn b)=>zo (.dn b)
def wt:Option β->Option (LR S β)
 |none=>zn
 |some b=>zo (.dn b)
theorem gC{l:List α}{mk:Nat->σ->S}{f:S->Option (LR S β)}{step:Nat->α->σ->Option (LR σ β)}{fin:σ->Option β}
  (hs:∀ k x a,l[k]?=zo x->f (mk k a)=upS (mk (k+1)) (step k x a)) (i:∀ a,f (mk l.length a)=wt (fin a)) :
  ∀ (d n k:Nat) (a:σ),l.length-k=d->k<=l.length->d<n->IX n f (mk k a)=cG step fin (l.drop k) k a:=by
 intro d
 induction d with
 |zero=>
  intro n k a e g h;have c:k=l.length:=by omega
  obtain⟨m,rfl⟩:∃ m,n=m+1:=⟨n-1,by omega⟩;subst c;unfold IX;rw[i,List.drop_length];unfold wt cG;cases fin a<;>rfl
 |succ d o=>
  intro n k a e g h;obtain⟨m,rfl⟩:∃ m,n=m+1:=⟨n-1,by omega⟩;have c:k<l.length:=by omega
  have j:l[k]?=zo l[k]:=by simp[c]
  unfold IX;rw[hs k _ a j,List.drop_eq_getElem_cons c]
  show _=match step k l[k] a with
   |none=>zn
   |some (.nx s')=>cG step fin (l.drop (k+1)) (k+1) s'
   |some (.dn b)=>zo b
  cases step k l[k] a with
  |none=>rfl
  |some r=>cases r with
   |nx s'=>exact o m (k+1) s' (by omega) (by omega) (by omega)
   |dn b=>rfl
theorem jQ{l:List α}(mk:Nat->σ->S)(step:Nat->α->σ->Option (LR σ β))(fin:σ->Option β){f:S->Option (LR S β)}{s:S}(a:σ)(b:s=mk 0 a)(d:l.length<=9223372036854775807)
  (hs:∀ k x a,l[k]?=zo x->f (mk k a)=upS (mk (k+1)) (step k x a)) (c:∀ a,f (mk l.length a)=wt (fin a)) :
  loop f s=cG step fin l 0 a:=by
 subst b;have:=gC hs c l.length 18446744073709551616 0 a (by omega) (by omega) (by omega);rw[List.drop_zero]at this;exact this
theorem eh{f:α->Option (LR α β)}{x:β}:∀ {n m:Nat} {s:α},n<=m->IX n f s=zo x->IX m f s=zo x
 |0,_,_,_,h=>by cases h
 |n+1,0,_,hl,_=>by omega
 |n+1,m+1,s,hl,h=>by
  unfold IX at h ⊢;split at h
  ·cases h
  ·rename_i s' e;exact eh (by omega) h
  ·exact h
theorem Vk{f:α->Option (LR α β)}{x:β}{n:Nat}{s:α}(a:n<=18446744073709551616)(h:IX n f s=zo x):loop f s=zo x:=eh a h
theorem U1{f:α->Option (LR α β)}{n:Nat}{s s':α}(h:f s=zo (.nx s')):IX (n+1) f s=IX n f s':=by
 show(match f s with
  |none=>zn
  |some (.nx s)=>IX n f s
  |some (.dn x)=>zo x)=_
 rw[h]
theorem U7{f:α->Option (LR α β)}{n:Nat}{s:α}{x:β}(h:f s=zo (.dn x)):IX (n+1) f s=zo x:=by
 show(match f s with
  |none=>zn
  |some (.nx s)=>IX n f s
  |some (.dn x)=>zo x)=_
 rw[h]
theorem YV{f:S -> Option (LR S β)}{r:β}(mk:Nat -> S)(n:Nat){s:S}(h0:s=mk 0)(hn:n < 18446744073709551616)(hs:∀ k,k < n -> f (mk k)=zo (.nx (mk (k + 1))))(he:f (mk n)=zo (.dn r)):loop f s=zo r:=by
  subst h0
  have:∀ d k,k + d=n -> IX (d + 1) f (mk k)=zo r:=by
    intro d
    induction d with
    | zero => intro k hk; have : k = n := by omega
              subst this;exact U7 he
    |succ d ih=>intro k hk;rw[U1 (hs k (by omega))];exact ih (k + 1) (by omega)
  exact Vk (n:=n + 1) (by omega) (this n 0 (by omega))
end
end
section
open Go Sv
def kE(x:UZ):Int:=if x.1.length>32\/x.2.1.length>64 then 3 else if x.2.2.1=zt/\x.2.1≠[]then 6 else if x.2.2.2<1\/x.2.2.2>1000000000 then 7 else 0
def Zn:Option YA->Nat->List UZ->Int×Int
 |_,_,[]=>(0,0)
 |p,k,x::l=>if kE x≠0 then((k:Int),kE x)else match p with
  |some q=>if S4 q x.1=zt then Zn (zo x.1) (k+1) l else((k:Int),6)
  |none=>Zn (zo x.1) (k+1) l
def WI(l:List UZ):Int×Int:=if l.length>5000 then(-1,3)else Zn zn 0 l
def Asc:Option YA->List UZ->Prop
 |_,[]=>True
 |p,x::l=>(∀ q,p=zo q->S4 q x.1=zt)/\Asc (zo x.1) l
theorem aa:∀ {p k l},(Zn p k l).2=0<->(∀ x∈l,kE x=0)/\Asc p l
 |p,k,[]=>by simp[Zn,Asc]
 |p,k,x::l=>by
  unfold Zn;by_cases h:kE x=0
  ·rw[zx (by simp[h])];cases p with
   |none=>
    simp only[aa (p:=some x.1) (l:=l),Asc,ey,forall_eq_or_imp];constructor
    ·rintro⟨a,b⟩;exact⟨⟨h,a⟩,(λq c=>by cases c),b⟩
    ·rintro⟨⟨_,a⟩,_,b⟩;exact⟨a,b⟩
   |some q=>
    simp only;by_cases c:S4 q x.1=zt
    ·rw[zy c];simp only[aa (p:=some x.1) (l:=l),Asc,ey,forall_eq_or_imp];constructor
     ·rintro⟨a,b⟩;exact⟨⟨h,a⟩,(λe d=>by cases d;exact c),b⟩
     ·rintro⟨⟨_,a⟩,_,b⟩;exact⟨a,b⟩
    ·rw[zx c];constructor
     ·intro h;cases h
     ·rintro⟨_,b⟩;exact absurd (b.1 q rfl) c
  ·rw[zy h];constructor
   ·intro h';exact absurd h' h
   ·rintro⟨a,_⟩;exact absurd (a x (by simp)) h
theorem az:∀ {p k l},(Zn p k l).2=0->Zn p k l=(0,0)
 |p,k,[],_=>rfl
 |p,k,x::l,h=>by
  unfold Zn at h ⊢;by_cases a:kE x=0
  ·rw[zx (by simp[a])]at h ⊢;cases p with
   |none=>exact az h
   |some q=>
    simp only at h ⊢;by_cases b:S4 q x.1=zt
    ·rw[zy b]at h ⊢;exact az h
    ·rw[zx b]at h;cases h
  ·rw[zy a]at h;exact absurd h a
structure VL (l:List UZ):Prop where
 len:l.length<=5000
 ok:∀ x∈l,kE x=0
 asc:Asc zn l
theorem ZF{l:List UZ}:(WI l).2=0<->VL l:=by
 unfold WI;by_cases h:l.length>5000
 ·rw[zy h];constructor
  ·intro h;cases h
  ·intro h';have:=h'.len;omega
 ·rw[zx h];rw[aa];exact⟨λ⟨a,b⟩=>⟨by omega,a,b⟩,λh=>⟨h.ok,h.asc⟩⟩
theorem Zo{l:List UZ}(h:VL l):WI l=(0,0):=by
 have a:=ZF.2 h;unfold WI at a ⊢;rw[zx (by have:=h.len;omega)]at a ⊢;exact az a
theorem Asc.lt:∀ {p:Option YA} {l:List UZ},Asc p l -> ∀ {i:Nat} {x y:UZ},l[i]?=zo x->l[i+1]?=zo y->S4 x.1 y.1=zt
 |p,x::[],_,0,_,_,_,h2=>by simp at h2
 |p,a::b::l,h,0,x,y,h1,h2=>by
  simp at h1 h2;subst h1;subst h2;exact h.2.1 _ rfl
 |p,a::l,h,i+1,x,y,h1,h2=>by
  simp at h1 h2;exact Asc.lt h.2 h1 h2
theorem VL.lt{l:List UZ}(h:VL l){i:Nat}{x y:UZ}(a:l[i]?=zo x)(b:l[i+1]?=zo y):S4 x.1 y.1=zt:=h.asc.lt a b
def kx(l:List UZ)(i:Nat):Uv:=match l[i]? with
 |some x=>(x.1,zf)
 |none=>([],zt)
def w0(p q:Uv):Bool:=if p.2≠q.2 then q.2 else if p.1≠q.1 then S4 p.1 q.1 else zt
def Yn(a b:List UZ)(i j:Nat):Bool:=w0 (kx a i) (kx b j)
def pos(a b:List UZ):Nat->Nat×Nat
 |0=>(0,0)
 |n+1=>if Yn a b (pos a b n).1 (pos a b n).2=zt then((pos a b n).1+1,(pos a b n).2)else((pos a b n).1,(pos a b n).2+1)
def bW(a b:List UZ)(n:Nat):Option UZ:=if Yn a b (pos a b n).1 (pos a b n).2=zt then a[(pos a b n).1]? else b[(pos a b n).2]?
structure Inv (a b:List UZ) (i j:Nat):Prop where
 ia:i<=a.length
 jb:j<=b.length
 pa:∀ i',i=i'+1 -> ∀ x y,a[i']?=zo x->b[j]?=zo y->S4 y.1 x.1=zf
 pb:∀ j',j=j'+1 -> ∀ x y,b[j']?=zo x->a[i]?=zo y->S4 x.1 y.1=zt
theorem cC{a b:List UZ}{i j:Nat}{x y:UZ}(c:a[i]?=zo x)(d:b[j]?=zo y):Yn a b i j = !S4 y.1 x.1:=by
 unfold Yn w0 kx;rw[c,d];simp only[ne_eq,not_true,if_false];by_cases h:x.1=y.1
 ·rw[zx (by simp[h]),h,Xj];rfl
 ·rw[zy h];cases hs:S4 x.1 y.1 with
  |true=>rw[Vw hs];rfl
  |false=>rw[aV hs h];rfl
theorem im{a b:List UZ}{i j:Nat}{x:UZ}(c:a[i]?=zo x)(d:b[j]?=zn):Yn a b i j=zt:=by
 unfold Yn w0 kx;rw[c,d];rfl
theorem io{a b:List UZ}{i j:Nat}{y:UZ}(c:a[i]?=zn)(d:b[j]?=zo y):Yn a b i j=zf:=by
 unfold Yn w0 kx;rw[c,d];rfl
theorem eV{a b:List UZ}{i j:Nat}(c:a[i]?=zn)(d:b[j]?=zn):Yn a b i j=zt:=by
 unfold Yn w0 kx;rw[c,d];rfl
theorem Inv.zero(a b:List UZ):Inv a b 0 0:=⟨by omega,by omega,λ_ h=>by omega,λ_ h=>by omega⟩
theorem Inv.stepA{a b:List UZ}(va:VL a){i j:Nat}(h:Inv a b i j){x:UZ}(c:a[i]?=zo x)(g:Yn a b i j=zt):Inv a b (i+1) j:=by
 have hi:=(a8.1 c).1;refine⟨by omega,h.jb,λl e k y d f=> ?_,λj' e k y d f=> ?_⟩
 ·have:l=i:=by omega
  subst this;rw[c]at d;cases d;rw[cC c f]at g;simpa using g
 ·exact XL (h.pb j' e k x d c) (va.lt c f)
theorem Inv.stepB{a b:List UZ}(n:VL b){i j:Nat}(h:Inv a b i j){y:UZ}(c:b[j]?=zo y)(g:Yn a b i j=zf):Inv a b i (j+1):=by
 have p:=(a8.1 c).1;refine⟨h.ia,by omega,λm e k o d f=> ?_,λj' e k o d f=> ?_⟩
 ·have l:=h.pa m e k y d c;exact Vw (cb l (n.lt c f))
 ·have:j'=j:=by omega
  subst this;rw[c]at d;cases d;rw[cC f c]at g;simpa using g
theorem W9{a b:List UZ}(va:VL a)(f:VL b):∀ {n:Nat},n<=a.length+b.length->Inv a b (pos a b n).1 (pos a b n).2/\(pos a b n).1+(pos a b n).2=n
 |0,_=>⟨Inv.zero a b,rfl⟩
 |n+1,h=>by
  obtain⟨c,hs⟩:=W9 va f (n:=n) (by omega);rw[show pos a b (n+1)=if Yn a b (pos a b n).1 (pos a b n).2=zt then((pos a b n).1+1,(pos a b n).2)else((pos a b n).1,(pos a b n).2+1)from rfl]
  revert c hs;generalize (pos a b n).1=i;generalize (pos a b n).2=j;intro c hs;cases g:Yn a b i j with
  |true=>
   have hi:i<a.length:=by
    refine ol λh'=> ?_;have d:a[i]?=zn:=a9 h';have e:j<b.length:=by have:=c.ia;omega
    rw[io d (by simp[e]:b[j]?=zo b[j])]at g;cases g
   have:=c.stepA va (by simp[hi]:a[i]?=zo a[i]) g;rw[zy rfl];exact⟨this,by omega⟩
  |false=>
   have k:j<b.length:=by
    refine ol λh'=> ?_;have d:b[j]?=zn:=a9 h';cases e:a[i]? with
    |none=>rw[eV e d]at g;cases g
    |some x=>rw[im e d]at g;cases g
   have:=c.stepB f (by simp[k]:b[j]?=zo b[j]) g;rw[zx (by simp)];exact⟨this,by omega⟩
end
section
open Go Sv
def Tt(p q:Uv):We:=([p,q],([0,if w0 p q=zt then 1 else 0],if w0 p q=zt then 0 else 1))
def aW(a b:List UZ)(i j:Nat):WE:=([a,b],([(i:Int),(j:Int)],Tt (kx a i) (kx b j)))
def sH(a b:List UZ)(n:Nat):YA:=match bW a b n with
 |some x=>x.1
 |none=>[]
def fresh(a b:List UZ)(n:Nat)(x:UZ):Bool:=decide (n=0)||decide (sH a b (n-1)≠x.1)
def rK(a b:List UZ)(c:Bool):Nat->List UZ
 |0=>[]
 |n+1=>match bW a b n with
  |some x=>if(fresh a b n x && !(c&&x.2.2.1))=zt then rK a b c n++[x]else rK a b c n
  |none=>rK a b c n
def shN(a b:List UZ)(c:Bool)(n:Nat):VO:=(decide (n≠0),(if n=0 then[]else sH a b (n-1),c))
def Sst(a b:List UZ)(c:Bool)(n:Nat):YZ:=(aW a b (pos a b n).1 (pos a b n).2,(shN a b c n,(rK a b c n,(n:Int))))
def Uq(a b:List UZ):Nat->List UZ
 |0=>[]
 |n+1=>match bW a b n with
  |some x=>Uq a b n++[x]
  |none=>Uq a b n
section
variable{a b:List UZ}(va:VL a)(vb:VL b)
include va vb
theorem Wc{n:Nat}(h:n<a.length+b.length):∃ x,bW a b n=zo x/\(x∈a\/x∈b):=by
 obtain⟨e,hs⟩:=W9 va vb (n:=n) (by omega);unfold bW;revert e hs;generalize (pos a b n).1=i;generalize (pos a b n).2=j;intro e hs;cases g:Yn a b i j with
 |true=>
  have hi:i<a.length:=by
   refine ol λh'=> ?_;have c:a[i]?=zn:=a9 h';have d:j<b.length:=by have:=e.ia;omega
   rw[io c (by simp[d]:b[j]?=zo b[j])]at g;cases g
  exact⟨a[i],by simp[hi],.inl (rY hi)⟩
 |false=>
  have f:j<b.length:=by
   refine ol λh'=> ?_;have c:b[j]?=zn:=a9 h';cases d:a[i]? with
   |none=>rw[eV d c]at g;cases g
   |some x=>rw[im d c]at g;cases g
  exact⟨b[j],by simp[f],.inr (rY f)⟩
theorem lQ{n:Nat}{x:UZ}(h:bW a b n=zo x):kE x=0:=by
 have:x∈a\/x∈b:=by
  unfold bW at h;split at h
  ·exact .inl (bo h)
  ·exact .inr (bo h)
 rcases this with h|h
 ·exact va.ok x h
 ·exact vb.ok x h
theorem iv{n:Nat}(k:n+1<a.length+b.length){x y:UZ}(d:bW a b n=zo x)(c:bW a b (n+1)=zo y):S4 y.1 x.1=zf:=by
 obtain⟨h,hs⟩:=W9 va vb (n:=n) (by omega);unfold bW at d c;rw[show pos a b (n+1)=if Yn a b (pos a b n).1 (pos a b n).2=zt then((pos a b n).1+1,(pos a b n).2)else((pos a b n).1,(pos a b n).2+1)from rfl]at c
 revert h hs d c;generalize (pos a b n).1=i;generalize (pos a b n).2=j;intro d c h hs;cases g:Yn a b i j with
 |true=>
  rw[zy g]at d;simp only[g,if_true]at c;have e:=h.stepA va d g;cases f:Yn a b (i+1) j with
  |true=>rw[zy f]at c;exact Vw (va.lt d c)
  |false=>rw[zx (by simp[f])]at c;exact e.pa i rfl x y d c
 |false=>
  rw[zx (by simp[g])]at d;simp only[g,if_false,kd]at c;have e:=h.stepB vb d g;cases f:Yn a b i (j+1)with
  |true=>rw[zy f]at c;exact Vw (e.pb j rfl x y d c)
  |false=>rw[zx (by simp[f])]at c;exact Vw (vb.lt d c)
theorem Vv:∀ {n:Nat},n<=a.length+b.length->(Uq a b n).length=n
 |0,_=>rfl
 |n+1,h=>by
  obtain⟨x,c,_⟩:=Wc va vb (n:=n) (by omega);unfold Uq;rw[c];simp[Vv (n:=n) (by omega)]
theorem ZO:∀ {n k:Nat},n<=a.length+b.length->k<n->(Uq a b n)[k]?=bW a b k
 |n+1,k,h,hk=>by
  obtain⟨x,d,_⟩:=Wc va vb (n:=n) (by omega);unfold Uq;rw[d];show(Uq a b n++[x])[k]?=_;have e:=Vv va vb (n:=n) (by omega);by_cases c:k<n
  ·rw[List.getElem?_append_left (by omega)];exact ZO (by omega) c
  ·have:k=n:=by omega
   subst this;rw[List.getElem?_append_right (by omega),e];simp[d]
theorem gE{n m:Nat}(d:m<=a.length+b.length)(h:n<=m):(Uq a b m).take n=Uq a b n:=by
 apply List.ext_getElem?;intro k;rw[List.getElem?_take];by_cases c:k<n
 ·rw[zy c,ZO va vb d (by omega),ZO va vb (by omega) c]
 ·rw[zx c,a9];rw[Vv va vb (by omega)];omega
end
end
section
open Go Sv
theorem Ug(n:Nat):Kx n=(n:Int):=rfl
theorem Uc{α:Type}(l:List α):AR l=l.length:=rfl
theorem Zk(l:List UInt8):NA l=l.length:=rfl
theorem ZV:Hl zt=zf:=rfl
theorem ks:Hl zf=zt:=rfl
theorem U2{β:Type}(c:Bool)(x y:Unit->Option β):br (Hl c) x y=br c y x:=TZ c x y
theorem VG{β:Type}{a b:Nat}(h:a<=b)(k:Unit->Option β):gd (CI a b) k=k ():=by rw[Td,zy h]
theorem aH(k:YA):Xp k=zo (if k.length>32 then 3 else 0):=by
 unfold Xp;rw[UF,Ug,Zk];by_cases h:k.length>32
 ·rw[zy (by omega),zy h]
 ·rw[zx (by omega),zx h]
theorem YD(x:UZ):Vi x=zo (kE x):=by
 unfold Vi kE;rw[aH,TW,UI];by_cases e:x.1.length>32
 ·simp[e]
 rw[zx e,zy rfl,UF,Ug,Zk];by_cases f:x.2.1.length>64
 ·rw[zy (by omega),zy (.inr f)]
 rw[zx (by omega:¬ (x.2.1.length:Int)>64),zx (by omega),UL];by_cases b:x.2.2.1=zt
 ·rw[zy b,U2,W1];by_cases c:x.2.1=[]
  ·rw[zy c,zx (by simp[c]),UH,UF];by_cases a:x.2.2.2<1
   ·simp[a]
   ·by_cases d:x.2.2.2>1000000000<;>simp[a,d]
  ·rw[zx c,zy ⟨b,c⟩]
 ·rw[zx b,zx (by simp[b]),UH,UF];by_cases a:x.2.2.2<1
  ·simp[a]
  ·by_cases d:x.2.2.2>1000000000<;>simp[a,d]
theorem W2(l:List UZ)(q:l.length<=9223372036854775807):U8 l=zo (WI l):=by
 unfold U8 WI;rw[UF,Ug,Uc];by_cases h:l.length>5000
 ·rw[zy (by omega),zy h]
 rw[zx (by omega),zx h]
 have key:=jQ (β:=Nat×(Int×Int×Int)×Unit) (l:=l) (λk (_:Int)=>((0:Int),((0:Int),(k:Int))))
  (λk x _=>if kE x≠0 then zo (.dn (0,((kE x,((k:Int),(k:Int))),())))else if k>0 then
    (match l[k-1]? with
    |some y=>if S4 y.1 x.1=zt then zo (.nx 0)else zo (.dn (0,(((6:Int),((k:Int),(k:Int))),())))
    |none=>zn)else zo (.nx 0))
  (λ_=>zo (1,((0,(0,(l.length:Int))),()))) (s:=(0,(0,0))) (0:Int) rfl q (f:=(λs0=>br (Tk s0.2.2 (Kx (AR l))) (λ_=>SW s0.2.2 λB=>ix l B λz=>bd (Vi z) λw=>br (SS w 0) (λ_=>zo (.dn ((0,((w,(s0.2.2,s0.2.2)),()))))) λ_=>br (Ti s0.2.2 0) (λ_=>SW (Ss .i64 s0.2.2 1) λC=>ix l C λD=>br (Hl (S4 D.1 z.1)) (λ_=>zo (.dn ((0,((6,(s0.2.2,s0.2.2)),()))))) λ_=>zo (.nx ((s0.1,(s0.2.1,So .i64 s0.2.2 1))))) λ_=>zo (.nx ((s0.1,(s0.2.1,So .i64 s0.2.2 1))))) λ_=>zo (.dn ((1,(s0,()))))))
  (λk x j b=>by
   simp only;rw[vT b,TB,UY,Tq b,YD,TW,UI];by_cases c:kE x=0
   ·have A:k<l.length:=(a8.1 b).1;simp only[c,if_true,ne_eq,not_true,if_false];rw[UF];by_cases d:k>0
    ·rw[zy (by omega:(k:Int)>0),zy d,TG (by omega),show((k:Int)-1)=((k-1:Nat):Int) by omega,UY];have g:l[k-1]?=zo l[k-1]:=by rw[co (by omega)]
     rw[Tq g,g,U2,YB];simp only;by_cases a:S4 l[k-1].1 x.1=zt
     ·rw[zy a,zy a,Ui b q];rfl
     ·rw[zx a,zx a];rfl
    ·rw[zx (by omega:¬ (k:Int)>0),zx d,Ui b q];rfl
   ·simp only[c,if_false,ne_eq,not_false_iff,if_true];rfl)
  (λj=>by
   simp only
   rw[rQ,Sd];rfl)
 simp only[Ug,Uc]at key;rw[key]
 have i : ∀ (m:List UZ) (k:Nat) (p:Option YA),l.drop k=m->(p=if k=0 then zn else (l[k-1]?).map (·.1)) -> ∀ j,bd (cG (β:=Nat×(Int×Int×Int)×Unit) (λk x (_:Int)=>if kE x≠0 then zo (.dn (0,((kE x,((k:Int),(k:Int))),()))) else if k>0 then
    (match l[k-1]? with
    |some y=>if S4 y.1 x.1=zt then zo (.nx 0)else zo (.dn (0,(((6:Int),((k:Int),(k:Int))),())))
    |none=>zn)else zo (.nx (0:Int))) (λ_=>zo (1,((0,(0,(l.length:Int))),()))) m k j) (λr=>br (neq r.1 0) (λ_=>zo (r.2.1.2.1,r.2.1.1)) λ_=>zo ((0:Int),(0:Int)))=zo (Zn p k m):=by
  intro m
  induction m with
  |nil=>intro k p _ _ j;rfl
  |cons x m u=>
   intro k p t n j
   have b:l[k]?=zo x:=by
    have:=congrArg vt t;rw[sp]at this;simpa using this
   have A:k<l.length:=(a8.1 b).1
   have e:l.drop (k+1)=m:=by
    have:=congrArg tb t;rw[q0]at this;simpa using this
   unfold cG Zn;by_cases c:kE x=0
   ·simp only[c,ne_eq,not_true,if_false];by_cases d:k>0
    ·have g:l[k-1]?=zo l[k-1]:=by rw[co (by omega)]
     rw[zy d,g];rw[zx (by omega:¬ k=0),g]at n;subst n;simp only[Option.map_some];by_cases a:S4 l[k-1].1 x.1=zt
     ·rw[zy a,zy a];exact u (k+1) (zo x.1) e (by rw[zx (by omega)];simp[b]) 0
     ·rw[zx a,zx a];rfl
    ·have o:k=0:=by omega
     subst o;rw[zx d];simp only[if_true]at n;subst n;exact u 1 (zo x.1) e (by simp[b]) 0
   ·simp only[c,ne_eq,not_false_iff,if_true];rfl
 exact i l 0 zn (by simp) (by simp) 0
theorem ak{α β σ S:Type}{l:List α}(mk:Nat->σ->S)(F:List α->Nat->σ->Option β){f:S->Option (LR S β)}{s:S}(a:σ)(p:s=mk 0 a)(w:l.length<=9223372036854775807)
  (t:∀ a,f (mk l.length a)=wt (F [] l.length a))
  (hc:∀ k x m a,l.drop k=x::m->l[k]?=zo x->k<l.length->(∃ b,f (mk k a)=zo (.nx (mk (k+1) b))/\F (x::m) k a=F m (k+1) b)\/f (mk k a)=wt (F (x::m) k a)):loop f s=F l 0 a:=by
 subst p
 have e:∀ (m:List α) (k n:Nat) (a:σ),l.drop k=m->k<=l.length->m.length<n->IX n f (mk k a)=F m k a:=by
  intro m
  induction m with
  |nil=>
   intro k n a c r d;obtain⟨n,rfl⟩:∃ j,n=j+1:=⟨n-1,by omega⟩
   have h:k=l.length:=by
    have:=congrArg List.length c;simp at this;omega
   subst h;unfold IX;rw[t];cases F [] l.length a<;>rfl
  |cons x m u=>
   intro k n a c r d;obtain⟨n,rfl⟩:∃ j,n=j+1:=⟨n-1,by omega⟩
   have o:l[k]?=zo x:=by
    have:=congrArg vt c;rw[sp]at this;simpa using this
   have g:k<l.length:=(a8.1 o).1
   have i:l.drop (k+1)=m:=by
    have:=congrArg tb c;rw[q0]at this;simpa using this
   rcases hc k x m a c o g with⟨b,h1,q⟩|h1
   ·rw[U1 h1,q];exact u (k+1) n b i (by omega) (by simp at d;omega)
   ·unfold IX;rw[h1];cases F (x::m) k a<;>rfl
 exact e l 0 _ a (by simp) (by omega) (by omega)
theorem rl{α:Type}{l:List α}{k:Nat}(h:k<l.length):Tk (k:Int) (l.length:Int)=zt:=by unfold Tk;simp;omega
theorem re{α:Type}(l:List α):Tk (l.length:Int) (l.length:Int)=zf:=by unfold Tk;simp
theorem Uw{α β:Type}{m:Option α}{x:α}{k:α->Option β}{r:Option β}(h:m=zo x)(e:k x=r):bd m k=r:=by subst h;exact e
theorem bD(k:Uv):Wk k=zo (k.2&&decide (k.1≠[])):=by
 unfold Wk;rw[UL];cases h:k.2 with
 |true=>rw[zy rfl,aU];simp[Hl]
 |false=>rw[zx (by simp)];rfl
def Wy(k:Uv):Prop:=k.2=zt->k.1=[]
theorem rC{k:Uv}(h:Wy k):Wk k=zo zf:=by
 rw[bD];cases a:k.2 with
 |true=>simp[h a]
 |false=>rfl
theorem VH(l:List UZ)(i:Nat):Wy (kx l i):=by
 unfold kx Wy;split<;>simp
theorem YF{l:List Uv}(h:∀ k∈l,Wy k)(b:l≠[])(e:l.length<=32):Wp l=zo 0:=by
 unfold Wp;simp only[Ug,Uc];rw[UD,UF,zx (by have:=List.length_pos_iff.2 b;omega),zx (by omega)]
 rw[ak (l:=l) (σ:=Unit) (s:=(0,0)) (λk _=>((0:Int),(k:Int))) (λ_ _ _=>zo (1,((0,(l.length:Int)),()))) () rfl (by omega) (λd=>by
  simp only;rw[re];rfl) (λk x m d _ a c=>.inl ⟨(),by
   simp only;rw[rl c,TB,UY,Tq a,rC (h x (bo a)),TW,Sd,Ui a (by omega)],rfl⟩),TW]
 rfl
theorem Zp{α:Type}{l:List α}(h:l.length<=1048576):(gd (CI (AR l) 1048576) λ_=>zo l)=zo l:=VG h _
theorem e8(p q:Uv):Xr [p,q]=zo (Tt p q):=by
 have g:w0 p q=(if p.2≠q.2 then q.2 else if p.1≠q.1 then S4 p.1 q.1 else zt):=rfl
 unfold Xr;simp only[Ug,Uc,List.length_cons,List.length_nil];rw[show Sp .i64 2 ((0+1+1:Nat):Int)=4 from rfl,show Ss .i64 4 1=3 from rfl];unfold Ul;rw[show SW 4=λk=>k 4 from rfl];simp only[VG (show 4<=1048576 by omega),Zp (show[p,q].length<=1048576 by simp),TW];rw[show SW ((0+1+1:Nat):Int)=λk=>k 2 from rfl];simp only[VG (show 2<=1048576 by omega)];have fin:∀ {w l:Int} {x:Nat×((Int×(List Int×(List Uv×(List Int×Int))))×Unit)},x=(0,((0,([0,w,0,1],([p,q],([0,l],0)))),()))->(gd (KW 1 (AR x.2.1.2.1)) λ_=>ix x.2.1.2.1 1 λd=>zo ((x.2.1.2.2.1,(x.2.1.2.2.2.1,d))))=zo ([p,q],([0,l],w)):=λe=>by subst e;rfl
 have o:∀ {f:(Int×(List Int×(List Uv×(List Int×Int))))->Option (LR (Int×(List Int×(List Uv×(List Int×Int)))) (Nat×((Int×(List Int×(List Uv×(List Int×Int))))×Unit)))} {w l:Int},f (3,([0,0,0,0],([p,q],([0,0],0))))=zo (.nx (2,([0,0,0,1],([p,q],([0,0],0)))))->f (2,([0,0,0,1],([p,q],([0,0],0))))=zo (.nx (1,([0,0,0,1],([p,q],([0,0],0))))) ->
   f (1,([0,0,0,1],([p,q],([0,0],0))))=zo (.nx (0,([0,w,0,1],([p,q],([0,l],0)))))->f (0,([0,w,0,1],([p,q],([0,l],0))))=zo (.dn (0,((0,([0,w,0,1],([p,q],([0,l],0)))),()))) ->
   loop f (3,([0,0,0,0],([p,q],([0,0],0))))=zo (0,((0,([0,w,0,1],([p,q],([0,l],0)))),())):=λa b i j=>
  Vk (n:=4) (by omega) ((U1 a).trans ((U1 b).trans ((U1 i).trans (U7 j))))
 have m:∀ {β:Type} (A B:Option β),w0 p q=zt->br (Hl (beq p.2 q.2)) (λ_=>br (Hl q.2) (λ_=>B) λ_=>A) (λ_=>br (Hl (seq p.1 q.1)) (λ_=>br (Hl (S4 p.1 q.1)) (λ_=>B) λ_=>A) λ_=>A)=A:=fun {β} A B h=>by
  rw[g]at h;rw[U2 (beq p.2 q.2),UL (beq p.2 q.2),U2 q.2,UL q.2,U2 (seq p.1 q.1),W1,U2 (S4 p.1 q.1),YB];by_cases a:p.2=q.2
  ·rw[zx (by simp[a])]at h;rw[zy (by simp[Sv.beq,a])];by_cases b:p.1=q.1
   ·rw[zy b]
   ·rw[zx b];rw[zy b]at h;rw[zy h]
  ·rw[zy a]at h;rw[zx (by simp[Sv.beq,a]),zy h]
 have c:∀ {β:Type} (A B:Option β),w0 p q≠zt->br (Hl (beq p.2 q.2)) (λ_=>br (Hl q.2) (λ_=>B) λ_=>A) (λ_=>br (Hl (seq p.1 q.1)) (λ_=>br (Hl (S4 p.1 q.1)) (λ_=>B) λ_=>A) λ_=>A)=B:=fun {β} A B h=>by
  rw[g]at h;rw[U2 (beq p.2 q.2),UL (beq p.2 q.2),U2 q.2,UL q.2,U2 (seq p.1 q.1),W1,U2 (S4 p.1 q.1),YB];by_cases a:p.2=q.2
  ·rw[zx (by simp[a])]at h;rw[zy (by simp[Sv.beq,a])];by_cases b:p.1=q.1
   ·rw[zx (by simp[b])]at h;exact absurd rfl h
   ·rw[zx b];rw[zy b]at h;rw[zx h]
  ·rw[zy a]at h;rw[zx (by simp[Sv.beq,a]),zx h]
 rw[show R5 4 (0:Int)=[0,0,0,0]from rfl,show R5 2 (0:Int)=[0,0]from rfl];by_cases h:w0 p q=zt
 ·refine Uw (x:=(0,((0,([0,0,0,1],([p,q],([0,1],0)))),()))) ?_ ?_;refine Vk (n:=4) (by omega) ?_;refine(U1 (s':=(2,([0,0,0,1],([p,q],([0,0],0))))) ?_).trans ((U1 (s':=(1,([0,0,0,1],([p,q],([0,0],0))))) ?_).trans ((U1 (s':=(0,([0,0,0,1],([p,q],([0,1],0))))) ?_).trans (U7 ?_)))
  ·rfl
  ·rfl
  ·exact m _ _ h
  ·rfl
  ·show zo ([p,q],([0,1],0))=_;unfold Tt;simp[h]
 ·refine Uw (x:=(0,((0,([0,1,0,1],([p,q],([0,0],0)))),()))) ?_ ?_;refine Vk (n:=4) (by omega) ?_;refine(U1 (s':=(2,([0,0,0,1],([p,q],([0,0],0))))) ?_).trans ((U1 (s':=(1,([0,0,0,1],([p,q],([0,0],0))))) ?_).trans ((U1 (s':=(0,([0,1,0,1],([p,q],([0,0],0))))) ?_).trans (U7 ?_)))
  ·rfl
  ·rfl
  ·exact c _ _ h
  ·rfl
  ·show zo ([p,q],([0,0],1))=_;unfold Tt;simp[h]
theorem ay{p q:Uv}(a:Wy p)(b:Wy q):V6 [p,q]=zo (Tt p q,0):=by
 unfold V6;rw[YF (by simp[a,b]) (by simp) (by simp),TW,UI,zy rfl,e8,TW]
theorem gB{p q:Uv}(c:Wy p)(d:Wy q):YK (Tt p q)=zo (0,0):=by
 unfold YK;rw[show(Tt p q).1=[p,q]from rfl,YF (by simp[c,d]) (by simp) (by simp),TW,UI,zy rfl,UI,zy (show Kx (AR (Tt p q).2.1)=Kx (AR [p,q])from rfl),e8,TW];simp only[Ug,Uc]
 rw[ak (l:=(Tt p q).2.1) (σ:=Unit) (s:=(0,(0,0))) (λk _=>((0:Int),((k:Int),(0:Int)))) (λ_ _ _=>zo (1,((0,(((Tt p q).2.1.length:Int),0)),()))) () rfl (show 2<=9223372036854775807 by omega) (λe=>by
  simp only;rw[re];rfl) (λk x m e _ a b=>.inl ⟨(),by
   simp only;rw[rl b,TB,UY,Tq a,UY,Tq a,UI,zy rfl,Ui a (show 2<=9223372036854775807 by omega)],rfl⟩),TW]
 rw[show neq 1 0=zf from rfl,Sd,UI,zy rfl]
def wn(p q:Uv):Nat:=if w0 p q=zt then 0 else 1
def wk(p q:Uv):Uv:=if w0 p q=zt then p else q
theorem fi(p q:Uv):(Tt p q).2.2=(wn p q:Int):=by unfold Tt wn;split<;>rfl
theorem fh(p q:Uv):(Tt p q).1[wn p q]?=zo (wk p q):=by unfold Tt wn wk;split<;>rfl
theorem ew{p q:Uv}(a:Wy p)(b:Wy q):Xq (Tt p q)=zo (if(wk p q).2=zt then 12 else 0):=by
 unfold Xq;rw[gB a b,TW,UI,zy rfl,fi,UY,Tq (fh p q),UL];split<;>rfl
theorem Yx{p q:Uv}(a:Wy p)(b:Wy q):WB (Tt p q)=zo (if(wk p q).2=zt then(0,([],12))else((wn p q:Int),((wk p q).1,0))):=by
 unfold WB;rw[ew a b,TW,UI,fi,UY,Tq (fh p q)];by_cases h:(wk p q).2=zt<;>simp[h]
def rk(p q k:Uv):Uv×Uv:=if w0 p q=zt then(k,q)else(p,k)
theorem lH(p q:Uv):VE (0,(1,([p,q],())))=zo (w0 p q):=by
 unfold VE w0;show br (Hl (beq p.2 q.2)) (λ_=>zo q.2) (λ_=>br (Hl (seq p.1 q.1)) (λ_=>zo (S4 p.1 q.1)) λ_=>zo (Tk 0 1))=_;rw[U2 (beq p.2 q.2),UL (beq p.2 q.2),U2 (seq p.1 q.1),W1];by_cases a:p.2=q.2
 ·rw[zy (show Sv.beq p.2 q.2=zt by simp[Sv.beq,a]),zx (show ¬ p.2≠q.2 by simp[a])];by_cases b:p.1=q.1
  ·rw[zy b,zx (show ¬ p.1≠q.1 by simp[b])];rfl
  ·rw[zx b,zy b]
 ·rw[zx (show ¬ Sv.beq p.2 q.2=zt by simp[Sv.beq,a]),zy a]
theorem lI(p q:Uv):VE (1,(0,([p,q],())))=zo (!w0 p q):=by
 unfold VE w0;show br (Hl (beq q.2 p.2)) (λ_=>zo p.2) (λ_=>br (Hl (seq q.1 p.1)) (λ_=>zo (S4 q.1 p.1)) λ_=>zo (Tk 1 0))=_;rw[U2 (beq q.2 p.2),UL (beq q.2 p.2),U2 (seq q.1 p.1),W1];by_cases b:p.2=q.2
 ·rw[zy (show Sv.beq q.2 p.2=zt by simp[Sv.beq,b]),zx (show ¬ p.2≠q.2 by simp[b])];by_cases a:p.1=q.1
  ·rw[zy a.symm,zx (show ¬ p.1≠q.1 by simp[a])];rfl
  ·rw[zx (show ¬ q.1=p.1 from λe=>a e.symm),zy a];cases hs:S4 p.1 q.1 with
   |true=>rw[Vw hs];rfl
   |false=>rw[aV hs a];rfl
 ·rw[zx (show ¬ Sv.beq q.2 p.2=zt by simp[Sv.beq,Ne.symm b]),zy b];cases c:p.2<;>cases d:q.2<;>simp_all
theorem Y8{p q k:Uv}(y:Wy p)(z:Wy q)(x:Wy k)(A:(wk p q).2=zf)(l:k.2=zt\/S4 k.1 (wk p q).1=zf) :
  ∃ n,Vy (Tt p q,k)=zo (Tt (rk p q k).1 (rk p q k).2,(n,0)):=by
 have g:(Tt p q).1.length<=1048576:=by show 2<=_;omega
 have c:(Tt p q).2.1.length<=1048576:=by show 2<=_;omega
 have i:lset (Tt p q).1 (wn p q) k=[(rk p q k).1,(rk p q k).2]:=by unfold Tt wn rk;split<;>rfl
 have d:(Tt p q).2.1=[0,(1-(wn p q:Int))]:=by unfold Tt wn;split<;>rfl
 have o:wn p q=0\/wn p q=1:=by unfold wn;split<;>simp
 have up:∀ {f:(Int×(Int×(Unit×(List Int×Int))))->Option (LR (Int×(Int×(Unit×(List Int×Int)))) (Nat×((Int×(Int×(Unit×(List Int×Int))))×Unit)))},
   (f=λa=>br (O3 (Tl .i64 a.2.1 2) 0) (λ_=>zo (.dn ((0,((a.1,(Tl .i64 a.2.1 2,((),a.2.2.2))),()))))) λ_=>SW (Tl .i64 a.2.1 2) λu=>gd (KW u (AR a.2.2.2.1)) λ_=>ix a.2.2.2.1 u λs=>bd (VE ((s,(a.2.2.2.2,([(rk p q k).1,(rk p q k).2],()))))) λr=>br r (λ_=>SW (Tl .i64 a.2.1 2) λj=>gd (KW j (AR a.2.2.2.1)) λ_=>ix a.2.2.2.1 j λt=>SW (Tl .i64 a.2.1 2) λe=>gd (KW e (AR a.2.2.2.1)) λ_=>ix a.2.2.2.1 e λD=>zo (.nx ((So .i64 a.1 1,(Tl .i64 a.2.1 2,((),(lset a.2.2.2.1 e a.2.2.2.2,t))))))) λ_=>zo (.nx ((So .i64 a.1 1,(Tl .i64 a.2.1 2,((),a.2.2.2))))))
   -> loop f (0,((2:Int)+wn p q,((),([0,(1-(wn p q:Int))],(wn p q:Int)))))=zo (0,((1,(0,((),(Tt (rk p q k).1 (rk p q k).2).2))),())):=by
  intro f w;subst w;refine Vk (n:=2) (by omega) ((U1 (s':=(1,(1,((),(Tt (rk p q k).1 (rk p q k).2).2)))) ?_).trans (U7 rfl));rcases o with h|h
  ·rw[h]
   have B:w0 p q=zt:=by
    unfold wn at h;by_cases hh:w0 p q=zt
    ·exact hh
    ·rw[zx hh]at h;cases h
   show bd (VE (1,(0,([(rk p q k).1,(rk p q k).2],())))) _=_;rw[lI,TW];unfold Tt;cases C:w0 (rk p q k).1 (rk p q k).2<;>rfl
  ·rw[h];show bd (VE (0,(1,([(rk p q k).1,(rk p q k).2],())))) _=_;rw[lH,TW];unfold Tt;cases C:w0 (rk p q k).1 (rk p q k).2<;>rfl
 unfold Vy;simp only[ew y z,A,TW,UI,if_true,if_false,kd];rw[YF (by simp[x]) (by simp) (by simp),TW];simp only[if_true,U2];rw[UL];unfold Ul Us;simp only[fi,UY,Tq (fh p q),VG g,VG c,TW,YB,Te,Uc,Ug,i];have m:wn p q<(Tt p q).1.length:=by show wn p q<2;omega
 have hi:So .i64 (([(rk p q k).1,(rk p q k).2].length:Nat):Int) (wn p q:Int)=(2:Int)+wn p q:=by
  rw[TE (by simp;omega)];rfl
 rw[hi,d];simp only[Uc,Te]at up;have key:=up rfl;rw[zy m];by_cases b:k.2=zt
 ·rw[zy b,key,TW];exact⟨_,rfl⟩
 ·rw[zx b,zx (by rcases l with h|h;exact absurd h b;rw[h];simp),key,TW]
  exact⟨_,rfl⟩
end
end Go.Proofs.YtfceigpbgndbgaaGreatDoor.Pl
