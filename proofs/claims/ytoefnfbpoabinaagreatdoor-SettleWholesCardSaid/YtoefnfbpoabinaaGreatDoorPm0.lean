/- Functions of the program and of the specification as plain functions, and laws about them. No condition. -/
import Derived.Test.YtoefnfbpoabinaaGreatDoorPp9
set_option linter.all false
open Bool renaming true->zt, false->zf
namespace Go.Proofs.YtoefnfbpoabinaaGreatDoor.Pl
open Go Sv Go.Sort Go.Proofs
theorem rD:SWO (ltOf λ(x y:{x:IB // Ur x=zt})=>rC x.1 y.1):=by
 refine⟨λx=> ?_,λx y z b a=> ?_,λx y z b a=> ?_⟩
 all_goals simp only[ltOf,decide_eq_true_eq,decide_eq_false_iff_not,ku]at *
 ·rintro (h|h)
  ·rw[WV]at h;cases h
  ·omega
 ·rcases b with b|⟨b,f⟩
  ·rcases a with a|⟨a,g⟩
   ·exact .inl (WR b a)
   ·rw[<- a];exact .inl b
  ·rw[b];rcases a with a|⟨a,g⟩
   ·exact .inl a
   ·exact .inr ⟨a,by omega⟩
 ·intro h
  have d:TZ x.1.1 y.1.1=zf:=by
   cases e:TZ x.1.1 y.1.1 with
   |false=>rfl
   |true=>exact absurd (.inl e) b
  have c:TZ y.1.1 z.1.1=zf:=by
   cases e:TZ y.1.1 z.1.1 with
   |false=>rfl
   |true=>exact absurd (.inl e) a
  rcases h with h|⟨h,f⟩
  ·rw[dG d h]at c;cases c
  ·rcases Z3 x.1.1 y.1.1 with e|e|e
   ·rw[d]at e;cases e
   ·have i:¬ y.1.2.2.2<x.1.2.2.2:=λe2=>b (.inr ⟨e,e2⟩);have j:¬ z.1.2.2.2<y.1.2.2.2:=λe2=>a (.inr ⟨e.symm.trans h,e2⟩);omega
   ·rw[<- h,e]at c;cases c
end Go.Proofs.YtoefnfbpoabinaaGreatDoor.Pl
