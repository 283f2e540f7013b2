/- The pure statement of FnExactRunStart. No condition. -/
import Derived.Test.YtjglhackafgjiaaGreatDoorM2
import Derived.Test.YtjglhackafgjiaaGreatDoorTBe1
import Derived.Test.YtjglhackafgjiaaGreatDoorTBe2
import Derived.Test.YtjglhackafgjiaaGreatDoorTBe3
import Derived.Test.YtjglhackafgjiaaGreatDoorQFnExactRunStart
namespace Go.Proofs.YtjglhackafgjiaaGreatDoor.E.TB
open Go.Proofs.YtjglhackafgjiaaGreatDoor.E
set_option linter.unusedVariables false
theorem Jh:iJ 2097152 ⟨[],[],0,0⟩:=⟨⟨Nat.zero_le _,fun y hy=>by cases hy⟩,⟨Nat.zero_le _,fun y hy=>by cases hy⟩⟩
theorem NA:Ha:=by
 intro p hp
 rw[LO]
 obtain⟨q1,e1,e2,e3⟩:=JA p 1048576 (Jt (d:=35) hp) (by omega) (by omega)
 rw[e1,aa]
 dsimp only
 by_cases c1:q1<0
 ·rw[ak c1]
 rw[aj c1]
 have gp:=e3 (by omega)
 have bp:=Hv gp (IZ (d:=35) hp)
 obtain⟨t1,t2⟩:=Qu bp
 have gr:iJ 2097152 (jS (gf p)).1:=by
  unfold jS
  by_cases c:eZ (gf p)=true
  ·have hP:PrI (gf p):=⟨c,bp⟩
   rw[if_pos c];exact(Fz hP).2.2.1.gi (by have:=hP.nv;omega)
  ·rw[if_neg c];exact Jh
 obtain⟨k1,m1,m2,m3⟩:=Jw (gf p) 1 (Az gp) (by omega) (by omega)
 obtain⟨k3,x3,w1,w2,w3,w4⟩:=Jx (jS (gf p)).1 1 gr (by omega) (by omega)
 have c3:¬ k1<0:=by omega
 have c4:¬ k3<0:=by omega
 simp only[JC p gp,t1,t2,Jp _ (Az gp),Jq _ gr,m1,w1,w2,aa,decide_true,Bool.not_true,Bool.false_eq_true,if_false,ab,if_neg c3,if_neg c4]
end Go.Proofs.YtjglhackafgjiaaGreatDoor.E.TB
