/- The pure statement of FnExactRunAll. No condition. -/
import Derived.Test.YtjglhackafgjiaaGreatDoorM2
import Derived.Test.YtjglhackafgjiaaGreatDoorTAe1
import Derived.Test.YtjglhackafgjiaaGreatDoorTAe2
import Derived.Test.YtjglhackafgjiaaGreatDoorTAe3
import Derived.Test.YtjglhackafgjiaaGreatDoorQFnExactRunAll
namespace Go.Proofs.YtjglhackafgjiaaGreatDoor.E.TA
open Go.Proofs.YtjglhackafgjiaaGreatDoor.E
set_option linter.unusedVariables false
theorem Om:HS:=by
 intro p ts hp hts
 rw[MC]
 obtain⟨q1,e1,e2,e3⟩:=Kk p 1048576 (Kd (d:=35) hp) (by omega) (by omega)
 rw[e1,aa]
 dsimp only
 by_cases c1:q1<0
 ·rw[ak c1]
 rw[aj c1]
 obtain⟨q2,f1,f2,f3⟩:=vl ts q1 ⟨hts.1,fun l hl=>(hts.2 l hl).1⟩ (by omega) e2
 rw[f1,aa]
 dsimp only
 by_cases c2:q2<0
 ·rw[ak c2]
 rw[aj c2]
 have gp:=e3 (by omega)
 have gs:=f3 (by omega)
 have bp:=Ij gp (JM (d:=35) hp)
 have gs2:ts.length≤2097152∧∀ x∈ts,x.length≤2097152:=⟨by omega,fun l hl=>by have:=gs.2 l hl;omega⟩
 obtain⟨t1,t2,t3⟩:=H1 (ts:=ts) bp gs2.1 (fun l hl=>⟨gs2.2 l hl,(hts.2 l hl).2⟩)
 have gr:kj 2097152 (gQ (g9 p) ts).1:=by
  rcases t3 with ⟨h1,h2⟩ | h
  ·have hP:PrI (g9 p):=⟨h1,bp⟩
   exact h2.gi (by have:=hP.nv;omega)
  ·rw[h];exact⟨⟨Nat.zero_le _,fun y hy=>by cases hy⟩,⟨Nat.zero_le _,fun y hy=>by cases hy⟩⟩
 obtain⟨k1,m1,m2,m3⟩:=Kg (g9 p) 1 (Bd gp) (by omega) (by omega)
 obtain⟨k2,n1,n2,n3⟩:=vk ts k1 gs2 (by omega) (by omega)
 obtain⟨k3,x3,w1,w2,w3,w4⟩:=Kh (gQ (g9 p) ts).1 1 gr (by omega) (by omega)
 have c3:¬ k2<0:=by omega
 have c4:¬ k3<0:=by omega
 simp only[Km p gp,vm ts gs,t1,t2,Ka _ (Bd gp),vj ts gs2,Kb _ gr,m1,n1,w1,w2,aa,decide_true,Bool.not_true,Bool.false_eq_true,if_false,ab,if_neg c3,if_neg c4]
end Go.Proofs.YtjglhackafgjiaaGreatDoor.E.TA
