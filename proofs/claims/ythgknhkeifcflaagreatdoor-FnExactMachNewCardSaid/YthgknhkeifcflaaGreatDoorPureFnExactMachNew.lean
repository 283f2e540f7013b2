/- The pure statement of FnExactMachNew. No condition. -/
import Derived.Test.YthgknhkeifcflaaGreatDoorM2
import Derived.Test.YthgknhkeifcflaaGreatDoorTFe1
import Derived.Test.YthgknhkeifcflaaGreatDoorTFe2
import Derived.Test.YthgknhkeifcflaaGreatDoorTFe3
import Derived.Test.YthgknhkeifcflaaGreatDoorQFnExactMachNew
namespace Go.Proofs.YthgknhkeifcflaaGreatDoor.E.TF
open Go.Proofs.YthgknhkeifcflaaGreatDoor.E
set_option linter.unusedVariables false
theorem Pd:Iy:=by
 intro p hp
 rw[Nk]
 obtain⟨q1,e1,e2,e3⟩:=KY p 1048576 (KP (d:=35) hp) (by omega) (by omega)
 rw[e1,aa]
 dsimp only
 by_cases c1:q1<0
 ·rw[ak c1]
 rw[aj c1]
 have gp:=e3 (by omega)
 have bp:=IY gp (Kl (d:=35) hp)
 have t1:=Oq bp
 have t2:=Or bp
 have gr:=Oo bp
 obtain⟨k1,m1,m2,m3⟩:=KU (lN p) 1 (BV gp) (by omega) (by omega)
 obtain⟨k3,x3,w1,w2,w3,w4⟩:=KT (mc (lN p)) 1 gr (by omega) (by omega)
 have c3:¬ k1<0:=by omega
 have c4:¬ k3<0:=by omega
 simp only[K0 p gp,t1,t2,KM _ (BV gp),KK _ gr,m1,w1,w2,aa,decide_true,Bool.not_true,Bool.false_eq_true,if_false,ab,bn c3,bn c4]
end Go.Proofs.YthgknhkeifcflaaGreatDoor.E.TF
