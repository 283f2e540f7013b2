/- The pure statement of FnExactRun. No condition. -/
import Derived.Test.YtijfhaljjmhibaaGreatDoorM2
import Derived.Test.YtijfhaljjmhibaaGreatDoorTVe1
import Derived.Test.YtijfhaljjmhibaaGreatDoorTVe2
import Derived.Test.YtijfhaljjmhibaaGreatDoorTVe3
import Derived.Test.YtijfhaljjmhibaaGreatDoorQFnExactRun
namespace Go.Proofs.YtijfhaljjmhibaaGreatDoor.E.TV
open Go.Proofs.YtijfhaljjmhibaaGreatDoor.E
set_option linter.unusedVariables false
theorem Pf:Ir:=by
 intro p s line hp hs hline
 rw[Nm]
 by_cases c0:(line.length:Int)>1048576
 ·rw[ak c0]
 rw[aj c0]
 obtain⟨q1,e1,e2,e3⟩:=KX p 1048576 (KM (d:=35) hp) (by omega) (by omega)
 rw[e1,aa]
 dsimp only
 by_cases c1:q1<0
 ·rw[ak c1]
 rw[aj c1]
 obtain⟨q2,f1,f2,f3⟩:=KY s q1 (KN (d:=34) hs) (by omega) e2
 rw[f1,aa]
 dsimp only
 by_cases c2:q2<0
 ·rw[ak c2]
 rw[aj c2]
 have gp:=e3 (by omega)
 have gs:=f3 (by omega)
 have bp:=IQ gp (Kj (d:=35) hp)
 have bs:=IR gs (Kk (d:=34) hs)
 have gi:=KB (KQ gs)
 have hl:line.length≤2097152∧Bt line:=⟨by omega,hline.2⟩
 obtain⟨t1,t2⟩:=PS bp bs hl ⟨bs.1.1,bs.2.1⟩
 have gr:=PP bp bs gi hl
 obtain⟨k1,m1,m2,m3⟩:=KS (kM p) 1 (Bu gp) (by omega) (by omega)
 obtain⟨k2,x2,n1,n2,n3,n4⟩:=BH (md s) k1 gi (by omega) (by omega)
 obtain⟨k3,x3,w1,w2,w3,w4⟩:=BH (f9 (kM p) (md s) line).1 1 gr (by omega) (by omega)
 have c3:¬ k2<0:=by omega
 have c4:¬ k3<0:=by omega
 simp only[K3 p gp,K4 s gs,t1,t2,KJ _ (Bu gp),Bz _ gi,Bz _ gr,m1,n1,w1,w2,aa,decide_true,Bool.not_true,Bool.false_eq_true,if_false,ab,if_neg c3,if_neg c4]
end Go.Proofs.YtijfhaljjmhibaaGreatDoor.E.TV
