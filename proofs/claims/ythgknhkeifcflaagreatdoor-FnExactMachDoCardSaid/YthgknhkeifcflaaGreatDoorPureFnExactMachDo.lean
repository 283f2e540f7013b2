/- The pure statement of FnExactMachDo. No condition. -/
import Derived.Test.YthgknhkeifcflaaGreatDoorM2
import Derived.Test.YthgknhkeifcflaaGreatDoorTDe1
import Derived.Test.YthgknhkeifcflaaGreatDoorTDe2
import Derived.Test.YthgknhkeifcflaaGreatDoorTDe3
import Derived.Test.YthgknhkeifcflaaGreatDoorTDe4
import Derived.Test.YthgknhkeifcflaaGreatDoorQFnExactMachDo
namespace Go.Proofs.YthgknhkeifcflaaGreatDoor.E.TD
open Go.Proofs.YthgknhkeifcflaaGreatDoor.E
set_option linter.unusedVariables false
theorem Mv{d:Nat}{x:bK}(h:df (G:=gam) (d+3) (.nm 16) x):Bt x.Line:=by
 have h':_∧_∧(x.Line.length≤9223372036854775807∧∀ b∈x.Line,0≤b∧b≤255)∧_:=h
 exact h'.2.2.1.2
theorem R5:Ks:=by
 intro p m c hp hm hc
 rw[PY]
 obtain⟨q1,e1,e2,e3⟩:=Np p 1048576 (M6 (d:=35) hp) (by omega) (by omega)
 rw[e1,aa]
 dsimp only
 by_cases c1:q1<0
 ·rw[ak c1]
 rw[aj c1]
 obtain⟨q2,f1,f2,f3⟩:=Nm m q1 (M5 (d:=33) hm) (by omega) e2
 rw[f1,aa]
 dsimp only
 by_cases c2:q2<0
 ·rw[ak c2]
 rw[aj c2]
 obtain⟨q3,g1,g2,g3⟩:=Nk c q2 (M4 (d:=37) hc) (by omega) f2
 rw[g1,aa]
 dsimp only
 by_cases c3:q3<0
 ·rw[ak c3]
 rw[aj c3]
 have gp:=e3 (by omega)
 have gm:=f3 (by omega)
 have gc:=g3 (by omega)
 have bp:=KQ gp (Mx (d:=35) hp)
 have bm:=KP gm (Mw (d:=33) hm)
 have gi:=MR (M9 gm)
 have hb:Bt (sS c).Line:=Mv (d:=37) hc
 have hl:(sS c).Line.length≤2097152:=by
  show c.Line.length≤_
  have h:c.Line.length≤1048576:=gc
  omega
 have t1:=Rg bp gi bm.1 hb
 have t2:=Rh bp gi bm.1 hb hl
 have gr:=Rf bp gi bm.1 hb
 obtain⟨k1,m1,m2,m3⟩:=Nf (mf p) 1 (Dn gp) (by omega) (by omega)
 obtain⟨k2,x2,n1,n2,n3,n4⟩:=Dz (nL m) k1 gi (by omega) (by omega)
 obtain⟨k3,x3,w1,w2,w3,w4⟩:=Dz (mC (mf p) (nL m) (sS c)) 1 gr (by omega) (by omega)
 have c4:¬ k2<0:=by omega
 have c5:¬ k3<0:=by omega
 simp only[Nz p gp,Nx m gm,Nv c gc,t1,t2,M0 _ (Dn gp),Dr _ gi,Dr _ gr,m1,n1,w1,w2,aa,decide_true,Bool.not_true,Bool.false_eq_true,if_false,ab,bo c4,bo c5]
end Go.Proofs.YthgknhkeifcflaaGreatDoor.E.TD
