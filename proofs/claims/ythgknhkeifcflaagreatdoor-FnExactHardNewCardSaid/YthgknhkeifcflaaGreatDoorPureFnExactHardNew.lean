/- The pure statement of FnExactHardNew. No condition. -/
import Derived.Test.YthgknhkeifcflaaGreatDoorM2
import Derived.Test.YthgknhkeifcflaaGreatDoorTGe1
import Derived.Test.YthgknhkeifcflaaGreatDoorTGe2
import Derived.Test.YthgknhkeifcflaaGreatDoorTGe3
import Derived.Test.YthgknhkeifcflaaGreatDoorQFnExactHardNew
namespace Go.Proofs.YthgknhkeifcflaaGreatDoor.E.TG
open Go.Proofs.YthgknhkeifcflaaGreatDoor.E
set_option linter.unusedVariables false
noncomputable def lV(p:bC):bv:=if fb p=true then⟨0,-1,lt,dQ p⟩ else⟨0,0,lt,noM⟩
theorem Lv{p:bC}(hp:jX p):sm p=some (lV p,()):=by
 unfold lV
 rw[LS,wM p hp]
 by_cases c:fb p=true
 ·simp only[aa,c,Bool.not_true,Bool.false_eq_true,if_false,if_true,(yA ⟨c,hp⟩).1]
 ·have c':fb p=false:=by simpa using c
  simp only[aa,c',Bool.not_false,if_true,Bool.false_eq_true,if_false]
  rfl
theorem Lw{p:bC}(hp:jX p):zh p=some (lV p,()):=by
 unfold lV
 rw[Q0,Rc p hp]
 by_cases c:fb p=true
 ·simp only[aa,c,Bool.not_true,Bool.false_eq_true,if_false,if_true,(yA ⟨c,hp⟩).2.1]
 ·have c':fb p=false:=by simpa using c
  simp only[aa,c',Bool.not_false,if_true,Bool.false_eq_true,if_false]
  rfl
theorem Lu{p:bC}(hp:jX p):oX 2097152 (lV p):=by
 unfold lV
 by_cases c:fb p=true
 ·rw[bm c];exact⟨⟨Nat.zero_le _,fun y hy=>by cases hy⟩,(yA ⟨c,hp⟩).2.2.gi ⟨c,hp⟩⟩
 ·rw[bn c];exact⟨⟨Nat.zero_le _,fun y hy=>by cases hy⟩,Pi⟩
theorem PX:I0:=by
 intro p hp
 rw[NW]
 obtain⟨q1,e1,e2,e3⟩:=Ly p 1048576 (Lh (d:=35) hp) (by omega) (by omega)
 rw[e1,aa]
 dsimp only
 by_cases c1:q1<0
 ·rw[ak c1]
 rw[aj c1]
 have gp:=e3 (by omega)
 have bp:=Jl gp (KI (d:=35) hp)
 have t1:=Lv bp
 have t2:=Lw bp
 have gr:=Lu bp
 obtain⟨k1,m1,m2,m3⟩:=Lr (lT p) 1 (Cm gp) (by omega) (by omega)
 obtain⟨k3,x3,w1,w2,w3,w4⟩:=Ll (lV (lT p)) 1 gr (by omega) (by omega)
 have c3:¬ k1<0:=by omega
 have c4:¬ k3<0:=by omega
 simp only[LA p gp,t1,t2,Le _ (Cm gp),K9 _ gr,m1,w1,w2,aa,decide_true,Bool.not_true,Bool.false_eq_true,if_false,ab,bn c3,bn c4]
end Go.Proofs.YthgknhkeifcflaaGreatDoor.E.TG
