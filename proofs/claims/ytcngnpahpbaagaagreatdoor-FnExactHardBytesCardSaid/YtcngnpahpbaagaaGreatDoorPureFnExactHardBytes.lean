/- The pure statement of FnExactHardBytes. No condition. -/
import Derived.Test.YtcngnpahpbaagaaGreatDoorM2
import Derived.Test.YtcngnpahpbaagaaGreatDoorTHe1
import Derived.Test.YtcngnpahpbaagaaGreatDoorTHe2
import Derived.Test.YtcngnpahpbaagaaGreatDoorTHe3
import Derived.Test.YtcngnpahpbaagaaGreatDoorQFnExactHardBytes
namespace Go.Proofs.YtcngnpahpbaagaaGreatDoor.E.TH
open Go.Proofs.YtcngnpahpbaagaaGreatDoor.E
set_option linter.unusedVariables false
theorem pureFnExactHardBytes:PureFnExactHardBytes:=by
 intro p h hp hh
 obtain ⟨q1,e1,e2,e3⟩:=hsz_Prog p 1048576 (hf_Prog (d:=35) hp) (by omega) (by omega)
 rw [l_FnExactHardBytes_eq,e1,Option.bind_some]
 dsimp only
 by_cases c1:q1 < 0
 ·rw [if_pos (decide_eq_true c1)]
 ·rw [if_neg (by rw [decide_eq_true_eq]; exact c1)]
  obtain ⟨q2,f1,f2,f3⟩:=hsz_Hard h q1 (hf_Hard (d:=32) hh) (by omega) e2
  rw [f1,Option.bind_some]
  dsimp only
  by_cases c2:q2 < 0
  ·rw [if_pos (decide_eq_true c2)]
  ·rw [if_neg (by rw [decide_eq_true_eq]; exact c2)]
   have gp:=e3 (by omega)
   have gh:=f3 (by omega)
   have bp:=bProg gp (fb_Prog (d:=35) hp)
   have bh:=bHard gh (fb_Hard (d:=32) hh)
   obtain ⟨l,t1,t2,hl⟩:=hardBytes_same _ _ bp bh
   obtain ⟨k1,m1,m2,m3⟩:=hmk_Prog (hc_Prog p) 1 (gi_up_Prog gp) (by omega) (by omega)
   obtain ⟨k2,x2,n1,n2,n3,n4⟩:=hmk_Hard (hc_Hard h) k1 (gi_mono_Hard (hg_Hard gh)) (by omega) (by omega)
   obtain ⟨k3,l3,w1,w2,_,w3,w4⟩:=hmk_ByteS l 1 (by omega) (by omega) (by omega)
   have c3:¬ k2 < 0:=by omega
   have c4:¬ k3 < 0:=by omega
   simp only [hto_Prog p gp,hto_Hard h gh,t1,t2,heq_Prog _ (gi_up_Prog gp),heq_Hard _ (gi_mono_Hard (hg_Hard gh)),heq_ByteS _ (show l.length≤2097152 by omega),m1,n1,w1,w2,Option.bind_some,decide_true,Bool.not_true,Bool.false_eq_true,if_false,decide_eq_true_eq,if_neg c3,if_neg c4]
end Go.Proofs.YtcngnpahpbaagaaGreatDoor.E.TH
