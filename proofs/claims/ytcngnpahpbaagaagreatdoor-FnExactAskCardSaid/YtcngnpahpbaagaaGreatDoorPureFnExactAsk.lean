/- The pure statement of FnExactAsk. No condition. -/
import Derived.Test.YtcngnpahpbaagaaGreatDoorM3
import Derived.Test.YtcngnpahpbaagaaGreatDoorTHe1
import Derived.Test.YtcngnpahpbaagaaGreatDoorTHe2
import Derived.Test.YtcngnpahpbaagaaGreatDoorTHe3
import Derived.Test.YtcngnpahpbaagaaGreatDoorQFnExactAsk
namespace Go.Proofs.YtcngnpahpbaagaaGreatDoor.E.TH
open Go.Proofs.YtcngnpahpbaagaaGreatDoor.E
set_option linter.unusedVariables false
theorem pureFnExactAsk:PureFnExactAsk:=by
 intro p h k hp hh hk
 obtain ⟨q1,e1,e2,e3⟩:=hsz_Prog p 1048576 (hf_Prog (d:=35) hp) (by omega) (by omega)
 rw [l_FnExactAsk_eq,e1,Option.bind_some]
 dsimp only
 by_cases c1:q1 < 0
 ·rw [if_pos (decide_eq_true c1)]
 rw [if_neg (by rw [decide_eq_true_eq]; exact c1)]
 obtain ⟨q2,f1,f2,f3⟩:=hsz_Peer h q1 (hf_Peer (d:=31) hh) (by omega) e2
 rw [f1,Option.bind_some]
 dsimp only
 by_cases c2:q2 < 0
 ·rw [if_pos (decide_eq_true c2)]
 rw [if_neg (by rw [decide_eq_true_eq]; exact c2)]
 have gp:=e3 (by omega)
 have gh:=f3 (by omega)
 have bp:=bProg gp (fb_Prog (d:=35) hp)
 have bh:=bPeer gh (fb_Peer (d:=31) hh)
 have kh:=gi_mono_Peer (hg_Peer gh)
 obtain ⟨y,ok,t1,t2,gy⟩:=ask_same _ _ k bp bh kh
 obtain ⟨k1,m1,m2,m3⟩:=hmk_Prog (hc_Prog p) 1 (gi_up_Prog gp) (by omega) (by omega)
 obtain ⟨k2,x2,n1,n2,n3,n4⟩:=hmk_Peer (hc_Peer h) k1 kh (by omega) (by omega)
 obtain ⟨k4,x4,v1,v2,v3,v4⟩:=hmk_Peer y 1 gy (by omega) (by omega)
 have c4:¬ k2 < 0:=by omega
 have c5:¬ k4 < 0:=by omega
 simp only [hto_Prog p gp,hto_Peer h gh,t1,t2,heq_Prog _ (gi_up_Prog gp),heq_Peer _ kh,heq_Peer _ gy,m1,n1,v1,v2,Option.bind_some,decide_true,Bool.not_true,Bool.false_eq_true,if_false,decide_eq_true_eq,if_neg c4,if_neg c5]
end Go.Proofs.YtcngnpahpbaagaaGreatDoor.E.TH
