/- The pure statement of FnExactPeerOk. No condition. -/
import Derived.Test.YtonmohpdmhfjnaaGreatDoorPMHBytes
import Derived.Test.YtonmohpdmhfjnaaGreatDoorTMe1
import Derived.Test.YtonmohpdmhfjnaaGreatDoorTMe2
import Derived.Test.YtonmohpdmhfjnaaGreatDoorQFnExactPeerOk
namespace Go.Proofs.YtonmohpdmhfjnaaGreatDoor.E.TM
open Go.Proofs.YtonmohpdmhfjnaaGreatDoor.E
set_option linter.unusedVariables false
theorem pureFnExactPeerOk : PureFnExactPeerOk := by
  intro p h k hp hh hk
  obtain ⟨q1, e1, e2, e3⟩ := hsz_Prog p 1048576 (hf_Prog (d := 35) hp) (by omega) (by omega)
  rw [l_FnExactPeerOk_eq, e1, Option.bind_some]
  dsimp only
  by_cases c1 : q1 < 0
  · rw [if_pos (decide_eq_true c1)]
  · rw [if_neg (by rw [decide_eq_true_eq]; exact c1)]
    obtain ⟨q2, f1, f2, f3⟩ := hsz_Peer h q1 (hf_Peer (d := 31) hh) (by omega) e2
    rw [f1, Option.bind_some]
    dsimp only
    by_cases c2 : q2 < 0
    · rw [if_pos (decide_eq_true c2)]
    · rw [if_neg (by rw [decide_eq_true_eq]; exact c2)]
      have gp := e3 (by omega)
      have gh := f3 (by omega)
      have bp := bProg gp (fb_Prog (d := 35) hp)
      have bh := bPeer gh (fb_Peer (d := 31) hh)
      simp only [hto_Prog p gp, hto_Peer h gh, s_PeerOk_ok _ _ k bp bh, i_PeerOk_ok _ _ k bp bh, heq_Prog _ (gi_up_Prog gp), heq_Peer _ (gi_mono_Peer (hg_Peer gh)), Option.bind_some, decide_true, Bool.not_true, Bool.false_eq_true, if_false]
end Go.Proofs.YtonmohpdmhfjnaaGreatDoor.E.TM
