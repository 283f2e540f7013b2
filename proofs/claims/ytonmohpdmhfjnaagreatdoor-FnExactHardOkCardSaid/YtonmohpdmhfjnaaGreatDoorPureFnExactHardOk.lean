/- The pure statement of FnExactHardOk. No condition. -/
import Derived.Test.YtonmohpdmhfjnaaGreatDoorPMHBytes
import Derived.Test.YtonmohpdmhfjnaaGreatDoorTMe1
import Derived.Test.YtonmohpdmhfjnaaGreatDoorTMe2
import Derived.Test.YtonmohpdmhfjnaaGreatDoorTMe3
import Derived.Test.YtonmohpdmhfjnaaGreatDoorQFnExactHardOk
namespace Go.Proofs.YtonmohpdmhfjnaaGreatDoor.E.TM
open Go.Proofs.YtonmohpdmhfjnaaGreatDoor.E
set_option linter.unusedVariables false
theorem pureFnExactHardOk : PureFnExactHardOk := by
  intro p h hp hh
  obtain ⟨q1, e1, e2, e3⟩ := hsz_Prog p 1048576 (hf_Prog (d := 35) hp) (by omega) (by omega)
  rw [l_FnExactHardOk_eq, e1, Option.bind_some]
  dsimp only
  by_cases c1 : q1 < 0
  · rw [if_pos (decide_eq_true c1)]
  · rw [if_neg (by rw [decide_eq_true_eq]; exact c1)]
    obtain ⟨q2, f1, f2, f3⟩ := hsz_Hard h q1 (hf_Hard (d := 32) hh) (by omega) e2
    rw [f1, Option.bind_some]
    dsimp only
    by_cases c2 : q2 < 0
    · rw [if_pos (decide_eq_true c2)]
    · rw [if_neg (by rw [decide_eq_true_eq]; exact c2)]
      have gp := e3 (by omega)
      have gh := f3 (by omega)
      have bp := bProg gp (fb_Prog (d := 35) hp)
      have bh := bHard gh (fb_Hard (d := 32) hh)
      simp only [hto_Prog p gp, hto_Hard h gh, s_HardOk_ok _ _ bp bh, i_HardOk_ok _ _ bp bh, heq_Prog _ (gi_up_Prog gp), heq_Hard _ (gi_mono_Hard (hg_Hard gh)), Option.bind_some, decide_true, Bool.not_true, Bool.false_eq_true, if_false]
end Go.Proofs.YtonmohpdmhfjnaaGreatDoor.E.TM
