/- The pure statement of FnExactMachOf. No condition. -/
import Derived.Test.YtonmohpdmhfjnaaGreatDoorPMHBytes
import Derived.Test.YtonmohpdmhfjnaaGreatDoorPMMachOfI
import Derived.Test.YtonmohpdmhfjnaaGreatDoorPMToBytes
import Derived.Test.YtonmohpdmhfjnaaGreatDoorTMe1
import Derived.Test.YtonmohpdmhfjnaaGreatDoorTMe2
import Derived.Test.YtonmohpdmhfjnaaGreatDoorTMe3
import Derived.Test.YtonmohpdmhfjnaaGreatDoorQFnExactMachOf
namespace Go.Proofs.YtonmohpdmhfjnaaGreatDoor.E.TM
open Go.Proofs.YtonmohpdmhfjnaaGreatDoor.E
set_option linter.unusedVariables false
theorem gi_fine {m : impl_Mach} (h : MachFineOr m) : Gi_Mach 2097152 m := by
  rcases h with rfl | ⟨⟨h1, h2, h3, h4, h5, h6⟩, hb⟩
  · unfold Gi_Mach Gi_State noMach z_impl_State
    simp
  · unfold Gi_Mach Gi_State Gi_Val Gi_Cell Gi_Val
    exact ⟨⟨⟨by omega, fun v hv => by have := h2 v hv; omega⟩, by omega, fun c hc => by have := h4 c hc; omega⟩, by omega, by omega⟩
theorem pureFnExactMachOf : PureFnExactMachOf := by
  intro p b hp hb
  have hb' : b.length ≤ 9223372036854775807 ∧ ∀ x ∈ b, IntKind.u8.wrap x = x := hb
  have hw : Bytes b := fun x hx => by have := hb'.2 x hx; rw [← this]; exact w8_bd x
  rw [l_FnExactMachOf_eq]
  by_cases c0 : (b.length : Int) > 1048576
  · rw [if_pos (decide_eq_true c0)]
  rw [if_neg (by rw [decide_eq_true_eq]; exact c0)]
  have hl : b.length ≤ 1048576 := by omega
  obtain ⟨q1, e1, e2, e3⟩ := hsz_Prog p 1048576 (hf_Prog (d := 35) hp) (by omega) (by omega)
  rw [e1, Option.bind_some]
  dsimp only
  by_cases c1 : q1 < 0
  · rw [if_pos (decide_eq_true c1)]
  · rw [if_neg (by rw [decide_eq_true_eq]; exact c1)]
    have gp := e3 (by omega)
    have bp := bProg gp (fb_Prog (d := 35) hp)
    obtain ⟨m, ok, t1, t2, t3⟩ := machOf_same hl hw (hc_Prog p) bp
    have gm := gi_fine t3
    obtain ⟨k1, m1, m2, m3⟩ := hmk_Prog (hc_Prog p) 1 (gi_up_Prog gp) (by omega) (by omega)
    obtain ⟨k2, l2, w1, w2, _, w3, w4⟩ := hmk_ByteS b k1 (by omega) (by omega) (by omega)
    obtain ⟨k3, x3, n1, n2, n3, n4⟩ := hmk_Mach m 1 gm (by omega) (by omega)
    have c3 : ¬ k2 < 0 := by omega
    have c4 : ¬ k3 < 0 := by omega
    simp only [hto_Prog p gp, toByteS_ok b hl, t1, t2, heq_Prog _ (gi_up_Prog gp), heq_Mach _ gm, heq_ByteS b (by omega), m1, n1, n2, w1, Option.bind_some, decide_true, Bool.not_true, Bool.false_eq_true, if_false, decide_eq_true_eq, if_neg c3, if_neg c4]
end Go.Proofs.YtonmohpdmhfjnaaGreatDoor.E.TM
