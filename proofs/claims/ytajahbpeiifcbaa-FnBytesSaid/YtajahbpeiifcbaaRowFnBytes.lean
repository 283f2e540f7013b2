/- The law FnBytes: for every input its call returns true, and each argument reads behind the call as it read before; no condition. The row, out of the table and the pure statement. -/
import Derived.Test.YtajahbpeiifcbaaRows
import Derived.Test.YtajahbpeiifcbaaTCb
import Derived.Test.YtajahbpeiifcbaaPureFnBytes
import Derived.WalkKit
import Derived.ProofKit
import Derived.OpenShut
import Derived.ShutString
import Derived.ChangeOld
import Derived.Below
import Derived.Carry
import Derived.SizedLaws
namespace Go.Proofs.Ytajahbpeiifcbaa.fnBytes
open Go.ChangeShapes Go.WideShapes Go.ChangeAt Go.RowKit Go.Proofs.Ytajahbpeiifcbaa.E Go.Proofs.Ytajahbpeiifcbaa.E.TC
open Go.ChangeMaps (open_string shut_string)
set_option linter.unusedVariables false
set_option maxRecDepth 100000
theorem own : ownKnob Try.prog.godebug = none := by kernel_rfl
theorem laidOut : laidOutB Try.prog = true := by kernel_rfl
theorem trod_lt' {H : Type} {enc : TypeId × Value → H} {P : Program} {t : TypeId} {w : World} {base : Nat} {spare : Nat → Bool} {held : Bool} {v : Value} {x : DataW H} {p : List MemPlace} (h : DataW.Trod enc P w base spare held t v x p) : ∀ y ∈ p, y.block < w.heap.size := by
  obtain ⟨m, hm⟩ := h
  exact DataW.trod_lt m _ _ _ hm
theorem calls (W : World) (t0 : (List Int)) (vs : List Value) (vits : List (PM × BT × Value)) (hV : FlatV [.val (.leaf false (.sl (.int .u8)))] vs vits) (hI : ItemsIn (G := gam) (fun b => b < W.heap.size) W vits [⟨.leaf false (.sl (.int .u8)), t0⟩] []) (hp : l_FnBytes t0 = some (true, ())) :
    Calls Try.prog 6 vs.toArray W fun e W' => e = .returned (.bool true) ∧ Below W.heap.size W W' :=
  law_calls' (T := tab) (k := 0) (x := (t0, ())) (y := (true, ())) tab_ok (by kernel_rfl) (by kernel_rfl) (by kernel_rfl) (by kernel_rfl) hp (by kernel_rfl) hV (by kernel_rfl) hI
set_option maxRecDepth 100000 in
theorem lifted (os : Os) (started : os.Started) (H : Type) (enc : TypeId × Value → H) :
    ReturnsInHanded {} Try.checked os 6 .any (Rows.fnBytesSpec.pre6 enc Try.prog Try.f6 Rows.fnBytesRow.domain false) (Rows.fnBytesSpec.post enc Try.prog Try.f6 false true false false) := by
  refine returnsInHanded_of_change_sized (C := Try.checked) own started (by kernel_rfl) Try.func6
    (ChangeSpec.witness6 (enc := enc) (C := Try.checked) false ⟨#[], #[.slice none 0 0], []⟩ 8 (by kernel_rfl) (by kernel_rfl) (by kernel_rfl) (by kernel_rfl)) ?_
  intro W base args ds gs before hval0 hW hcnd hsz0 _
  have hval : ∀ (j : Nat) t v, Try.f6.params[j]? = some t → args[j]? = some v → Value.okWide Try.prog W .any base t v := hval0
  have hW' := hW
  obtain ⟨p, q, hA0, hV, rfl, hfz, hnd⟩ := hW
  have hA : DataW.TrodAll enc Try.prog W 0 (fun _ => true) true Try.f6.params.toList args.toList ds p := hA0
  rw [Try.params6] at hA hval
  obtain ⟨v0, vs0, d0, ds0, p0, q0, hargs, rfl, rfl, h0, r0⟩ := trodAll_cons hA
  obtain ⟨rfl, rfl, rfl⟩ := trodAll_nil r0
  obtain rfl : args = #[v0] := by cases args; simp_all
  obtain ⟨rfl, rfl⟩ := trodVars_none hV
  have lt0 := trod_lt' h0
  obtain ⟨y0, w0, i0⟩ := open_arg (W := W) tab_ok (t := 22) (ft := (.sl (.int .u8))) (by kernel_rfl) (hval 0 22 v0 rfl rfl) h0
  have hp := pureFnBytes y0 w0
  refine (calls W y0 [v0] _ (flatV_val flatV_nil) (itemsIn_cons i0 itemsIn_nil) hp).mono fun e W' ⟨he, bel⟩ => ?_
  subst he
  exact ⟨_, rfl, _, _, _, [], _, [], hW', trodAll_mk1 (shut_bool Try.underlying4 _), (trodAll_cons_mk (Below.trod laidOut (by kernel_rfl) (of_decide_eq_true (by kernel_rfl)) h0 bel lt0) trodAll_mk0), rfl, bel.frame _, fun h => by cases h⟩
theorem over : Rows.fnBytesRow.holds Try.pinned (OpenSpec.ofChange Rows.fnBytesSpec) :=
  OpenClaim.holds_of_wide 6 Try.f6 rfl rfl rfl rfl rfl rfl rfl ⟨rfl, rfl, rfl, rfl, rfl⟩ rfl rfl rfl rfl rfl (by kernel_rfl) Try.func6 (by kernel_rfl)
    (of_decide_eq_true (by kernel_rfl)) (by unfold Func.isWrapper; first | (rw [if_pos (by decide +kernel)]; kernel_rfl) | (rw [if_neg (by decide +kernel)]; exact ⟨rfl, rfl⟩))
    (fun os started H enc _ => lifted os started H enc)
theorem proved : Rows.FnBytesSaid := over
#print axioms proved
end Go.Proofs.Ytajahbpeiifcbaa.fnBytes
namespace Go.Proofs.Ytajahbpeiifcbaa
/-- The row, under a short name, for the claim. -/
theorem fnBytes_holds : Rows.FnBytesSaid := fnBytes.proved
end Go.Proofs.Ytajahbpeiifcbaa
