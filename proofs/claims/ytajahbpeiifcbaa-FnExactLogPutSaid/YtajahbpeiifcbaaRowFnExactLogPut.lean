/- The law FnExactLogPut: for every input its call returns true, and each argument reads behind the call as it read before; no condition. The row, out of the table and the pure statement. -/
import Derived.Test.YtajahbpeiifcbaaRows
import Derived.Test.YtajahbpeiifcbaaTBb
import Derived.Test.YtajahbpeiifcbaaPureFnExactLogPut
import Derived.WalkKit
import Derived.ProofKit
import Derived.OpenShut
import Derived.ShutString
import Derived.ChangeOld
import Derived.Below
import Derived.Carry
import Derived.SizedLaws
namespace Go.Proofs.Ytajahbpeiifcbaa.fnExactLogPut
open Go.ChangeShapes Go.WideShapes Go.ChangeAt Go.RowKit Go.Proofs.Ytajahbpeiifcbaa.E Go.Proofs.Ytajahbpeiifcbaa.E.TB
open Go.ChangeMaps (open_string shut_string)
set_option linter.unusedVariables false
set_option maxRecDepth 100000
theorem own : ownKnob Try.prog.godebug = none := by kernel_rfl
theorem laidOut : laidOutB Try.prog = true := by kernel_rfl
theorem trod_lt' {H : Type} {enc : TypeId × Value → H} {P : Program} {t : TypeId} {w : World} {base : Nat} {spare : Nat → Bool} {held : Bool} {v : Value} {x : DataW H} {p : List MemPlace} (h : DataW.Trod enc P w base spare held t v x p) : ∀ y ∈ p, y.block < w.heap.size := by
  obtain ⟨m, hm⟩ := h
  exact DataW.trod_lt m _ _ _ hm
theorem calls (W : World) (t0 : laws_Log) (t1 : Int) (t2 : Int) (t3 : (List laws_Entry)) (vs : List Value) (vits : List (PM × BT × Value)) (hV : FlatV [.val (.leaf false (.nm 4)), .val (.leaf false (.int .i64)), .val (.leaf false (.int .i64)), .val (.leaf false (.sl (.nm 2)))] vs vits) (hI : ItemsIn (G := gam) (fun b => b < W.heap.size) W vits [⟨.leaf false (.nm 4), t0⟩, ⟨.leaf false (.int .i64), t1⟩, ⟨.leaf false (.int .i64), t2⟩, ⟨.leaf false (.sl (.nm 2)), t3⟩] []) (hp : l_FnExactLogPut t0 t1 t2 t3 = some (true, ())) :
    Calls Try.prog 12 vs.toArray W fun e W' => e = .returned (.bool true) ∧ Below W.heap.size W W' :=
  law_calls' (T := tab) (k := 3) (x := (t0, (t1, (t2, (t3, ()))))) (y := (true, ())) tab_ok (by kernel_rfl) (by kernel_rfl) (by kernel_rfl) (by kernel_rfl) hp (by kernel_rfl) hV (by kernel_rfl) hI
set_option maxRecDepth 100000 in
theorem lifted (os : Os) (started : os.Started) (H : Type) (enc : TypeId × Value → H) :
    ReturnsInHanded {} Try.checked os 12 .any (Rows.fnExactLogPutSpec.pre6 enc Try.prog Try.f12 Rows.fnExactLogPutRow.domain false) (Rows.fnExactLogPutSpec.post enc Try.prog Try.f12 false true false false) := by
  refine returnsInHanded_of_change_sized (C := Try.checked) own started (by kernel_rfl) Try.func12
    (ChangeSpec.witness6 (enc := enc) (C := Try.checked) false ⟨#[], #[.agg #[.int .i64 0, .int .i64 0, .slice none 0 0], .int .i64 0, .int .i64 0, .slice none 0 0], []⟩ 8 (by kernel_rfl) (by kernel_rfl) (by kernel_rfl) (by kernel_rfl)) ?_
  intro W base args ds gs before hval0 hW hcnd hsz0 _
  have hval : ∀ (j : Nat) t v, Try.f12.params[j]? = some t → args[j]? = some v → Value.okWide Try.prog W .any base t v := hval0
  have hW' := hW
  obtain ⟨p, q, hA0, hV, rfl, hfz, hnd⟩ := hW
  have hA : DataW.TrodAll enc Try.prog W 0 (fun _ => true) true Try.f12.params.toList args.toList ds p := hA0
  rw [Try.params12] at hA hval
  obtain ⟨v0, vs0, d0, ds0, p0, q0, hargs, rfl, rfl, h0, r0⟩ := trodAll_cons hA
  obtain ⟨v1, vs1, d1, ds1, p1, q1, rfl, rfl, rfl, h1, r1⟩ := trodAll_cons r0
  obtain ⟨v2, vs2, d2, ds2, p2, q2, rfl, rfl, rfl, h2, r2⟩ := trodAll_cons r1
  obtain ⟨v3, vs3, d3, ds3, p3, q3, rfl, rfl, rfl, h3, r3⟩ := trodAll_cons r2
  obtain ⟨rfl, rfl, rfl⟩ := trodAll_nil r3
  obtain rfl : args = #[v0, v1, v2, v3] := by cases args; simp_all
  obtain ⟨rfl, rfl⟩ := trodVars_none hV
  have lt0 := trod_lt' h0
  obtain ⟨y0, w0, i0⟩ := open_arg (W := W) tab_ok (t := 34) (ft := (.nm 4)) (by kernel_rfl) (hval 0 34 v0 rfl rfl) h0
  have lt1 := trod_lt' h1
  obtain ⟨y1, w1, i1⟩ := open_arg (W := W) tab_ok (t := 3) (ft := (.int .i64)) (by kernel_rfl) (hval 1 3 v1 rfl rfl) h1
  have lt2 := trod_lt' h2
  obtain ⟨y2, w2, i2⟩ := open_arg (W := W) tab_ok (t := 3) (ft := (.int .i64)) (by kernel_rfl) (hval 2 3 v2 rfl rfl) h2
  have lt3 := trod_lt' h3
  obtain ⟨y3, w3, i3⟩ := open_arg (W := W) tab_ok (t := 32) (ft := (.sl (.nm 2))) (by kernel_rfl) (hval 3 32 v3 rfl rfl) h3
  have hp := pureFnExactLogPut y0 y1 y2 y3 w0 w1 w2 w3
  refine (calls W y0 y1 y2 y3 [v0, v1, v2, v3] _ (flatV_val (flatV_val (flatV_val (flatV_val flatV_nil)))) (itemsIn_cons i0 (itemsIn_cons i1 (itemsIn_cons i2 (itemsIn_cons i3 itemsIn_nil)))) hp).mono fun e W' ⟨he, bel⟩ => ?_
  subst he
  exact ⟨_, rfl, _, _, _, [], _, [], hW', trodAll_mk1 (shut_bool Try.underlying4 _), (trodAll_cons_mk (Below.trod laidOut (by kernel_rfl) (of_decide_eq_true (by kernel_rfl)) h0 bel lt0) (trodAll_cons_mk (Below.trod laidOut (by kernel_rfl) (of_decide_eq_true (by kernel_rfl)) h1 bel lt1) (trodAll_cons_mk (Below.trod laidOut (by kernel_rfl) (of_decide_eq_true (by kernel_rfl)) h2 bel lt2) (trodAll_cons_mk (Below.trod laidOut (by kernel_rfl) (of_decide_eq_true (by kernel_rfl)) h3 bel lt3) trodAll_mk0)))), rfl, bel.frame _, fun h => by cases h⟩
theorem over : Rows.fnExactLogPutRow.holds Try.pinned (OpenSpec.ofChange Rows.fnExactLogPutSpec) :=
  OpenClaim.holds_of_wide 12 Try.f12 rfl rfl rfl rfl rfl rfl rfl ⟨rfl, rfl, rfl, rfl, rfl⟩ rfl rfl rfl rfl rfl (by kernel_rfl) Try.func12 (by kernel_rfl)
    (of_decide_eq_true (by kernel_rfl)) (by unfold Func.isWrapper; first | (rw [if_pos (by decide +kernel)]; kernel_rfl) | (rw [if_neg (by decide +kernel)]; exact ⟨rfl, rfl⟩))
    (fun os started H enc _ => lifted os started H enc)
theorem proved : Rows.FnExactLogPutSaid := over
#print axioms proved
end Go.Proofs.Ytajahbpeiifcbaa.fnExactLogPut
namespace Go.Proofs.Ytajahbpeiifcbaa
/-- The row, under a short name, for the claim. -/
theorem fnExactLogPut_holds : Rows.FnExactLogPutSaid := fnExactLogPut.proved
end Go.Proofs.Ytajahbpeiifcbaa
