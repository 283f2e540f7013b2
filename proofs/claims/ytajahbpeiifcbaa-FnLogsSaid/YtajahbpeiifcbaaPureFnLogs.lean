/- The pure statement of FnLogs. No condition. -/
import Derived.Test.YtajahbpeiifcbaaPLDrawLog
import Derived.Test.YtajahbpeiifcbaaPLLogLaws
import Derived.Test.YtajahbpeiifcbaaTLe1
import Derived.Test.YtajahbpeiifcbaaQFnLogs
namespace Go.Proofs.Ytajahbpeiifcbaa.E.TL
open Go.Proofs.Ytajahbpeiifcbaa.E
set_option linter.unusedVariables false
theorem logs_L1 (l y : impl_Log) (p t : Int) (lst : List impl_Entry) (ok : Bool) (hl : l.List.length ≤ 7) (hlst : lst.length ≤ 4) (hb : InI l.Base) (hp : InI p) (h : i_LogPut l p t lst = some (y, ok, ())) : l_FnLogs_L1 p t lst ok l y = some (true, ()) := by
  obtain ⟨g1, g2⟩ := i_LogPut_ok l p t lst (by omega) (by omega) hb hp y ok h
  rw [l_FnLogs_L1_eq]
  cases ok with
  | false =>
    simp only [Bool.not_false, if_true]
    rcases g1 rfl with h0 | rfl
    · rw [if_pos (by rw [decide_eq_true_eq, h0]; rfl)]
    · by_cases h0 : (y.List.length : Int) = 0
      · rw [if_pos (decide_eq_true h0)]
      · rw [if_neg (by rw [decide_eq_true_eq]; exact h0), sameLog_ok y (by omega)]; rfl
  | true =>
    have P := g2 rfl
    have b := P.base
    have c1 := P.ge
    have c2 := P.le
    obtain ⟨⟨b0, b1⟩, _, hlen, _⟩ := logOk_spec P.ok
    have hyb : InI y.Base := ⟨by omega, by omega⟩
    simp only [Bool.not_true, Bool.false_eq_true, if_false]
    have L3 : ∀ (d i : Nat), l.Base + i + d = p + 1 → l_FnLogs_L3 p t lst (l.Base + i) l y = some (true, ()) := by
      intro d
      induction d with
      | zero =>
        intro i hd
        rw [l_FnLogs_L3_eq, if_neg (by rw [decide_eq_true_eq]; omega), P.again (by omega) (by omega) hp, i_LogOk_ok y (by omega), P.ok, Option.bind_some, Option.bind_some, if_pos rfl, if_pos rfl, sameLog_ok y (by omega)]; rfl
      | succ d ih =>
        intro i hd
        have hi : InI (l.Base + i) := ⟨by omega, by omega⟩
        rw [l_FnLogs_L3_eq, if_pos (decide_eq_true (by omega)), i_TermAt_ok y _ (by omega) hyb hi, i_TermAt_ok l _ (by omega) hb hi, P.keep _ (by omega) (by omega), Option.bind_some, Option.bind_some, if_neg (by simp), w64_id (by omega) (by omega), Int.add_assoc]
        exact ih (i + 1) (by omega)
    have L2 : ∀ (d i : Nat), i + d = lst.length → l_FnLogs_L2 p t lst (i : Int) l y = some (true, ()) := by
      intro d
      induction d with
      | zero =>
        intro i hd
        rw [l_FnLogs_L2_eq, if_neg (by rw [decide_eq_true_eq]; omega)]
        have := L3 (p + 1 - l.Base).toNat 0 (by omega)
        simpa using this
      | succ d ih =>
        intro i hd
        have hi : i < lst.length := by omega
        have c : (0 : Int) ≤ (i : Int) ∧ (i : Int) < (lst.length : Int) := by omega
        rw [l_FnLogs_L2_eq, if_pos (decide_eq_true c.2), w64_id (n := p + 1) (by omega) (by omega), w64_id (n := p + 1 + i) (by omega) (by omega), i_TermAt_ok y _ (by omega) hyb ⟨by omega, by omega⟩, P.new i hi, Option.bind_some, if_pos c, getD_nat hi, if_neg (by simp), w64_succ hi (by omega)]
        exact ih (i + 1) (by omega)
    exact L2 lst.length 0 (by omega)
theorem pureFnLogs : PureFnLogs := by
  intro b hb
  rw [l_FnLogs_eq, big_ok, Option.bind_some]
  by_cases h : (b.length : Int) > 1048576
  · rw [if_pos (decide_eq_true h)]
  · rw [if_neg (by rw [decide_eq_true_eq]; exact h)]
    have hl : b.length ≤ 1048576 := by omega
    obtain ⟨l, p, t, lst, d1, B1, N1, W1, I1, M1, V1⟩ := draw_put b hl
    obtain ⟨c, i, d2, B2, N2, W2, I2, J2⟩ := draw_at b hl
    obtain ⟨cu, d3, K3⟩ := new_ok b hl
    obtain ⟨h8, c8, d8, K8, B8, N8, W8⟩ := draw_log K3
    obtain ⟨tt, c9, d9, K9, _⟩ := below_ok K3 5
    have e1 : s_DrawLogCut b = some (c, i, ()) := by rw [s_DrawLogCut_eq, d2]; rfl
    have e2 : s_DrawTermAt b = some (c, i, ()) := by rw [s_DrawTermAt_eq, d2]; rfl
    have e3 : s_DrawFrom b = some (c, i, ()) := by rw [s_DrawFrom_eq, d2]; rfl
    have e4 : s_DrawNewer b = some (c, i, tt, ()) := by rw [s_DrawNewer_eq, d2, Option.bind_some, d3, Option.bind_some, d9]; rfl
    have e5 : s_DrawLastOf b = some (h8, ()) := by rw [s_DrawLastOf_eq, d3, Option.bind_some, d8]; rfl
    obtain ⟨a, ok, f1, f2, f3⟩ := logPut_same l p t lst (by omega) (by omega) V1.ok W1.ok B1 I1
    obtain ⟨d, q1, q2, q3⟩ := logCut_same c i (by omega) B2 I2
    obtain ⟨ta, r1, r2, _⟩ := termAt_same c i (by omega) B2 I2
    obtain ⟨x, y, s1, s2, s3⟩ := from_same c i (by omega) B2 I2 (fun hh => by unfold Has_ at hh; omega)
    obtain ⟨nw, u1, u2⟩ := newer_same c i tt (by omega)
    obtain ⟨la, v1, v2⟩ := lastOf_same h8 (by omega)
    have L1 := logs_L1 l a p t lst ok N1 M1 B1 I1 f2
    have z1 : ((y.length : Nat) : Int) = (x.length : Nat) := by rw [s3]
    simp only [d1, e1, e2, e3, e4, e5, f1, f2, q1, q2, r1, r2, s1, s2, u1, u2, v1, v2, z1, Option.bind_some, sameLog_ok a (by omega), sameLog_ok d (by omega), i_LogOk_ok l (by omega), s_LogOk_ok l (by omega) W1.ok, i_LogOk_ok c (by omega), decide_true, Bool.not_true, Bool.false_eq_true, if_false, L1]
    cases hok : logOk c with
    | false => rfl
    | true =>
      rw [if_pos rfl]
      by_cases g1 : d.Base = i
      · rw [if_pos (decide_eq_true g1)]
        by_cases g2 : i = c.Base
        · rw [if_neg (by simp [g2])]
        · obtain ⟨w1, w2, w3⟩ := cut_law c i (by omega) I2 hok d q2 g1 g2
          obtain ⟨⟨b0, b1⟩, _⟩ := logOk_spec hok
          obtain ⟨⟨b2, b3⟩, _⟩ := logOk_spec w1
          rw [if_pos (by simp [g2]), i_LastOf_ok c b0 (by omega) (by omega), i_LastOf_ok d b2 (by omega) w3, w2]
          simp only [Option.bind_some, decide_true, Bool.not_true, Bool.false_eq_true, if_false, i_LogOk_ok d (by omega), w1]
      · rw [if_neg (by rw [decide_eq_true_eq]; exact g1)]
end Go.Proofs.Ytajahbpeiifcbaa.E.TL
