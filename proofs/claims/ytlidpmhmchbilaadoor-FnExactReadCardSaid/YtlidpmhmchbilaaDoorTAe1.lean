/- The keys' plain equations (1). No condition. -/
import Derived.Test.YtlidpmhmchbilaaDoorTAe0
namespace Go.Proofs.YtlidpmhmchbilaaDoor.E.TA
open Go.Proofs.YtlidpmhmchbilaaDoor.E
set_option linter.unusedVariables false
set_option maxRecDepth 100000
theorem l_FnExactRead_eq (t0 : (List Int)) : l_FnExactRead t0 =
  if (decide ((List.length t0 : Int) > 1048576)) = true then
    some (true, ())
  else
    (s_Read t0).bind fun (r0 : impl_Val × Unit) =>
    (i_Read t0).bind fun (r1 : impl_Val × Unit) =>
    (l_eqVal r1.1 r0.1).bind fun (r2 : Bool × Unit) =>
    if (!r2.1) = true then
      some (false, ())
    else
      some (true, ()) := (lim_eq tab 0 (t0, ())).trans (by kernel_rfl)
theorem s_Read_eq (t0 : (List Int)) : s_Read t0 =
  if (decide ((List.length t0 : Int) > 300)) = true then
    if (0 : Int) ≤ 300 ∧ (300 : Int) ≤ (List.length t0 : Int) then
      s_Read_L1 (List.take (300 - 0) (List.drop 0 t0)) z_impl_Val
    else none
  else
    s_Read_L1 t0 z_impl_Val := (lim_eq tab 1 (t0, ())).trans (by kernel_rfl)
theorem s_Read_L1_eq (t0 : (List Int)) (s32 : impl_Val) : s_Read_L1 t0 s32 =
  (s_DecLooks t0).bind fun (r0 : Int × Bool × Unit) =>
  if r0.2.1 = true then
    some ((impl_Val.mk 3 r0.1 t0), ())
  else
    some ((impl_Val.mk 2 0 t0), ()) := (lim_eq tab 2 (t0, (s32, ()))).trans (by kernel_rfl)
theorem i_Read_eq (t0 : (List Int)) : i_Read t0 =
  (i_cut t0).bind fun (r0 : (List Int) × Unit) =>
  (i_DecLooks r0.1).bind fun (r1 : Int × Bool × Unit) =>
  if r1.2.1 = true then
    some ((impl_Val.mk 3 r1.1 r0.1), ())
  else
    (i_textVal r0.1).bind fun (r2 : impl_Val × Unit) =>
    some (r2.1, ()) := (lim_eq tab 3 (t0, ())).trans (by kernel_rfl)
theorem l_eqVal_eq (t0 : impl_Val) (t1 : impl_Val) : l_eqVal t0 t1 =
  if (!(decide (t0.Kind = t1.Kind))) = true then
    some (false, ())
  else
    if (!(decide (t0.N = t1.N))) = true then
      some (false, ())
    else
      if (!(decide (t0.S = t1.S))) = true then
        some (false, ())
      else
        some (true, ()) := (lim_eq tab 4 (t0, (t1, ()))).trans (by kernel_rfl)
theorem s_DecLooks_eq (t0 : (List Int)) : s_DecLooks t0 =
  (s_DecFront t0).bind fun (r0 : Int × Int × Unit) =>
  if (decide (r0.2.1 = 0)) = true then
    some (0, false, ())
  else
    s_DecLooks_L1 t0 r0.1 r0.2.1 := (lim_eq tab 5 (t0, ())).trans (by kernel_rfl)
theorem s_DecLooks_L1_eq (t0 : (List Int)) (t4 : Int) (t5 : Int) : s_DecLooks_L1 t0 t4 t5 =
  if (decide (t5 < (List.length t0 : Int))) = true then
    if (0 : Int) ≤ t5 ∧ t5 < (List.length t0 : Int) then
      if (!(decide ((List.getD t0 t5.toNat 0) = 32))) = true then
        some (0, false, ())
      else
        s_DecLooks_L1 t0 t4 (w64 (t5 + 1))
    else none
  else
    some (t4, true, ()) := (lim_eq tab 6 (t0, (t4, (t5, ())))).trans (by kernel_rfl)
theorem i_cut_eq (t0 : (List Int)) : i_cut t0 =
  if (0 : Int) ≤ (mnI (List.length t0 : Int) 300) ∧ (mnI (List.length t0 : Int) 300) ≤ (List.length t0 : Int) then
    some ((List.take ((mnI (List.length t0 : Int) 300).toNat - 0) (List.drop 0 t0)), ())
  else none := (lim_eq tab 7 (t0, ())).trans (by kernel_rfl)
theorem i_DecLooks_eq (t0 : (List Int)) : i_DecLooks t0 =
  (i_DecFront t0).bind fun (r0 : Int × Int × Unit) =>
  if (decide (r0.2.1 = 0)) = true then
    some (0, false, ())
  else
    if (0 : Int) ≤ r0.2.1 ∧ r0.2.1 ≤ (List.length t0 : Int) then
      (x_strings_Trim (List.take ((List.length t0) - r0.2.1.toNat) (List.drop r0.2.1.toNat t0)) [32]).bind fun (r1 : (List Int) × Unit) =>
      if (!(decide (r1.1 = []))) = true then
        some (0, false, ())
      else
        some (r0.1, true, ())
    else none := (lim_eq tab 8 (t0, ())).trans (by kernel_rfl)
theorem i_textVal_eq (t0 : (List Int)) : i_textVal t0 =
  some ((impl_Val.mk 2 0 t0), ()) := (lim_eq tab 9 (t0, ())).trans (by kernel_rfl)
theorem s_DecFront_eq (t0 : (List Int)) : s_DecFront t0 =
  s_DecFront_L1 t0 0 := (lim_eq tab 10 (t0, ())).trans (by kernel_rfl)
theorem s_DecFront_L1_eq (t0 : (List Int)) (t4 : Int) : s_DecFront_L1 t0 t4 =
  if (decide (t4 < (List.length t0 : Int))) = true then
    if (0 : Int) ≤ t4 ∧ t4 < (List.length t0 : Int) then
      if (decide ((List.getD t0 t4.toNat 0) = 32)) = true then
        s_DecFront_L1 t0 (w64 (t4 + 1))
      else
        if (decide (t4 < (List.length t0 : Int))) = true then
          if (0 : Int) ≤ t4 ∧ t4 < (List.length t0 : Int) then
            if (decide (t4 < (List.length t0 : Int))) = true then
              if (0 : Int) ≤ t4 ∧ t4 < (List.length t0 : Int) then
                if (decide ((List.getD t0 t4.toNat 0) = 45)) = true then
                  s_DecFront_L2 t0 (w64 (t4 + 1)) (decide ((List.getD t0 t4.toNat 0) = 45))
                else
                  if (0 : Int) ≤ t4 ∧ t4 < (List.length t0 : Int) then
                    if (decide ((List.getD t0 t4.toNat 0) = 43)) = true then
                      s_DecFront_L2 t0 (w64 (t4 + 1)) (decide ((List.getD t0 t4.toNat 0) = 45))
                    else
                      s_DecFront_L2 t0 t4 (decide ((List.getD t0 t4.toNat 0) = 45))
                  else none
              else none
            else
              s_DecFront_L2 t0 t4 (decide ((List.getD t0 t4.toNat 0) = 45))
          else none
        else
          if (decide (t4 < (List.length t0 : Int))) = true then
            if (0 : Int) ≤ t4 ∧ t4 < (List.length t0 : Int) then
              if (decide ((List.getD t0 t4.toNat 0) = 45)) = true then
                s_DecFront_L2 t0 (w64 (t4 + 1)) false
              else
                if (0 : Int) ≤ t4 ∧ t4 < (List.length t0 : Int) then
                  if (decide ((List.getD t0 t4.toNat 0) = 43)) = true then
                    s_DecFront_L2 t0 (w64 (t4 + 1)) false
                  else
                    s_DecFront_L2 t0 t4 false
                else none
            else none
          else
            s_DecFront_L2 t0 t4 false
    else none
  else
    if (decide (t4 < (List.length t0 : Int))) = true then
      if (0 : Int) ≤ t4 ∧ t4 < (List.length t0 : Int) then
        if (decide (t4 < (List.length t0 : Int))) = true then
          if (0 : Int) ≤ t4 ∧ t4 < (List.length t0 : Int) then
            if (decide ((List.getD t0 t4.toNat 0) = 45)) = true then
              s_DecFront_L2 t0 (w64 (t4 + 1)) (decide ((List.getD t0 t4.toNat 0) = 45))
            else
              if (0 : Int) ≤ t4 ∧ t4 < (List.length t0 : Int) then
                if (decide ((List.getD t0 t4.toNat 0) = 43)) = true then
                  s_DecFront_L2 t0 (w64 (t4 + 1)) (decide ((List.getD t0 t4.toNat 0) = 45))
                else
                  s_DecFront_L2 t0 t4 (decide ((List.getD t0 t4.toNat 0) = 45))
              else none
          else none
        else
          s_DecFront_L2 t0 t4 (decide ((List.getD t0 t4.toNat 0) = 45))
      else none
    else
      if (decide (t4 < (List.length t0 : Int))) = true then
        if (0 : Int) ≤ t4 ∧ t4 < (List.length t0 : Int) then
          if (decide ((List.getD t0 t4.toNat 0) = 45)) = true then
            s_DecFront_L2 t0 (w64 (t4 + 1)) false
          else
            if (0 : Int) ≤ t4 ∧ t4 < (List.length t0 : Int) then
              if (decide ((List.getD t0 t4.toNat 0) = 43)) = true then
                s_DecFront_L2 t0 (w64 (t4 + 1)) false
              else
                s_DecFront_L2 t0 t4 false
            else none
        else none
      else
        s_DecFront_L2 t0 t4 false := (lim_eq tab 11 (t0, (t4, ()))).trans (by kernel_rfl)
theorem s_DecFront_L2_eq (t0 : (List Int)) (t4 : Int) (t5 : Bool) : s_DecFront_L2 t0 t4 t5 =
  s_DecFront_L3 t0 t4 t5 0 0 := (lim_eq tab 12 (t0, (t4, (t5, ())))).trans (by kernel_rfl)
theorem s_DecFront_L3_eq (t0 : (List Int)) (t4 : Int) (t5 : Bool) (t6 : Int) (t7 : Int) : s_DecFront_L3 t0 t4 t5 t6 t7 =
  if (decide (t4 < (List.length t0 : Int))) = true then
    if (0 : Int) ≤ t4 ∧ t4 < (List.length t0 : Int) then
      (s_l2Digit (List.getD t0 t4.toNat 0)).bind fun (r0 : Bool × Unit) =>
      if r0.1 = true then
        if (decide (t6 ≤ 9000000000000)) = true then
          if (0 : Int) ≤ t4 ∧ t4 < (List.length t0 : Int) then
            s_DecFront_L3 t0 (w64 (t4 + 1)) t5 (w64 ((w64 (10 * t6)) + (w64 ((w64 ((w64 (List.getD t0 t4.toNat 0)) - 48)) * 1000000)))) (w64 (t7 + 1))
          else none
        else
          s_DecFront_L3 t0 (w64 (t4 + 1)) t5 t6 (w64 (t7 + 1))
      else
        if (decide ((w64 (t4 + 1)) < (List.length t0 : Int))) = true then
          if (0 : Int) ≤ t4 ∧ t4 < (List.length t0 : Int) then
            if (decide ((List.getD t0 t4.toNat 0) = 46)) = true then
              if (0 : Int) ≤ (w64 (t4 + 1)) ∧ (w64 (t4 + 1)) < (List.length t0 : Int) then
                (s_l2Digit (List.getD t0 (w64 (t4 + 1)).toNat 0)).bind fun (r1 : Bool × Unit) =>
                if r1.1 = true then
                  s_DecFront_L4 t0 (w64 (t4 + 1)) t5 t6 t7 100000
                else
                  s_DecFront_L5 t4 t5 t6 t7
              else none
            else
              s_DecFront_L5 t4 t5 t6 t7
          else none
        else
          s_DecFront_L5 t4 t5 t6 t7
    else none
  else
    if (decide ((w64 (t4 + 1)) < (List.length t0 : Int))) = true then
      if (0 : Int) ≤ t4 ∧ t4 < (List.length t0 : Int) then
        if (decide ((List.getD t0 t4.toNat 0) = 46)) = true then
          if (0 : Int) ≤ (w64 (t4 + 1)) ∧ (w64 (t4 + 1)) < (List.length t0 : Int) then
            (s_l2Digit (List.getD t0 (w64 (t4 + 1)).toNat 0)).bind fun (r2 : Bool × Unit) =>
            if r2.1 = true then
              s_DecFront_L4 t0 (w64 (t4 + 1)) t5 t6 t7 100000
            else
              s_DecFront_L5 t4 t5 t6 t7
          else none
        else
          s_DecFront_L5 t4 t5 t6 t7
      else none
    else
      s_DecFront_L5 t4 t5 t6 t7 := (lim_eq tab 13 (t0, (t4, (t5, (t6, (t7, ())))))).trans (by kernel_rfl)
theorem s_DecFront_L4_eq (t0 : (List Int)) (t4 : Int) (t5 : Bool) (t6 : Int) (t7 : Int) (t8 : Int) : s_DecFront_L4 t0 t4 t5 t6 t7 t8 =
  if (decide (t4 < (List.length t0 : Int))) = true then
    if (0 : Int) ≤ t4 ∧ t4 < (List.length t0 : Int) then
      (s_l2Digit (List.getD t0 t4.toNat 0)).bind fun (r0 : Bool × Unit) =>
      if r0.1 = true then
        if (0 : Int) ≤ t4 ∧ t4 < (List.length t0 : Int) then
          s_DecFront_L4 t0 (w64 (t4 + 1)) t5 (w64 (t6 + (w64 ((w64 ((w64 (List.getD t0 t4.toNat 0)) - 48)) * t8)))) (w64 (t7 + 1)) (w64 (Int.tdiv t8 10))
        else none
      else
        s_DecFront_L5 t4 t5 t6 t7
    else none
  else
    s_DecFront_L5 t4 t5 t6 t7 := (lim_eq tab 14 (t0, (t4, (t5, (t6, (t7, (t8, ()))))))).trans (by kernel_rfl)
theorem s_DecFront_L5_eq (t4 : Int) (t5 : Bool) (t6 : Int) (t7 : Int) : s_DecFront_L5 t4 t5 t6 t7 =
  if (decide (t7 = 0)) = true then
    some (0, 0, ())
  else
    if (decide (t6 > 9000000000000)) = true then
      some (0, 0, ())
    else
      if t5 = true then
        some ((w64 (0 - t6)), t4, ())
      else
        some (t6, t4, ()) := (lim_eq tab 15 (t4, (t5, (t6, (t7, ()))))).trans (by kernel_rfl)
theorem i_DecFront_eq (t0 : (List Int)) : i_DecFront t0 =
  (x_strings_TrimLeft t0 [32]).bind fun (r0 : (List Int) × Unit) =>
  if (decide ((w64 ((List.length t0 : Int) - (List.length r0.1 : Int))) < (List.length t0 : Int))) = true then
    if (0 : Int) ≤ (w64 ((List.length t0 : Int) - (List.length r0.1 : Int))) ∧ (w64 ((List.length t0 : Int) - (List.length r0.1 : Int))) < (List.length t0 : Int) then
      if (decide ((List.getD t0 (w64 ((List.length t0 : Int) - (List.length r0.1 : Int))).toNat 0) = 43)) = true then
        if (0 : Int) ≤ (w64 ((List.length t0 : Int) - (List.length r0.1 : Int))) ∧ (w64 ((List.length t0 : Int) - (List.length r0.1 : Int))) < (List.length t0 : Int) then
          i_DecFront_L1 t0 (w64 ((w64 ((List.length t0 : Int) - (List.length r0.1 : Int))) + 1)) (decide ((List.getD t0 (w64 ((List.length t0 : Int) - (List.length r0.1 : Int))).toNat 0) = 45))
        else none
      else
        if (0 : Int) ≤ (w64 ((List.length t0 : Int) - (List.length r0.1 : Int))) ∧ (w64 ((List.length t0 : Int) - (List.length r0.1 : Int))) < (List.length t0 : Int) then
          if (decide ((List.getD t0 (w64 ((List.length t0 : Int) - (List.length r0.1 : Int))).toNat 0) = 45)) = true then
            if (0 : Int) ≤ (w64 ((List.length t0 : Int) - (List.length r0.1 : Int))) ∧ (w64 ((List.length t0 : Int) - (List.length r0.1 : Int))) < (List.length t0 : Int) then
              i_DecFront_L1 t0 (w64 ((w64 ((List.length t0 : Int) - (List.length r0.1 : Int))) + 1)) (decide ((List.getD t0 (w64 ((List.length t0 : Int) - (List.length r0.1 : Int))).toNat 0) = 45))
            else none
          else
            i_DecFront_L1 t0 (w64 ((List.length t0 : Int) - (List.length r0.1 : Int))) false
        else none
    else none
  else
    i_DecFront_L1 t0 (w64 ((List.length t0 : Int) - (List.length r0.1 : Int))) false := (lim_eq tab 16 (t0, ())).trans (by kernel_rfl)
theorem i_DecFront_L1_eq (t0 : (List Int)) (t4 : Int) (t5 : Bool) : i_DecFront_L1 t0 t4 t5 =
  (i_digitsAt t0 t4).bind fun (r0 : Int × Unit) =>
  if (0 : Int) ≤ t4 ∧ t4 ≤ (w64 (t4 + r0.1)) ∧ (w64 (t4 + r0.1)) ≤ (List.length t0 : Int) then
    if (decide ((w64 (t4 + r0.1)) < (List.length t0 : Int))) = true then
      if (0 : Int) ≤ (w64 (t4 + r0.1)) ∧ (w64 (t4 + r0.1)) < (List.length t0 : Int) then
        if (decide ((List.getD t0 (w64 (t4 + r0.1)).toNat 0) = 46)) = true then
          (i_digitsAt t0 (w64 ((w64 (t4 + r0.1)) + 1))).bind fun (r1 : Int × Unit) =>
          if (decide (r1.1 > 0)) = true then
            if (0 : Int) ≤ (w64 ((w64 (t4 + r0.1)) + 1)) ∧ (w64 ((w64 (t4 + r0.1)) + 1)) ≤ (w64 ((w64 ((w64 (t4 + r0.1)) + 1)) + r1.1)) ∧ (w64 ((w64 ((w64 (t4 + r0.1)) + 1)) + r1.1)) ≤ (List.length t0 : Int) then
              i_DecFront_L2 (w64 ((w64 (t4 + r0.1)) + (w64 (1 + r1.1)))) t5 (List.take ((w64 (t4 + r0.1)).toNat - t4.toNat) (List.drop t4.toNat t0)) (List.take ((w64 ((w64 ((w64 (t4 + r0.1)) + 1)) + r1.1)).toNat - (w64 ((w64 (t4 + r0.1)) + 1)).toNat) (List.drop (w64 ((w64 (t4 + r0.1)) + 1)).toNat t0))
            else none
          else
            i_DecFront_L2 (w64 (t4 + r0.1)) t5 (List.take ((w64 (t4 + r0.1)).toNat - t4.toNat) (List.drop t4.toNat t0)) []
        else
          i_DecFront_L2 (w64 (t4 + r0.1)) t5 (List.take ((w64 (t4 + r0.1)).toNat - t4.toNat) (List.drop t4.toNat t0)) []
      else none
    else
      i_DecFront_L2 (w64 (t4 + r0.1)) t5 (List.take ((w64 (t4 + r0.1)).toNat - t4.toNat) (List.drop t4.toNat t0)) []
  else none := (lim_eq tab 17 (t0, (t4, (t5, ())))).trans (by kernel_rfl)
theorem i_DecFront_L2_eq (t4 : Int) (t5 : Bool) (t7 : (List Int)) (t8 : (List Int)) : i_DecFront_L2 t4 t5 t7 t8 =
  if (decide (t7 = [])) = true then
    if (decide (t8 = [])) = true then
      some (0, 0, ())
    else
      (i_millionths t7 t8).bind fun (r0 : Int × Bool × Unit) =>
      if (!r0.2.1) = true then
        some (0, 0, ())
      else
        if t5 = true then
          some ((w64 (0 - r0.1)), t4, ())
        else
          some (r0.1, t4, ())
  else
    (i_millionths t7 t8).bind fun (r1 : Int × Bool × Unit) =>
    if (!r1.2.1) = true then
      some (0, 0, ())
    else
      if t5 = true then
        some ((w64 (0 - r1.1)), t4, ())
      else
        some (r1.1, t4, ()) := (lim_eq tab 18 (t4, (t5, (t7, (t8, ()))))).trans (by kernel_rfl)
theorem x_strings_Trim_eq (t0 : (List Int)) (t1 : (List Int)) : x_strings_Trim t0 t1 =
  if (decide (t0 = [])) = true then
    some (t0, ())
  else
    if (decide (t1 = [])) = true then
      some (t0, ())
    else
      if (decide ((List.length t1 : Int) = 1)) = true then
        if (0 : Int) ≤ 0 ∧ (0 : Int) < (List.length t1 : Int) then
          if (decide ((List.getD t1 0 0) < 128)) = true then
            if (0 : Int) ≤ 0 ∧ (0 : Int) < (List.length t1 : Int) then
              (x_strings_trimRightByte t0 (List.getD t1 0 0)).bind fun (r0 : (List Int) × Unit) =>
              if (0 : Int) ≤ 0 ∧ (0 : Int) < (List.length t1 : Int) then
                (x_strings_trimLeftByte r0.1 (List.getD t1 0 0)).bind fun (r1 : (List Int) × Unit) =>
                some (r1.1, ())
              else none
            else none
          else
            none
        else none
      else
        none := (lim_eq tab 19 (t0, (t1, ()))).trans (by kernel_rfl)
theorem s_l2Digit_eq (t0 : Int) : s_l2Digit t0 =
  if (decide (t0 ≥ 48)) = true then
    some ((decide (t0 ≤ 57)), ())
  else
    some (false, ()) := (lim_eq tab 20 (t0, ())).trans (by kernel_rfl)
theorem x_strings_TrimLeft_eq (t0 : (List Int)) (t1 : (List Int)) : x_strings_TrimLeft t0 t1 =
  if (decide (t0 = [])) = true then
    some (t0, ())
  else
    if (decide (t1 = [])) = true then
      some (t0, ())
    else
      if (decide ((List.length t1 : Int) = 1)) = true then
        if (0 : Int) ≤ 0 ∧ (0 : Int) < (List.length t1 : Int) then
          if (decide ((List.getD t1 0 0) < 128)) = true then
            if (0 : Int) ≤ 0 ∧ (0 : Int) < (List.length t1 : Int) then
              (x_strings_trimLeftByte t0 (List.getD t1 0 0)).bind fun (r0 : (List Int) × Unit) =>
              some (r0.1, ())
            else none
          else
            none
        else none
      else
        none := (lim_eq tab 21 (t0, (t1, ()))).trans (by kernel_rfl)
theorem i_digitsAt_eq (t0 : (List Int)) (t1 : Int) : i_digitsAt t0 t1 =
  i_digitsAt_L1 t0 t1 0 := (lim_eq tab 22 (t0, (t1, ()))).trans (by kernel_rfl)
theorem i_digitsAt_L1_eq (t0 : (List Int)) (t1 : Int) (t5 : Int) : i_digitsAt_L1 t0 t1 t5 =
  if (decide ((w64 (t1 + t5)) < (List.length t0 : Int))) = true then
    if (0 : Int) ≤ (w64 (t1 + t5)) ∧ (w64 (t1 + t5)) < (List.length t0 : Int) then
      if (decide ((List.getD t0 (w64 (t1 + t5)).toNat 0) ≥ 48)) = true then
        if (0 : Int) ≤ (w64 (t1 + t5)) ∧ (w64 (t1 + t5)) < (List.length t0 : Int) then
          if (decide ((List.getD t0 (w64 (t1 + t5)).toNat 0) ≤ 57)) = true then
            i_digitsAt_L1 t0 t1 (w64 (t5 + 1))
          else
            some (t5, ())
        else none
      else
        some (t5, ())
    else none
  else
    some (t5, ()) := (lim_eq tab 23 (t0, (t1, (t5, ())))).trans (by kernel_rfl)
theorem i_millionths_eq (t0 : (List Int)) (t1 : (List Int)) : i_millionths t0 t1 =
  (x_strings_TrimLeft t0 [48]).bind fun (r0 : (List Int) × Unit) =>
  if List.length t1 + List.length [48, 48, 48, 48, 48, 48] ≤ 9223372036854775807 then
    if (0 : Int) ≤ 6 ∧ (6 : Int) ≤ (List.length (t1 ++ [48, 48, 48, 48, 48, 48]) : Int) then
      if (decide ((List.length r0.1 : Int) > 7)) = true then
        some (0, false, ())
      else
        if List.length [48] + List.length r0.1 ≤ 9223372036854775807 then
          if List.length ([48] ++ r0.1) + List.length (List.take (6 - 0) (List.drop 0 (t1 ++ [48, 48, 48, 48, 48, 48]))) ≤ 9223372036854775807 then
            (x_strconv_Atoi (([48] ++ r0.1) ++ (List.take (6 - 0) (List.drop 0 (t1 ++ [48, 48, 48, 48, 48, 48]))))).bind fun (r1 : Int × Unit × Unit) =>
            (i_right r1.1).bind fun (r2 : Int × Bool × Unit) =>
            some (r2.1, r2.2.1, ())
          else none
        else none
    else none
  else none := (lim_eq tab 24 (t0, (t1, ()))).trans (by kernel_rfl)
theorem x_strings_trimRightByte_eq (t0 : (List Int)) (t1 : Int) : x_strings_trimRightByte t0 t1 =
  x_strings_trimRightByte_L1 t0 t1 := (lim_eq tab 25 (t0, (t1, ()))).trans (by kernel_rfl)
theorem x_strings_trimRightByte_L1_eq (t0 : (List Int)) (t1 : Int) : x_strings_trimRightByte_L1 t0 t1 =
  if (decide ((List.length t0 : Int) > 0)) = true then
    if (0 : Int) ≤ (w64 ((List.length t0 : Int) - 1)) ∧ (w64 ((List.length t0 : Int) - 1)) < (List.length t0 : Int) then
      if (decide ((List.getD t0 (w64 ((List.length t0 : Int) - 1)).toNat 0) = t1)) = true then
        if (0 : Int) ≤ (w64 ((List.length t0 : Int) - 1)) ∧ (w64 ((List.length t0 : Int) - 1)) ≤ (List.length t0 : Int) then
          x_strings_trimRightByte_L1 (List.take ((w64 ((List.length t0 : Int) - 1)).toNat - 0) (List.drop 0 t0)) t1
        else none
      else
        some (t0, ())
    else none
  else
    some (t0, ()) := (lim_eq tab 26 (t0, (t1, ()))).trans (by kernel_rfl)
theorem x_strings_trimLeftByte_eq (t0 : (List Int)) (t1 : Int) : x_strings_trimLeftByte t0 t1 =
  x_strings_trimLeftByte_L1 t0 t1 := (lim_eq tab 27 (t0, (t1, ()))).trans (by kernel_rfl)
theorem x_strings_trimLeftByte_L1_eq (t0 : (List Int)) (t1 : Int) : x_strings_trimLeftByte_L1 t0 t1 =
  if (decide ((List.length t0 : Int) > 0)) = true then
    if (0 : Int) ≤ 0 ∧ (0 : Int) < (List.length t0 : Int) then
      if (decide ((List.getD t0 0 0) = t1)) = true then
        if (0 : Int) ≤ 1 ∧ (1 : Int) ≤ (List.length t0 : Int) then
          x_strings_trimLeftByte_L1 (List.take ((List.length t0) - 1) (List.drop 1 t0)) t1
        else none
      else
        some (t0, ())
    else none
  else
    some (t0, ()) := (lim_eq tab 28 (t0, (t1, ()))).trans (by kernel_rfl)
theorem x_strconv_Atoi_eq (t0 : (List Int)) : x_strconv_Atoi t0 =
  (x_internal_strconv_Atoi t0).bind fun (r0 : Int × Unit × Unit) =>
  some (r0.1, (), ()) := (lim_eq tab 29 (t0, ())).trans (by kernel_rfl)
theorem i_right_eq (t0 : Int) : i_right t0 =
  (i_DecOk t0).bind fun (r0 : Bool × Unit) =>
  if (!r0.1) = true then
    some (0, false, ())
  else
    some (t0, true, ()) := (lim_eq tab 30 (t0, ())).trans (by kernel_rfl)
theorem x_internal_strconv_Atoi_eq (t0 : (List Int)) : x_internal_strconv_Atoi t0 =
  if (decide (0 < (List.length t0 : Int))) = true then
    if (decide ((List.length t0 : Int) < 19)) = true then
      if (0 : Int) ≤ 0 ∧ (0 : Int) < (List.length t0 : Int) then
        if (decide ((List.getD t0 0 0) = 45)) = true then
          if (0 : Int) ≤ 1 ∧ (1 : Int) ≤ (List.length t0 : Int) then
            if (decide ((List.length (List.take ((List.length t0) - 1) (List.drop 1 t0)) : Int) < 1)) = true then
              none
            else
              x_internal_strconv_Atoi_L1 (List.take ((List.length t0) - 1) (List.drop 1 t0)) t0
          else none
        else
          if (0 : Int) ≤ 0 ∧ (0 : Int) < (List.length t0 : Int) then
            if (decide ((List.getD t0 0 0) = 43)) = true then
              if (0 : Int) ≤ 1 ∧ (1 : Int) ≤ (List.length t0 : Int) then
                if (decide ((List.length (List.take ((List.length t0) - 1) (List.drop 1 t0)) : Int) < 1)) = true then
                  none
                else
                  x_internal_strconv_Atoi_L1 (List.take ((List.length t0) - 1) (List.drop 1 t0)) t0
              else none
            else
              x_internal_strconv_Atoi_L1 t0 t0
          else none
      else none
    else
      (x_internal_strconv_ParseInt t0 10 0).bind fun (r0 : Int × Unit × Unit) =>
      some (r0.1, (), ())
  else
    (x_internal_strconv_ParseInt t0 10 0).bind fun (r1 : Int × Unit × Unit) =>
    some (r1.1, (), ()) := (lim_eq tab 31 (t0, ())).trans (by kernel_rfl)
theorem x_internal_strconv_Atoi_L1_eq (t0 : (List Int)) (t5 : (List Int)) : x_internal_strconv_Atoi_L1 t0 t5 =
  if (List.length t0 : Nat) ≤ room then
    x_internal_strconv_Atoi_L2 t5 0 t0 (List.length t0 : Int) 0
  else none := (lim_eq tab 32 (t0, (t5, ()))).trans (by kernel_rfl)
theorem x_internal_strconv_Atoi_L2_eq (t5 : (List Int)) (t6 : Int) (t47 : (List Int)) (t48 : Int) (t49 : Int) : x_internal_strconv_Atoi_L2 t5 t6 t47 t48 t49 =
  if (decide (t49 < t48)) = true then
    if (0 : Int) ≤ t49 ∧ t49 < (List.length t47 : Int) then
      if (decide ((w8 ((List.getD t47 t49.toNat 0) - 48)) > 9)) = true then
        none
      else
        x_internal_strconv_Atoi_L2 t5 (w64 ((w64 (t6 * 10)) + (w64 (w8 ((List.getD t47 t49.toNat 0) - 48))))) t47 t48 (w64 (t49 + 1))
    else none
  else
    if (0 : Int) ≤ 0 ∧ (0 : Int) < (List.length t5 : Int) then
      if (decide ((List.getD t5 0 0) = 45)) = true then
        some ((w64 (0 - t6)), (), ())
      else
        some (t6, (), ())
    else none := (lim_eq tab 33 (t5, (t6, (t47, (t48, (t49, ())))))).trans (by kernel_rfl)
theorem i_DecOk_eq (t0 : Int) : i_DecOk t0 =
  (i_in t0 (-9000000000000) 9000000000000).bind fun (r0 : Bool × Unit) =>
  some (r0.1, ()) := (lim_eq tab 34 (t0, ())).trans (by kernel_rfl)
theorem x_internal_strconv_ParseInt_eq (t0 : (List Int)) (t1 : Int) (t2 : Int) : x_internal_strconv_ParseInt t0 t1 t2 =
  if (decide (t0 = [])) = true then
    none
  else
    if (0 : Int) ≤ 0 ∧ (0 : Int) < (List.length t0 : Int) then
      if (decide ((List.getD t0 0 0) = 43)) = true then
        if (0 : Int) ≤ 1 ∧ (1 : Int) ≤ (List.length t0 : Int) then
          x_internal_strconv_ParseInt_L1 (List.take ((List.length t0) - 1) (List.drop 1 t0)) t1 t2 false
        else none
      else
        if (decide ((List.getD t0 0 0) = 45)) = true then
          if (0 : Int) ≤ 1 ∧ (1 : Int) ≤ (List.length t0 : Int) then
            x_internal_strconv_ParseInt_L1 (List.take ((List.length t0) - 1) (List.drop 1 t0)) t1 t2 true
          else none
        else
          x_internal_strconv_ParseInt_L1 t0 t1 t2 false
    else none := (lim_eq tab 35 (t0, (t1, (t2, ())))).trans (by kernel_rfl)
theorem x_internal_strconv_ParseInt_L1_eq (t0 : (List Int)) (t1 : Int) (t2 : Int) (t8 : Bool) : x_internal_strconv_ParseInt_L1 t0 t1 t2 t8 =
  (x_internal_strconv_ParseUint t0 t1 t2).bind fun (r0 : Int × Unit × Unit) =>
  if (decide (t2 = 0)) = true then
    x_internal_strconv_ParseInt_L2 64 t8 r0.1
  else
    x_internal_strconv_ParseInt_L2 t2 t8 r0.1 := (lim_eq tab 36 (t0, (t1, (t2, (t8, ()))))).trans (by kernel_rfl)
theorem x_internal_strconv_ParseInt_L2_eq (t2 : Int) (t8 : Bool) (t9 : Int) : x_internal_strconv_ParseInt_L2 t2 t8 t9 =
  if (0 : Int) ≤ (wu64 (w64 (t2 - 1))) then
    if (!t8) = true then
      if (decide (t9 ≥ (shlI .u64 1 (wu64 (w64 (t2 - 1)))))) = true then
        none
      else
        if t8 = true then
          if (decide (t9 > (shlI .u64 1 (wu64 (w64 (t2 - 1)))))) = true then
            none
          else
            if t8 = true then
              some ((w64 (0 - (w64 t9))), (), ())
            else
              some ((w64 t9), (), ())
        else
          if t8 = true then
            some ((w64 (0 - (w64 t9))), (), ())
          else
            some ((w64 t9), (), ())
    else
      if t8 = true then
        if (decide (t9 > (shlI .u64 1 (wu64 (w64 (t2 - 1)))))) = true then
          none
        else
          if t8 = true then
            some ((w64 (0 - (w64 t9))), (), ())
          else
            some ((w64 t9), (), ())
      else
        if t8 = true then
          some ((w64 (0 - (w64 t9))), (), ())
        else
          some ((w64 t9), (), ())
  else none := (lim_eq tab 37 (t2, (t8, (t9, ())))).trans (by kernel_rfl)
theorem i_in_eq (t0 : Int) (t1 : Int) (t2 : Int) : i_in t0 t1 t2 =
  if (decide (t0 ≥ t1)) = true then
    some ((decide (t0 ≤ t2)), ())
  else
    some (false, ()) := (lim_eq tab 38 (t0, (t1, (t2, ())))).trans (by kernel_rfl)
theorem x_internal_strconv_ParseUint_eq (t0 : (List Int)) (t1 : Int) (t2 : Int) : x_internal_strconv_ParseUint t0 t1 t2 =
  if (decide (t0 = [])) = true then
    none
  else
    if (decide (2 ≤ t1)) = true then
      if (decide (t1 ≤ 36)) = true then
        x_internal_strconv_ParseUint_L1 t0 t1 t2 (decide (t1 = 0)) t0
      else
        if (decide (t1 = 0)) = true then
          if (0 : Int) ≤ 0 ∧ (0 : Int) < (List.length t0 : Int) then
            if (decide ((List.getD t0 0 0) = 48)) = true then
              if (decide ((List.length t0 : Int) ≥ 3)) = true then
                if (0 : Int) ≤ 1 ∧ (1 : Int) < (List.length t0 : Int) then
                  (x_internal_strconv_lower (List.getD t0 1 0)).bind fun (r0 : Int × Unit) =>
                  if (decide (r0.1 = 98)) = true then
                    if (0 : Int) ≤ 2 ∧ (2 : Int) ≤ (List.length t0 : Int) then
                      x_internal_strconv_ParseUint_L1 (List.take ((List.length t0) - 2) (List.drop 2 t0)) 2 t2 (decide (t1 = 0)) t0
                    else none
                  else
                    if (decide ((List.length t0 : Int) ≥ 3)) = true then
                      if (0 : Int) ≤ 1 ∧ (1 : Int) < (List.length t0 : Int) then
                        (x_internal_strconv_lower (List.getD t0 1 0)).bind fun (r1 : Int × Unit) =>
                        if (decide (r1.1 = 111)) = true then
                          if (0 : Int) ≤ 2 ∧ (2 : Int) ≤ (List.length t0 : Int) then
                            x_internal_strconv_ParseUint_L1 (List.take ((List.length t0) - 2) (List.drop 2 t0)) 8 t2 (decide (t1 = 0)) t0
                          else none
                        else
                          if (decide ((List.length t0 : Int) ≥ 3)) = true then
                            if (0 : Int) ≤ 1 ∧ (1 : Int) < (List.length t0 : Int) then
                              (x_internal_strconv_lower (List.getD t0 1 0)).bind fun (r2 : Int × Unit) =>
                              if (decide (r2.1 = 120)) = true then
                                if (0 : Int) ≤ 2 ∧ (2 : Int) ≤ (List.length t0 : Int) then
                                  x_internal_strconv_ParseUint_L1 (List.take ((List.length t0) - 2) (List.drop 2 t0)) 16 t2 (decide (t1 = 0)) t0
                                else none
                              else
                                if (0 : Int) ≤ 1 ∧ (1 : Int) ≤ (List.length t0 : Int) then
                                  x_internal_strconv_ParseUint_L1 (List.take ((List.length t0) - 1) (List.drop 1 t0)) 8 t2 (decide (t1 = 0)) t0
                                else none
                            else none
                          else
                            if (0 : Int) ≤ 1 ∧ (1 : Int) ≤ (List.length t0 : Int) then
                              x_internal_strconv_ParseUint_L1 (List.take ((List.length t0) - 1) (List.drop 1 t0)) 8 t2 (decide (t1 = 0)) t0
                            else none
                      else none
                    else
                      if (decide ((List.length t0 : Int) ≥ 3)) = true then
                        if (0 : Int) ≤ 1 ∧ (1 : Int) < (List.length t0 : Int) then
                          (x_internal_strconv_lower (List.getD t0 1 0)).bind fun (r3 : Int × Unit) =>
                          if (decide (r3.1 = 120)) = true then
                            if (0 : Int) ≤ 2 ∧ (2 : Int) ≤ (List.length t0 : Int) then
                              x_internal_strconv_ParseUint_L1 (List.take ((List.length t0) - 2) (List.drop 2 t0)) 16 t2 (decide (t1 = 0)) t0
                            else none
                          else
                            if (0 : Int) ≤ 1 ∧ (1 : Int) ≤ (List.length t0 : Int) then
                              x_internal_strconv_ParseUint_L1 (List.take ((List.length t0) - 1) (List.drop 1 t0)) 8 t2 (decide (t1 = 0)) t0
                            else none
                        else none
                      else
                        if (0 : Int) ≤ 1 ∧ (1 : Int) ≤ (List.length t0 : Int) then
                          x_internal_strconv_ParseUint_L1 (List.take ((List.length t0) - 1) (List.drop 1 t0)) 8 t2 (decide (t1 = 0)) t0
                        else none
                else none
              else
                if (decide ((List.length t0 : Int) ≥ 3)) = true then
                  if (0 : Int) ≤ 1 ∧ (1 : Int) < (List.length t0 : Int) then
                    (x_internal_strconv_lower (List.getD t0 1 0)).bind fun (r4 : Int × Unit) =>
                    if (decide (r4.1 = 111)) = true then
                      if (0 : Int) ≤ 2 ∧ (2 : Int) ≤ (List.length t0 : Int) then
                        x_internal_strconv_ParseUint_L1 (List.take ((List.length t0) - 2) (List.drop 2 t0)) 8 t2 (decide (t1 = 0)) t0
                      else none
                    else
                      if (decide ((List.length t0 : Int) ≥ 3)) = true then
                        if (0 : Int) ≤ 1 ∧ (1 : Int) < (List.length t0 : Int) then
                          (x_internal_strconv_lower (List.getD t0 1 0)).bind fun (r5 : Int × Unit) =>
                          if (decide (r5.1 = 120)) = true then
                            if (0 : Int) ≤ 2 ∧ (2 : Int) ≤ (List.length t0 : Int) then
                              x_internal_strconv_ParseUint_L1 (List.take ((List.length t0) - 2) (List.drop 2 t0)) 16 t2 (decide (t1 = 0)) t0
                            else none
                          else
                            if (0 : Int) ≤ 1 ∧ (1 : Int) ≤ (List.length t0 : Int) then
                              x_internal_strconv_ParseUint_L1 (List.take ((List.length t0) - 1) (List.drop 1 t0)) 8 t2 (decide (t1 = 0)) t0
                            else none
                        else none
                      else
                        if (0 : Int) ≤ 1 ∧ (1 : Int) ≤ (List.length t0 : Int) then
                          x_internal_strconv_ParseUint_L1 (List.take ((List.length t0) - 1) (List.drop 1 t0)) 8 t2 (decide (t1 = 0)) t0
                        else none
                  else none
                else
                  if (decide ((List.length t0 : Int) ≥ 3)) = true then
                    if (0 : Int) ≤ 1 ∧ (1 : Int) < (List.length t0 : Int) then
                      (x_internal_strconv_lower (List.getD t0 1 0)).bind fun (r6 : Int × Unit) =>
                      if (decide (r6.1 = 120)) = true then
                        if (0 : Int) ≤ 2 ∧ (2 : Int) ≤ (List.length t0 : Int) then
                          x_internal_strconv_ParseUint_L1 (List.take ((List.length t0) - 2) (List.drop 2 t0)) 16 t2 (decide (t1 = 0)) t0
                        else none
                      else
                        if (0 : Int) ≤ 1 ∧ (1 : Int) ≤ (List.length t0 : Int) then
                          x_internal_strconv_ParseUint_L1 (List.take ((List.length t0) - 1) (List.drop 1 t0)) 8 t2 (decide (t1 = 0)) t0
                        else none
                    else none
                  else
                    if (0 : Int) ≤ 1 ∧ (1 : Int) ≤ (List.length t0 : Int) then
                      x_internal_strconv_ParseUint_L1 (List.take ((List.length t0) - 1) (List.drop 1 t0)) 8 t2 (decide (t1 = 0)) t0
                    else none
            else
              x_internal_strconv_ParseUint_L1 t0 10 t2 (decide (t1 = 0)) t0
          else none
        else
          none
    else
      if (decide (t1 = 0)) = true then
        if (0 : Int) ≤ 0 ∧ (0 : Int) < (List.length t0 : Int) then
          if (decide ((List.getD t0 0 0) = 48)) = true then
            if (decide ((List.length t0 : Int) ≥ 3)) = true then
              if (0 : Int) ≤ 1 ∧ (1 : Int) < (List.length t0 : Int) then
                (x_internal_strconv_lower (List.getD t0 1 0)).bind fun (r7 : Int × Unit) =>
                if (decide (r7.1 = 98)) = true then
                  if (0 : Int) ≤ 2 ∧ (2 : Int) ≤ (List.length t0 : Int) then
                    x_internal_strconv_ParseUint_L1 (List.take ((List.length t0) - 2) (List.drop 2 t0)) 2 t2 (decide (t1 = 0)) t0
                  else none
                else
                  if (decide ((List.length t0 : Int) ≥ 3)) = true then
                    if (0 : Int) ≤ 1 ∧ (1 : Int) < (List.length t0 : Int) then
                      (x_internal_strconv_lower (List.getD t0 1 0)).bind fun (r8 : Int × Unit) =>
                      if (decide (r8.1 = 111)) = true then
                        if (0 : Int) ≤ 2 ∧ (2 : Int) ≤ (List.length t0 : Int) then
                          x_internal_strconv_ParseUint_L1 (List.take ((List.length t0) - 2) (List.drop 2 t0)) 8 t2 (decide (t1 = 0)) t0
                        else none
                      else
                        if (decide ((List.length t0 : Int) ≥ 3)) = true then
                          if (0 : Int) ≤ 1 ∧ (1 : Int) < (List.length t0 : Int) then
                            (x_internal_strconv_lower (List.getD t0 1 0)).bind fun (r9 : Int × Unit) =>
                            if (decide (r9.1 = 120)) = true then
                              if (0 : Int) ≤ 2 ∧ (2 : Int) ≤ (List.length t0 : Int) then
                                x_internal_strconv_ParseUint_L1 (List.take ((List.length t0) - 2) (List.drop 2 t0)) 16 t2 (decide (t1 = 0)) t0
                              else none
                            else
                              if (0 : Int) ≤ 1 ∧ (1 : Int) ≤ (List.length t0 : Int) then
                                x_internal_strconv_ParseUint_L1 (List.take ((List.length t0) - 1) (List.drop 1 t0)) 8 t2 (decide (t1 = 0)) t0
                              else none
                          else none
                        else
                          if (0 : Int) ≤ 1 ∧ (1 : Int) ≤ (List.length t0 : Int) then
                            x_internal_strconv_ParseUint_L1 (List.take ((List.length t0) - 1) (List.drop 1 t0)) 8 t2 (decide (t1 = 0)) t0
                          else none
                    else none
                  else
                    if (decide ((List.length t0 : Int) ≥ 3)) = true then
                      if (0 : Int) ≤ 1 ∧ (1 : Int) < (List.length t0 : Int) then
                        (x_internal_strconv_lower (List.getD t0 1 0)).bind fun (r10 : Int × Unit) =>
                        if (decide (r10.1 = 120)) = true then
                          if (0 : Int) ≤ 2 ∧ (2 : Int) ≤ (List.length t0 : Int) then
                            x_internal_strconv_ParseUint_L1 (List.take ((List.length t0) - 2) (List.drop 2 t0)) 16 t2 (decide (t1 = 0)) t0
                          else none
                        else
                          if (0 : Int) ≤ 1 ∧ (1 : Int) ≤ (List.length t0 : Int) then
                            x_internal_strconv_ParseUint_L1 (List.take ((List.length t0) - 1) (List.drop 1 t0)) 8 t2 (decide (t1 = 0)) t0
                          else none
                      else none
                    else
                      if (0 : Int) ≤ 1 ∧ (1 : Int) ≤ (List.length t0 : Int) then
                        x_internal_strconv_ParseUint_L1 (List.take ((List.length t0) - 1) (List.drop 1 t0)) 8 t2 (decide (t1 = 0)) t0
                      else none
              else none
            else
              if (decide ((List.length t0 : Int) ≥ 3)) = true then
                if (0 : Int) ≤ 1 ∧ (1 : Int) < (List.length t0 : Int) then
                  (x_internal_strconv_lower (List.getD t0 1 0)).bind fun (r11 : Int × Unit) =>
                  if (decide (r11.1 = 111)) = true then
                    if (0 : Int) ≤ 2 ∧ (2 : Int) ≤ (List.length t0 : Int) then
                      x_internal_strconv_ParseUint_L1 (List.take ((List.length t0) - 2) (List.drop 2 t0)) 8 t2 (decide (t1 = 0)) t0
                    else none
                  else
                    if (decide ((List.length t0 : Int) ≥ 3)) = true then
                      if (0 : Int) ≤ 1 ∧ (1 : Int) < (List.length t0 : Int) then
                        (x_internal_strconv_lower (List.getD t0 1 0)).bind fun (r12 : Int × Unit) =>
                        if (decide (r12.1 = 120)) = true then
                          if (0 : Int) ≤ 2 ∧ (2 : Int) ≤ (List.length t0 : Int) then
                            x_internal_strconv_ParseUint_L1 (List.take ((List.length t0) - 2) (List.drop 2 t0)) 16 t2 (decide (t1 = 0)) t0
                          else none
                        else
                          if (0 : Int) ≤ 1 ∧ (1 : Int) ≤ (List.length t0 : Int) then
                            x_internal_strconv_ParseUint_L1 (List.take ((List.length t0) - 1) (List.drop 1 t0)) 8 t2 (decide (t1 = 0)) t0
                          else none
                      else none
                    else
                      if (0 : Int) ≤ 1 ∧ (1 : Int) ≤ (List.length t0 : Int) then
                        x_internal_strconv_ParseUint_L1 (List.take ((List.length t0) - 1) (List.drop 1 t0)) 8 t2 (decide (t1 = 0)) t0
                      else none
                else none
              else
                if (decide ((List.length t0 : Int) ≥ 3)) = true then
                  if (0 : Int) ≤ 1 ∧ (1 : Int) < (List.length t0 : Int) then
                    (x_internal_strconv_lower (List.getD t0 1 0)).bind fun (r13 : Int × Unit) =>
                    if (decide (r13.1 = 120)) = true then
                      if (0 : Int) ≤ 2 ∧ (2 : Int) ≤ (List.length t0 : Int) then
                        x_internal_strconv_ParseUint_L1 (List.take ((List.length t0) - 2) (List.drop 2 t0)) 16 t2 (decide (t1 = 0)) t0
                      else none
                    else
                      if (0 : Int) ≤ 1 ∧ (1 : Int) ≤ (List.length t0 : Int) then
                        x_internal_strconv_ParseUint_L1 (List.take ((List.length t0) - 1) (List.drop 1 t0)) 8 t2 (decide (t1 = 0)) t0
                      else none
                  else none
                else
                  if (0 : Int) ≤ 1 ∧ (1 : Int) ≤ (List.length t0 : Int) then
                    x_internal_strconv_ParseUint_L1 (List.take ((List.length t0) - 1) (List.drop 1 t0)) 8 t2 (decide (t1 = 0)) t0
                  else none
          else
            x_internal_strconv_ParseUint_L1 t0 10 t2 (decide (t1 = 0)) t0
        else none
      else
        none := (lim_eq tab 39 (t0, (t1, (t2, ())))).trans (by kernel_rfl)
theorem x_internal_strconv_ParseUint_L1_eq (t0 : (List Int)) (t1 : Int) (t2 : Int) (t8 : Bool) (t9 : (List Int)) : x_internal_strconv_ParseUint_L1 t0 t1 t2 t8 t9 =
  if (decide (t2 = 0)) = true then
    x_internal_strconv_ParseUint_L2 t0 t1 64 t8 t9
  else
    if (decide (t2 < 0)) = true then
      none
    else
      if (decide (t2 > 64)) = true then
        none
      else
        x_internal_strconv_ParseUint_L2 t0 t1 t2 t8 t9 := (lim_eq tab 40 (t0, (t1, (t2, (t8, (t9, ())))))).trans (by kernel_rfl)
theorem x_internal_strconv_ParseUint_L2_eq (t0 : (List Int)) (t1 : Int) (t2 : Int) (t8 : Bool) (t9 : (List Int)) : x_internal_strconv_ParseUint_L2 t0 t1 t2 t8 t9 =
  if (decide (t1 = 10)) = true then
    x_internal_strconv_ParseUint_L3 t0 t1 t2 t8 t9 1844674407370955162
  else
    if (decide (t1 = 16)) = true then
      x_internal_strconv_ParseUint_L3 t0 t1 t2 t8 t9 1152921504606846976
    else
      if (wu64 t1) ≠ 0 then
        x_internal_strconv_ParseUint_L3 t0 t1 t2 t8 t9 (wu64 ((wu64 (Int.tdiv 18446744073709551615 (wu64 t1))) + 1))
      else none := (lim_eq tab 41 (t0, (t1, (t2, (t8, (t9, ())))))).trans (by kernel_rfl)
theorem x_internal_strconv_ParseUint_L3_eq (t0 : (List Int)) (t1 : Int) (t2 : Int) (t8 : Bool) (t9 : (List Int)) (t10 : Int) : x_internal_strconv_ParseUint_L3 t0 t1 t2 t8 t9 t10 =
  if (0 : Int) ≤ (wu64 t2) then
    if (List.length t0 : Nat) ≤ room then
      x_internal_strconv_ParseUint_L4 t1 t8 t9 t10 (wu64 ((shlI .u64 1 (wu64 t2)) - 1)) false 0 t0 (List.length t0 : Int) 0
    else none
  else none := (lim_eq tab 42 (t0, (t1, (t2, (t8, (t9, (t10, ()))))))).trans (by kernel_rfl)
theorem x_internal_strconv_ParseUint_L4_eq (t1 : Int) (t8 : Bool) (t9 : (List Int)) (t10 : Int) (t11 : Int) (t12 : Bool) (t13 : Int) (t99 : (List Int)) (t100 : Int) (t101 : Int) : x_internal_strconv_ParseUint_L4 t1 t8 t9 t10 t11 t12 t13 t99 t100 t101 =
  if (decide (t101 < t100)) = true then
    if (0 : Int) ≤ t101 ∧ t101 < (List.length t99 : Int) then
      if (decide ((List.getD t99 t101.toNat 0) = 95)) = true then
        if t8 = true then
          x_internal_strconv_ParseUint_L4 t1 t8 t9 t10 t11 true t13 t99 t100 (w64 (t101 + 1))
        else
          if (decide (48 ≤ (List.getD t99 t101.toNat 0))) = true then
            if (decide ((List.getD t99 t101.toNat 0) ≤ 57)) = true then
              x_internal_strconv_ParseUint_L5 t1 t8 t9 t10 t11 t12 t13 (w8 ((List.getD t99 t101.toNat 0) - 48)) t99 t100 t101 t8 (List.getD t99 t101.toNat 0) (decide ((List.getD t99 t101.toNat 0) ≤ 57))
            else
              (x_internal_strconv_lower (List.getD t99 t101.toNat 0)).bind fun (r0 : Int × Unit) =>
              if (decide (97 ≤ r0.1)) = true then
                (x_internal_strconv_lower (List.getD t99 t101.toNat 0)).bind fun (r1 : Int × Unit) =>
                if (decide (r1.1 ≤ 122)) = true then
                  (x_internal_strconv_lower (List.getD t99 t101.toNat 0)).bind fun (r2 : Int × Unit) =>
                  x_internal_strconv_ParseUint_L5 t1 t8 t9 t10 t11 t12 t13 (w8 ((w8 (r2.1 - 97)) + 10)) t99 t100 t101 t8 (List.getD t99 t101.toNat 0) (decide ((List.getD t99 t101.toNat 0) ≤ 57))
                else
                  none
              else
                none
          else
            (x_internal_strconv_lower (List.getD t99 t101.toNat 0)).bind fun (r3 : Int × Unit) =>
            if (decide (97 ≤ r3.1)) = true then
              (x_internal_strconv_lower (List.getD t99 t101.toNat 0)).bind fun (r4 : Int × Unit) =>
              if (decide (r4.1 ≤ 122)) = true then
                (x_internal_strconv_lower (List.getD t99 t101.toNat 0)).bind fun (r5 : Int × Unit) =>
                none
              else
                none
            else
              none
      else
        if (decide (48 ≤ (List.getD t99 t101.toNat 0))) = true then
          if (decide ((List.getD t99 t101.toNat 0) ≤ 57)) = true then
            none
          else
            (x_internal_strconv_lower (List.getD t99 t101.toNat 0)).bind fun (r6 : Int × Unit) =>
            if (decide (97 ≤ r6.1)) = true then
              (x_internal_strconv_lower (List.getD t99 t101.toNat 0)).bind fun (r7 : Int × Unit) =>
              if (decide (r7.1 ≤ 122)) = true then
                (x_internal_strconv_lower (List.getD t99 t101.toNat 0)).bind fun (r8 : Int × Unit) =>
                none
              else
                none
            else
              none
        else
          (x_internal_strconv_lower (List.getD t99 t101.toNat 0)).bind fun (r9 : Int × Unit) =>
          if (decide (97 ≤ r9.1)) = true then
            (x_internal_strconv_lower (List.getD t99 t101.toNat 0)).bind fun (r10 : Int × Unit) =>
            if (decide (r10.1 ≤ 122)) = true then
              (x_internal_strconv_lower (List.getD t99 t101.toNat 0)).bind fun (r11 : Int × Unit) =>
              none
            else
              none
          else
            none
    else none
  else
    if t12 = true then
      (x_internal_strconv_underscoreOK t9).bind fun (r12 : Bool × Unit) =>
      if (!r12.1) = true then
        none
      else
        some (t13, (), ())
    else
      some (t13, (), ()) := (lim_eq tab 43 (t1, (t8, (t9, (t10, (t11, (t12, (t13, (t99, (t100, (t101, ()))))))))))).trans (by kernel_rfl)
theorem x_internal_strconv_ParseUint_L5_eq (t1 : Int) (t8 : Bool) (t9 : (List Int)) (t10 : Int) (t11 : Int) (t12 : Bool) (t13 : Int) (t16 : Int) (t99 : (List Int)) (t100 : Int) (t101 : Int) (t110 : Bool) (t116 : Int) (t117 : Bool) : x_internal_strconv_ParseUint_L5 t1 t8 t9 t10 t11 t12 t13 t16 t99 t100 t101 t110 t116 t117 =
  if (decide (t16 ≥ (w8 t1))) = true then
    none
  else
    if (decide (t13 ≥ t10)) = true then
      none
    else
      if (decide ((wu64 ((wu64 (t13 * (wu64 t1))) + (wu64 t16))) < (wu64 (t13 * (wu64 t1))))) = true then
        none
      else
        if (decide ((wu64 ((wu64 (t13 * (wu64 t1))) + (wu64 t16))) > t11)) = true then
          none
        else
          x_internal_strconv_ParseUint_L4 t1 t8 t9 t10 t11 t12 (wu64 ((wu64 (t13 * (wu64 t1))) + (wu64 t16))) t99 t100 (w64 (t101 + 1)) := (lim_eq tab 44 (t1, (t8, (t9, (t10, (t11, (t12, (t13, (t16, (t99, (t100, (t101, (t110, (t116, (t117, ()))))))))))))))).trans (by kernel_rfl)
theorem x_internal_strconv_lower_eq (t0 : Int) : x_internal_strconv_lower t0 =
  some ((bits .or .u8 t0 32), ()) := (lim_eq tab 45 (t0, ())).trans (by kernel_rfl)
theorem x_internal_strconv_underscoreOK_eq (t0 : (List Int)) : x_internal_strconv_underscoreOK t0 =
  if (decide ((List.length t0 : Int) ≥ 1)) = true then
    if (0 : Int) ≤ 0 ∧ (0 : Int) < (List.length t0 : Int) then
      if (decide ((List.getD t0 0 0) = 45)) = true then
        if (0 : Int) ≤ 1 ∧ (1 : Int) ≤ (List.length t0 : Int) then
          x_internal_strconv_underscoreOK_L1 (List.take ((List.length t0) - 1) (List.drop 1 t0)) 94 0
        else none
      else
        if (0 : Int) ≤ 0 ∧ (0 : Int) < (List.length t0 : Int) then
          if (decide ((List.getD t0 0 0) = 43)) = true then
            if (0 : Int) ≤ 1 ∧ (1 : Int) ≤ (List.length t0 : Int) then
              x_internal_strconv_underscoreOK_L1 (List.take ((List.length t0) - 1) (List.drop 1 t0)) 94 0
            else none
          else
            x_internal_strconv_underscoreOK_L1 t0 94 0
        else none
    else none
  else
    x_internal_strconv_underscoreOK_L1 t0 94 0 := (lim_eq tab 46 (t0, ())).trans (by kernel_rfl)
theorem x_internal_strconv_underscoreOK_L1_eq (t0 : (List Int)) (t3 : Int) (t4 : Int) : x_internal_strconv_underscoreOK_L1 t0 t3 t4 =
  if (decide ((List.length t0 : Int) ≥ 2)) = true then
    if (0 : Int) ≤ 0 ∧ (0 : Int) < (List.length t0 : Int) then
      if (decide ((List.getD t0 0 0) = 48)) = true then
        if (0 : Int) ≤ 1 ∧ (1 : Int) < (List.length t0 : Int) then
          (x_internal_strconv_lower (List.getD t0 1 0)).bind fun (r0 : Int × Unit) =>
          if (decide (r0.1 = 98)) = true then
            if (0 : Int) ≤ 1 ∧ (1 : Int) < (List.length t0 : Int) then
              (x_internal_strconv_lower (List.getD t0 1 0)).bind fun (r1 : Int × Unit) =>
              x_internal_strconv_underscoreOK_L2 t0 48 2 (decide (r1.1 = 120))
            else none
          else
            if (0 : Int) ≤ 1 ∧ (1 : Int) < (List.length t0 : Int) then
              (x_internal_strconv_lower (List.getD t0 1 0)).bind fun (r2 : Int × Unit) =>
              if (decide (r2.1 = 111)) = true then
                if (0 : Int) ≤ 1 ∧ (1 : Int) < (List.length t0 : Int) then
                  (x_internal_strconv_lower (List.getD t0 1 0)).bind fun (r3 : Int × Unit) =>
                  x_internal_strconv_underscoreOK_L2 t0 48 2 (decide (r3.1 = 120))
                else none
              else
                if (0 : Int) ≤ 1 ∧ (1 : Int) < (List.length t0 : Int) then
                  (x_internal_strconv_lower (List.getD t0 1 0)).bind fun (r4 : Int × Unit) =>
                  if (decide (r4.1 = 120)) = true then
                    if (0 : Int) ≤ 1 ∧ (1 : Int) < (List.length t0 : Int) then
                      (x_internal_strconv_lower (List.getD t0 1 0)).bind fun (r5 : Int × Unit) =>
                      x_internal_strconv_underscoreOK_L2 t0 48 2 (decide (r5.1 = 120))
                    else none
                  else
                    x_internal_strconv_underscoreOK_L2 t0 t3 t4 false
                else none
            else none
        else none
      else
        x_internal_strconv_underscoreOK_L2 t0 t3 t4 false
    else none
  else
    x_internal_strconv_underscoreOK_L2 t0 t3 t4 false := (lim_eq tab 47 (t0, (t3, (t4, ())))).trans (by kernel_rfl)
theorem x_internal_strconv_underscoreOK_L2_eq (t0 : (List Int)) (t3 : Int) (t4 : Int) (t5 : Bool) : x_internal_strconv_underscoreOK_L2 t0 t3 t4 t5 =
  x_internal_strconv_underscoreOK_L3 t0 t3 t4 t5 := (lim_eq tab 48 (t0, (t3, (t4, (t5, ()))))).trans (by kernel_rfl)
theorem x_internal_strconv_underscoreOK_L3_eq (t0 : (List Int)) (t3 : Int) (t4 : Int) (t5 : Bool) : x_internal_strconv_underscoreOK_L3 t0 t3 t4 t5 =
  if (decide (t4 < (List.length t0 : Int))) = true then
    if (0 : Int) ≤ t4 ∧ t4 < (List.length t0 : Int) then
      if (decide (48 ≤ (List.getD t0 t4.toNat 0))) = true then
        if (0 : Int) ≤ t4 ∧ t4 < (List.length t0 : Int) then
          if (decide ((List.getD t0 t4.toNat 0) ≤ 57)) = true then
            x_internal_strconv_underscoreOK_L3 t0 48 (w64 (t4 + 1)) t5
          else
            if t5 = true then
              if (0 : Int) ≤ t4 ∧ t4 < (List.length t0 : Int) then
                (x_internal_strconv_lower (List.getD t0 t4.toNat 0)).bind fun (r0 : Int × Unit) =>
                if (decide (97 ≤ r0.1)) = true then
                  if (0 : Int) ≤ t4 ∧ t4 < (List.length t0 : Int) then
                    (x_internal_strconv_lower (List.getD t0 t4.toNat 0)).bind fun (r1 : Int × Unit) =>
                    if (decide (r1.1 ≤ 102)) = true then
                      x_internal_strconv_underscoreOK_L3 t0 48 (w64 (t4 + 1)) t5
                    else
                      if (0 : Int) ≤ t4 ∧ t4 < (List.length t0 : Int) then
                        if (decide ((List.getD t0 t4.toNat 0) = 95)) = true then
                          if (!(decide (t3 = 48))) = true then
                            some (false, ())
                          else
                            x_internal_strconv_underscoreOK_L3 t0 95 (w64 (t4 + 1)) t5
                        else
                          if (decide (t3 = 95)) = true then
                            some (false, ())
                          else
                            x_internal_strconv_underscoreOK_L3 t0 33 (w64 (t4 + 1)) t5
                      else none
                  else none
                else
                  if (0 : Int) ≤ t4 ∧ t4 < (List.length t0 : Int) then
                    if (decide ((List.getD t0 t4.toNat 0) = 95)) = true then
                      if (!(decide (t3 = 48))) = true then
                        some (false, ())
                      else
                        x_internal_strconv_underscoreOK_L3 t0 95 (w64 (t4 + 1)) t5
                    else
                      if (decide (t3 = 95)) = true then
                        some (false, ())
                      else
                        x_internal_strconv_underscoreOK_L3 t0 33 (w64 (t4 + 1)) t5
                  else none
              else none
            else
              if (0 : Int) ≤ t4 ∧ t4 < (List.length t0 : Int) then
                if (decide ((List.getD t0 t4.toNat 0) = 95)) = true then
                  if (!(decide (t3 = 48))) = true then
                    some (false, ())
                  else
                    x_internal_strconv_underscoreOK_L3 t0 95 (w64 (t4 + 1)) t5
                else
                  if (decide (t3 = 95)) = true then
                    some (false, ())
                  else
                    x_internal_strconv_underscoreOK_L3 t0 33 (w64 (t4 + 1)) t5
              else none
        else none
      else
        if t5 = true then
          if (0 : Int) ≤ t4 ∧ t4 < (List.length t0 : Int) then
            (x_internal_strconv_lower (List.getD t0 t4.toNat 0)).bind fun (r2 : Int × Unit) =>
            if (decide (97 ≤ r2.1)) = true then
              if (0 : Int) ≤ t4 ∧ t4 < (List.length t0 : Int) then
                (x_internal_strconv_lower (List.getD t0 t4.toNat 0)).bind fun (r3 : Int × Unit) =>
                if (decide (r3.1 ≤ 102)) = true then
                  x_internal_strconv_underscoreOK_L3 t0 48 (w64 (t4 + 1)) t5
                else
                  if (0 : Int) ≤ t4 ∧ t4 < (List.length t0 : Int) then
                    if (decide ((List.getD t0 t4.toNat 0) = 95)) = true then
                      if (!(decide (t3 = 48))) = true then
                        some (false, ())
                      else
                        x_internal_strconv_underscoreOK_L3 t0 95 (w64 (t4 + 1)) t5
                    else
                      if (decide (t3 = 95)) = true then
                        some (false, ())
                      else
                        x_internal_strconv_underscoreOK_L3 t0 33 (w64 (t4 + 1)) t5
                  else none
              else none
            else
              if (0 : Int) ≤ t4 ∧ t4 < (List.length t0 : Int) then
                if (decide ((List.getD t0 t4.toNat 0) = 95)) = true then
                  if (!(decide (t3 = 48))) = true then
                    some (false, ())
                  else
                    x_internal_strconv_underscoreOK_L3 t0 95 (w64 (t4 + 1)) t5
                else
                  if (decide (t3 = 95)) = true then
                    some (false, ())
                  else
                    x_internal_strconv_underscoreOK_L3 t0 33 (w64 (t4 + 1)) t5
              else none
          else none
        else
          if (0 : Int) ≤ t4 ∧ t4 < (List.length t0 : Int) then
            if (decide ((List.getD t0 t4.toNat 0) = 95)) = true then
              if (!(decide (t3 = 48))) = true then
                some (false, ())
              else
                x_internal_strconv_underscoreOK_L3 t0 95 (w64 (t4 + 1)) t5
            else
              if (decide (t3 = 95)) = true then
                some (false, ())
              else
                x_internal_strconv_underscoreOK_L3 t0 33 (w64 (t4 + 1)) t5
          else none
    else none
  else
    some ((!(decide (t3 = 95))), ()) := (lim_eq tab 49 (t0, (t3, (t4, (t5, ()))))).trans (by kernel_rfl)
end Go.Proofs.YtlidpmhmchbilaaDoor.E.TA
