/- The keys' plain equations (1). No condition. -/
import Derived.Test.YtajahbpeiifcbaaTLe0
namespace Go.Proofs.Ytajahbpeiifcbaa.E.TL
open Go.Proofs.Ytajahbpeiifcbaa.E
set_option linter.unusedVariables false
set_option maxRecDepth 100000
theorem l_FnLogs_eq (t0 : (List Int)) : l_FnLogs t0 =
  (l_big t0).bind fun (r0 : Bool × Unit) =>
  if r0.1 = true then
    some (true, ())
  else
    (s_DrawLogPut t0).bind fun (r1 : impl_Log × Int × Int × (List impl_Entry) × Unit) =>
    (i_LogPut r1.1 r1.2.1 r1.2.2.1 r1.2.2.2.1).bind fun (r2 : impl_Log × Bool × Unit) =>
    (s_LogPut r1.1 r1.2.1 r1.2.2.1 r1.2.2.2.1).bind fun (r3 : impl_Log × Bool × Unit) =>
    if (!(decide (r2.2.1 = r3.2.1))) = true then
      some (false, ())
    else
      (l_sameLog r2.1 r3.1).bind fun (r4 : Bool × Unit) =>
      if (!r4.1) = true then
        some (false, ())
      else
        (i_LogOk r1.1).bind fun (r5 : Bool × Unit) =>
        (s_LogOk r1.1).bind fun (r6 : Bool × Unit) =>
        if (!(decide (r5.1 = r6.1))) = true then
          some (false, ())
        else
          (s_DrawLogCut t0).bind fun (r7 : impl_Log × Int × Unit) =>
          (i_LogCut r7.1 r7.2.1).bind fun (r8 : impl_Log × Unit) =>
          (s_DrawTermAt t0).bind fun (r9 : impl_Log × Int × Unit) =>
          (s_DrawFrom t0).bind fun (r10 : impl_Log × Int × Unit) =>
          (s_DrawNewer t0).bind fun (r11 : impl_Log × Int × Int × Unit) =>
          (s_DrawLastOf t0).bind fun (r12 : impl_Log × Unit) =>
          (i_LastOf r12.1).bind fun (r13 : Int × Int × Unit) =>
          (s_LastOf r12.1).bind fun (r14 : Int × Int × Unit) =>
          (s_LogCut r7.1 r7.2.1).bind fun (r15 : impl_Log × Unit) =>
          (l_sameLog r8.1 r15.1).bind fun (r16 : Bool × Unit) =>
          if (!r16.1) = true then
            some (false, ())
          else
            (i_TermAt r9.1 r9.2.1).bind fun (r17 : Int × Unit) =>
            (s_TermAt r9.1 r9.2.1).bind fun (r18 : Int × Unit) =>
            if (!(decide (r17.1 = r18.1))) = true then
              some (false, ())
            else
              (i_From r10.1 r10.2.1).bind fun (r19 : (List impl_Entry) × Unit) =>
              (s_From r10.1 r10.2.1).bind fun (r20 : (List impl_Entry) × Unit) =>
              if (!(decide ((List.length r19.1 : Int) = (List.length r20.1 : Int)))) = true then
                some (false, ())
              else
                (i_Newer r11.1 r11.2.1 r11.2.2.1).bind fun (r21 : Bool × Unit) =>
                (s_Newer r11.1 r11.2.1 r11.2.2.1).bind fun (r22 : Bool × Unit) =>
                if (!(decide (r21.1 = r22.1))) = true then
                  some (false, ())
                else
                  if (!(decide (r13.1 = r14.1))) = true then
                    some (false, ())
                  else
                    if (!(decide (r13.2.1 = r14.2.1))) = true then
                      some (false, ())
                    else
                      (i_LogOk r7.1).bind fun (r23 : Bool × Unit) =>
                      if r23.1 = true then
                        if (decide (r8.1.Base = r7.2.1)) = true then
                          if (!(decide (r7.2.1 = r7.1.Base))) = true then
                            (i_LastOf r7.1).bind fun (r24 : Int × Int × Unit) =>
                            (i_LastOf r8.1).bind fun (r25 : Int × Int × Unit) =>
                            if (!(decide (r24.1 = r25.1))) = true then
                              some (false, ())
                            else
                              if (!(decide (r24.2.1 = r25.2.1))) = true then
                                some (false, ())
                              else
                                (i_LogOk r8.1).bind fun (r26 : Bool × Unit) =>
                                if (!r26.1) = true then
                                  some (false, ())
                                else
                                  l_FnLogs_L1 r1.2.1 r1.2.2.1 r1.2.2.2.1 r2.2.1 r1.1 r2.1
                          else
                            l_FnLogs_L1 r1.2.1 r1.2.2.1 r1.2.2.2.1 r2.2.1 r1.1 r2.1
                        else
                          l_FnLogs_L1 r1.2.1 r1.2.2.1 r1.2.2.2.1 r2.2.1 r1.1 r2.1
                      else
                        l_FnLogs_L1 r1.2.1 r1.2.2.1 r1.2.2.2.1 r2.2.1 r1.1 r2.1 := (lim_eq tab 0 (t0, ())).trans (by kernel_rfl)
theorem l_FnLogs_L1_eq (t4 : Int) (t5 : Int) (t6 : (List impl_Entry)) (t8 : Bool) (s48 : impl_Log) (s112 : impl_Log) : l_FnLogs_L1 t4 t5 t6 t8 s48 s112 =
  if (!t8) = true then
    if (decide ((List.length s112.List : Int) = 0)) = true then
      some (true, ())
    else
      (l_sameLog s112 s48).bind fun (r0 : Bool × Unit) =>
      some (r0.1, ())
  else
    l_FnLogs_L2 t4 t5 t6 0 s48 s112 := (lim_eq tab 1 (t4, (t5, (t6, (t8, (s48, (s112, ()))))))).trans (by kernel_rfl)
theorem l_FnLogs_L2_eq (t4 : Int) (t5 : Int) (t6 : (List impl_Entry)) (t30 : Int) (s48 : impl_Log) (s112 : impl_Log) : l_FnLogs_L2 t4 t5 t6 t30 s48 s112 =
  if (decide (t30 < (List.length t6 : Int))) = true then
    (i_TermAt s112 (w64 ((w64 (t4 + 1)) + t30))).bind fun (r0 : Int × Unit) =>
    if (0 : Int) ≤ t30 ∧ t30 < (List.length t6 : Int) then
      if (!(decide (r0.1 = ((List.getD t6 t30.toNat z_impl_Entry).Term)))) = true then
        some (false, ())
      else
        l_FnLogs_L2 t4 t5 t6 (w64 (t30 + 1)) s48 s112
    else none
  else
    l_FnLogs_L3 t4 t5 t6 s48.Base s48 s112 := (lim_eq tab 2 (t4, (t5, (t6, (t30, (s48, (s112, ()))))))).trans (by kernel_rfl)
theorem l_FnLogs_L3_eq (t4 : Int) (t5 : Int) (t6 : (List impl_Entry)) (t31 : Int) (s48 : impl_Log) (s112 : impl_Log) : l_FnLogs_L3 t4 t5 t6 t31 s48 s112 =
  if (decide (t31 ≤ t4)) = true then
    (i_TermAt s112 t31).bind fun (r0 : Int × Unit) =>
    (i_TermAt s48 t31).bind fun (r1 : Int × Unit) =>
    if (!(decide (r0.1 = r1.1))) = true then
      some (false, ())
    else
      l_FnLogs_L3 t4 t5 t6 (w64 (t31 + 1)) s48 s112
  else
    (i_LogPut s112 t4 t5 t6).bind fun (r2 : impl_Log × Bool × Unit) =>
    (i_LogOk s112).bind fun (r3 : Bool × Unit) =>
    if r3.1 = true then
      if r2.2.1 = true then
        (l_sameLog r2.1 s112).bind fun (r4 : Bool × Unit) =>
        some (r4.1, ())
      else
        some (false, ())
    else
      some (false, ()) := (lim_eq tab 3 (t4, (t5, (t6, (t31, (s48, (s112, ()))))))).trans (by kernel_rfl)
theorem l_big_eq (t0 : (List Int)) : l_big t0 =
  some ((decide ((List.length t0 : Int) > 1048576)), ()) := (lim_eq tab 4 (t0, ())).trans (by kernel_rfl)
theorem s_DrawLogPut_eq (t0 : (List Int)) : s_DrawLogPut t0 =
  (s_l1New t0).bind fun (r0 : (Unit × spec_l1Cur) × Unit) =>
  (s_l18Draw r0.1.2).bind fun (r1 : impl_Log × spec_l1Cur × Unit) =>
  if (decide ((List.length r1.1.List : Int) > 0)) = true then
    if (decide ((List.length r1.1.List : Int) < 100)) = true then
      (s_l1Below r1.2.1 (w64 ((List.length r1.1.List : Int) + 1))).bind fun (r2 : Int × spec_l1Cur × Unit) =>
      s_DrawLogPut_L1 (w64 (r1.1.Base + r2.1)) z_impl_Log r1.1 r2.2.1
    else
      s_DrawLogPut_L1 r1.1.Base z_impl_Log r1.1 r1.2.1
  else
    s_DrawLogPut_L1 r1.1.Base z_impl_Log r1.1 r1.2.1 := (lim_eq tab 5 (t0, ())).trans (by kernel_rfl)
theorem s_DrawLogPut_L1_eq (t8 : Int) (s32 : impl_Log) (s112 : impl_Log) (s176 : spec_l1Cur) : s_DrawLogPut_L1 t8 s32 s112 s176 =
  (s_TermAt s112 t8).bind fun (r0 : Int × Unit) =>
  (s_l1Once s176 8).bind fun (r1 : Bool × spec_l1Cur × Unit) =>
  if r1.1 = true then
    (s_l1Below r1.2.1 4).bind fun (r2 : Int × spec_l1Cur × Unit) =>
    (s_l1Max (w64 (r2.1 - 1)) 0).bind fun (r3 : Int × Unit) =>
    (s_l18DrawEntries r2.2.1 r3.1 4).bind fun (r4 : (List impl_Entry) × spec_l1Cur × Unit) =>
    some (s112, t8, (w64 (r2.1 - 1)), r4.1, ())
  else
    (s_l1Max r0.1 0).bind fun (r5 : Int × Unit) =>
    (s_l18DrawEntries r1.2.1 r5.1 4).bind fun (r6 : (List impl_Entry) × spec_l1Cur × Unit) =>
    some (s112, t8, r0.1, r6.1, ()) := (lim_eq tab 6 (t8, (s32, (s112, (s176, ()))))).trans (by kernel_rfl)
theorem i_LogPut_eq (t0 : impl_Log) (t1 : Int) (t2 : Int) (t3 : (List impl_Entry)) : i_LogPut t0 t1 t2 t3 =
  (i_LogOk t0).bind fun (r0 : Bool × Unit) =>
  if (!r0.1) = true then
    some ((impl_Log.mk 0 0 []), false, ())
  else
    if (decide (t2 < 0)) = true then
      (i_cloneLog t0).bind fun (r1 : impl_Log × Unit) =>
      some (r1.1, false, ())
    else
      (i_TermAt t0 t1).bind fun (r2 : Int × Unit) =>
      if (!(decide (r2.1 = t2))) = true then
        (i_cloneLog t0).bind fun (r3 : impl_Log × Unit) =>
        some (r3.1, false, ())
      else
        (i_cloneLog t0).bind fun (r4 : impl_Log × Unit) =>
        i_LogPut_L1 t1 t3 (List.length t3 : Int) 0 t0 z_impl_Log r4.1 := (lim_eq tab 7 (t0, (t1, (t2, (t3, ()))))).trans (by kernel_rfl)
theorem i_LogPut_L1_eq (t1 : Int) (t31 : (List impl_Entry)) (t32 : Int) (t33 : Int) (s64 : impl_Log) (s128 : impl_Log) (s160 : impl_Log) : i_LogPut_L1 t1 t31 t32 t33 s64 s128 s160 =
  if (decide (t33 < t32)) = true then
    if (0 : Int) ≤ t33 ∧ t33 < (List.length t31 : Int) then
      if (decide ((w64 ((w64 (t1 - s64.Base)) + t33)) < (List.length s160.List : Int))) = true then
        if (0 : Int) ≤ (w64 ((w64 (t1 - s64.Base)) + t33)) ∧ (w64 ((w64 (t1 - s64.Base)) + t33)) < (List.length s160.List : Int) then
          if (decide (((List.getD s160.List (w64 ((w64 (t1 - s64.Base)) + t33)).toNat z_impl_Entry).Term) = ((List.getD t31 t33.toNat z_impl_Entry).Term))) = true then
            i_LogPut_L1 t1 t31 t32 (w64 (t33 + 1)) s64 s128 s160
          else
            if (0 : Int) ≤ (w64 ((w64 (t1 - s64.Base)) + t33)) ∧ (w64 ((w64 (t1 - s64.Base)) + t33)) ≤ (List.length s160.List : Int) then
              if List.length (List.take (w64 ((w64 (t1 - s64.Base)) + t33)).toNat s160.List) + 1 ≤ room then
                let v0 : (List impl_Entry) := (List.append (List.take (w64 ((w64 (t1 - s64.Base)) + t33)).toNat s160.List) [(List.getD t31 t33.toNat z_impl_Entry)])
                i_LogPut_L1 t1 t31 t32 (w64 (t33 + 1)) s64 s128 (impl_Log.mk s160.Base s160.BaseTerm v0)
              else none
            else none
        else none
      else
        if List.length s160.List + 1 ≤ room then
          i_LogPut_L1 t1 t31 t32 (w64 (t33 + 1)) s64 s128 (impl_Log.mk s160.Base s160.BaseTerm (List.append s160.List [(List.getD t31 t33.toNat z_impl_Entry)]))
        else none
    else none
  else
    (i_LogOk s160).bind fun (r0 : Bool × Unit) =>
    if (!r0.1) = true then
      (i_cloneLog s64).bind fun (r1 : impl_Log × Unit) =>
      some (r1.1, false, ())
    else
      some (s160, true, ()) := (lim_eq tab 8 (t1, (t31, (t32, (t33, (s64, (s128, (s160, ())))))))).trans (by kernel_rfl)
theorem s_LogPut_eq (t0 : impl_Log) (t1 : Int) (t2 : Int) (t3 : (List impl_Entry)) : s_LogPut t0 t1 t2 t3 =
  (s_LogOk t0).bind fun (r0 : Bool × Unit) =>
  if (!r0.1) = true then
    some ((impl_Log.mk 0 0 []), false, ())
  else
    (s_l18Copy t0).bind fun (r1 : impl_Log × Unit) =>
    if (decide (t2 < 0)) = true then
      some (r1.1, false, ())
    else
      (s_TermAt t0 t1).bind fun (r2 : Int × Unit) =>
      if (!(decide (r2.1 = t2))) = true then
        some (r1.1, false, ())
      else
        s_LogPut_L1 t1 t3 0 t0 z_impl_Log r1.1 := (lim_eq tab 9 (t0, (t1, (t2, (t3, ()))))).trans (by kernel_rfl)
theorem s_LogPut_L1_eq (t1 : Int) (t3 : (List impl_Entry)) (t11 : Int) (s64 : impl_Log) (s128 : impl_Log) (s160 : impl_Log) : s_LogPut_L1 t1 t3 t11 s64 s128 s160 =
  if (decide (t11 < (List.length t3 : Int))) = true then
    if (decide ((w64 ((w64 (t1 - s64.Base)) + t11)) < (List.length s160.List : Int))) = true then
      if (0 : Int) ≤ (w64 ((w64 (t1 - s64.Base)) + t11)) ∧ (w64 ((w64 (t1 - s64.Base)) + t11)) < (List.length s160.List : Int) then
        if (0 : Int) ≤ t11 ∧ t11 < (List.length t3 : Int) then
          if (decide (((List.getD s160.List (w64 ((w64 (t1 - s64.Base)) + t11)).toNat z_impl_Entry).Term) = ((List.getD t3 t11.toNat z_impl_Entry).Term))) = true then
            s_LogPut_L1 t1 t3 (w64 (t11 + 1)) s64 s128 s160
          else
            if (0 : Int) ≤ (w64 ((w64 (t1 - s64.Base)) + t11)) ∧ (w64 ((w64 (t1 - s64.Base)) + t11)) ≤ (List.length s160.List : Int) then
              if 0 + List.length (List.take (w64 ((w64 (t1 - s64.Base)) + t11)).toNat s160.List) ≤ room then
                if (0 : Int) ≤ t11 ∧ t11 < (List.length t3 : Int) then
                  if List.length (List.append [] (List.take (w64 ((w64 (t1 - s64.Base)) + t11)).toNat s160.List)) + 1 ≤ room then
                    let v0 : (List impl_Entry) := (List.append (List.append [] (List.take (w64 ((w64 (t1 - s64.Base)) + t11)).toNat s160.List)) [(List.getD t3 t11.toNat z_impl_Entry)])
                    s_LogPut_L1 t1 t3 (w64 (t11 + 1)) s64 s128 (impl_Log.mk s160.Base s160.BaseTerm v0)
                  else none
                else none
              else none
            else none
        else none
      else none
    else
      if (0 : Int) ≤ t11 ∧ t11 < (List.length t3 : Int) then
        if List.length s160.List + 1 ≤ room then
          s_LogPut_L1 t1 t3 (w64 (t11 + 1)) s64 s128 (impl_Log.mk s160.Base s160.BaseTerm (List.append s160.List [(List.getD t3 t11.toNat z_impl_Entry)]))
        else none
      else none
  else
    (s_LogOk s160).bind fun (r0 : Bool × Unit) =>
    if (!r0.1) = true then
      (s_l18Copy s64).bind fun (r1 : impl_Log × Unit) =>
      some (r1.1, false, ())
    else
      some (s160, true, ()) := (lim_eq tab 10 (t1, (t3, (t11, (s64, (s128, (s160, ()))))))).trans (by kernel_rfl)
theorem l_sameLog_eq (t0 : impl_Log) (t1 : impl_Log) : l_sameLog t0 t1 =
  if (!(decide (t0.Base = t1.Base))) = true then
    some (false, ())
  else
    if (!(decide (t0.BaseTerm = t1.BaseTerm))) = true then
      some (false, ())
    else
      if (!(decide ((List.length t0.List : Int) = (List.length t1.List : Int)))) = true then
        some (false, ())
      else
        l_sameLog_L1 0 t0 t1 := (lim_eq tab 11 (t0, (t1, ()))).trans (by kernel_rfl)
theorem l_sameLog_L1_eq (t5 : Int) (s32 : impl_Log) (s48 : impl_Log) : l_sameLog_L1 t5 s32 s48 =
  if (decide (t5 < (List.length s32.List : Int))) = true then
    if (0 : Int) ≤ t5 ∧ t5 < (List.length s32.List : Int) then
      if (0 : Int) ≤ t5 ∧ t5 < (List.length s48.List : Int) then
        if (!((decide (((List.getD s32.List t5.toNat z_impl_Entry).Term : Int) = ((List.getD s48.List t5.toNat z_impl_Entry).Term))) && (((decide ((((List.getD s32.List t5.toNat z_impl_Entry).C).Who : Int) = (((List.getD s48.List t5.toNat z_impl_Entry).C).Who))) && ((decide ((((List.getD s32.List t5.toNat z_impl_Entry).C).Seq : Int) = (((List.getD s48.List t5.toNat z_impl_Entry).C).Seq))) && ((decide ((((List.getD s32.List t5.toNat z_impl_Entry).C).Line : List Int) = (((List.getD s48.List t5.toNat z_impl_Entry).C).Line))) && true))) && true))) = true then
          some (false, ())
        else
          l_sameLog_L1 (w64 (t5 + 1)) s32 s48
      else none
    else none
  else
    some (true, ()) := (lim_eq tab 12 (t5, (s32, (s48, ())))).trans (by kernel_rfl)
theorem i_LogOk_eq (t0 : impl_Log) : i_LogOk t0 =
  (i_isIndex t0.Base).bind fun (r0 : Bool × Unit) =>
  if (!r0.1) = true then
    some (false, ())
  else
    (i_isIndex t0.BaseTerm).bind fun (r1 : Bool × Unit) =>
    if (!r1.1) = true then
      some (false, ())
    else
      if (decide ((w64 (t0.Base + (List.length t0.List : Int))) > 300)) = true then
        some (false, ())
      else
        i_LogOk_L1 t0.BaseTerm t0.List (List.length t0.List : Int) 0 := (lim_eq tab 13 (t0, ())).trans (by kernel_rfl)
theorem i_LogOk_L1_eq (t3 : Int) (t28 : (List impl_Entry)) (t29 : Int) (t30 : Int) : i_LogOk_L1 t3 t28 t29 t30 =
  if (decide (t30 < t29)) = true then
    if (0 : Int) ≤ t30 ∧ t30 < (List.length t28 : Int) then
      (i_in ((List.getD t28 t30.toNat z_impl_Entry).Term) t3 300).bind fun (r0 : Bool × Unit) =>
      if (!r0.1) = true then
        some (false, ())
      else
        (i_CmdOk ((List.getD t28 t30.toNat z_impl_Entry).C)).bind fun (r1 : Bool × Unit) =>
        if (!r1.1) = true then
          some (false, ())
        else
          i_LogOk_L1 ((List.getD t28 t30.toNat z_impl_Entry).Term) t28 t29 (w64 (t30 + 1))
    else none
  else
    some (true, ()) := (lim_eq tab 14 (t3, (t28, (t29, (t30, ()))))).trans (by kernel_rfl)
theorem s_LogOk_eq (t0 : impl_Log) : s_LogOk t0 =
  (s_l1In t0.Base 0 300).bind fun (r0 : Bool × Unit) =>
  if (!r0.1) = true then
    some (false, ())
  else
    (s_l1In t0.BaseTerm 0 300).bind fun (r1 : Bool × Unit) =>
    if (!r1.1) = true then
      some (false, ())
    else
      if (decide ((List.length t0.List : Int) > (w64 (300 - t0.Base)))) = true then
        some (false, ())
      else
        s_LogOk_L1 t0.BaseTerm 0 t0 := (lim_eq tab 15 (t0, ())).trans (by kernel_rfl)
theorem s_LogOk_L1_eq (t3 : Int) (t4 : Int) (s16 : impl_Log) : s_LogOk_L1 t3 t4 s16 =
  if (decide (t4 < (List.length s16.List : Int))) = true then
    if (0 : Int) ≤ t4 ∧ t4 < (List.length s16.List : Int) then
      (s_l1In ((List.getD s16.List t4.toNat z_impl_Entry).Term) t3 300).bind fun (r0 : Bool × Unit) =>
      if (!r0.1) = true then
        some (false, ())
      else
        if (0 : Int) ≤ t4 ∧ t4 < (List.length s16.List : Int) then
          (s_CmdOk ((List.getD s16.List t4.toNat z_impl_Entry).C)).bind fun (r1 : Bool × Unit) =>
          if (!r1.1) = true then
            some (false, ())
          else
            if (0 : Int) ≤ t4 ∧ t4 < (List.length s16.List : Int) then
              s_LogOk_L1 ((List.getD s16.List t4.toNat z_impl_Entry).Term) (w64 (t4 + 1)) s16
            else none
        else none
    else none
  else
    some (true, ()) := (lim_eq tab 16 (t3, (t4, (s16, ())))).trans (by kernel_rfl)
theorem s_DrawLogCut_eq (t0 : (List Int)) : s_DrawLogCut t0 =
  (s_l18DrawAt t0).bind fun (r0 : impl_Log × Int × Unit) =>
  some (r0.1, r0.2.1, ()) := (lim_eq tab 17 (t0, ())).trans (by kernel_rfl)
theorem i_LogCut_eq (t0 : impl_Log) (t1 : Int) : i_LogCut t0 t1 =
  (i_there t0).bind fun (r0 : (List impl_Entry) × Unit) =>
  if (decide (t1 ≤ t0.Base)) = true then
    (i_cloneLog t0).bind fun (r1 : impl_Log × Unit) =>
    some (r1.1, ())
  else
    if (decide ((List.length r0.1 : Int) = 0)) = true then
      (i_cloneLog t0).bind fun (r2 : impl_Log × Unit) =>
      some (r2.1, ())
    else
      if (decide (t1 > (w64 (t0.Base + (List.length r0.1 : Int))))) = true then
        (i_cloneLog t0).bind fun (r3 : impl_Log × Unit) =>
        some (r3.1, ())
      else
        (i_TermAt t0 t1).bind fun (r4 : Int × Unit) =>
        if (0 : Int) ≤ (w64 (t1 - t0.Base)) ∧ (w64 (t1 - t0.Base)) ≤ (List.length t0.List : Int) then
          (x_slices_Clone_impl_Entry (List.take ((List.length t0.List) - (w64 (t1 - t0.Base)).toNat) (List.drop (w64 (t1 - t0.Base)).toNat t0.List))).bind fun (r5 : (List impl_Entry) × Unit) =>
          some ((impl_Log.mk t1 r4.1 r5.1), ())
        else none := (lim_eq tab 18 (t0, (t1, ()))).trans (by kernel_rfl)
theorem s_DrawTermAt_eq (t0 : (List Int)) : s_DrawTermAt t0 =
  (s_l18DrawAt t0).bind fun (r0 : impl_Log × Int × Unit) =>
  some (r0.1, r0.2.1, ()) := (lim_eq tab 19 (t0, ())).trans (by kernel_rfl)
theorem s_DrawFrom_eq (t0 : (List Int)) : s_DrawFrom t0 =
  (s_l18DrawAt t0).bind fun (r0 : impl_Log × Int × Unit) =>
  some (r0.1, r0.2.1, ()) := (lim_eq tab 20 (t0, ())).trans (by kernel_rfl)
theorem s_DrawNewer_eq (t0 : (List Int)) : s_DrawNewer t0 =
  (s_l18DrawAt t0).bind fun (r0 : impl_Log × Int × Unit) =>
  (s_l1New t0).bind fun (r1 : (Unit × spec_l1Cur) × Unit) =>
  (s_l1Below r1.1.2 5).bind fun (r2 : Int × spec_l1Cur × Unit) =>
  some (r0.1, r0.2.1, r2.1, ()) := (lim_eq tab 21 (t0, ())).trans (by kernel_rfl)
theorem s_DrawLastOf_eq (t0 : (List Int)) : s_DrawLastOf t0 =
  (s_l1New t0).bind fun (r0 : (Unit × spec_l1Cur) × Unit) =>
  (s_l18Draw r0.1.2).bind fun (r1 : impl_Log × spec_l1Cur × Unit) =>
  some (r1.1, ()) := (lim_eq tab 22 (t0, ())).trans (by kernel_rfl)
theorem i_LastOf_eq (t0 : impl_Log) : i_LastOf t0 =
  if (decide ((List.length t0.List : Int) = 0)) = true then
    some (t0.Base, t0.BaseTerm, ())
  else
    if (0 : Int) ≤ (w64 ((List.length t0.List : Int) - 1)) ∧ (w64 ((List.length t0.List : Int) - 1)) < (List.length t0.List : Int) then
      some ((w64 (t0.Base + (List.length t0.List : Int))), (List.getD t0.List (w64 ((List.length t0.List : Int) - 1)).toNat z_impl_Entry).Term, ())
    else none := (lim_eq tab 23 (t0, ())).trans (by kernel_rfl)
theorem s_LastOf_eq (t0 : impl_Log) : s_LastOf t0 =
  if (decide ((List.length t0.List : Int) = 0)) = true then
    some (t0.Base, t0.BaseTerm, ())
  else
    if (0 : Int) ≤ (w64 ((List.length t0.List : Int) - 1)) ∧ (w64 ((List.length t0.List : Int) - 1)) < (List.length t0.List : Int) then
      some ((w64 (t0.Base + (List.length t0.List : Int))), (List.getD t0.List (w64 ((List.length t0.List : Int) - 1)).toNat z_impl_Entry).Term, ())
    else none := (lim_eq tab 24 (t0, ())).trans (by kernel_rfl)
theorem s_LogCut_eq (t0 : impl_Log) (t1 : Int) : s_LogCut t0 t1 =
  (s_l18Copy t0).bind fun (r0 : impl_Log × Unit) =>
  (s_l18At t0 t1).bind fun (r1 : Int × Unit) =>
  if (decide (r1.1 < 0)) = true then
    some (r0.1, ())
  else
    if (0 : Int) ≤ r1.1 ∧ r1.1 < (List.length t0.List : Int) then
      if (0 : Int) ≤ (w64 (r1.1 + 1)) ∧ (w64 (r1.1 + 1)) ≤ (List.length t0.List : Int) then
        if 0 + List.length (List.take ((List.length t0.List) - (w64 (r1.1 + 1)).toNat) (List.drop (w64 (r1.1 + 1)).toNat t0.List)) ≤ room then
          let v0 : impl_Log := (impl_Log.mk t1 ((List.getD t0.List r1.1.toNat z_impl_Entry).Term) (List.append [] (List.take ((List.length t0.List) - (w64 (r1.1 + 1)).toNat) (List.drop (w64 (r1.1 + 1)).toNat t0.List))))
          some (v0, ())
        else none
      else none
    else none := (lim_eq tab 25 (t0, (t1, ()))).trans (by kernel_rfl)
theorem i_TermAt_eq (t0 : impl_Log) (t1 : Int) : i_TermAt t0 t1 =
  (i_there t0).bind fun (r0 : (List impl_Entry) × Unit) =>
  if (decide (t1 = t0.Base)) = true then
    some (t0.BaseTerm, ())
  else
    if (decide (t1 > t0.Base)) = true then
      if (decide ((List.length r0.1 : Int) > 0)) = true then
        if (decide (t1 ≤ (w64 (t0.Base + (List.length r0.1 : Int))))) = true then
          if (0 : Int) ≤ (w64 ((w64 (t1 - t0.Base)) - 1)) ∧ (w64 ((w64 (t1 - t0.Base)) - 1)) < (List.length r0.1 : Int) then
            some ((List.getD r0.1 (w64 ((w64 (t1 - t0.Base)) - 1)).toNat z_impl_Entry).Term, ())
          else none
        else
          some ((-1), ())
      else
        some ((-1), ())
    else
      some ((-1), ()) := (lim_eq tab 26 (t0, (t1, ()))).trans (by kernel_rfl)
theorem s_TermAt_eq (t0 : impl_Log) (t1 : Int) : s_TermAt t0 t1 =
  if (decide (t1 = t0.Base)) = true then
    some (t0.BaseTerm, ())
  else
    (s_l18At t0 t1).bind fun (r0 : Int × Unit) =>
    if (decide (r0.1 < 0)) = true then
      some ((-1), ())
    else
      if (0 : Int) ≤ r0.1 ∧ r0.1 < (List.length t0.List : Int) then
        some ((List.getD t0.List r0.1.toNat z_impl_Entry).Term, ())
      else none := (lim_eq tab 27 (t0, (t1, ()))).trans (by kernel_rfl)
theorem i_From_eq (t0 : impl_Log) (t1 : Int) : i_From t0 t1 =
  (i_there t0).bind fun (r0 : (List impl_Entry) × Unit) =>
  if (decide (t1 ≤ t0.Base)) = true then
    some ([], ())
  else
    if (decide ((List.length r0.1 : Int) = 0)) = true then
      some ([], ())
    else
      if (decide (t1 > (w64 (t0.Base + (List.length r0.1 : Int))))) = true then
        some ([], ())
      else
        if (0 : Int) ≤ (w64 ((w64 (t1 - t0.Base)) - 1)) ∧ (w64 ((w64 (t1 - t0.Base)) - 1)) ≤ (List.length r0.1 : Int) then
          (x_slices_Clone_impl_Entry (List.take ((List.length r0.1) - (w64 ((w64 (t1 - t0.Base)) - 1)).toNat) (List.drop (w64 ((w64 (t1 - t0.Base)) - 1)).toNat r0.1))).bind fun (r1 : (List impl_Entry) × Unit) =>
          some (r1.1, ())
        else none := (lim_eq tab 28 (t0, (t1, ()))).trans (by kernel_rfl)
theorem s_From_eq (t0 : impl_Log) (t1 : Int) : s_From t0 t1 =
  (s_l18At t0 t1).bind fun (r0 : Int × Unit) =>
  if (decide (r0.1 < 0)) = true then
    some ([], ())
  else
    if (0 : Int) ≤ r0.1 ∧ r0.1 ≤ (List.length t0.List : Int) then
      if 0 + List.length (List.take ((List.length t0.List) - r0.1.toNat) (List.drop r0.1.toNat t0.List)) ≤ room then
        some ((List.append [] (List.take ((List.length t0.List) - r0.1.toNat) (List.drop r0.1.toNat t0.List))), ())
      else none
    else none := (lim_eq tab 29 (t0, (t1, ()))).trans (by kernel_rfl)
theorem i_Newer_eq (t0 : impl_Log) (t1 : Int) (t2 : Int) : i_Newer t0 t1 t2 =
  (i_LastOf t0).bind fun (r0 : Int × Int × Unit) =>
  if (decide (t2 > r0.2.1)) = true then
    some (true, ())
  else
    if (decide (t2 = r0.2.1)) = true then
      some ((decide (t1 ≥ r0.1)), ())
    else
      some (false, ()) := (lim_eq tab 30 (t0, (t1, (t2, ())))).trans (by kernel_rfl)
theorem s_Newer_eq (t0 : impl_Log) (t1 : Int) (t2 : Int) : s_Newer t0 t1 t2 =
  (s_LastOf t0).bind fun (r0 : Int × Int × Unit) =>
  if (decide (t2 > r0.2.1)) = true then
    some (true, ())
  else
    if (decide (t2 = r0.2.1)) = true then
      some ((decide (t1 ≥ r0.1)), ())
    else
      some (false, ()) := (lim_eq tab 31 (t0, (t1, (t2, ())))).trans (by kernel_rfl)
theorem s_l1New_eq (t0 : (List Int)) : s_l1New t0 =
  s_l1New_L1 t0 (w64 (20700 + (List.length t0 : Int))) 0 := (lim_eq tab 32 (t0, ())).trans (by kernel_rfl)
theorem s_l1New_L1_eq (t0 : (List Int)) (t3 : Int) (t4 : Int) : s_l1New_L1 t0 t3 t4 =
  if (decide (t4 < (List.length t0 : Int))) = true then
    if (decide (t4 < 4000)) = true then
      if (0 : Int) ≤ t4 ∧ t4 < (List.length t0 : Int) then
        s_l1New_L1 t0 (bits .and .i64 (w64 ((w64 ((w64 (t3 * 131)) + (w64 (List.getD t0 t4.toNat 0)))) + 7)) 1073741823) (w64 (t4 + 1))
      else none
    else
      some (((), (spec_l1Cur.mk t0 0 t3)), ())
  else
    some (((), (spec_l1Cur.mk t0 0 t3)), ()) := (lim_eq tab 33 (t0, (t3, (t4, ())))).trans (by kernel_rfl)
theorem s_l18Draw_eq (s0 : spec_l1Cur) : s_l18Draw s0 =
  (s_l18DrawRight s0).bind fun (r0 : impl_Log × spec_l1Cur × Unit) =>
  (s_l1Below r0.2.1 14).bind fun (r1 : Int × spec_l1Cur × Unit) =>
  if (decide (r1.1 = 0)) = true then
    (s_l1PickInt r1.2.1 [(-1), 299, 300, 301, (-9223372036854775808)]).bind fun (r2 : Int × spec_l1Cur × Unit) =>
    some ((impl_Log.mk r2.1 r0.1.BaseTerm r0.1.List), r2.2.1, ())
  else
    if (decide (r1.1 = 1)) = true then
      (s_l1PickInt r1.2.1 [(-1), 2, 300, 301]).bind fun (r3 : Int × spec_l1Cur × Unit) =>
      some ((impl_Log.mk r0.1.Base r3.1 r0.1.List), r3.2.1, ())
    else
      if (decide (r1.1 = 2)) = true then
        (s_l1Below r1.2.1 5).bind fun (r4 : Int × spec_l1Cur × Unit) =>
        (s_l16DrawCmd r4.2.1).bind fun (r5 : impl_Cmd × spec_l1Cur × Unit) =>
        (s_l16Spoil r5.2.1 r5.1).bind fun (r6 : impl_Cmd × spec_l1Cur × Unit) =>
        if List.length r0.1.List + 1 ≤ room then
          some ((impl_Log.mk r0.1.Base r0.1.BaseTerm (List.append r0.1.List [(impl_Entry.mk r4.1 r6.1)])), r6.2.1, ())
        else none
      else
        some (r0.1, r1.2.1, ()) := (lim_eq tab 34 (s0, ())).trans (by kernel_rfl)
theorem s_l1Below_eq (s0 : spec_l1Cur) (t1 : Int) : s_l1Below s0 t1 =
  if (decide (t1 ≤ 0)) = true then
    some (0, s0, ())
  else
    if (decide (t1 ≤ 256)) = true then
      (s_l1Byte s0).bind fun (r0 : Int × spec_l1Cur × Unit) =>
      if t1 ≠ 0 then
        some ((Int.tmod r0.1 t1), r0.2.1, ())
      else none
    else
      (s_l1Byte s0).bind fun (r1 : Int × spec_l1Cur × Unit) =>
      (s_l1Byte r1.2.1).bind fun (r2 : Int × spec_l1Cur × Unit) =>
      (s_l1Byte r2.2.1).bind fun (r3 : Int × spec_l1Cur × Unit) =>
      (s_l1Byte r3.2.1).bind fun (r4 : Int × spec_l1Cur × Unit) =>
      if t1 ≠ 0 then
        some ((Int.tmod (w64 ((w64 ((w64 ((w64 (r1.1 * 16777216)) + (w64 (r2.1 * 65536)))) + (w64 (r3.1 * 256)))) + r4.1)) t1), r4.2.1, ())
      else none := (lim_eq tab 35 (s0, (t1, ()))).trans (by kernel_rfl)
theorem s_l1Once_eq (s0 : spec_l1Cur) (t1 : Int) : s_l1Once s0 t1 =
  (s_l1Below s0 t1).bind fun (r0 : Int × spec_l1Cur × Unit) =>
  some ((decide (r0.1 = 0)), r0.2.1, ()) := (lim_eq tab 36 (s0, (t1, ()))).trans (by kernel_rfl)
theorem s_l1Max_eq (t0 : Int) (t1 : Int) : s_l1Max t0 t1 =
  if (decide (t0 > t1)) = true then
    some (t0, ())
  else
    some (t1, ()) := (lim_eq tab 37 (t0, (t1, ()))).trans (by kernel_rfl)
theorem s_l18DrawEntries_eq (s0 : spec_l1Cur) (t1 : Int) (t2 : Int) : s_l18DrawEntries s0 t1 t2 =
  (s_l1Below s0 (w64 (t2 + 1))).bind fun (r0 : Int × spec_l1Cur × Unit) =>
  s_l18DrawEntries_L1 t1 [] r0.1 0 r0.2.1 := (lim_eq tab 38 (s0, (t1, (t2, ())))).trans (by kernel_rfl)
theorem s_l18DrawEntries_L1_eq (t1 : Int) (t7 : (List impl_Entry)) (t8 : Int) (t9 : Int) (s0 : spec_l1Cur) : s_l18DrawEntries_L1 t1 t7 t8 t9 s0 =
  if (decide (t9 < t8)) = true then
    (s_l1Below s0 2).bind fun (r0 : Int × spec_l1Cur × Unit) =>
    (s_l16DrawCmd r0.2.1).bind fun (r1 : impl_Cmd × spec_l1Cur × Unit) =>
    if List.length t7 + 1 ≤ room then
      s_l18DrawEntries_L1 (w64 (t1 + r0.1)) (List.append t7 [(impl_Entry.mk (w64 (t1 + r0.1)) r1.1)]) t8 (w64 (t9 + 1)) r1.2.1
    else none
  else
    some (t7, s0, ()) := (lim_eq tab 39 (t1, (t7, (t8, (t9, (s0, ())))))).trans (by kernel_rfl)
theorem i_cloneLog_eq (t0 : impl_Log) : i_cloneLog t0 =
  (x_slices_Clone_impl_Entry t0.List).bind fun (r0 : (List impl_Entry) × Unit) =>
  some ((impl_Log.mk t0.Base t0.BaseTerm r0.1), ()) := (lim_eq tab 40 (t0, ())).trans (by kernel_rfl)
theorem s_l18Copy_eq (t0 : impl_Log) : s_l18Copy t0 =
  if 0 + List.length t0.List ≤ room then
    some ((impl_Log.mk t0.Base t0.BaseTerm (List.append [] t0.List)), ())
  else none := (lim_eq tab 41 (t0, ())).trans (by kernel_rfl)
theorem i_isIndex_eq (t0 : Int) : i_isIndex t0 =
  (i_in t0 0 300).bind fun (r0 : Bool × Unit) =>
  some (r0.1, ()) := (lim_eq tab 42 (t0, ())).trans (by kernel_rfl)
theorem i_in_eq (t0 : Int) (t1 : Int) (t2 : Int) : i_in t0 t1 t2 =
  if (decide (t0 ≥ t1)) = true then
    some ((decide (t0 ≤ t2)), ())
  else
    some (false, ()) := (lim_eq tab 43 (t0, (t1, (t2, ())))).trans (by kernel_rfl)
theorem i_CmdOk_eq (t0 : impl_Cmd) : i_CmdOk t0 =
  if (decide (t0.Who = (-1))) = true then
    if (decide (t0.Seq = 0)) = true then
      some ((decide (t0.Line = [])), ())
    else
      some (false, ())
  else
    (i_in t0.Who 0 2).bind fun (r0 : Bool × Unit) =>
    if r0.1 = true then
      (i_in t0.Seq 1 100000).bind fun (r1 : Bool × Unit) =>
      if r1.1 = true then
        (i_lineOk t0.Line).bind fun (r2 : Bool × Unit) =>
        some (r2.1, ())
      else
        some (false, ())
    else
      some (false, ()) := (lim_eq tab 44 (t0, ())).trans (by kernel_rfl)
theorem s_l1In_eq (t0 : Int) (t1 : Int) (t2 : Int) : s_l1In t0 t1 t2 =
  if (decide (t0 ≥ t1)) = true then
    some ((decide (t0 ≤ t2)), ())
  else
    some (false, ()) := (lim_eq tab 45 (t0, (t1, (t2, ())))).trans (by kernel_rfl)
theorem s_CmdOk_eq (t0 : impl_Cmd) : s_CmdOk t0 =
  if (decide (t0.Who = (-1))) = true then
    if (decide (t0.Seq = 0)) = true then
      some ((decide (t0.Line = [])), ())
    else
      some (false, ())
  else
    (s_l1In t0.Who 0 2).bind fun (r0 : Bool × Unit) =>
    if r0.1 = true then
      (s_l1In t0.Seq 1 100000).bind fun (r1 : Bool × Unit) =>
      if r1.1 = true then
        if (decide ((List.length t0.Line : Int) ≤ 60)) = true then
          (s_l9Line t0.Line).bind fun (r2 : Bool × Unit) =>
          some (r2.1, ())
        else
          some (false, ())
      else
        some (false, ())
    else
      some (false, ()) := (lim_eq tab 46 (t0, ())).trans (by kernel_rfl)
theorem s_l18DrawAt_eq (t0 : (List Int)) : s_l18DrawAt t0 =
  (s_l1New t0).bind fun (r0 : (Unit × spec_l1Cur) × Unit) =>
  (s_l18Draw r0.1.2).bind fun (r1 : impl_Log × spec_l1Cur × Unit) =>
  (s_l1PickInt r1.2.1 [0, 1, 2, 3, 4, 5, 9, (-1), 9223372036854775807, (-9223372036854775808)]).bind fun (r2 : Int × spec_l1Cur × Unit) =>
  some (r1.1, r2.1, ()) := (lim_eq tab 47 (t0, ())).trans (by kernel_rfl)
theorem i_there_eq (t0 : impl_Log) : i_there t0 =
  (i_isIndex t0.Base).bind fun (r0 : Bool × Unit) =>
  if (!r0.1) = true then
    some ([], ())
  else
    if (0 : Int) ≤ (mnI (List.length t0.List : Int) (w64 (300 - t0.Base))) ∧ (mnI (List.length t0.List : Int) (w64 (300 - t0.Base))) ≤ (List.length t0.List : Int) then
      some ((List.take ((mnI (List.length t0.List : Int) (w64 (300 - t0.Base))).toNat - 0) (List.drop 0 t0.List)), ())
    else none := (lim_eq tab 48 (t0, ())).trans (by kernel_rfl)
theorem x_slices_Clone_impl_Entry_eq (t0 : (List impl_Entry)) : x_slices_Clone_impl_Entry t0 =
  if (Nat.beq (List.length t0) 0) = true then
    amb (
      some ([], ()))
    (
      if 0 + List.length t0 ≤ room then
        some ((List.append [] t0), ())
      else none)
  else
    if 0 + List.length t0 ≤ room then
      some ((List.append [] t0), ())
    else none := (lim_eq tab 49 (t0, ())).trans (by kernel_rfl)
theorem s_l18At_eq (t0 : impl_Log) (t1 : Int) : s_l18At t0 t1 =
  if (decide (t1 ≤ t0.Base)) = true then
    some ((-1), ())
  else
    if (decide (t1 > 300)) = true then
      some ((-1), ())
    else
      if (decide (t0.Base < 0)) = true then
        some ((-1), ())
      else
        if (decide ((w64 ((w64 (t1 - t0.Base)) - 1)) ≥ (List.length t0.List : Int))) = true then
          some ((-1), ())
        else
          some ((w64 ((w64 (t1 - t0.Base)) - 1)), ()) := (lim_eq tab 50 (t0, (t1, ()))).trans (by kernel_rfl)
theorem s_l18DrawRight_eq (s0 : spec_l1Cur) : s_l18DrawRight s0 =
  (s_l1Below s0 3).bind fun (r0 : Int × spec_l1Cur × Unit) =>
  (s_l1Below r0.2.1 2).bind fun (r1 : Int × spec_l1Cur × Unit) =>
  (s_l18DrawEntries r1.2.1 r1.1 6).bind fun (r2 : (List impl_Entry) × spec_l1Cur × Unit) =>
  some ((impl_Log.mk r0.1 r1.1 r2.1), r2.2.1, ()) := (lim_eq tab 51 (s0, ())).trans (by kernel_rfl)
theorem s_l1PickInt_eq (s0 : spec_l1Cur) (t1 : (List Int)) : s_l1PickInt s0 t1 =
  (s_l1Below s0 (List.length t1 : Int)).bind fun (r0 : Int × spec_l1Cur × Unit) =>
  if (0 : Int) ≤ r0.1 ∧ r0.1 < (List.length t1 : Int) then
    some ((List.getD t1 r0.1.toNat 0), r0.2.1, ())
  else none := (lim_eq tab 52 (s0, (t1, ()))).trans (by kernel_rfl)
theorem s_l16DrawCmd_eq (s0 : spec_l1Cur) : s_l16DrawCmd s0 =
  (s_l1Once s0 8).bind fun (r0 : Bool × spec_l1Cur × Unit) =>
  if r0.1 = true then
    some ((impl_Cmd.mk (-1) 0 []), r0.2.1, ())
  else
    (s_l1Below r0.2.1 3).bind fun (r1 : Int × spec_l1Cur × Unit) =>
    (s_l1Below r1.2.1 5).bind fun (r2 : Int × spec_l1Cur × Unit) =>
    (s_l11DrawLine r2.2.1).bind fun (r3 : (List Int) × spec_l1Cur × Unit) =>
    some ((impl_Cmd.mk r1.1 (w64 (1 + r2.1)) r3.1), r3.2.1, ()) := (lim_eq tab 53 (s0, ())).trans (by kernel_rfl)
theorem s_l16Spoil_eq (s0 : spec_l1Cur) (t1 : impl_Cmd) : s_l16Spoil s0 t1 =
  (s_l1Below s0 12).bind fun (r0 : Int × spec_l1Cur × Unit) =>
  if (decide (r0.1 = 0)) = true then
    (s_l1PickInt r0.2.1 [(-2), (-1), 3]).bind fun (r1 : Int × spec_l1Cur × Unit) =>
    some ((impl_Cmd.mk r1.1 t1.Seq t1.Line), r1.2.1, ())
  else
    if (decide (r0.1 = 1)) = true then
      (s_l1PickInt r0.2.1 [0, (-1), 100000, 100001]).bind fun (r2 : Int × spec_l1Cur × Unit) =>
      some ((impl_Cmd.mk t1.Who r2.1 t1.Line), r2.2.1, ())
    else
      if (decide (r0.1 = 2)) = true then
        (s_l1Pick r0.2.1 [[10], [48, 49, 50, 51, 52, 53, 54, 55, 56, 57, 48, 49, 50, 51, 52, 53, 54, 55, 56, 57, 48, 49, 50, 51, 52, 53, 54, 55, 56, 57, 48, 49, 50, 51, 52, 53, 54, 55, 56, 57, 48, 49, 50, 51, 52, 53, 54, 55, 56, 57, 48, 49, 50, 51, 52, 53, 54, 55, 56, 57, 48]]).bind fun (r3 : (List Int) × spec_l1Cur × Unit) =>
        some ((impl_Cmd.mk t1.Who t1.Seq r3.1), r3.2.1, ())
      else
        some (t1, r0.2.1, ()) := (lim_eq tab 54 (s0, (t1, ()))).trans (by kernel_rfl)
theorem s_l1Byte_eq (s0 : spec_l1Cur) : s_l1Byte s0 =
  if (decide (s0.i < (List.length s0.b : Int))) = true then
    if (0 : Int) ≤ s0.i ∧ s0.i < (List.length s0.b : Int) then
      let v0 : spec_l1Cur := (spec_l1Cur.mk s0.b (w64 (s0.i + 1)) (w64 ((w64 (s0.h * 6364136223846793005)) + 1442695040888963407)))
      some ((bits .and .i64 (w64 ((bits .and .i64 (bits .xor .i64 (shrI .i64 (w64 ((w64 (s0.h * 6364136223846793005)) + 1442695040888963407)) 33) (shrI .i64 (w64 ((w64 (s0.h * 6364136223846793005)) + 1442695040888963407)) 45)) 255) + (w64 (List.getD s0.b s0.i.toNat 0)))) 255), v0, ())
    else none
  else
    some ((bits .and .i64 (bits .xor .i64 (shrI .i64 (w64 ((w64 (s0.h * 6364136223846793005)) + 1442695040888963407)) 33) (shrI .i64 (w64 ((w64 (s0.h * 6364136223846793005)) + 1442695040888963407)) 45)) 255), (spec_l1Cur.mk s0.b s0.i (w64 ((w64 (s0.h * 6364136223846793005)) + 1442695040888963407))), ()) := (lim_eq tab 55 (s0, ())).trans (by kernel_rfl)
theorem i_lineOk_eq (t0 : (List Int)) : i_lineOk t0 =
  if (decide ((List.length t0 : Int) ≤ 60)) = true then
    (x_strings_Contains t0 [10]).bind fun (r0 : Bool × Unit) =>
    some ((!r0.1), ())
  else
    some (false, ()) := (lim_eq tab 56 (t0, ())).trans (by kernel_rfl)
theorem s_l9Line_eq (t0 : (List Int)) : s_l9Line t0 =
  s_l9Line_L1 t0 0 := (lim_eq tab 57 (t0, ())).trans (by kernel_rfl)
theorem s_l9Line_L1_eq (t0 : (List Int)) (t3 : Int) : s_l9Line_L1 t0 t3 =
  if (decide (t3 < (List.length t0 : Int))) = true then
    if (0 : Int) ≤ t3 ∧ t3 < (List.length t0 : Int) then
      if (decide ((List.getD t0 t3.toNat 0) = 10)) = true then
        some (false, ())
      else
        s_l9Line_L1 t0 (w64 (t3 + 1))
    else none
  else
    some (true, ()) := (lim_eq tab 58 (t0, (t3, ()))).trans (by kernel_rfl)
theorem s_l11DrawLine_eq (s0 : spec_l1Cur) : s_l11DrawLine s0 =
  s_l11DrawLine_L1 [] 0 s0 := (lim_eq tab 59 (s0, ())).trans (by kernel_rfl)
theorem s_l11DrawLine_L1_eq (t3 : (List Int)) (t4 : Int) (s0 : spec_l1Cur) : s_l11DrawLine_L1 t3 t4 s0 =
  (s_l1Below s0 5).bind fun (r0 : Int × spec_l1Cur × Unit) =>
  if (decide (t4 < r0.1)) = true then
    (s_l1Pick r0.2.1 [[97], [120], [49, 48], [55, 46, 53], [97, 98, 99], [98, 98, 99], [45, 51], [52], [120, 121, 122]]).bind fun (r1 : (List Int) × spec_l1Cur × Unit) =>
    if List.length t3 + List.length r1.1 ≤ 9223372036854775807 then
      (s_l1Pick r1.2.1 [[32], [32], [32, 32]]).bind fun (r2 : (List Int) × spec_l1Cur × Unit) =>
      if List.length (t3 ++ r1.1) + List.length r2.1 ≤ 9223372036854775807 then
        s_l11DrawLine_L1 ((t3 ++ r1.1) ++ r2.1) (w64 (t4 + 1)) r2.2.1
      else none
    else none
  else
    some (t3, r0.2.1, ()) := (lim_eq tab 60 (t3, (t4, (s0, ())))).trans (by kernel_rfl)
theorem s_l1Pick_eq (s0 : spec_l1Cur) (t1 : (List (List Int))) : s_l1Pick s0 t1 =
  (s_l1Below s0 (List.length t1 : Int)).bind fun (r0 : Int × spec_l1Cur × Unit) =>
  if (0 : Int) ≤ r0.1 ∧ r0.1 < (List.length t1 : Int) then
    some ((List.getD t1 r0.1.toNat []), r0.2.1, ())
  else none := (lim_eq tab 61 (s0, (t1, ()))).trans (by kernel_rfl)
theorem x_strings_Contains_eq (t0 : (List Int)) (t1 : (List Int)) : x_strings_Contains t0 t1 =
  (x_strings_Index t0 t1).bind fun (r0 : Int × Unit) =>
  some ((decide (r0.1 ≥ 0)), ()) := (lim_eq tab 62 (t0, (t1, ()))).trans (by kernel_rfl)
theorem x_strings_Index_eq (t0 : (List Int)) (t1 : (List Int)) : x_strings_Index t0 t1 =
  (x_internal_stringslite_Index t0 t1).bind fun (r0 : Int × Unit) =>
  some (r0.1, ()) := (lim_eq tab 63 (t0, (t1, ()))).trans (by kernel_rfl)
theorem x_internal_stringslite_Index_eq (t0 : (List Int)) (t1 : (List Int)) : x_internal_stringslite_Index t0 t1 =
  if (decide ((List.length t1 : Int) = 0)) = true then
    some (0, ())
  else
    if (decide (t1 = t0)) = true then
      some (0, ())
    else
      if (decide ((List.length t1 : Int) = 1)) = true then
        if (0 : Int) ≤ 0 ∧ (0 : Int) < (List.length t1 : Int) then
          (x_internal_stringslite_IndexByte t0 (List.getD t1 0 0)).bind fun (r0 : Int × Unit) =>
          some (r0.1, ())
        else none
      else
        if (decide ((List.length t1 : Int) ≥ (List.length t0 : Int))) = true then
          some ((-1), ())
        else
          none := (lim_eq tab 64 (t0, (t1, ()))).trans (by kernel_rfl)
theorem x_internal_stringslite_IndexByte_eq (t0 : (List Int)) (t1 : Int) : x_internal_stringslite_IndexByte t0 t1 =
  (x_internal_bytealg_IndexByteString t0 t1).bind fun (r0 : Int × Unit) =>
  some (r0.1, ()) := (lim_eq tab 65 (t0, (t1, ()))).trans (by kernel_rfl)
theorem x_internal_bytealg_IndexByteString_eq (t0 : (List Int)) (t1 : Int) : x_internal_bytealg_IndexByteString t0 t1 =
  some ((idxI t0 t1), ()) := (lim_eq tab 66 (t0, (t1, ()))).trans (by kernel_rfl)
end Go.Proofs.Ytajahbpeiifcbaa.E.TL
