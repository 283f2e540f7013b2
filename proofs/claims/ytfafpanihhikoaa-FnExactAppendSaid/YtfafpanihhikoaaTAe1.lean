/- The keys' plain equations (1). No condition. -/
import Derived.Test.YtfafpanihhikoaaTAe0
namespace Go.Proofs.Ytfafpanihhikoaa.E.TA
open Go.Proofs.Ytfafpanihhikoaa.E
set_option linter.unusedVariables false
set_option maxRecDepth 100000
theorem l_FnExactGetText_eq (t0 : (List Int)) (t1 : Int) : l_FnExactGetText t0 t1 =
  if (decide ((List.length t0 : Int) > 1048576)) = true then
    some (true, ())
  else
    (l_toByteS t0).bind fun (r0 : (List Int) × Unit) =>
    (s_GetText r0.1 t1).bind fun (r1 : (List Int) × Int × Bool × Unit) =>
    (l_toByteS t0).bind fun (r2 : (List Int) × Unit) =>
    (i_GetText r2.1 t1).bind fun (r3 : (List Int) × Int × Bool × Unit) =>
    if (!(decide (r3.1 = r1.1))) = true then
      some (false, ())
    else
      if (!(decide (r3.2.1 = r1.2.1))) = true then
        some (false, ())
      else
        if (!(decide (r3.2.2.1 = r1.2.2.1))) = true then
          some (false, ())
        else
          (l_toByteS t0).bind fun (r4 : (List Int) × Unit) =>
          (l_eqByteS r2.1 r4.1).bind fun (r5 : Bool × Unit) =>
          if (!r5.1) = true then
            some (false, ())
          else
            some (true, ()) := (lim_eq tab 0 (t0, (t1, ()))).trans (by kernel_rfl)
theorem l_FnExactSync_eq (t0 : laws_Disk) : l_FnExactSync t0 =
  (l_szDisk t0 1048576).bind fun (r0 : Int × Unit) =>
  if (decide (r0.1 < 0)) = true then
    some (true, ())
  else
    (l_toDisk t0).bind fun (r1 : impl_Disk × Unit) =>
    (s_Sync r1.1).bind fun (r2 : impl_Disk × Unit) =>
    (l_toDisk t0).bind fun (r3 : impl_Disk × Unit) =>
    (i_Sync r3.1).bind fun (r4 : impl_Disk × Unit) =>
    (l_eqDisk r4.1 r2.1).bind fun (r5 : Bool × Unit) =>
    if (!r5.1) = true then
      some (false, ())
    else
      (l_toDisk t0).bind fun (r6 : impl_Disk × Unit) =>
      (l_eqDisk r3.1 r6.1).bind fun (r7 : Bool × Unit) =>
      if (!r7.1) = true then
        some (false, ())
      else
        (l_markDisk r3.1 1).bind fun (r8 : Int × impl_Disk × Unit) =>
        if (decide (r8.1 < 0)) = true then
          some (false, ())
        else
          (l_eqDisk r4.1 r2.1).bind fun (r9 : Bool × Unit) =>
          if (!r9.1) = true then
            some (false, ())
          else
            (l_markDisk r4.1 1).bind fun (r10 : Int × impl_Disk × Unit) =>
            (l_heldDisk r10.2.1 1).bind fun (r11 : Int × Unit) =>
            if (decide (r11.1 < 0)) = true then
              some (false, ())
            else
              if (!(decide (r11.1 = r10.1))) = true then
                some (false, ())
              else
                (l_toDisk t0).bind fun (r12 : impl_Disk × Unit) =>
                (i_Sync r12.1).bind fun (r13 : impl_Disk × Unit) =>
                (l_eqDisk r13.1 r2.1).bind fun (r14 : Bool × Unit) =>
                if (!r14.1) = true then
                  some (false, ())
                else
                  (l_heldDisk r10.2.1 1).bind fun (r15 : Int × Unit) =>
                  if (decide (r15.1 < 0)) = true then
                    some (false, ())
                  else
                    if (!(decide (r15.1 = r10.1))) = true then
                      some (false, ())
                    else
                      some (true, ()) := (lim_eq tab 1 (t0, ())).trans (by kernel_rfl)
theorem l_FnExactAppend_eq (t0 : laws_Disk) (t1 : (List Int)) : l_FnExactAppend t0 t1 =
  if (decide ((List.length t1 : Int) > 1048576)) = true then
    some (true, ())
  else
    (l_szDisk t0 1048576).bind fun (r0 : Int × Unit) =>
    if (decide (r0.1 < 0)) = true then
      some (true, ())
    else
      (l_toDisk t0).bind fun (r1 : impl_Disk × Unit) =>
      (l_toByteS t1).bind fun (r2 : (List Int) × Unit) =>
      (s_Append r1.1 r2.1).bind fun (r3 : impl_Disk × Bool × Unit) =>
      (l_toDisk t0).bind fun (r4 : impl_Disk × Unit) =>
      (l_toByteS t1).bind fun (r5 : (List Int) × Unit) =>
      (i_Append r4.1 r5.1).bind fun (r6 : impl_Disk × Bool × Unit) =>
      (l_eqDisk r6.1 r3.1).bind fun (r7 : Bool × Unit) =>
      if (!r7.1) = true then
        some (false, ())
      else
        if (!(decide (r6.2.1 = r3.2.1))) = true then
          some (false, ())
        else
          (l_toDisk t0).bind fun (r8 : impl_Disk × Unit) =>
          (l_eqDisk r4.1 r8.1).bind fun (r9 : Bool × Unit) =>
          if (!r9.1) = true then
            some (false, ())
          else
            (l_toByteS t1).bind fun (r10 : (List Int) × Unit) =>
            (l_eqByteS r5.1 r10.1).bind fun (r11 : Bool × Unit) =>
            if (!r11.1) = true then
              some (false, ())
            else
              (l_markDisk r4.1 1).bind fun (r12 : Int × impl_Disk × Unit) =>
              (l_markByteS r5.1 r12.1).bind fun (r13 : Int × (List Int) × Unit) =>
              if (decide (r13.1 < 0)) = true then
                some (false, ())
              else
                (l_eqDisk r6.1 r3.1).bind fun (r14 : Bool × Unit) =>
                if (!r14.1) = true then
                  some (false, ())
                else
                  if (!(decide (r6.2.1 = r3.2.1))) = true then
                    some (false, ())
                  else
                    (l_markDisk r6.1 1).bind fun (r15 : Int × impl_Disk × Unit) =>
                    (l_heldDisk r15.2.1 1).bind fun (r16 : Int × Unit) =>
                    if (decide (r16.1 < 0)) = true then
                      some (false, ())
                    else
                      if (!(decide (r16.1 = r15.1))) = true then
                        some (false, ())
                      else
                        (l_toDisk t0).bind fun (r17 : impl_Disk × Unit) =>
                        (l_toByteS t1).bind fun (r18 : (List Int) × Unit) =>
                        (i_Append r17.1 r18.1).bind fun (r19 : impl_Disk × Bool × Unit) =>
                        (l_eqDisk r19.1 r3.1).bind fun (r20 : Bool × Unit) =>
                        if (!r20.1) = true then
                          some (false, ())
                        else
                          if (!(decide (r19.2.1 = r3.2.1))) = true then
                            some (false, ())
                          else
                            (l_heldDisk r15.2.1 1).bind fun (r21 : Int × Unit) =>
                            if (decide (r21.1 < 0)) = true then
                              some (false, ())
                            else
                              if (!(decide (r21.1 = r15.1))) = true then
                                some (false, ())
                              else
                                some (true, ()) := (lim_eq tab 2 (t0, (t1, ()))).trans (by kernel_rfl)
theorem l_FnExactLastOf_eq (t0 : laws_Log) : l_FnExactLastOf t0 =
  (l_szLog t0 1048576).bind fun (r0 : Int × Unit) =>
  if (decide (r0.1 < 0)) = true then
    some (true, ())
  else
    (l_toLog t0).bind fun (r1 : impl_Log × Unit) =>
    (s_LastOf r1.1).bind fun (r2 : Int × Int × Unit) =>
    (l_toLog t0).bind fun (r3 : impl_Log × Unit) =>
    (i_LastOf r3.1).bind fun (r4 : Int × Int × Unit) =>
    if (!(decide (r4.1 = r2.1))) = true then
      some (false, ())
    else
      if (!(decide (r4.2.1 = r2.2.1))) = true then
        some (false, ())
      else
        (l_toLog t0).bind fun (r5 : impl_Log × Unit) =>
        (l_eqLog r3.1 r5.1).bind fun (r6 : Bool × Unit) =>
        if (!r6.1) = true then
          some (false, ())
        else
          some (true, ()) := (lim_eq tab 3 (t0, ())).trans (by kernel_rfl)
theorem l_toByteS_eq (t0 : (List Int)) : l_toByteS t0 =
  if (0 : Int) ≤ (List.length t0 : Int) ∧ (List.length t0 : Int) ≤ (List.length t0 : Int) ∧ (List.length t0 : Int) ≤ (room : Int) then
    l_toByteS_L1 t0 (List.replicate (List.length t0 : Int).toNat 0) 0
  else none := (lim_eq tab 4 (t0, ())).trans (by kernel_rfl)
theorem l_toByteS_L1_eq (t0 : (List Int)) (t3 : (List Int)) (t4 : Int) : l_toByteS_L1 t0 t3 t4 =
  if (decide (t4 < (List.length t0 : Int))) = true then
    if (0 : Int) ≤ t4 ∧ t4 < (List.length t0 : Int) then
      if (0 : Int) ≤ t4 ∧ t4 < (List.length t3 : Int) then
        l_toByteS_L1 t0 (List.set t3 t4.toNat (List.getD t0 t4.toNat 0)) (w64 (t4 + 1))
      else none
    else none
  else
    some (t3, ()) := (lim_eq tab 5 (t0, (t3, (t4, ())))).trans (by kernel_rfl)
theorem s_GetText_eq (t0 : (List Int)) (t1 : Int) : s_GetText t0 t1 =
  (s_GetNum t0 t1).bind fun (r0 : Int × Int × Bool × Unit) =>
  if (!r0.2.2.1) = true then
    some ([], 0, false, ())
  else
    if (decide (r0.1 > (w64 ((List.length t0 : Int) - r0.2.1)))) = true then
      some ([], 0, false, ())
    else
      if (0 : Int) ≤ r0.2.1 ∧ r0.2.1 ≤ (w64 (r0.2.1 + r0.1)) ∧ (w64 (r0.2.1 + r0.1)) ≤ (List.length t0 : Int) then
        some ((List.take ((w64 (r0.2.1 + r0.1)).toNat - r0.2.1.toNat) (List.drop r0.2.1.toNat t0)), (w64 (r0.2.1 + r0.1)), true, ())
      else none := (lim_eq tab 6 (t0, (t1, ()))).trans (by kernel_rfl)
theorem i_GetText_eq (t0 : (List Int)) (t1 : Int) : i_GetText t0 t1 =
  (i_GetNum t0 t1).bind fun (r0 : Int × Int × Bool × Unit) =>
  if (!r0.2.2.1) = true then
    some ([], 0, false, ())
  else
    if (decide (r0.1 > (w64 ((List.length t0 : Int) - r0.2.1)))) = true then
      some ([], 0, false, ())
    else
      if (0 : Int) ≤ r0.2.1 ∧ r0.2.1 ≤ (w64 (r0.2.1 + r0.1)) ∧ (w64 (r0.2.1 + r0.1)) ≤ (List.length t0 : Int) then
        some ((List.take ((w64 (r0.2.1 + r0.1)).toNat - r0.2.1.toNat) (List.drop r0.2.1.toNat t0)), (w64 (r0.2.1 + r0.1)), true, ())
      else none := (lim_eq tab 7 (t0, (t1, ()))).trans (by kernel_rfl)
theorem l_eqByteS_eq (t0 : (List Int)) (t1 : (List Int)) : l_eqByteS t0 t1 =
  if (!(decide ((List.length t0 : Int) = (List.length t1 : Int)))) = true then
    some (false, ())
  else
    l_eqByteS_L1 t0 t1 0 := (lim_eq tab 8 (t0, (t1, ()))).trans (by kernel_rfl)
theorem l_eqByteS_L1_eq (t0 : (List Int)) (t1 : (List Int)) (t5 : Int) : l_eqByteS_L1 t0 t1 t5 =
  if (decide (t5 < (List.length t0 : Int))) = true then
    if (0 : Int) ≤ t5 ∧ t5 < (List.length t0 : Int) then
      if (0 : Int) ≤ t5 ∧ t5 < (List.length t1 : Int) then
        if (!(decide ((List.getD t0 t5.toNat 0) = (List.getD t1 t5.toNat 0)))) = true then
          some (false, ())
        else
          l_eqByteS_L1 t0 t1 (w64 (t5 + 1))
      else none
    else none
  else
    some (true, ()) := (lim_eq tab 9 (t0, (t1, (t5, ())))).trans (by kernel_rfl)
theorem l_szDisk_eq (t0 : laws_Disk) (t1 : Int) : l_szDisk t0 t1 =
  (l_szByteS t0.Bytes t1).bind fun (r0 : Int × Unit) =>
  if (decide (r0.1 < 0)) = true then
    some ((-1), ())
  else
    some (r0.1, ()) := (lim_eq tab 10 (t0, (t1, ()))).trans (by kernel_rfl)
theorem l_toDisk_eq (t0 : laws_Disk) : l_toDisk t0 =
  (l_toByteS t0.Bytes).bind fun (r0 : (List Int) × Unit) =>
  some ((impl_Disk.mk r0.1 t0.Sure), ()) := (lim_eq tab 11 (t0, ())).trans (by kernel_rfl)
theorem s_Sync_eq (t0 : impl_Disk) : s_Sync t0 =
  (s_l20Copy t0).bind fun (r0 : impl_Disk × Unit) =>
  (s_DiskOk t0).bind fun (r1 : Bool × Unit) =>
  if r1.1 = true then
    some ((impl_Disk.mk r0.1.Bytes (List.length t0.Bytes : Int)), ())
  else
    some (r0.1, ()) := (lim_eq tab 12 (t0, ())).trans (by kernel_rfl)
theorem i_Sync_eq (t0 : impl_Disk) : i_Sync t0 =
  (i_cloneDisk t0).bind fun (r0 : impl_Disk × Unit) =>
  (i_DiskOk t0).bind fun (r1 : Bool × Unit) =>
  if r1.1 = true then
    some ((impl_Disk.mk r0.1.Bytes (List.length t0.Bytes : Int)), ())
  else
    some (r0.1, ()) := (lim_eq tab 13 (t0, ())).trans (by kernel_rfl)
theorem l_eqDisk_eq (t0 : impl_Disk) (t1 : impl_Disk) : l_eqDisk t0 t1 =
  (l_eqByteS t0.Bytes t1.Bytes).bind fun (r0 : Bool × Unit) =>
  if (!r0.1) = true then
    some (false, ())
  else
    if (!(decide (t0.Sure = t1.Sure))) = true then
      some (false, ())
    else
      some (true, ()) := (lim_eq tab 14 (t0, (t1, ()))).trans (by kernel_rfl)
theorem l_markDisk_eq (t0 : impl_Disk) (t1 : Int) : l_markDisk t0 t1 =
  (l_markByteS t0.Bytes t1).bind fun (r0 : Int × (List Int) × Unit) =>
  some (r0.1, (impl_Disk.mk r0.2.1 t0.Sure), ()) := (lim_eq tab 15 (t0, (t1, ()))).trans (by kernel_rfl)
theorem l_heldDisk_eq (t0 : impl_Disk) (t1 : Int) : l_heldDisk t0 t1 =
  (l_heldByteS t0.Bytes t1).bind fun (r0 : Int × Unit) =>
  if (decide (r0.1 < 0)) = true then
    some ((-1), ())
  else
    some (r0.1, ()) := (lim_eq tab 16 (t0, (t1, ()))).trans (by kernel_rfl)
theorem s_Append_eq (t0 : impl_Disk) (t1 : (List Int)) : s_Append t0 t1 =
  (s_l20Copy t0).bind fun (r0 : impl_Disk × Unit) =>
  (s_DiskOk t0).bind fun (r1 : Bool × Unit) =>
  if (!r1.1) = true then
    some (r0.1, false, ())
  else
    if (decide ((List.length t1 : Int) > (w64 (80000 - (List.length t0.Bytes : Int))))) = true then
      some (r0.1, false, ())
    else
      if List.length r0.1.Bytes + List.length t1 ≤ room then
        some ((impl_Disk.mk (List.append r0.1.Bytes t1) r0.1.Sure), true, ())
      else none := (lim_eq tab 17 (t0, (t1, ()))).trans (by kernel_rfl)
theorem i_Append_eq (t0 : impl_Disk) (t1 : (List Int)) : i_Append t0 t1 =
  (i_cloneDisk t0).bind fun (r0 : impl_Disk × Unit) =>
  (i_DiskOk t0).bind fun (r1 : Bool × Unit) =>
  if (!r1.1) = true then
    some (r0.1, false, ())
  else
    if (decide ((w64 ((List.length t0.Bytes : Int) + (List.length t1 : Int))) > 80000)) = true then
      some (r0.1, false, ())
    else
      if List.length r0.1.Bytes + List.length t1 ≤ room then
        some ((impl_Disk.mk (List.append r0.1.Bytes t1) r0.1.Sure), true, ())
      else none := (lim_eq tab 18 (t0, (t1, ()))).trans (by kernel_rfl)
theorem l_markByteS_eq (t0 : (List Int)) (t1 : Int) : l_markByteS t0 t1 =
  l_markByteS_L1 t0 t1 0 := (lim_eq tab 19 (t0, (t1, ()))).trans (by kernel_rfl)
theorem l_markByteS_L1_eq (t0 : (List Int)) (t1 : Int) (t5 : Int) : l_markByteS_L1 t0 t1 t5 =
  if (decide (t5 < (List.length t0 : Int))) = true then
    if (0 : Int) ≤ t5 ∧ t5 < (List.length t0 : Int) then
      l_markByteS_L1 (List.set t0 t5.toNat (w8 t1)) (w64 (t1 + 1)) (w64 (t5 + 1))
    else none
  else
    some (t1, t0, ()) := (lim_eq tab 20 (t0, (t1, (t5, ())))).trans (by kernel_rfl)
theorem l_szLog_eq (t0 : laws_Log) (t1 : Int) : l_szLog t0 t1 =
  (l_szEntryS t0.List t1).bind fun (r0 : Int × Unit) =>
  if (decide (r0.1 < 0)) = true then
    some ((-1), ())
  else
    some (r0.1, ()) := (lim_eq tab 21 (t0, (t1, ()))).trans (by kernel_rfl)
theorem l_toLog_eq (t0 : laws_Log) : l_toLog t0 =
  (l_toEntryS t0.List).bind fun (r0 : (List impl_Entry) × Unit) =>
  some ((impl_Log.mk t0.Base t0.BaseTerm r0.1), ()) := (lim_eq tab 22 (t0, ())).trans (by kernel_rfl)
theorem s_LastOf_eq (t0 : impl_Log) : s_LastOf t0 =
  if (decide ((List.length t0.List : Int) = 0)) = true then
    some (t0.Base, t0.BaseTerm, ())
  else
    if (0 : Int) ≤ (w64 ((List.length t0.List : Int) - 1)) ∧ (w64 ((List.length t0.List : Int) - 1)) < (List.length t0.List : Int) then
      some ((w64 (t0.Base + (List.length t0.List : Int))), (List.getD t0.List (w64 ((List.length t0.List : Int) - 1)).toNat z_impl_Entry).Term, ())
    else none := (lim_eq tab 23 (t0, ())).trans (by kernel_rfl)
theorem i_LastOf_eq (t0 : impl_Log) : i_LastOf t0 =
  if (decide ((List.length t0.List : Int) = 0)) = true then
    some (t0.Base, t0.BaseTerm, ())
  else
    if (0 : Int) ≤ (w64 ((List.length t0.List : Int) - 1)) ∧ (w64 ((List.length t0.List : Int) - 1)) < (List.length t0.List : Int) then
      some ((w64 (t0.Base + (List.length t0.List : Int))), (List.getD t0.List (w64 ((List.length t0.List : Int) - 1)).toNat z_impl_Entry).Term, ())
    else none := (lim_eq tab 24 (t0, ())).trans (by kernel_rfl)
theorem l_eqLog_eq (t0 : impl_Log) (t1 : impl_Log) : l_eqLog t0 t1 =
  if (!(decide (t0.Base = t1.Base))) = true then
    some (false, ())
  else
    if (!(decide (t0.BaseTerm = t1.BaseTerm))) = true then
      some (false, ())
    else
      (l_eqEntryS t0.List t1.List).bind fun (r0 : Bool × Unit) =>
      if (!r0.1) = true then
        some (false, ())
      else
        some (true, ()) := (lim_eq tab 25 (t0, (t1, ()))).trans (by kernel_rfl)
theorem s_GetNum_eq (t0 : (List Int)) (t1 : Int) : s_GetNum t0 t1 =
  s_GetNum_L1 t0 t1 0 0 := (lim_eq tab 26 (t0, (t1, ()))).trans (by kernel_rfl)
theorem s_GetNum_L1_eq (t0 : (List Int)) (t1 : Int) (t7 : Int) (t8 : Int) : s_GetNum_L1 t0 t1 t7 t8 =
  if (decide (t8 < 9)) = true then
    if (decide (t1 < 0)) = true then
      some (0, 0, false, ())
    else
      if (decide (t1 ≥ (w64 ((List.length t0 : Int) - t8)))) = true then
        some (0, 0, false, ())
      else
        if (0 : Int) ≤ (w64 (t1 + t8)) ∧ (w64 (t1 + t8)) < (List.length t0 : Int) then
          if (0 : Int) ≤ (w64 (7 * t8)) then
            if (decide ((w64 (List.getD t0 (w64 (t1 + t8)).toNat 0)) < 128)) = true then
              if (decide (t8 > 0)) = true then
                if (decide ((w64 (List.getD t0 (w64 (t1 + t8)).toNat 0)) = 0)) = true then
                  some (0, 0, false, ())
                else
                  if (decide ((bits .or .i64 t7 (shlI .i64 (Int.tmod (w64 (List.getD t0 (w64 (t1 + t8)).toNat 0)) 128) (w64 (7 * t8)))) > 4611686018427387903)) = true then
                    some (0, 0, false, ())
                  else
                    if (decide ((bits .or .i64 t7 (shlI .i64 (Int.tmod (w64 (List.getD t0 (w64 (t1 + t8)).toNat 0)) 128) (w64 (7 * t8)))) < 0)) = true then
                      some (0, 0, false, ())
                    else
                      some ((bits .or .i64 t7 (shlI .i64 (Int.tmod (w64 (List.getD t0 (w64 (t1 + t8)).toNat 0)) 128) (w64 (7 * t8)))), (w64 ((w64 (t1 + t8)) + 1)), true, ())
              else
                if (decide ((bits .or .i64 t7 (shlI .i64 (Int.tmod (w64 (List.getD t0 (w64 (t1 + t8)).toNat 0)) 128) (w64 (7 * t8)))) > 4611686018427387903)) = true then
                  some (0, 0, false, ())
                else
                  if (decide ((bits .or .i64 t7 (shlI .i64 (Int.tmod (w64 (List.getD t0 (w64 (t1 + t8)).toNat 0)) 128) (w64 (7 * t8)))) < 0)) = true then
                    some (0, 0, false, ())
                  else
                    some ((bits .or .i64 t7 (shlI .i64 (Int.tmod (w64 (List.getD t0 (w64 (t1 + t8)).toNat 0)) 128) (w64 (7 * t8)))), (w64 ((w64 (t1 + t8)) + 1)), true, ())
            else
              s_GetNum_L1 t0 t1 (bits .or .i64 t7 (shlI .i64 (Int.tmod (w64 (List.getD t0 (w64 (t1 + t8)).toNat 0)) 128) (w64 (7 * t8)))) (w64 (t8 + 1))
          else none
        else none
  else
    some (0, 0, false, ()) := (lim_eq tab 27 (t0, (t1, (t7, (t8, ()))))).trans (by kernel_rfl)
theorem i_GetNum_eq (t0 : (List Int)) (t1 : Int) : i_GetNum t0 t1 =
  (i_in t1 0 (List.length t0 : Int)).bind fun (r0 : Bool × Unit) =>
  if (!r0.1) = true then
    some (0, 0, false, ())
  else
    i_GetNum_L1 t0 t1 0 0 := (lim_eq tab 28 (t0, (t1, ()))).trans (by kernel_rfl)
theorem i_GetNum_L1_eq (t0 : (List Int)) (t1 : Int) (t7 : Int) (t8 : Int) : i_GetNum_L1 t0 t1 t7 t8 =
  if (decide (t8 < 9)) = true then
    if (decide ((w64 (t1 + t8)) < (List.length t0 : Int))) = true then
      if (0 : Int) ≤ (w64 (t1 + t8)) ∧ (w64 (t1 + t8)) < (List.length t0 : Int) then
        if (0 : Int) ≤ (w64 (7 * t8)) then
          if (decide ((w64 (List.getD t0 (w64 (t1 + t8)).toNat 0)) > 127)) = true then
            i_GetNum_L1 t0 t1 (bits .or .i64 t7 (shlI .i64 (bits .and .i64 (w64 (List.getD t0 (w64 (t1 + t8)).toNat 0)) 127) (w64 (7 * t8)))) (w64 (t8 + 1))
          else
            if (decide ((w64 (List.getD t0 (w64 (t1 + t8)).toNat 0)) = 0)) = true then
              if (decide (t8 > 0)) = true then
                some (0, 0, false, ())
              else
                (i_in (bits .or .i64 t7 (shlI .i64 (bits .and .i64 (w64 (List.getD t0 (w64 (t1 + t8)).toNat 0)) 127) (w64 (7 * t8)))) 0 4611686018427387903).bind fun (r0 : Bool × Unit) =>
                if (!r0.1) = true then
                  some (0, 0, false, ())
                else
                  some ((bits .or .i64 t7 (shlI .i64 (bits .and .i64 (w64 (List.getD t0 (w64 (t1 + t8)).toNat 0)) 127) (w64 (7 * t8)))), (w64 ((w64 (t1 + t8)) + 1)), true, ())
            else
              (i_in (bits .or .i64 t7 (shlI .i64 (bits .and .i64 (w64 (List.getD t0 (w64 (t1 + t8)).toNat 0)) 127) (w64 (7 * t8)))) 0 4611686018427387903).bind fun (r1 : Bool × Unit) =>
              if (!r1.1) = true then
                some (0, 0, false, ())
              else
                some ((bits .or .i64 t7 (shlI .i64 (bits .and .i64 (w64 (List.getD t0 (w64 (t1 + t8)).toNat 0)) 127) (w64 (7 * t8)))), (w64 ((w64 (t1 + t8)) + 1)), true, ())
        else none
      else none
    else
      some (0, 0, false, ())
  else
    some (0, 0, false, ()) := (lim_eq tab 29 (t0, (t1, (t7, (t8, ()))))).trans (by kernel_rfl)
theorem l_szByteS_eq (t0 : (List Int)) (t1 : Int) : l_szByteS t0 t1 =
  if (decide ((w64 (t1 - (List.length t0 : Int))) < 0)) = true then
    some ((-1), ())
  else
    some ((w64 (t1 - (List.length t0 : Int))), ()) := (lim_eq tab 30 (t0, (t1, ()))).trans (by kernel_rfl)
theorem s_l20Copy_eq (t0 : impl_Disk) : s_l20Copy t0 =
  if 0 + List.length t0.Bytes ≤ room then
    some ((impl_Disk.mk (List.append [] t0.Bytes) t0.Sure), ())
  else none := (lim_eq tab 31 (t0, ())).trans (by kernel_rfl)
theorem s_DiskOk_eq (t0 : impl_Disk) : s_DiskOk t0 =
  if (decide ((List.length t0.Bytes : Int) ≤ 80000)) = true then
    (s_l1In t0.Sure 0 (List.length t0.Bytes : Int)).bind fun (r0 : Bool × Unit) =>
    some (r0.1, ())
  else
    some (false, ()) := (lim_eq tab 32 (t0, ())).trans (by kernel_rfl)
theorem i_cloneDisk_eq (t0 : impl_Disk) : i_cloneDisk t0 =
  (x_slices_Clone_byte_byte t0.Bytes).bind fun (r0 : (List Int) × Unit) =>
  some ((impl_Disk.mk r0.1 t0.Sure), ()) := (lim_eq tab 33 (t0, ())).trans (by kernel_rfl)
theorem i_DiskOk_eq (t0 : impl_Disk) : i_DiskOk t0 =
  if (decide ((List.length t0.Bytes : Int) ≤ 80000)) = true then
    (i_in t0.Sure 0 (List.length t0.Bytes : Int)).bind fun (r0 : Bool × Unit) =>
    some (r0.1, ())
  else
    some (false, ()) := (lim_eq tab 34 (t0, ())).trans (by kernel_rfl)
theorem l_heldByteS_eq (t0 : (List Int)) (t1 : Int) : l_heldByteS t0 t1 =
  l_heldByteS_L1 t0 t1 0 := (lim_eq tab 35 (t0, (t1, ()))).trans (by kernel_rfl)
theorem l_heldByteS_L1_eq (t0 : (List Int)) (t1 : Int) (t5 : Int) : l_heldByteS_L1 t0 t1 t5 =
  if (decide (t5 < (List.length t0 : Int))) = true then
    if (0 : Int) ≤ t5 ∧ t5 < (List.length t0 : Int) then
      if (!(decide ((List.getD t0 t5.toNat 0) = (w8 t1)))) = true then
        some ((-1), ())
      else
        l_heldByteS_L1 t0 (w64 (t1 + 1)) (w64 (t5 + 1))
    else none
  else
    some (t1, ()) := (lim_eq tab 36 (t0, (t1, (t5, ())))).trans (by kernel_rfl)
theorem l_szEntryS_eq (t0 : (List laws_Entry)) (t1 : Int) : l_szEntryS t0 t1 =
  if (decide ((w64 (t1 - (List.length t0 : Int))) < 0)) = true then
    some ((-1), ())
  else
    l_szEntryS_L1 t0 (w64 (t1 - (List.length t0 : Int))) 0 := (lim_eq tab 37 (t0, (t1, ()))).trans (by kernel_rfl)
theorem l_szEntryS_L1_eq (t0 : (List laws_Entry)) (t1 : Int) (t5 : Int) : l_szEntryS_L1 t0 t1 t5 =
  if (decide (t5 < (List.length t0 : Int))) = true then
    if (0 : Int) ≤ t5 ∧ t5 < (List.length t0 : Int) then
      (l_szEntry (List.getD t0 t5.toNat z_laws_Entry) t1).bind fun (r0 : Int × Unit) =>
      if (decide (r0.1 < 0)) = true then
        some ((-1), ())
      else
        l_szEntryS_L1 t0 r0.1 (w64 (t5 + 1))
    else none
  else
    some (t1, ()) := (lim_eq tab 38 (t0, (t1, (t5, ())))).trans (by kernel_rfl)
theorem l_toEntryS_eq (t0 : (List laws_Entry)) : l_toEntryS t0 =
  if (0 : Int) ≤ (List.length t0 : Int) ∧ (List.length t0 : Int) ≤ (List.length t0 : Int) ∧ (List.length t0 : Int) ≤ (room : Int) then
    l_toEntryS_L1 t0 (List.replicate (List.length t0 : Int).toNat z_impl_Entry) 0
  else none := (lim_eq tab 39 (t0, ())).trans (by kernel_rfl)
theorem l_toEntryS_L1_eq (t0 : (List laws_Entry)) (t3 : (List impl_Entry)) (t4 : Int) : l_toEntryS_L1 t0 t3 t4 =
  if (decide (t4 < (List.length t0 : Int))) = true then
    if (0 : Int) ≤ t4 ∧ t4 < (List.length t0 : Int) then
      (l_toEntry (List.getD t0 t4.toNat z_laws_Entry)).bind fun (r0 : impl_Entry × Unit) =>
      if (0 : Int) ≤ t4 ∧ t4 < (List.length t3 : Int) then
        l_toEntryS_L1 t0 (List.set t3 t4.toNat r0.1) (w64 (t4 + 1))
      else none
    else none
  else
    some (t3, ()) := (lim_eq tab 40 (t0, (t3, (t4, ())))).trans (by kernel_rfl)
theorem l_eqEntryS_eq (t0 : (List impl_Entry)) (t1 : (List impl_Entry)) : l_eqEntryS t0 t1 =
  if (!(decide ((List.length t0 : Int) = (List.length t1 : Int)))) = true then
    some (false, ())
  else
    l_eqEntryS_L1 t0 t1 0 := (lim_eq tab 41 (t0, (t1, ()))).trans (by kernel_rfl)
theorem l_eqEntryS_L1_eq (t0 : (List impl_Entry)) (t1 : (List impl_Entry)) (t5 : Int) : l_eqEntryS_L1 t0 t1 t5 =
  if (decide (t5 < (List.length t0 : Int))) = true then
    if (0 : Int) ≤ t5 ∧ t5 < (List.length t0 : Int) then
      if (0 : Int) ≤ t5 ∧ t5 < (List.length t1 : Int) then
        (l_eqEntry (List.getD t0 t5.toNat z_impl_Entry) (List.getD t1 t5.toNat z_impl_Entry)).bind fun (r0 : Bool × Unit) =>
        if (!r0.1) = true then
          some (false, ())
        else
          l_eqEntryS_L1 t0 t1 (w64 (t5 + 1))
      else none
    else none
  else
    some (true, ()) := (lim_eq tab 42 (t0, (t1, (t5, ())))).trans (by kernel_rfl)
theorem i_in_eq (t0 : Int) (t1 : Int) (t2 : Int) : i_in t0 t1 t2 =
  if (decide (t0 ≥ t1)) = true then
    some ((decide (t0 ≤ t2)), ())
  else
    some (false, ()) := (lim_eq tab 43 (t0, (t1, (t2, ())))).trans (by kernel_rfl)
theorem s_l1In_eq (t0 : Int) (t1 : Int) (t2 : Int) : s_l1In t0 t1 t2 =
  if (decide (t0 ≥ t1)) = true then
    some ((decide (t0 ≤ t2)), ())
  else
    some (false, ()) := (lim_eq tab 44 (t0, (t1, (t2, ())))).trans (by kernel_rfl)
theorem x_slices_Clone_byte_byte_eq (t0 : (List Int)) : x_slices_Clone_byte_byte t0 =
  if (Nat.beq (List.length t0) 0) = true then
    amb (
      some ([], ()))
    (
      if 0 + List.length t0 ≤ room then
        some ((List.append [] t0), ())
      else none)
  else
    if 0 + List.length t0 ≤ room then
      some ((List.append [] t0), ())
    else none := (lim_eq tab 45 (t0, ())).trans (by kernel_rfl)
theorem l_szEntry_eq (t0 : laws_Entry) (t1 : Int) : l_szEntry t0 t1 =
  (l_szCmd t0.C t1).bind fun (r0 : Int × Unit) =>
  if (decide (r0.1 < 0)) = true then
    some ((-1), ())
  else
    some (r0.1, ()) := (lim_eq tab 46 (t0, (t1, ()))).trans (by kernel_rfl)
theorem l_toEntry_eq (t0 : laws_Entry) : l_toEntry t0 =
  (l_toCmd t0.C).bind fun (r0 : impl_Cmd × Unit) =>
  some ((impl_Entry.mk t0.Term r0.1), ()) := (lim_eq tab 47 (t0, ())).trans (by kernel_rfl)
theorem l_eqEntry_eq (t0 : impl_Entry) (t1 : impl_Entry) : l_eqEntry t0 t1 =
  if (!(decide (t0.Term = t1.Term))) = true then
    some (false, ())
  else
    (l_eqCmd t0.C t1.C).bind fun (r0 : Bool × Unit) =>
    if (!r0.1) = true then
      some (false, ())
    else
      some (true, ()) := (lim_eq tab 48 (t0, (t1, ()))).trans (by kernel_rfl)
theorem l_szCmd_eq (t0 : laws_Cmd) (t1 : Int) : l_szCmd t0 t1 =
  if (decide ((w64 (t1 - (List.length t0.Line : Int))) < 0)) = true then
    some ((-1), ())
  else
    some ((w64 (t1 - (List.length t0.Line : Int))), ()) := (lim_eq tab 49 (t0, (t1, ()))).trans (by kernel_rfl)
theorem l_toCmd_eq (t0 : laws_Cmd) : l_toCmd t0 =
  some ((impl_Cmd.mk t0.Who t0.Seq t0.Line), ()) := (lim_eq tab 50 (t0, ())).trans (by kernel_rfl)
theorem l_eqCmd_eq (t0 : impl_Cmd) (t1 : impl_Cmd) : l_eqCmd t0 t1 =
  if (!(decide (t0.Who = t1.Who))) = true then
    some (false, ())
  else
    if (!(decide (t0.Seq = t1.Seq))) = true then
      some (false, ())
    else
      if (!(decide (t0.Line = t1.Line))) = true then
        some (false, ())
      else
        some (true, ()) := (lim_eq tab 51 (t0, (t1, ()))).trans (by kernel_rfl)
end Go.Proofs.Ytfafpanihhikoaa.E.TA
