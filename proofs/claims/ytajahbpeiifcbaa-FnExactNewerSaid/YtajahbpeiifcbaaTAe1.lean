/- The keys' plain equations (1). No condition. -/
import Derived.Test.YtajahbpeiifcbaaTAe0
namespace Go.Proofs.Ytajahbpeiifcbaa.E.TA
open Go.Proofs.Ytajahbpeiifcbaa.E
set_option linter.unusedVariables false
set_option maxRecDepth 100000
theorem l_FnExactFall_eq (t0 : laws_Disk) (t1 : Int) : l_FnExactFall t0 t1 =
  (l_szDisk t0 1048576).bind fun (r0 : Int × Unit) =>
  if (decide (r0.1 < 0)) = true then
    some (true, ())
  else
    (l_toDisk t0).bind fun (r1 : impl_Disk × Unit) =>
    (s_Fall r1.1 t1).bind fun (r2 : impl_Disk × Unit) =>
    (l_toDisk t0).bind fun (r3 : impl_Disk × Unit) =>
    (i_Fall r3.1 t1).bind fun (r4 : impl_Disk × Unit) =>
    (l_eqDisk r4.1 r2.1).bind fun (r5 : Bool × Unit) =>
    if (!r5.1) = true then
      some (false, ())
    else
      (l_toDisk t0).bind fun (r6 : impl_Disk × Unit) =>
      (l_eqDisk r3.1 r6.1).bind fun (r7 : Bool × Unit) =>
      if (!r7.1) = true then
        some (false, ())
      else
        (l_markDisk r3.1 1).bind fun (r8 : Int × impl_Disk × Unit) =>
        if (decide (r8.1 < 0)) = true then
          some (false, ())
        else
          (l_eqDisk r4.1 r2.1).bind fun (r9 : Bool × Unit) =>
          if (!r9.1) = true then
            some (false, ())
          else
            (l_markDisk r4.1 1).bind fun (r10 : Int × impl_Disk × Unit) =>
            (l_heldDisk r10.2.1 1).bind fun (r11 : Int × Unit) =>
            if (decide (r11.1 < 0)) = true then
              some (false, ())
            else
              if (!(decide (r11.1 = r10.1))) = true then
                some (false, ())
              else
                (l_toDisk t0).bind fun (r12 : impl_Disk × Unit) =>
                (i_Fall r12.1 t1).bind fun (r13 : impl_Disk × Unit) =>
                (l_eqDisk r13.1 r2.1).bind fun (r14 : Bool × Unit) =>
                if (!r14.1) = true then
                  some (false, ())
                else
                  (l_heldDisk r10.2.1 1).bind fun (r15 : Int × Unit) =>
                  if (decide (r15.1 < 0)) = true then
                    some (false, ())
                  else
                    if (!(decide (r15.1 = r10.1))) = true then
                      some (false, ())
                    else
                      some (true, ()) := (lim_eq tab 0 (t0, (t1, ()))).trans (by kernel_rfl)
theorem l_FnExactNewer_eq (t0 : laws_Log) (t1 : Int) (t2 : Int) : l_FnExactNewer t0 t1 t2 =
  (l_szLog t0 1048576).bind fun (r0 : Int × Unit) =>
  if (decide (r0.1 < 0)) = true then
    some (true, ())
  else
    (l_toLog t0).bind fun (r1 : impl_Log × Unit) =>
    (s_Newer r1.1 t1 t2).bind fun (r2 : Bool × Unit) =>
    (l_toLog t0).bind fun (r3 : impl_Log × Unit) =>
    (i_Newer r3.1 t1 t2).bind fun (r4 : Bool × Unit) =>
    if (!(decide (r4.1 = r2.1))) = true then
      some (false, ())
    else
      (l_toLog t0).bind fun (r5 : impl_Log × Unit) =>
      (l_eqLog r3.1 r5.1).bind fun (r6 : Bool × Unit) =>
      if (!r6.1) = true then
        some (false, ())
      else
        some (true, ()) := (lim_eq tab 1 (t0, (t1, (t2, ())))).trans (by kernel_rfl)
theorem l_FnExactTermAt_eq (t0 : laws_Log) (t1 : Int) : l_FnExactTermAt t0 t1 =
  (l_szLog t0 1048576).bind fun (r0 : Int × Unit) =>
  if (decide (r0.1 < 0)) = true then
    some (true, ())
  else
    (l_toLog t0).bind fun (r1 : impl_Log × Unit) =>
    (s_TermAt r1.1 t1).bind fun (r2 : Int × Unit) =>
    (l_toLog t0).bind fun (r3 : impl_Log × Unit) =>
    (i_TermAt r3.1 t1).bind fun (r4 : Int × Unit) =>
    if (!(decide (r4.1 = r2.1))) = true then
      some (false, ())
    else
      (l_toLog t0).bind fun (r5 : impl_Log × Unit) =>
      (l_eqLog r3.1 r5.1).bind fun (r6 : Bool × Unit) =>
      if (!r6.1) = true then
        some (false, ())
      else
        some (true, ()) := (lim_eq tab 2 (t0, (t1, ()))).trans (by kernel_rfl)
theorem l_FnExactFrom_eq (t0 : laws_Log) (t1 : Int) : l_FnExactFrom t0 t1 =
  (l_szLog t0 1048576).bind fun (r0 : Int × Unit) =>
  if (decide (r0.1 < 0)) = true then
    some (true, ())
  else
    (l_toLog t0).bind fun (r1 : impl_Log × Unit) =>
    (s_From r1.1 t1).bind fun (r2 : (List impl_Entry) × Unit) =>
    (l_toLog t0).bind fun (r3 : impl_Log × Unit) =>
    (i_From r3.1 t1).bind fun (r4 : (List impl_Entry) × Unit) =>
    (l_eqEntryS r4.1 r2.1).bind fun (r5 : Bool × Unit) =>
    if (!r5.1) = true then
      some (false, ())
    else
      (l_toLog t0).bind fun (r6 : impl_Log × Unit) =>
      (l_eqLog r3.1 r6.1).bind fun (r7 : Bool × Unit) =>
      if (!r7.1) = true then
        some (false, ())
      else
        (l_markLog r3.1 1).bind fun (r8 : Int × impl_Log × Unit) =>
        if (decide (r8.1 < 0)) = true then
          some (false, ())
        else
          (l_eqEntryS r4.1 r2.1).bind fun (r9 : Bool × Unit) =>
          if (!r9.1) = true then
            some (false, ())
          else
            (l_markEntryS r4.1 1).bind fun (r10 : Int × (List impl_Entry) × Unit) =>
            (l_heldEntryS r10.2.1 1).bind fun (r11 : Int × Unit) =>
            if (decide (r11.1 < 0)) = true then
              some (false, ())
            else
              if (!(decide (r11.1 = r10.1))) = true then
                some (false, ())
              else
                (l_toLog t0).bind fun (r12 : impl_Log × Unit) =>
                (i_From r12.1 t1).bind fun (r13 : (List impl_Entry) × Unit) =>
                (l_eqEntryS r13.1 r2.1).bind fun (r14 : Bool × Unit) =>
                if (!r14.1) = true then
                  some (false, ())
                else
                  (l_heldEntryS r10.2.1 1).bind fun (r15 : Int × Unit) =>
                  if (decide (r15.1 < 0)) = true then
                    some (false, ())
                  else
                    if (!(decide (r15.1 = r10.1))) = true then
                      some (false, ())
                    else
                      some (true, ()) := (lim_eq tab 3 (t0, (t1, ()))).trans (by kernel_rfl)
theorem l_FnExactLogCut_eq (t0 : laws_Log) (t1 : Int) : l_FnExactLogCut t0 t1 =
  (l_szLog t0 1048576).bind fun (r0 : Int × Unit) =>
  if (decide (r0.1 < 0)) = true then
    some (true, ())
  else
    (l_toLog t0).bind fun (r1 : impl_Log × Unit) =>
    (s_LogCut r1.1 t1).bind fun (r2 : impl_Log × Unit) =>
    (l_toLog t0).bind fun (r3 : impl_Log × Unit) =>
    (i_LogCut r3.1 t1).bind fun (r4 : impl_Log × Unit) =>
    (l_eqLog r4.1 r2.1).bind fun (r5 : Bool × Unit) =>
    if (!r5.1) = true then
      some (false, ())
    else
      (l_toLog t0).bind fun (r6 : impl_Log × Unit) =>
      (l_eqLog r3.1 r6.1).bind fun (r7 : Bool × Unit) =>
      if (!r7.1) = true then
        some (false, ())
      else
        (l_markLog r3.1 1).bind fun (r8 : Int × impl_Log × Unit) =>
        if (decide (r8.1 < 0)) = true then
          some (false, ())
        else
          (l_eqLog r4.1 r2.1).bind fun (r9 : Bool × Unit) =>
          if (!r9.1) = true then
            some (false, ())
          else
            (l_markLog r4.1 1).bind fun (r10 : Int × impl_Log × Unit) =>
            (l_heldLog r10.2.1 1).bind fun (r11 : Int × Unit) =>
            if (decide (r11.1 < 0)) = true then
              some (false, ())
            else
              if (!(decide (r11.1 = r10.1))) = true then
                some (false, ())
              else
                (l_toLog t0).bind fun (r12 : impl_Log × Unit) =>
                (i_LogCut r12.1 t1).bind fun (r13 : impl_Log × Unit) =>
                (l_eqLog r13.1 r2.1).bind fun (r14 : Bool × Unit) =>
                if (!r14.1) = true then
                  some (false, ())
                else
                  (l_heldLog r10.2.1 1).bind fun (r15 : Int × Unit) =>
                  if (decide (r15.1 < 0)) = true then
                    some (false, ())
                  else
                    if (!(decide (r15.1 = r10.1))) = true then
                      some (false, ())
                    else
                      some (true, ()) := (lim_eq tab 4 (t0, (t1, ()))).trans (by kernel_rfl)
theorem l_szDisk_eq (t0 : laws_Disk) (t1 : Int) : l_szDisk t0 t1 =
  (l_szByteS t0.Bytes t1).bind fun (r0 : Int × Unit) =>
  if (decide (r0.1 < 0)) = true then
    some ((-1), ())
  else
    some (r0.1, ()) := (lim_eq tab 5 (t0, (t1, ()))).trans (by kernel_rfl)
theorem l_toDisk_eq (t0 : laws_Disk) : l_toDisk t0 =
  (l_toByteS t0.Bytes).bind fun (r0 : (List Int) × Unit) =>
  some ((impl_Disk.mk r0.1 t0.Sure), ()) := (lim_eq tab 6 (t0, ())).trans (by kernel_rfl)
theorem s_Fall_eq (t0 : impl_Disk) (t1 : Int) : s_Fall t0 t1 =
  (s_DiskOk t0).bind fun (r0 : Bool × Unit) =>
  if (!r0.1) = true then
    (s_l20Copy t0).bind fun (r1 : impl_Disk × Unit) =>
    some (r1.1, ())
  else
    (s_l1Min t1 (w64 ((List.length t0.Bytes : Int) - t0.Sure))).bind fun (r2 : Int × Unit) =>
    (s_l1Max 0 r2.1).bind fun (r3 : Int × Unit) =>
    if (0 : Int) ≤ (w64 (t0.Sure + r3.1)) ∧ (w64 (t0.Sure + r3.1)) ≤ (List.length t0.Bytes : Int) then
      if 0 + List.length (List.take ((w64 (t0.Sure + r3.1)).toNat - 0) (List.drop 0 t0.Bytes)) ≤ room then
        let v0 : impl_Disk := (impl_Disk.mk (List.append [] (List.take ((w64 (t0.Sure + r3.1)).toNat - 0) (List.drop 0 t0.Bytes))) (w64 (t0.Sure + r3.1)))
        some (v0, ())
      else none
    else none := (lim_eq tab 7 (t0, (t1, ()))).trans (by kernel_rfl)
theorem i_Fall_eq (t0 : impl_Disk) (t1 : Int) : i_Fall t0 t1 =
  (i_cloneDisk t0).bind fun (r0 : impl_Disk × Unit) =>
  (i_DiskOk t0).bind fun (r1 : Bool × Unit) =>
  if r1.1 = true then
    let v0 : impl_Disk := (impl_Disk.mk r0.1.Bytes (w64 (r0.1.Sure + (mxI 0 (mnI t1 (w64 ((List.length t0.Bytes : Int) - t0.Sure)))))))
    if (0 : Int) ≤ v0.Sure ∧ v0.Sure ≤ (List.length v0.Bytes : Int) then
      some ((impl_Disk.mk (List.take v0.Sure.toNat v0.Bytes) v0.Sure), ())
    else none
  else
    some (r0.1, ()) := (lim_eq tab 8 (t0, (t1, ()))).trans (by kernel_rfl)
theorem l_eqDisk_eq (t0 : impl_Disk) (t1 : impl_Disk) : l_eqDisk t0 t1 =
  (l_eqByteS t0.Bytes t1.Bytes).bind fun (r0 : Bool × Unit) =>
  if (!r0.1) = true then
    some (false, ())
  else
    if (!(decide (t0.Sure = t1.Sure))) = true then
      some (false, ())
    else
      some (true, ()) := (lim_eq tab 9 (t0, (t1, ()))).trans (by kernel_rfl)
theorem l_markDisk_eq (t0 : impl_Disk) (t1 : Int) : l_markDisk t0 t1 =
  (l_markByteS t0.Bytes t1).bind fun (r0 : Int × (List Int) × Unit) =>
  some (r0.1, (impl_Disk.mk r0.2.1 t0.Sure), ()) := (lim_eq tab 10 (t0, (t1, ()))).trans (by kernel_rfl)
theorem l_heldDisk_eq (t0 : impl_Disk) (t1 : Int) : l_heldDisk t0 t1 =
  (l_heldByteS t0.Bytes t1).bind fun (r0 : Int × Unit) =>
  if (decide (r0.1 < 0)) = true then
    some ((-1), ())
  else
    some (r0.1, ()) := (lim_eq tab 11 (t0, (t1, ()))).trans (by kernel_rfl)
theorem l_szLog_eq (t0 : laws_Log) (t1 : Int) : l_szLog t0 t1 =
  (l_szEntryS t0.List t1).bind fun (r0 : Int × Unit) =>
  if (decide (r0.1 < 0)) = true then
    some ((-1), ())
  else
    some (r0.1, ()) := (lim_eq tab 12 (t0, (t1, ()))).trans (by kernel_rfl)
theorem l_toLog_eq (t0 : laws_Log) : l_toLog t0 =
  (l_toEntryS t0.List).bind fun (r0 : (List impl_Entry) × Unit) =>
  some ((impl_Log.mk t0.Base t0.BaseTerm r0.1), ()) := (lim_eq tab 13 (t0, ())).trans (by kernel_rfl)
theorem s_Newer_eq (t0 : impl_Log) (t1 : Int) (t2 : Int) : s_Newer t0 t1 t2 =
  (s_LastOf t0).bind fun (r0 : Int × Int × Unit) =>
  if (decide (t2 > r0.2.1)) = true then
    some (true, ())
  else
    if (decide (t2 = r0.2.1)) = true then
      some ((decide (t1 ≥ r0.1)), ())
    else
      some (false, ()) := (lim_eq tab 14 (t0, (t1, (t2, ())))).trans (by kernel_rfl)
theorem i_Newer_eq (t0 : impl_Log) (t1 : Int) (t2 : Int) : i_Newer t0 t1 t2 =
  (i_LastOf t0).bind fun (r0 : Int × Int × Unit) =>
  if (decide (t2 > r0.2.1)) = true then
    some (true, ())
  else
    if (decide (t2 = r0.2.1)) = true then
      some ((decide (t1 ≥ r0.1)), ())
    else
      some (false, ()) := (lim_eq tab 15 (t0, (t1, (t2, ())))).trans (by kernel_rfl)
theorem l_eqLog_eq (t0 : impl_Log) (t1 : impl_Log) : l_eqLog t0 t1 =
  if (!(decide (t0.Base = t1.Base))) = true then
    some (false, ())
  else
    if (!(decide (t0.BaseTerm = t1.BaseTerm))) = true then
      some (false, ())
    else
      (l_eqEntryS t0.List t1.List).bind fun (r0 : Bool × Unit) =>
      if (!r0.1) = true then
        some (false, ())
      else
        some (true, ()) := (lim_eq tab 16 (t0, (t1, ()))).trans (by kernel_rfl)
theorem s_TermAt_eq (t0 : impl_Log) (t1 : Int) : s_TermAt t0 t1 =
  if (decide (t1 = t0.Base)) = true then
    some (t0.BaseTerm, ())
  else
    (s_l18At t0 t1).bind fun (r0 : Int × Unit) =>
    if (decide (r0.1 < 0)) = true then
      some ((-1), ())
    else
      if (0 : Int) ≤ r0.1 ∧ r0.1 < (List.length t0.List : Int) then
        some ((List.getD t0.List r0.1.toNat z_impl_Entry).Term, ())
      else none := (lim_eq tab 17 (t0, (t1, ()))).trans (by kernel_rfl)
theorem i_TermAt_eq (t0 : impl_Log) (t1 : Int) : i_TermAt t0 t1 =
  (i_there t0).bind fun (r0 : (List impl_Entry) × Unit) =>
  if (decide (t1 = t0.Base)) = true then
    some (t0.BaseTerm, ())
  else
    if (decide (t1 > t0.Base)) = true then
      if (decide ((List.length r0.1 : Int) > 0)) = true then
        if (decide (t1 ≤ (w64 (t0.Base + (List.length r0.1 : Int))))) = true then
          if (0 : Int) ≤ (w64 ((w64 (t1 - t0.Base)) - 1)) ∧ (w64 ((w64 (t1 - t0.Base)) - 1)) < (List.length r0.1 : Int) then
            some ((List.getD r0.1 (w64 ((w64 (t1 - t0.Base)) - 1)).toNat z_impl_Entry).Term, ())
          else none
        else
          some ((-1), ())
      else
        some ((-1), ())
    else
      some ((-1), ()) := (lim_eq tab 18 (t0, (t1, ()))).trans (by kernel_rfl)
theorem s_From_eq (t0 : impl_Log) (t1 : Int) : s_From t0 t1 =
  (s_l18At t0 t1).bind fun (r0 : Int × Unit) =>
  if (decide (r0.1 < 0)) = true then
    some ([], ())
  else
    if (0 : Int) ≤ r0.1 ∧ r0.1 ≤ (List.length t0.List : Int) then
      if 0 + List.length (List.take ((List.length t0.List) - r0.1.toNat) (List.drop r0.1.toNat t0.List)) ≤ room then
        some ((List.append [] (List.take ((List.length t0.List) - r0.1.toNat) (List.drop r0.1.toNat t0.List))), ())
      else none
    else none := (lim_eq tab 19 (t0, (t1, ()))).trans (by kernel_rfl)
theorem i_From_eq (t0 : impl_Log) (t1 : Int) : i_From t0 t1 =
  (i_there t0).bind fun (r0 : (List impl_Entry) × Unit) =>
  if (decide (t1 ≤ t0.Base)) = true then
    some ([], ())
  else
    if (decide ((List.length r0.1 : Int) = 0)) = true then
      some ([], ())
    else
      if (decide (t1 > (w64 (t0.Base + (List.length r0.1 : Int))))) = true then
        some ([], ())
      else
        if (0 : Int) ≤ (w64 ((w64 (t1 - t0.Base)) - 1)) ∧ (w64 ((w64 (t1 - t0.Base)) - 1)) ≤ (List.length r0.1 : Int) then
          (x_slices_Clone_impl_Entry (List.take ((List.length r0.1) - (w64 ((w64 (t1 - t0.Base)) - 1)).toNat) (List.drop (w64 ((w64 (t1 - t0.Base)) - 1)).toNat r0.1))).bind fun (r1 : (List impl_Entry) × Unit) =>
          some (r1.1, ())
        else none := (lim_eq tab 20 (t0, (t1, ()))).trans (by kernel_rfl)
theorem l_eqEntryS_eq (t0 : (List impl_Entry)) (t1 : (List impl_Entry)) : l_eqEntryS t0 t1 =
  if (!(decide ((List.length t0 : Int) = (List.length t1 : Int)))) = true then
    some (false, ())
  else
    l_eqEntryS_L1 t0 t1 0 := (lim_eq tab 21 (t0, (t1, ()))).trans (by kernel_rfl)
theorem l_eqEntryS_L1_eq (t0 : (List impl_Entry)) (t1 : (List impl_Entry)) (t5 : Int) : l_eqEntryS_L1 t0 t1 t5 =
  if (decide (t5 < (List.length t0 : Int))) = true then
    if (0 : Int) ≤ t5 ∧ t5 < (List.length t0 : Int) then
      if (0 : Int) ≤ t5 ∧ t5 < (List.length t1 : Int) then
        (l_eqEntry (List.getD t0 t5.toNat z_impl_Entry) (List.getD t1 t5.toNat z_impl_Entry)).bind fun (r0 : Bool × Unit) =>
        if (!r0.1) = true then
          some (false, ())
        else
          l_eqEntryS_L1 t0 t1 (w64 (t5 + 1))
      else none
    else none
  else
    some (true, ()) := (lim_eq tab 22 (t0, (t1, (t5, ())))).trans (by kernel_rfl)
theorem l_markLog_eq (t0 : impl_Log) (t1 : Int) : l_markLog t0 t1 =
  (l_markEntryS t0.List t1).bind fun (r0 : Int × (List impl_Entry) × Unit) =>
  some (r0.1, (impl_Log.mk t0.Base t0.BaseTerm r0.2.1), ()) := (lim_eq tab 23 (t0, (t1, ()))).trans (by kernel_rfl)
theorem l_markEntryS_eq (t0 : (List impl_Entry)) (t1 : Int) : l_markEntryS t0 t1 =
  l_markEntryS_L1 t0 t1 0 := (lim_eq tab 24 (t0, (t1, ()))).trans (by kernel_rfl)
theorem l_markEntryS_L1_eq (t0 : (List impl_Entry)) (t1 : Int) (t5 : Int) : l_markEntryS_L1 t0 t1 t5 =
  if (decide (t5 < (List.length t0 : Int))) = true then
    if (0 : Int) ≤ t5 ∧ t5 < (List.length t0 : Int) then
      if (0 : Int) ≤ t5 ∧ t5 < (List.length (List.set t0 t5.toNat (impl_Entry.mk t1 ((List.getD t0 t5.toNat z_impl_Entry).C))) : Int) then
        let v0 : (List impl_Entry) := (List.set (List.set t0 t5.toNat (impl_Entry.mk t1 ((List.getD t0 t5.toNat z_impl_Entry).C))) t5.toNat (impl_Entry.mk ((List.getD (List.set t0 t5.toNat (impl_Entry.mk t1 ((List.getD t0 t5.toNat z_impl_Entry).C))) t5.toNat z_impl_Entry).Term) (impl_Cmd.mk (w64 (t1 + 1)) (((List.getD (List.set t0 t5.toNat (impl_Entry.mk t1 ((List.getD t0 t5.toNat z_impl_Entry).C))) t5.toNat z_impl_Entry).C).Seq) (((List.getD (List.set t0 t5.toNat (impl_Entry.mk t1 ((List.getD t0 t5.toNat z_impl_Entry).C))) t5.toNat z_impl_Entry).C).Line))))
        if (0 : Int) ≤ t5 ∧ t5 < (List.length v0 : Int) then
          let v1 : (List impl_Entry) := (List.set v0 t5.toNat (impl_Entry.mk ((List.getD v0 t5.toNat z_impl_Entry).Term) (impl_Cmd.mk (((List.getD v0 t5.toNat z_impl_Entry).C).Who) (w64 ((w64 (t1 + 1)) + 1)) (((List.getD v0 t5.toNat z_impl_Entry).C).Line))))
          (l_markText (w64 ((w64 ((w64 (t1 + 1)) + 1)) + 1))).bind fun (r0 : (List Int) × Unit) =>
          if (0 : Int) ≤ t5 ∧ t5 < (List.length v1 : Int) then
            let v2 : (List impl_Entry) := (List.set v1 t5.toNat (impl_Entry.mk ((List.getD v1 t5.toNat z_impl_Entry).Term) (impl_Cmd.mk (((List.getD v1 t5.toNat z_impl_Entry).C).Who) (((List.getD v1 t5.toNat z_impl_Entry).C).Seq) r0.1)))
            l_markEntryS_L1 v2 (w64 ((w64 ((w64 ((w64 (t1 + 1)) + 1)) + 1)) + 1)) (w64 (t5 + 1))
          else none
        else none
      else none
    else none
  else
    some (t1, t0, ()) := (lim_eq tab 25 (t0, (t1, (t5, ())))).trans (by kernel_rfl)
theorem l_heldEntryS_eq (t0 : (List impl_Entry)) (t1 : Int) : l_heldEntryS t0 t1 =
  l_heldEntryS_L1 t0 t1 0 := (lim_eq tab 26 (t0, (t1, ()))).trans (by kernel_rfl)
theorem l_heldEntryS_L1_eq (t0 : (List impl_Entry)) (t1 : Int) (t5 : Int) : l_heldEntryS_L1 t0 t1 t5 =
  if (decide (t5 < (List.length t0 : Int))) = true then
    if (0 : Int) ≤ t5 ∧ t5 < (List.length t0 : Int) then
      if (!(decide (((List.getD t0 t5.toNat z_impl_Entry).Term) = t1))) = true then
        some ((-1), ())
      else
        if (0 : Int) ≤ t5 ∧ t5 < (List.length t0 : Int) then
          if (!(decide ((((List.getD t0 t5.toNat z_impl_Entry).C).Who) = (w64 (t1 + 1))))) = true then
            some ((-1), ())
          else
            if (0 : Int) ≤ t5 ∧ t5 < (List.length t0 : Int) then
              if (!(decide ((((List.getD t0 t5.toNat z_impl_Entry).C).Seq) = (w64 ((w64 (t1 + 1)) + 1))))) = true then
                some ((-1), ())
              else
                if (0 : Int) ≤ t5 ∧ t5 < (List.length t0 : Int) then
                  (l_markText (w64 ((w64 ((w64 (t1 + 1)) + 1)) + 1))).bind fun (r0 : (List Int) × Unit) =>
                  if (!(decide ((((List.getD t0 t5.toNat z_impl_Entry).C).Line) = r0.1))) = true then
                    some ((-1), ())
                  else
                    l_heldEntryS_L1 t0 (w64 ((w64 ((w64 ((w64 (t1 + 1)) + 1)) + 1)) + 1)) (w64 (t5 + 1))
                else none
            else none
        else none
    else none
  else
    some (t1, ()) := (lim_eq tab 27 (t0, (t1, (t5, ())))).trans (by kernel_rfl)
theorem s_LogCut_eq (t0 : impl_Log) (t1 : Int) : s_LogCut t0 t1 =
  (s_l18Copy t0).bind fun (r0 : impl_Log × Unit) =>
  (s_l18At t0 t1).bind fun (r1 : Int × Unit) =>
  if (decide (r1.1 < 0)) = true then
    some (r0.1, ())
  else
    if (0 : Int) ≤ r1.1 ∧ r1.1 < (List.length t0.List : Int) then
      if (0 : Int) ≤ (w64 (r1.1 + 1)) ∧ (w64 (r1.1 + 1)) ≤ (List.length t0.List : Int) then
        if 0 + List.length (List.take ((List.length t0.List) - (w64 (r1.1 + 1)).toNat) (List.drop (w64 (r1.1 + 1)).toNat t0.List)) ≤ room then
          let v0 : impl_Log := (impl_Log.mk t1 ((List.getD t0.List r1.1.toNat z_impl_Entry).Term) (List.append [] (List.take ((List.length t0.List) - (w64 (r1.1 + 1)).toNat) (List.drop (w64 (r1.1 + 1)).toNat t0.List))))
          some (v0, ())
        else none
      else none
    else none := (lim_eq tab 28 (t0, (t1, ()))).trans (by kernel_rfl)
theorem i_LogCut_eq (t0 : impl_Log) (t1 : Int) : i_LogCut t0 t1 =
  (i_there t0).bind fun (r0 : (List impl_Entry) × Unit) =>
  if (decide (t1 ≤ t0.Base)) = true then
    (i_cloneLog t0).bind fun (r1 : impl_Log × Unit) =>
    some (r1.1, ())
  else
    if (decide ((List.length r0.1 : Int) = 0)) = true then
      (i_cloneLog t0).bind fun (r2 : impl_Log × Unit) =>
      some (r2.1, ())
    else
      if (decide (t1 > (w64 (t0.Base + (List.length r0.1 : Int))))) = true then
        (i_cloneLog t0).bind fun (r3 : impl_Log × Unit) =>
        some (r3.1, ())
      else
        (i_TermAt t0 t1).bind fun (r4 : Int × Unit) =>
        if (0 : Int) ≤ (w64 (t1 - t0.Base)) ∧ (w64 (t1 - t0.Base)) ≤ (List.length t0.List : Int) then
          (x_slices_Clone_impl_Entry (List.take ((List.length t0.List) - (w64 (t1 - t0.Base)).toNat) (List.drop (w64 (t1 - t0.Base)).toNat t0.List))).bind fun (r5 : (List impl_Entry) × Unit) =>
          some ((impl_Log.mk t1 r4.1 r5.1), ())
        else none := (lim_eq tab 29 (t0, (t1, ()))).trans (by kernel_rfl)
theorem l_heldLog_eq (t0 : impl_Log) (t1 : Int) : l_heldLog t0 t1 =
  (l_heldEntryS t0.List t1).bind fun (r0 : Int × Unit) =>
  if (decide (r0.1 < 0)) = true then
    some ((-1), ())
  else
    some (r0.1, ()) := (lim_eq tab 30 (t0, (t1, ()))).trans (by kernel_rfl)
theorem l_szByteS_eq (t0 : (List Int)) (t1 : Int) : l_szByteS t0 t1 =
  if (decide ((w64 (t1 - (List.length t0 : Int))) < 0)) = true then
    some ((-1), ())
  else
    some ((w64 (t1 - (List.length t0 : Int))), ()) := (lim_eq tab 31 (t0, (t1, ()))).trans (by kernel_rfl)
theorem l_toByteS_eq (t0 : (List Int)) : l_toByteS t0 =
  if (0 : Int) ≤ (List.length t0 : Int) ∧ (List.length t0 : Int) ≤ (List.length t0 : Int) ∧ (List.length t0 : Int) ≤ (room : Int) then
    l_toByteS_L1 t0 (List.replicate (List.length t0 : Int).toNat 0) 0
  else none := (lim_eq tab 32 (t0, ())).trans (by kernel_rfl)
theorem l_toByteS_L1_eq (t0 : (List Int)) (t3 : (List Int)) (t4 : Int) : l_toByteS_L1 t0 t3 t4 =
  if (decide (t4 < (List.length t0 : Int))) = true then
    if (0 : Int) ≤ t4 ∧ t4 < (List.length t0 : Int) then
      if (0 : Int) ≤ t4 ∧ t4 < (List.length t3 : Int) then
        l_toByteS_L1 t0 (List.set t3 t4.toNat (List.getD t0 t4.toNat 0)) (w64 (t4 + 1))
      else none
    else none
  else
    some (t3, ()) := (lim_eq tab 33 (t0, (t3, (t4, ())))).trans (by kernel_rfl)
theorem s_DiskOk_eq (t0 : impl_Disk) : s_DiskOk t0 =
  if (decide ((List.length t0.Bytes : Int) ≤ 80000)) = true then
    (s_l1In t0.Sure 0 (List.length t0.Bytes : Int)).bind fun (r0 : Bool × Unit) =>
    some (r0.1, ())
  else
    some (false, ()) := (lim_eq tab 34 (t0, ())).trans (by kernel_rfl)
theorem s_l20Copy_eq (t0 : impl_Disk) : s_l20Copy t0 =
  if 0 + List.length t0.Bytes ≤ room then
    some ((impl_Disk.mk (List.append [] t0.Bytes) t0.Sure), ())
  else none := (lim_eq tab 35 (t0, ())).trans (by kernel_rfl)
theorem s_l1Min_eq (t0 : Int) (t1 : Int) : s_l1Min t0 t1 =
  if (decide (t0 < t1)) = true then
    some (t0, ())
  else
    some (t1, ()) := (lim_eq tab 36 (t0, (t1, ()))).trans (by kernel_rfl)
theorem s_l1Max_eq (t0 : Int) (t1 : Int) : s_l1Max t0 t1 =
  if (decide (t0 > t1)) = true then
    some (t0, ())
  else
    some (t1, ()) := (lim_eq tab 37 (t0, (t1, ()))).trans (by kernel_rfl)
theorem i_cloneDisk_eq (t0 : impl_Disk) : i_cloneDisk t0 =
  (x_slices_Clone_byte t0.Bytes).bind fun (r0 : (List Int) × Unit) =>
  some ((impl_Disk.mk r0.1 t0.Sure), ()) := (lim_eq tab 38 (t0, ())).trans (by kernel_rfl)
theorem i_DiskOk_eq (t0 : impl_Disk) : i_DiskOk t0 =
  if (decide ((List.length t0.Bytes : Int) ≤ 80000)) = true then
    (i_in t0.Sure 0 (List.length t0.Bytes : Int)).bind fun (r0 : Bool × Unit) =>
    some (r0.1, ())
  else
    some (false, ()) := (lim_eq tab 39 (t0, ())).trans (by kernel_rfl)
theorem l_eqByteS_eq (t0 : (List Int)) (t1 : (List Int)) : l_eqByteS t0 t1 =
  if (!(decide ((List.length t0 : Int) = (List.length t1 : Int)))) = true then
    some (false, ())
  else
    l_eqByteS_L1 t0 t1 0 := (lim_eq tab 40 (t0, (t1, ()))).trans (by kernel_rfl)
theorem l_eqByteS_L1_eq (t0 : (List Int)) (t1 : (List Int)) (t5 : Int) : l_eqByteS_L1 t0 t1 t5 =
  if (decide (t5 < (List.length t0 : Int))) = true then
    if (0 : Int) ≤ t5 ∧ t5 < (List.length t0 : Int) then
      if (0 : Int) ≤ t5 ∧ t5 < (List.length t1 : Int) then
        if (!(decide ((List.getD t0 t5.toNat 0) = (List.getD t1 t5.toNat 0)))) = true then
          some (false, ())
        else
          l_eqByteS_L1 t0 t1 (w64 (t5 + 1))
      else none
    else none
  else
    some (true, ()) := (lim_eq tab 41 (t0, (t1, (t5, ())))).trans (by kernel_rfl)
theorem l_markByteS_eq (t0 : (List Int)) (t1 : Int) : l_markByteS t0 t1 =
  l_markByteS_L1 t0 t1 0 := (lim_eq tab 42 (t0, (t1, ()))).trans (by kernel_rfl)
theorem l_markByteS_L1_eq (t0 : (List Int)) (t1 : Int) (t5 : Int) : l_markByteS_L1 t0 t1 t5 =
  if (decide (t5 < (List.length t0 : Int))) = true then
    if (0 : Int) ≤ t5 ∧ t5 < (List.length t0 : Int) then
      l_markByteS_L1 (List.set t0 t5.toNat (w8 t1)) (w64 (t1 + 1)) (w64 (t5 + 1))
    else none
  else
    some (t1, t0, ()) := (lim_eq tab 43 (t0, (t1, (t5, ())))).trans (by kernel_rfl)
theorem l_heldByteS_eq (t0 : (List Int)) (t1 : Int) : l_heldByteS t0 t1 =
  l_heldByteS_L1 t0 t1 0 := (lim_eq tab 44 (t0, (t1, ()))).trans (by kernel_rfl)
theorem l_heldByteS_L1_eq (t0 : (List Int)) (t1 : Int) (t5 : Int) : l_heldByteS_L1 t0 t1 t5 =
  if (decide (t5 < (List.length t0 : Int))) = true then
    if (0 : Int) ≤ t5 ∧ t5 < (List.length t0 : Int) then
      if (!(decide ((List.getD t0 t5.toNat 0) = (w8 t1)))) = true then
        some ((-1), ())
      else
        l_heldByteS_L1 t0 (w64 (t1 + 1)) (w64 (t5 + 1))
    else none
  else
    some (t1, ()) := (lim_eq tab 45 (t0, (t1, (t5, ())))).trans (by kernel_rfl)
theorem l_szEntryS_eq (t0 : (List laws_Entry)) (t1 : Int) : l_szEntryS t0 t1 =
  if (decide ((w64 (t1 - (List.length t0 : Int))) < 0)) = true then
    some ((-1), ())
  else
    l_szEntryS_L1 t0 (w64 (t1 - (List.length t0 : Int))) 0 := (lim_eq tab 46 (t0, (t1, ()))).trans (by kernel_rfl)
theorem l_szEntryS_L1_eq (t0 : (List laws_Entry)) (t1 : Int) (t5 : Int) : l_szEntryS_L1 t0 t1 t5 =
  if (decide (t5 < (List.length t0 : Int))) = true then
    if (0 : Int) ≤ t5 ∧ t5 < (List.length t0 : Int) then
      (l_szEntry (List.getD t0 t5.toNat z_laws_Entry) t1).bind fun (r0 : Int × Unit) =>
      if (decide (r0.1 < 0)) = true then
        some ((-1), ())
      else
        l_szEntryS_L1 t0 r0.1 (w64 (t5 + 1))
    else none
  else
    some (t1, ()) := (lim_eq tab 47 (t0, (t1, (t5, ())))).trans (by kernel_rfl)
theorem l_toEntryS_eq (t0 : (List laws_Entry)) : l_toEntryS t0 =
  if (0 : Int) ≤ (List.length t0 : Int) ∧ (List.length t0 : Int) ≤ (List.length t0 : Int) ∧ (List.length t0 : Int) ≤ (room : Int) then
    l_toEntryS_L1 t0 (List.replicate (List.length t0 : Int).toNat z_impl_Entry) 0
  else none := (lim_eq tab 48 (t0, ())).trans (by kernel_rfl)
theorem l_toEntryS_L1_eq (t0 : (List laws_Entry)) (t3 : (List impl_Entry)) (t4 : Int) : l_toEntryS_L1 t0 t3 t4 =
  if (decide (t4 < (List.length t0 : Int))) = true then
    if (0 : Int) ≤ t4 ∧ t4 < (List.length t0 : Int) then
      (l_toEntry (List.getD t0 t4.toNat z_laws_Entry)).bind fun (r0 : impl_Entry × Unit) =>
      if (0 : Int) ≤ t4 ∧ t4 < (List.length t3 : Int) then
        l_toEntryS_L1 t0 (List.set t3 t4.toNat r0.1) (w64 (t4 + 1))
      else none
    else none
  else
    some (t3, ()) := (lim_eq tab 49 (t0, (t3, (t4, ())))).trans (by kernel_rfl)
theorem s_LastOf_eq (t0 : impl_Log) : s_LastOf t0 =
  if (decide ((List.length t0.List : Int) = 0)) = true then
    some (t0.Base, t0.BaseTerm, ())
  else
    if (0 : Int) ≤ (w64 ((List.length t0.List : Int) - 1)) ∧ (w64 ((List.length t0.List : Int) - 1)) < (List.length t0.List : Int) then
      some ((w64 (t0.Base + (List.length t0.List : Int))), (List.getD t0.List (w64 ((List.length t0.List : Int) - 1)).toNat z_impl_Entry).Term, ())
    else none := (lim_eq tab 50 (t0, ())).trans (by kernel_rfl)
theorem i_LastOf_eq (t0 : impl_Log) : i_LastOf t0 =
  if (decide ((List.length t0.List : Int) = 0)) = true then
    some (t0.Base, t0.BaseTerm, ())
  else
    if (0 : Int) ≤ (w64 ((List.length t0.List : Int) - 1)) ∧ (w64 ((List.length t0.List : Int) - 1)) < (List.length t0.List : Int) then
      some ((w64 (t0.Base + (List.length t0.List : Int))), (List.getD t0.List (w64 ((List.length t0.List : Int) - 1)).toNat z_impl_Entry).Term, ())
    else none := (lim_eq tab 51 (t0, ())).trans (by kernel_rfl)
theorem s_l18At_eq (t0 : impl_Log) (t1 : Int) : s_l18At t0 t1 =
  if (decide (t1 ≤ t0.Base)) = true then
    some ((-1), ())
  else
    if (decide (t1 > 300)) = true then
      some ((-1), ())
    else
      if (decide (t0.Base < 0)) = true then
        some ((-1), ())
      else
        if (decide ((w64 ((w64 (t1 - t0.Base)) - 1)) ≥ (List.length t0.List : Int))) = true then
          some ((-1), ())
        else
          some ((w64 ((w64 (t1 - t0.Base)) - 1)), ()) := (lim_eq tab 52 (t0, (t1, ()))).trans (by kernel_rfl)
theorem i_there_eq (t0 : impl_Log) : i_there t0 =
  (i_isIndex t0.Base).bind fun (r0 : Bool × Unit) =>
  if (!r0.1) = true then
    some ([], ())
  else
    if (0 : Int) ≤ (mnI (List.length t0.List : Int) (w64 (300 - t0.Base))) ∧ (mnI (List.length t0.List : Int) (w64 (300 - t0.Base))) ≤ (List.length t0.List : Int) then
      some ((List.take ((mnI (List.length t0.List : Int) (w64 (300 - t0.Base))).toNat - 0) (List.drop 0 t0.List)), ())
    else none := (lim_eq tab 53 (t0, ())).trans (by kernel_rfl)
theorem x_slices_Clone_impl_Entry_eq (t0 : (List impl_Entry)) : x_slices_Clone_impl_Entry t0 =
  if (Nat.beq (List.length t0) 0) = true then
    amb (
      some ([], ()))
    (
      if 0 + List.length t0 ≤ room then
        some ((List.append [] t0), ())
      else none)
  else
    if 0 + List.length t0 ≤ room then
      some ((List.append [] t0), ())
    else none := (lim_eq tab 54 (t0, ())).trans (by kernel_rfl)
theorem l_eqEntry_eq (t0 : impl_Entry) (t1 : impl_Entry) : l_eqEntry t0 t1 =
  if (!(decide (t0.Term = t1.Term))) = true then
    some (false, ())
  else
    (l_eqCmd t0.C t1.C).bind fun (r0 : Bool × Unit) =>
    if (!r0.1) = true then
      some (false, ())
    else
      some (true, ()) := (lim_eq tab 55 (t0, (t1, ()))).trans (by kernel_rfl)
theorem l_markText_eq (t0 : Int) : l_markText t0 =
  if (decide (t0 ≤ 0)) = true then
    some ([109, 48], ())
  else
    l_markText_L1 t0 [] := (lim_eq tab 56 (t0, ())).trans (by kernel_rfl)
theorem l_markText_L1_eq (t0 : Int) (t3 : (List Int)) : l_markText_L1 t0 t3 =
  if (decide (t0 > 0)) = true then
    if List.length [(w8 (w64 (48 + (Int.tmod t0 10))))] + List.length t3 ≤ 9223372036854775807 then
      l_markText_L1 (w64 (Int.tdiv t0 10)) ([(w8 (w64 (48 + (Int.tmod t0 10))))] ++ t3)
    else none
  else
    if List.length [109] + List.length t3 ≤ 9223372036854775807 then
      some (([109] ++ t3), ())
    else none := (lim_eq tab 57 (t0, (t3, ()))).trans (by kernel_rfl)
theorem s_l18Copy_eq (t0 : impl_Log) : s_l18Copy t0 =
  if 0 + List.length t0.List ≤ room then
    some ((impl_Log.mk t0.Base t0.BaseTerm (List.append [] t0.List)), ())
  else none := (lim_eq tab 58 (t0, ())).trans (by kernel_rfl)
theorem i_cloneLog_eq (t0 : impl_Log) : i_cloneLog t0 =
  (x_slices_Clone_impl_Entry t0.List).bind fun (r0 : (List impl_Entry) × Unit) =>
  some ((impl_Log.mk t0.Base t0.BaseTerm r0.1), ()) := (lim_eq tab 59 (t0, ())).trans (by kernel_rfl)
theorem s_l1In_eq (t0 : Int) (t1 : Int) (t2 : Int) : s_l1In t0 t1 t2 =
  if (decide (t0 ≥ t1)) = true then
    some ((decide (t0 ≤ t2)), ())
  else
    some (false, ()) := (lim_eq tab 60 (t0, (t1, (t2, ())))).trans (by kernel_rfl)
theorem x_slices_Clone_byte_eq (t0 : (List Int)) : x_slices_Clone_byte t0 =
  if (Nat.beq (List.length t0) 0) = true then
    amb (
      some ([], ()))
    (
      if 0 + List.length t0 ≤ room then
        some ((List.append [] t0), ())
      else none)
  else
    if 0 + List.length t0 ≤ room then
      some ((List.append [] t0), ())
    else none := (lim_eq tab 61 (t0, ())).trans (by kernel_rfl)
theorem i_in_eq (t0 : Int) (t1 : Int) (t2 : Int) : i_in t0 t1 t2 =
  if (decide (t0 ≥ t1)) = true then
    some ((decide (t0 ≤ t2)), ())
  else
    some (false, ()) := (lim_eq tab 62 (t0, (t1, (t2, ())))).trans (by kernel_rfl)
theorem l_szEntry_eq (t0 : laws_Entry) (t1 : Int) : l_szEntry t0 t1 =
  (l_szCmd t0.C t1).bind fun (r0 : Int × Unit) =>
  if (decide (r0.1 < 0)) = true then
    some ((-1), ())
  else
    some (r0.1, ()) := (lim_eq tab 63 (t0, (t1, ()))).trans (by kernel_rfl)
theorem l_toEntry_eq (t0 : laws_Entry) : l_toEntry t0 =
  (l_toCmd t0.C).bind fun (r0 : impl_Cmd × Unit) =>
  some ((impl_Entry.mk t0.Term r0.1), ()) := (lim_eq tab 64 (t0, ())).trans (by kernel_rfl)
theorem i_isIndex_eq (t0 : Int) : i_isIndex t0 =
  (i_in t0 0 300).bind fun (r0 : Bool × Unit) =>
  some (r0.1, ()) := (lim_eq tab 65 (t0, ())).trans (by kernel_rfl)
theorem l_eqCmd_eq (t0 : impl_Cmd) (t1 : impl_Cmd) : l_eqCmd t0 t1 =
  if (!(decide (t0.Who = t1.Who))) = true then
    some (false, ())
  else
    if (!(decide (t0.Seq = t1.Seq))) = true then
      some (false, ())
    else
      if (!(decide (t0.Line = t1.Line))) = true then
        some (false, ())
      else
        some (true, ()) := (lim_eq tab 66 (t0, (t1, ()))).trans (by kernel_rfl)
theorem l_szCmd_eq (t0 : laws_Cmd) (t1 : Int) : l_szCmd t0 t1 =
  if (decide ((w64 (t1 - (List.length t0.Line : Int))) < 0)) = true then
    some ((-1), ())
  else
    some ((w64 (t1 - (List.length t0.Line : Int))), ()) := (lim_eq tab 67 (t0, (t1, ()))).trans (by kernel_rfl)
theorem l_toCmd_eq (t0 : laws_Cmd) : l_toCmd t0 =
  some ((impl_Cmd.mk t0.Who t0.Seq t0.Line), ()) := (lim_eq tab 68 (t0, ())).trans (by kernel_rfl)
end Go.Proofs.Ytajahbpeiifcbaa.E.TA
