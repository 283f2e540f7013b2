/- The keys' plain equations (1). No condition. -/
import Derived.Test.YtfafpanihhikoaaTSe0
namespace Go.Proofs.Ytfafpanihhikoaa.E.TS
open Go.Proofs.Ytfafpanihhikoaa.E
set_option linter.unusedVariables false
set_option maxRecDepth 100000
theorem l_FnSinks_eq (t0 : (List Int)) : l_FnSinks t0 =
  (l_big t0).bind fun (r0 : Bool × Unit) =>
  if r0.1 = true then
    some (true, ())
  else
    (s_DrawOffer t0).bind fun (r1 : impl_Sink × Int × Int × (List Int) × Unit) =>
    (i_Offer r1.1 r1.2.1 r1.2.2.1 r1.2.2.2.1).bind fun (r2 : impl_Sink × Bool × Unit) =>
    (s_Offer r1.1 r1.2.1 r1.2.2.1 r1.2.2.2.1).bind fun (r3 : impl_Sink × Bool × Unit) =>
    (s_DrawSinkOk t0).bind fun (r4 : impl_Sink × Unit) =>
    if (!(decide (r2.2.1 = r3.2.1))) = true then
      some (false, ())
    else
      if (!((decide ((r2.1.Epoch : Int) = r3.1.Epoch)) && ((decide ((r2.1.Text : List Int) = r3.1.Text)) && true))) = true then
        some (false, ())
      else
        (i_SinkOk r4.1).bind fun (r5 : Bool × Unit) =>
        (s_SinkOk r4.1).bind fun (r6 : Bool × Unit) =>
        if (!(decide (r5.1 = r6.1))) = true then
          some (false, ())
        else
          if (!r2.2.1) = true then
            some (((decide ((r2.1.Epoch : Int) = r1.1.Epoch)) && ((decide ((r2.1.Text : List Int) = r1.1.Text)) && true)), ())
          else
            (i_Offer r2.1 r1.2.1 r1.2.2.1 r1.2.2.2.1).bind fun (r7 : impl_Sink × Bool × Unit) =>
            if (decide (r1.2.1 ≥ r1.1.Epoch)) = true then
              if (decide (r2.1.Epoch = r1.2.1)) = true then
                if (decide ((List.length r2.1.Text : Int) ≥ (List.length r1.1.Text : Int))) = true then
                  if (0 : Int) ≤ (List.length r1.1.Text : Int) ∧ (List.length r1.1.Text : Int) ≤ (List.length r2.1.Text : Int) then
                    if (decide ((List.take ((List.length r1.1.Text : Int).toNat - 0) (List.drop 0 r2.1.Text)) = r1.1.Text)) = true then
                      if r7.2.1 = true then
                        if ((decide ((r7.1.Epoch : Int) = r2.1.Epoch)) && ((decide ((r7.1.Text : List Int) = r2.1.Text)) && true)) = true then
                          (i_SinkOk r2.1).bind fun (r8 : Bool × Unit) =>
                          some (r8.1, ())
                        else
                          some (false, ())
                      else
                        some (false, ())
                    else
                      some (false, ())
                  else none
                else
                  some (false, ())
              else
                some (false, ())
            else
              some (false, ()) := (lim_eq tab 0 (t0, ())).trans (by kernel_rfl)
theorem l_big_eq (t0 : (List Int)) : l_big t0 =
  some ((decide ((List.length t0 : Int) > 1048576)), ()) := (lim_eq tab 1 (t0, ())).trans (by kernel_rfl)
theorem s_DrawOffer_eq (t0 : (List Int)) : s_DrawOffer t0 =
  (s_l1New t0).bind fun (r0 : (Unit × spec_l1Cur) × Unit) =>
  (s_l25Draw r0.1.2).bind fun (r1 : impl_Sink × spec_l1Cur × Unit) =>
  (s_l1PickInt r1.2.1 [0, 1, 2, 3, 300, 301, (-1)]).bind fun (r2 : Int × spec_l1Cur × Unit) =>
  (s_l1PickInt r2.2.1 [0, 0, 1, 2, (List.length r1.1.Text : Int), (w64 ((List.length r1.1.Text : Int) + 1)), (-1)]).bind fun (r3 : Int × spec_l1Cur × Unit) =>
  (s_l1Pick r3.2.1 [[], [97, 98, 99, 100], [98, 99, 49], [49, 10, 50, 10, 51, 10]]).bind fun (r4 : (List Int) × spec_l1Cur × Unit) =>
  some (r1.1, r2.1, r3.1, r4.1, ()) := (lim_eq tab 2 (t0, ())).trans (by kernel_rfl)
theorem i_Offer_eq (t0 : impl_Sink) (t1 : Int) (t2 : Int) (t3 : (List Int)) : i_Offer t0 t1 t2 t3 =
  (i_SinkOk t0).bind fun (r0 : Bool × Unit) =>
  if (!r0.1) = true then
    some (t0, false, ())
  else
    (i_in t1 t0.Epoch 300).bind fun (r1 : Bool × Unit) =>
    if (!r1.1) = true then
      some (t0, false, ())
    else
      (i_in t2 0 (List.length t0.Text : Int)).bind fun (r2 : Bool × Unit) =>
      if (!r2.1) = true then
        some (t0, false, ())
      else
        if (decide ((w64 (t2 + (List.length t3 : Int))) > (List.length t0.Text : Int))) = true then
          if (0 : Int) ≤ (w64 ((List.length t0.Text : Int) - t2)) ∧ (w64 ((List.length t0.Text : Int) - t2)) ≤ (List.length t3 : Int) then
            if List.length t0.Text + List.length (List.take ((List.length t3) - (w64 ((List.length t0.Text : Int) - t2)).toNat) (List.drop (w64 ((List.length t0.Text : Int) - t2)).toNat t3)) ≤ 9223372036854775807 then
              let v0 : impl_Sink := (impl_Sink.mk t1 (t0.Text ++ (List.take ((List.length t3) - (w64 ((List.length t0.Text : Int) - t2)).toNat) (List.drop (w64 ((List.length t0.Text : Int) - t2)).toNat t3))))
              i_Offer_L1 t0 z_impl_Sink v0
            else none
          else none
        else
          i_Offer_L1 t0 z_impl_Sink (impl_Sink.mk t1 t0.Text) := (lim_eq tab 3 (t0, (t1, (t2, (t3, ()))))).trans (by kernel_rfl)
theorem i_Offer_L1_eq (s64 : impl_Sink) (s128 : impl_Sink) (s160 : impl_Sink) : i_Offer_L1 s64 s128 s160 =
  (i_SinkOk s160).bind fun (r0 : Bool × Unit) =>
  if (!r0.1) = true then
    some (s64, false, ())
  else
    some (s160, true, ()) := (lim_eq tab 4 (s64, (s128, (s160, ())))).trans (by kernel_rfl)
theorem s_Offer_eq (t0 : impl_Sink) (t1 : Int) (t2 : Int) (t3 : (List Int)) : s_Offer t0 t1 t2 t3 =
  (s_SinkOk t0).bind fun (r0 : Bool × Unit) =>
  if (!r0.1) = true then
    some (t0, false, ())
  else
    (s_l1In t1 t0.Epoch 300).bind fun (r1 : Bool × Unit) =>
    if (!r1.1) = true then
      some (t0, false, ())
    else
      (s_l1In t2 0 (List.length t0.Text : Int)).bind fun (r2 : Bool × Unit) =>
      if (!r2.1) = true then
        some (t0, false, ())
      else
        if (decide ((List.length t3 : Int) > (w64 ((List.length t0.Text : Int) - t2)))) = true then
          if (0 : Int) ≤ (w64 ((List.length t0.Text : Int) - t2)) ∧ (w64 ((List.length t0.Text : Int) - t2)) ≤ (List.length t3 : Int) then
            if List.length t0.Text + List.length (List.take ((List.length t3) - (w64 ((List.length t0.Text : Int) - t2)).toNat) (List.drop (w64 ((List.length t0.Text : Int) - t2)).toNat t3)) ≤ 9223372036854775807 then
              let v0 : impl_Sink := (impl_Sink.mk t1 (t0.Text ++ (List.take ((List.length t3) - (w64 ((List.length t0.Text : Int) - t2)).toNat) (List.drop (w64 ((List.length t0.Text : Int) - t2)).toNat t3))))
              s_Offer_L1 t0 z_impl_Sink v0
            else none
          else none
        else
          s_Offer_L1 t0 z_impl_Sink (impl_Sink.mk t1 t0.Text) := (lim_eq tab 5 (t0, (t1, (t2, (t3, ()))))).trans (by kernel_rfl)
theorem s_Offer_L1_eq (s64 : impl_Sink) (s128 : impl_Sink) (s160 : impl_Sink) : s_Offer_L1 s64 s128 s160 =
  (s_SinkOk s160).bind fun (r0 : Bool × Unit) =>
  if (!r0.1) = true then
    some (s64, false, ())
  else
    some (s160, true, ()) := (lim_eq tab 6 (s64, (s128, (s160, ())))).trans (by kernel_rfl)
theorem s_DrawSinkOk_eq (t0 : (List Int)) : s_DrawSinkOk t0 =
  (s_l1New t0).bind fun (r0 : (Unit × spec_l1Cur) × Unit) =>
  (s_l25Draw r0.1.2).bind fun (r1 : impl_Sink × spec_l1Cur × Unit) =>
  some (r1.1, ()) := (lim_eq tab 7 (t0, ())).trans (by kernel_rfl)
theorem i_SinkOk_eq (t0 : impl_Sink) : i_SinkOk t0 =
  (i_isIndex t0.Epoch).bind fun (r0 : Bool × Unit) =>
  if r0.1 = true then
    some ((decide ((List.length t0.Text : Int) ≤ 1500)), ())
  else
    some (false, ()) := (lim_eq tab 8 (t0, ())).trans (by kernel_rfl)
theorem s_SinkOk_eq (t0 : impl_Sink) : s_SinkOk t0 =
  (s_l1In t0.Epoch 0 300).bind fun (r0 : Bool × Unit) =>
  if r0.1 = true then
    some ((decide ((List.length t0.Text : Int) ≤ 1500)), ())
  else
    some (false, ()) := (lim_eq tab 9 (t0, ())).trans (by kernel_rfl)
theorem s_l1New_eq (t0 : (List Int)) : s_l1New t0 =
  s_l1New_L1 t0 (w64 (20700 + (List.length t0 : Int))) 0 := (lim_eq tab 10 (t0, ())).trans (by kernel_rfl)
theorem s_l1New_L1_eq (t0 : (List Int)) (t3 : Int) (t4 : Int) : s_l1New_L1 t0 t3 t4 =
  if (decide (t4 < (List.length t0 : Int))) = true then
    if (decide (t4 < 4000)) = true then
      if (0 : Int) ≤ t4 ∧ t4 < (List.length t0 : Int) then
        s_l1New_L1 t0 (bits .and .i64 (w64 ((w64 ((w64 (t3 * 131)) + (w64 (List.getD t0 t4.toNat 0)))) + 7)) 1073741823) (w64 (t4 + 1))
      else none
    else
      some (((), (spec_l1Cur.mk t0 0 t3)), ())
  else
    some (((), (spec_l1Cur.mk t0 0 t3)), ()) := (lim_eq tab 11 (t0, (t3, (t4, ())))).trans (by kernel_rfl)
theorem s_l25Draw_eq (s0 : spec_l1Cur) : s_l25Draw s0 =
  (s_l1Below s0 4).bind fun (r0 : Int × spec_l1Cur × Unit) =>
  (s_l1Pick r0.2.1 [[], [97, 98, 99], [49, 10, 50, 10]]).bind fun (r1 : (List Int) × spec_l1Cur × Unit) =>
  (s_l1Below r1.2.1 12).bind fun (r2 : Int × spec_l1Cur × Unit) =>
  if (decide (r2.1 = 0)) = true then
    (s_l1PickInt r2.2.1 [(-1), 300, 301]).bind fun (r3 : Int × spec_l1Cur × Unit) =>
    some ((impl_Sink.mk r3.1 r1.1), r3.2.1, ())
  else
    if (decide (r2.1 = 1)) = true then
      s_l25Draw_L1 r2.2.1 z_impl_Sink (impl_Sink.mk r0.1 r1.1)
    else
      some ((impl_Sink.mk r0.1 r1.1), r2.2.1, ()) := (lim_eq tab 12 (s0, ())).trans (by kernel_rfl)
theorem s_l25Draw_L1_eq (s0 : spec_l1Cur) (s32 : impl_Sink) (s48 : impl_Sink) : s_l25Draw_L1 s0 s32 s48 =
  (s_l1Below s0 2).bind fun (r0 : Int × spec_l1Cur × Unit) =>
  if (decide ((List.length s48.Text : Int) < (w64 (1500 + r0.1)))) = true then
    if List.length s48.Text + List.length [120] ≤ 9223372036854775807 then
      s_l25Draw_L1 r0.2.1 s32 (impl_Sink.mk s48.Epoch (s48.Text ++ [120]))
    else none
  else
    some (s48, r0.2.1, ()) := (lim_eq tab 13 (s0, (s32, (s48, ())))).trans (by kernel_rfl)
theorem s_l1PickInt_eq (s0 : spec_l1Cur) (t1 : (List Int)) : s_l1PickInt s0 t1 =
  (s_l1Below s0 (List.length t1 : Int)).bind fun (r0 : Int × spec_l1Cur × Unit) =>
  if (0 : Int) ≤ r0.1 ∧ r0.1 < (List.length t1 : Int) then
    some ((List.getD t1 r0.1.toNat 0), r0.2.1, ())
  else none := (lim_eq tab 14 (s0, (t1, ()))).trans (by kernel_rfl)
theorem s_l1Pick_eq (s0 : spec_l1Cur) (t1 : (List (List Int))) : s_l1Pick s0 t1 =
  (s_l1Below s0 (List.length t1 : Int)).bind fun (r0 : Int × spec_l1Cur × Unit) =>
  if (0 : Int) ≤ r0.1 ∧ r0.1 < (List.length t1 : Int) then
    some ((List.getD t1 r0.1.toNat []), r0.2.1, ())
  else none := (lim_eq tab 15 (s0, (t1, ()))).trans (by kernel_rfl)
theorem i_in_eq (t0 : Int) (t1 : Int) (t2 : Int) : i_in t0 t1 t2 =
  if (decide (t0 ≥ t1)) = true then
    some ((decide (t0 ≤ t2)), ())
  else
    some (false, ()) := (lim_eq tab 16 (t0, (t1, (t2, ())))).trans (by kernel_rfl)
theorem s_l1In_eq (t0 : Int) (t1 : Int) (t2 : Int) : s_l1In t0 t1 t2 =
  if (decide (t0 ≥ t1)) = true then
    some ((decide (t0 ≤ t2)), ())
  else
    some (false, ()) := (lim_eq tab 17 (t0, (t1, (t2, ())))).trans (by kernel_rfl)
theorem i_isIndex_eq (t0 : Int) : i_isIndex t0 =
  (i_in t0 0 300).bind fun (r0 : Bool × Unit) =>
  some (r0.1, ()) := (lim_eq tab 18 (t0, ())).trans (by kernel_rfl)
theorem s_l1Below_eq (s0 : spec_l1Cur) (t1 : Int) : s_l1Below s0 t1 =
  if (decide (t1 ≤ 0)) = true then
    some (0, s0, ())
  else
    if (decide (t1 ≤ 256)) = true then
      (s_l1Byte s0).bind fun (r0 : Int × spec_l1Cur × Unit) =>
      if t1 ≠ 0 then
        some ((Int.tmod r0.1 t1), r0.2.1, ())
      else none
    else
      (s_l1Byte s0).bind fun (r1 : Int × spec_l1Cur × Unit) =>
      (s_l1Byte r1.2.1).bind fun (r2 : Int × spec_l1Cur × Unit) =>
      (s_l1Byte r2.2.1).bind fun (r3 : Int × spec_l1Cur × Unit) =>
      (s_l1Byte r3.2.1).bind fun (r4 : Int × spec_l1Cur × Unit) =>
      if t1 ≠ 0 then
        some ((Int.tmod (w64 ((w64 ((w64 ((w64 (r1.1 * 16777216)) + (w64 (r2.1 * 65536)))) + (w64 (r3.1 * 256)))) + r4.1)) t1), r4.2.1, ())
      else none := (lim_eq tab 19 (s0, (t1, ()))).trans (by kernel_rfl)
theorem s_l1Byte_eq (s0 : spec_l1Cur) : s_l1Byte s0 =
  if (decide (s0.i < (List.length s0.b : Int))) = true then
    if (0 : Int) ≤ s0.i ∧ s0.i < (List.length s0.b : Int) then
      let v0 : spec_l1Cur := (spec_l1Cur.mk s0.b (w64 (s0.i + 1)) (w64 ((w64 (s0.h * 6364136223846793005)) + 1442695040888963407)))
      some ((bits .and .i64 (w64 ((bits .and .i64 (bits .xor .i64 (shrI .i64 (w64 ((w64 (s0.h * 6364136223846793005)) + 1442695040888963407)) 33) (shrI .i64 (w64 ((w64 (s0.h * 6364136223846793005)) + 1442695040888963407)) 45)) 255) + (w64 (List.getD s0.b s0.i.toNat 0)))) 255), v0, ())
    else none
  else
    some ((bits .and .i64 (bits .xor .i64 (shrI .i64 (w64 ((w64 (s0.h * 6364136223846793005)) + 1442695040888963407)) 33) (shrI .i64 (w64 ((w64 (s0.h * 6364136223846793005)) + 1442695040888963407)) 45)) 255), (spec_l1Cur.mk s0.b s0.i (w64 ((w64 (s0.h * 6364136223846793005)) + 1442695040888963407))), ()) := (lim_eq tab 20 (s0, ())).trans (by kernel_rfl)
end Go.Proofs.Ytfafpanihhikoaa.E.TS
