/- Copies of machines, of what nodes keep, of messages and of nodes are as what was copied. No condition but lengths. -/
import Derived.Test.YtlidpmhmchbilaaGreatPTHPeer
import Derived.Test.YtlidpmhmchbilaaGreatTTe1
namespace Go.Proofs.YtlidpmhmchbilaaGreat.E.TT
open Go.Proofs.YtlidpmhmchbilaaGreat.E
set_option linter.unusedVariables false
theorem cl_bool (l : List Bool) (hl : l.length ≤ 4294967296) : x_slices_Clone_bool l = some (l, ()) := by
  rw [x_slices_Clone_bool_eq, if_pos (show 0 + l.length ≤ room by rw [room_eq]; omega)]
  cases l with
  | nil => exact amb_self _
  | cons a l => rfl
theorem cl_int (l : List Int) (hl : l.length ≤ 4294967296) : x_slices_Clone_int l = some (l, ()) := by
  rw [x_slices_Clone_int_eq, if_pos (show 0 + l.length ≤ room by rw [room_eq]; omega)]
  cases l with
  | nil => exact amb_self _
  | cons a l => rfl
theorem cl_byte (l : List Int) (hl : l.length ≤ 4294967296) : x_slices_Clone_byte l = some (l, ()) := by
  rw [x_slices_Clone_byte_eq, if_pos (show 0 + l.length ≤ room by rw [room_eq]; omega)]
  cases l with
  | nil => exact amb_self _
  | cons a l => rfl
theorem cl_Val (l : List impl_Val) (hl : l.length ≤ 4294967296) : x_slices_Clone_impl_Val l = some (l, ()) := by
  rw [x_slices_Clone_impl_Val_eq, if_pos (show 0 + l.length ≤ room by rw [room_eq]; omega)]
  cases l with
  | nil => exact amb_self _
  | cons a l => rfl
theorem cl_Cell (l : List impl_Cell) (hl : l.length ≤ 4294967296) : x_slices_Clone_impl_Cell l = some (l, ()) := by
  rw [x_slices_Clone_impl_Cell_eq, if_pos (show 0 + l.length ≤ room by rw [room_eq]; omega)]
  cases l with
  | nil => exact amb_self _
  | cons a l => rfl
theorem cl_Entry (l : List impl_Entry) (hl : l.length ≤ 4294967296) : x_slices_Clone_impl_Entry l = some (l, ()) := by
  rw [x_slices_Clone_impl_Entry_eq, if_pos (show 0 + l.length ≤ room by rw [room_eq]; omega)]
  cases l with
  | nil => exact amb_self _
  | cons a l => rfl
theorem rm {n : Nat} (h : n ≤ 2097152) : 0 + n ≤ room := by rw [room_eq]; omega
theorem cpI_State (x : impl_State) (h : Gi_State 2097152 x) : i_cloneState x = some (x, ()) := by
  unfold Gi_State at h
  rw [i_cloneState_eq, cl_Val _ (by have := h.1.1; omega), Option.bind_some, cl_Cell _ (by have := h.2.1; omega)]; rfl
theorem cpS_State (x : impl_State) (h : Gi_State 2097152 x) : s_l11Copy x = some (x, ()) := by
  unfold Gi_State at h
  rw [s_l11Copy_eq, if_pos (rm h.1.1), if_pos (rm h.2.1)]; rfl
theorem cpI_Mach (x : impl_Mach) (h : Gi_Mach 2097152 x) : i_cloneMach x = some (x, ()) := by
  unfold Gi_Mach at h
  rw [i_cloneMach_eq, cpI_State _ h.1, Option.bind_some, cl_int _ (by have := h.2.1; omega)]; rfl
theorem cpS_Mach (x : impl_Mach) (h : Gi_Mach 2097152 x) : s_l16Copy x = some (x, ()) := by
  unfold Gi_Mach at h
  rw [s_l16Copy_eq, cpS_State _ h.1, Option.bind_some, if_pos (rm h.2.1)]; rfl
theorem cpI_Log (x : impl_Log) (h : Gi_Log 2097152 x) : i_cloneLog x = some (x, ()) := by
  unfold Gi_Log at h
  rw [i_cloneLog_eq, cl_Entry _ (by have := h.1; omega)]; rfl
theorem cpS_Log (x : impl_Log) (h : Gi_Log 2097152 x) : s_l18Copy x = some (x, ()) := by
  unfold Gi_Log at h
  rw [s_l18Copy_eq, if_pos (rm h.1)]; rfl
theorem cpI_Hard (x : impl_Hard) (h : Gi_Hard 2097152 x) : i_cloneHard x = some (x, ()) := by
  unfold Gi_Hard at h
  rw [i_cloneHard_eq, cpI_Log _ h.1, Option.bind_some, cpI_Mach _ h.2]; rfl
theorem cpS_Hard (x : impl_Hard) (h : Gi_Hard 2097152 x) : s_l21Copy x = some (x, ()) := by
  unfold Gi_Hard at h
  rw [s_l21Copy_eq, cpS_Log _ h.1, Option.bind_some, cpS_Mach _ h.2]; rfl
theorem cpI_Disk (x : impl_Disk) (h : Gi_Disk 2097152 x) : i_cloneDisk x = some (x, ()) := by
  unfold Gi_Disk at h
  rw [i_cloneDisk_eq, cl_byte _ (by omega)]; rfl
theorem cpS_Disk (x : impl_Disk) (h : Gi_Disk 2097152 x) : s_l20Copy x = some (x, ()) := by
  unfold Gi_Disk at h
  rw [s_l20Copy_eq, if_pos (rm h)]; rfl
theorem cpI_Rpc (x : impl_Rpc) (h : Gi_Rpc 2097152 x) : i_cloneRpc x = some (x, ()) := by
  unfold Gi_Rpc at h
  rw [i_cloneRpc_eq, cl_Entry _ (by have := h.1.1; omega)]; rfl
theorem cpS_Rpc (x : impl_Rpc) (h : Gi_Rpc 2097152 x) : s_l22Rpc x = some (x, ()) := by
  unfold Gi_Rpc at h
  rw [s_l22Rpc_eq, if_pos (rm h.1.1)]; rfl
theorem cpI_RpcS (l : List impl_Rpc) (h : l.length ≤ 2097152 ∧ ∀ x ∈ l, Gi_Rpc 2097152 x) : i_cloneRpcs l = some (l, ()) := by
  have hl := h.1
  rw [i_cloneRpcs_eq]
  exact app_loop (fun acc i => i_cloneRpcs_L1 acc l (l.length : Int) i) l (fun acc i hi ha => by
    show i_cloneRpcs_L1 acc l _ i = _
    rw [i_cloneRpcs_L1_eq, if_pos (decide_eq_true (by omega)), if_pos (by omega), getD_nat hi, cpI_Rpc _ (h.2 _ (List.getElem_mem hi)), Option.bind_some, if_pos (by rw [room_eq]; omega), w64_succ hi (by omega)]; rfl)
    (fun acc => by show i_cloneRpcs_L1 acc l _ _ = _; rw [i_cloneRpcs_L1_eq, if_neg (by simp)])
theorem cpS_RpcS (l : List impl_Rpc) (h : l.length ≤ 2097152 ∧ ∀ x ∈ l, Gi_Rpc 2097152 x) : s_l22Rpcs l = some (l, ()) := by
  have hl := h.1
  rw [s_l22Rpcs_eq]
  exact app_loop (fun acc i => s_l22Rpcs_L1 l acc i) l (fun acc i hi ha => by
    show s_l22Rpcs_L1 l acc i = _
    rw [s_l22Rpcs_L1_eq, if_pos (decide_eq_true (by omega)), if_pos (by omega), getD_nat hi, cpS_Rpc _ (h.2 _ (List.getElem_mem hi)), Option.bind_some, if_pos (by rw [room_eq]; omega), w64_succ hi (by omega)]; rfl)
    (fun acc => by show s_l22Rpcs_L1 l acc _ = _; rw [s_l22Rpcs_L1_eq, if_neg (by simp)])
theorem cpI_Peer (x : impl_Peer) (h : Gi_Peer 2097152 x) : i_clonePeer x = some (x, ()) := by
  unfold Gi_Peer at h
  obtain ⟨h1, h2, h3, h4, h5, h6, h7⟩ := h
  rw [i_clonePeer_eq, cpI_Hard _ h1, Option.bind_some, cpI_Mach _ h5, Option.bind_some, cpI_Disk _ h6, Option.bind_some, cpI_RpcS _ h7, Option.bind_some, cl_bool _ (by omega), Option.bind_some, cl_int _ (by omega), Option.bind_some, cl_int _ (by omega)]; rfl
theorem cpS_Peer (x : impl_Peer) (h : Gi_Peer 2097152 x) : s_l22Copy x = some (x, ()) := by
  unfold Gi_Peer at h
  obtain ⟨h1, h2, h3, h4, h5, h6, h7⟩ := h
  rw [s_l22Copy_eq, cpS_Hard _ h1, Option.bind_some, if_pos (rm h2), if_pos (rm h3), if_pos (rm h4), cpS_Mach _ h5, Option.bind_some, cpS_Disk _ h6, Option.bind_some, cpS_RpcS _ h7]; rfl
end Go.Proofs.YtlidpmhmchbilaaGreat.E.TT
