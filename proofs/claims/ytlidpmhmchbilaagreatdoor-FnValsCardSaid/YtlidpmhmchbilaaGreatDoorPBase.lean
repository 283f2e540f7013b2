/- Small laws for the pure proofs: words of 64 bits, loops over lists. No condition. -/
import Derived.Test.YtlidpmhmchbilaaGreatDoorEG4
import Derived.Laws.BitsLemmas
namespace Go.Proofs.YtlidpmhmchbilaaGreatDoor.E
set_option linter.unusedVariables false
theorem w64_id {n : Int} (h : -9223372036854775808 ≤ n) (h' : n ≤ 9223372036854775807) : w64 n = n := by
  show IntKind.i64.wrap n = n
  rw [IntKind.wrap_i64]; omega
theorem w8_id {n : Int} (h : 0 ≤ n) (h' : n ≤ 255) : w8 n = n := by
  show IntKind.u8.wrap n = n
  rw [IntKind.wrap_u8]; omega
theorem w64_succ {i : Nat} {n : Nat} (h : i < n) (hn : n ≤ 9223372036854775807) : w64 ((i : Int) + 1) = ((i + 1 : Nat) : Int) := by
  rw [w64_id (by omega) (by omega)]; omega
theorem room_eq : room = 4294967296 := rfl
theorem getD_lt {α : Type} {l : List α} {i : Nat} (h : i < l.length) (z : α) : l.getD i z = l[i] := by
  rw [List.getD_eq_getElem?_getD, List.getElem?_eq_getElem h]; rfl
theorem getD_nat {α : Type} {l : List α} {i : Nat} (h : i < l.length) (z : α) : l.getD (i : Int).toNat z = l[i] := by
  rw [Int.toNat_natCast]; exact getD_lt h z
end Go.Proofs.YtlidpmhmchbilaaGreatDoor.E
