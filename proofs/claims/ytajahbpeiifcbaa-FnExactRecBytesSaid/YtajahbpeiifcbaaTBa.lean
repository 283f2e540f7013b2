/- The table of B: structs, types, entries, keys. No condition. -/
import Derived.Test.YtajahbpeiifcbaaEG4
import Derived.Test.YtajahbpeiifcbaaProg
import Derived.KernelRfl
namespace Go.Proofs.Ytajahbpeiifcbaa.E.TB
open Go.Proofs.Ytajahbpeiifcbaa.E
set_option linter.unusedVariables false
set_option maxRecDepth 100000
structure laws_Disk where
  Bytes : (_root_.List Int)
  Sure : Int
def z_laws_Disk : laws_Disk := ⟨[], 0⟩
structure impl_Disk where
  Bytes : (_root_.List Int)
  Sure : Int
def z_impl_Disk : impl_Disk := ⟨[], 0⟩
structure laws_Cmd where
  Who : Int
  Seq : Int
  Line : (_root_.List Int)
def z_laws_Cmd : laws_Cmd := ⟨0, 0, []⟩
structure laws_Entry where
  Term : Int
  C : laws_Cmd
def z_laws_Entry : laws_Entry := ⟨0, z_laws_Cmd⟩
structure laws_Log where
  Base : Int
  BaseTerm : Int
  List : (_root_.List laws_Entry)
def z_laws_Log : laws_Log := ⟨0, 0, []⟩
structure impl_Cmd where
  Who : Int
  Seq : Int
  Line : (_root_.List Int)
def z_impl_Cmd : impl_Cmd := ⟨0, 0, []⟩
structure impl_Entry where
  Term : Int
  C : impl_Cmd
def z_impl_Entry : impl_Entry := ⟨0, z_impl_Cmd⟩
structure impl_Log where
  Base : Int
  BaseTerm : Int
  List : (_root_.List impl_Entry)
def z_impl_Log : impl_Log := ⟨0, 0, []⟩
structure laws_Rpc where
  Kind : Int
  From : Int
  To : Int
  Term : Int
  Index : Int
  IndexTerm : Int
  Commit : Int
  List : (_root_.List laws_Entry)
  Ok : Bool
  Snap : (_root_.List Int)
def z_laws_Rpc : laws_Rpc := ⟨0, 0, 0, 0, 0, 0, 0, [], false, []⟩
structure impl_Rpc where
  Kind : Int
  From : Int
  To : Int
  Term : Int
  Index : Int
  IndexTerm : Int
  Commit : Int
  List : (_root_.List impl_Entry)
  Ok : Bool
  Snap : (_root_.List Int)
def z_impl_Rpc : impl_Rpc := ⟨0, 0, 0, 0, 0, 0, 0, [], false, []⟩
structure laws_Rec where
  Kind : Int
  Term : Int
  Vote : Int
  Prev : Int
  List : (_root_.List laws_Entry)
  Snap : (_root_.List Int)
def z_laws_Rec : laws_Rec := ⟨0, 0, 0, 0, [], []⟩
structure impl_Rec where
  Kind : Int
  Term : Int
  Vote : Int
  Prev : Int
  List : (_root_.List impl_Entry)
  Snap : (_root_.List Int)
def z_impl_Rec : impl_Rec := ⟨0, 0, 0, 0, [], []⟩
structure spec_l1Cur where
  b : (_root_.List Int)
  i : Int
  h : Int
def z_spec_l1Cur : spec_l1Cur := ⟨[], 0, 0⟩
def gT : Nat → Type
  | 0 => laws_Disk
  | 1 => impl_Disk
  | 2 => laws_Entry
  | 3 => laws_Cmd
  | 4 => laws_Log
  | 5 => impl_Entry
  | 6 => impl_Cmd
  | 7 => impl_Log
  | 8 => laws_Rpc
  | 9 => impl_Rpc
  | 10 => laws_Rec
  | 11 => impl_Rec
  | 12 => spec_l1Cur
  | _ => Unit
def gfs : Nat → List FT
  | 0 => [(.sl (.int .u8)), (.int .i64)]
  | 1 => [(.sl (.int .u8)), (.int .i64)]
  | 2 => [(.int .i64), (.nm 3)]
  | 3 => [(.int .i64), (.int .i64), .str]
  | 4 => [(.int .i64), (.int .i64), (.sl (.nm 2))]
  | 5 => [(.int .i64), (.nm 6)]
  | 6 => [(.int .i64), (.int .i64), .str]
  | 7 => [(.int .i64), (.int .i64), (.sl (.nm 5))]
  | 8 => [(.int .i64), (.int .i64), (.int .i64), (.int .i64), (.int .i64), (.int .i64), (.int .i64), (.sl (.nm 2)), .bool, .str]
  | 9 => [(.int .i64), (.int .i64), (.int .i64), (.int .i64), (.int .i64), (.int .i64), (.int .i64), (.sl (.nm 5)), .bool, .str]
  | 10 => [(.int .i64), (.int .i64), (.int .i64), (.int .i64), (.sl (.nm 2)), .str]
  | 11 => [(.int .i64), (.int .i64), (.int .i64), (.int .i64), (.sl (.nm 5)), .str]
  | 12 => [(.sl (.int .u8)), (.int .i64), (.int .i64)]
  | _ => []
def gun : ∀ n, gT n → Js gT (gfs n)
  | 0, x => (x.Bytes, (x.Sure, ()))
  | 1, x => (x.Bytes, (x.Sure, ()))
  | 2, x => (x.Term, (x.C, ()))
  | 3, x => (x.Who, (x.Seq, (x.Line, ())))
  | 4, x => (x.Base, (x.BaseTerm, (x.List, ())))
  | 5, x => (x.Term, (x.C, ()))
  | 6, x => (x.Who, (x.Seq, (x.Line, ())))
  | 7, x => (x.Base, (x.BaseTerm, (x.List, ())))
  | 8, x => (x.Kind, (x.From, (x.To, (x.Term, (x.Index, (x.IndexTerm, (x.Commit, (x.List, (x.Ok, (x.Snap, ()))))))))))
  | 9, x => (x.Kind, (x.From, (x.To, (x.Term, (x.Index, (x.IndexTerm, (x.Commit, (x.List, (x.Ok, (x.Snap, ()))))))))))
  | 10, x => (x.Kind, (x.Term, (x.Vote, (x.Prev, (x.List, (x.Snap, ()))))))
  | 11, x => (x.Kind, (x.Term, (x.Vote, (x.Prev, (x.List, (x.Snap, ()))))))
  | 12, x => (x.b, (x.i, (x.h, ())))
  | (n + 13), _ => ()
def gpk : ∀ n, Js gT (gfs n) → gT n
  | 0, y => ⟨y.1, y.2.1⟩
  | 1, y => ⟨y.1, y.2.1⟩
  | 2, y => ⟨y.1, y.2.1⟩
  | 3, y => ⟨y.1, y.2.1, y.2.2.1⟩
  | 4, y => ⟨y.1, y.2.1, y.2.2.1⟩
  | 5, y => ⟨y.1, y.2.1⟩
  | 6, y => ⟨y.1, y.2.1, y.2.2.1⟩
  | 7, y => ⟨y.1, y.2.1, y.2.2.1⟩
  | 8, y => ⟨y.1, y.2.1, y.2.2.1, y.2.2.2.1, y.2.2.2.2.1, y.2.2.2.2.2.1, y.2.2.2.2.2.2.1, y.2.2.2.2.2.2.2.1, y.2.2.2.2.2.2.2.2.1, y.2.2.2.2.2.2.2.2.2.1⟩
  | 9, y => ⟨y.1, y.2.1, y.2.2.1, y.2.2.2.1, y.2.2.2.2.1, y.2.2.2.2.2.1, y.2.2.2.2.2.2.1, y.2.2.2.2.2.2.2.1, y.2.2.2.2.2.2.2.2.1, y.2.2.2.2.2.2.2.2.2.1⟩
  | 10, y => ⟨y.1, y.2.1, y.2.2.1, y.2.2.2.1, y.2.2.2.2.1, y.2.2.2.2.2.1⟩
  | 11, y => ⟨y.1, y.2.1, y.2.2.1, y.2.2.2.1, y.2.2.2.2.1, y.2.2.2.2.2.1⟩
  | 12, y => ⟨y.1, y.2.1, y.2.2.1⟩
  | (n + 13), _ => ()
theorem gun_pk : ∀ n y, gun n (gpk n y) = y
  | 0, _ => rfl
  | 1, _ => rfl
  | 2, _ => rfl
  | 3, _ => rfl
  | 4, _ => rfl
  | 5, _ => rfl
  | 6, _ => rfl
  | 7, _ => rfl
  | 8, _ => rfl
  | 9, _ => rfl
  | 10, _ => rfl
  | 11, _ => rfl
  | 12, _ => rfl
  | (n + 13), _ => rfl
theorem gpk_un : ∀ n x, gpk n (gun n x) = x
  | 0, x => by cases x; rfl
  | 1, x => by cases x; rfl
  | 2, x => by cases x; rfl
  | 3, x => by cases x; rfl
  | 4, x => by cases x; rfl
  | 5, x => by cases x; rfl
  | 6, x => by cases x; rfl
  | 7, x => by cases x; rfl
  | 8, x => by cases x; rfl
  | 9, x => by cases x; rfl
  | 10, x => by cases x; rfl
  | 11, x => by cases x; rfl
  | 12, x => by cases x; rfl
  | (n + 13), _ => rfl
def gz : ∀ n, gT n
  | 0 => z_laws_Disk
  | 1 => z_impl_Disk
  | 2 => z_laws_Entry
  | 3 => z_laws_Cmd
  | 4 => z_laws_Log
  | 5 => z_impl_Entry
  | 6 => z_impl_Cmd
  | 7 => z_impl_Log
  | 8 => z_laws_Rpc
  | 9 => z_impl_Rpc
  | 10 => z_laws_Rec
  | 11 => z_impl_Rec
  | 12 => z_spec_l1Cur
  | (n + 13) => ()
theorem gun_z : ∀ n, gun n (gz n) = zeroJs gz (gfs n)
  | 0 => rfl
  | 1 => rfl
  | 2 => rfl
  | 3 => rfl
  | 4 => rfl
  | 5 => rfl
  | 6 => rfl
  | 7 => rfl
  | 8 => rfl
  | 9 => rfl
  | 10 => rfl
  | 11 => rfl
  | 12 => rfl
  | (n + 13) => rfl
def gsz : Nat → Nat
  | 0 => 2
  | 1 => 2
  | 2 => 4
  | 3 => 3
  | 4 => 3
  | 5 => 4
  | 6 => 3
  | 7 => 3
  | 8 => 10
  | 9 => 10
  | 10 => 6
  | 11 => 6
  | 12 => 3
  | _ => 0
theorem gsz_eq : ∀ n, gsz n = FT.szs gsz (gfs n)
  | 0 => rfl
  | 1 => rfl
  | 2 => rfl
  | 3 => rfl
  | 4 => rfl
  | 5 => rfl
  | 6 => rfl
  | 7 => rfl
  | 8 => rfl
  | 9 => rfl
  | 10 => rfl
  | 11 => rfl
  | 12 => rfl
  | (n + 13) => rfl
def gfl : Nat → Bool
  | 0 => false
  | 1 => false
  | 2 => true
  | 3 => true
  | 4 => false
  | 5 => true
  | 6 => true
  | 7 => false
  | 8 => false
  | 9 => false
  | 10 => false
  | 11 => false
  | 12 => false
  | _ => true
theorem gfl_eq : ∀ n, gfl n = true → FT.flats gfl (gfs n) = true
  | 0, h => by cases h
  | 1, h => by cases h
  | 2, h => rfl
  | 3, h => rfl
  | 4, h => by cases h
  | 5, h => rfl
  | 6, h => rfl
  | 7, h => by cases h
  | 8, h => by cases h
  | 9, h => by cases h
  | 10, h => by cases h
  | 11, h => by cases h
  | 12, h => by cases h
  | (n + 13), _ => rfl
def gam : Gam := ⟨gT, gfs, gun, gpk, gun_pk, gpk_un, gz, gun_z, gsz, gsz_eq, gfl, gfl_eq⟩
def tyL : List (Nat × FT) := [(2, (.int .i64)), (3, (.int .i64)), (4, .bool), (5, (.int .u8)), (6, (.int .u8)), (9, .str), (22, (.sl (.int .u8))), (32, (.sl (.nm 2))), (34, (.nm 4)), (37, (.sl (.nm 5))), (39, (.nm 7)), (63, (.nm 8)), (67, (.nm 9)), (72, (.nm 10)), (76, (.nm 11)), (95, (.nm 6)), (97, (.nm 5)), (110, (.sl (.int .i64))), (112, (.int .u64)), (126, (.nm 3)), (128, (.nm 2))]
def keyL : List KeyI := [
  ⟨0, [], [.val 0 (.leaf false (.nm 4))]⟩,
  ⟨1, [], [.val 0 (.leaf false (.nm 8)), .val 1 (.leaf false (.int .i64))]⟩,
  ⟨2, [], [.val 0 (.leaf false (.nm 10))]⟩,
  ⟨3, [], [.val 0 (.leaf false (.nm 4)), .val 1 (.leaf false (.int .i64)), .val 2 (.leaf false (.int .i64)), .val 3 (.leaf false (.sl (.nm 2)))]⟩,
  ⟨4, [], [.val 0 (.leaf false (.nm 10))]⟩,
  ⟨5, [], [.val 0 (.leaf false (.nm 4)), .val 1 (.leaf false (.int .i64))]⟩,
  ⟨6, [], [.val 0 (.leaf false (.nm 4))]⟩,
  ⟨7, [], [.val 0 (.leaf false (.nm 7))]⟩,
  ⟨7, [true, true, true, false, true, false], [.ptr 1 16, .val 3 (.leaf false (.int .i64)), .val 4 (.leaf false (.int .i64)), .slot 16 (.leaf false (.nm 7)) true none]⟩,
  ⟨8, [], [.val 0 (.leaf false (.nm 7))]⟩,
  ⟨8, [true, true, true, false, true, false], [.val 3 (.leaf false (.int .i64)), .val 28 (.leaf false (.sl (.nm 5))), .val 29 (.leaf false (.int .i64)), .val 30 (.leaf false (.int .i64))]⟩,
  ⟨9, [], [.val 0 (.leaf false (.nm 7)), .val 1 (.leaf false (.nm 7))]⟩,
  ⟨10, [], [.val 0 (.leaf false (.nm 8)), .val 1 (.leaf false (.int .i64))]⟩,
  ⟨11, [], [.val 0 (.leaf false (.nm 8))]⟩,
  ⟨12, [], [.val 0 (.leaf false (.nm 9)), .val 1 (.leaf false (.int .i64))]⟩,
  ⟨13, [], [.val 0 (.leaf false (.nm 9)), .val 1 (.leaf false (.int .i64))]⟩,
  ⟨14, [], [.val 0 (.leaf false (.nm 9)), .val 1 (.leaf false (.nm 9))]⟩,
  ⟨15, [], [.val 0 (.leaf false (.nm 10)), .val 1 (.leaf false (.int .i64))]⟩,
  ⟨16, [], [.val 0 (.leaf false (.nm 10))]⟩,
  ⟨17, [], [.val 0 (.leaf false (.nm 11))]⟩,
  ⟨18, [], [.val 0 (.leaf false (.nm 11))]⟩,
  ⟨19, [], [.val 0 (.leaf false (.nm 11)), .val 1 (.leaf false (.nm 11))]⟩,
  ⟨20, [], [.val 0 (.leaf false (.sl (.nm 2))), .val 1 (.leaf false (.int .i64))]⟩,
  ⟨20, [true, true, true, false, true, false], [.val 0 (.leaf false (.sl (.nm 2))), .val 1 (.leaf false (.int .i64)), .val 5 (.leaf false (.int .i64))]⟩,
  ⟨21, [], [.val 0 (.leaf false (.sl (.nm 2)))]⟩,
  ⟨21, [true, true, false, true, false], [.val 0 (.leaf false (.sl (.nm 2))), .own 3 48 (.leaf true (.sl (.nm 5))), .val 4 (.leaf false (.int .i64))]⟩,
  ⟨22, [], [.val 0 (.leaf false (.nm 7)), .val 1 (.leaf false (.int .i64)), .val 2 (.leaf false (.int .i64)), .val 3 (.leaf false (.sl (.nm 5)))]⟩,
  ⟨22, [true, true, true, true, false, true, false], [.ptr 4 64, .ptr 8 128, .ptr 10 160, .val 1 (.leaf false (.int .i64)), .val 3 (.leaf false (.sl (.nm 5))), .val 11 (.leaf false (.int .i64)), .slot 64 (.leaf false (.nm 7)) true none, .slot 128 (.leaf true (.nm 7)) true none, .slot 160 (.leaf true (.nm 7)) true none]⟩,
  ⟨23, [], [.val 0 (.leaf false (.nm 7)), .val 1 (.leaf false (.int .i64)), .val 2 (.leaf false (.int .i64)), .val 3 (.leaf false (.sl (.nm 5)))]⟩,
  ⟨23, [true, true, true, true, false, true, false], [.ptr 4 64, .ptr 8 128, .ptr 10 160, .val 1 (.leaf false (.int .i64)), .val 31 (.leaf false (.sl (.nm 5))), .val 32 (.leaf false (.int .i64)), .val 33 (.leaf false (.int .i64)), .slot 64 (.leaf false (.nm 7)) true none, .slot 128 (.leaf true (.nm 7)) true none, .slot 160 (.leaf true (.nm 7)) true none]⟩,
  ⟨24, [], [.val 0 (.leaf false (.sl (.nm 5))), .val 1 (.leaf false (.sl (.nm 5)))]⟩,
  ⟨24, [true, true, false, true, false], [.val 0 (.leaf false (.sl (.nm 5))), .val 1 (.leaf false (.sl (.nm 5))), .val 5 (.leaf false (.int .i64))]⟩,
  ⟨25, [], [.own 0 0 (.leaf true (.nm 7)), .val 1 (.leaf false (.int .i64))]⟩,
  ⟨26, [], [.own 0 0 (.leaf true (.sl (.nm 5))), .val 1 (.leaf false (.int .i64))]⟩,
  ⟨26, [true, false, true, false], [.own 0 0 (.leaf true (.sl (.nm 5))), .val 1 (.leaf false (.int .i64)), .val 5 (.leaf false (.int .i64))]⟩,
  ⟨27, [], [.val 0 (.leaf false (.nm 7)), .val 1 (.leaf false (.int .i64))]⟩,
  ⟨28, [], [.val 0 (.leaf false (.nm 11))]⟩,
  ⟨29, [], [.val 0 (.leaf false (.nm 11))]⟩,
  ⟨29, [true, true, true, false, true, false], [.ptr 1 16, .own 3 48 (.leaf true (.sl (.int .u8))), .val 28 (.leaf false (.sl (.int .i64))), .val 29 (.leaf false (.int .i64)), .val 30 (.leaf false (.int .i64)), .slot 16 (.leaf false (.nm 11)) true none]⟩,
  ⟨29, [true, true, true, true, false, true, false], [.ptr 1 16, .own 3 48 (.leaf true (.sl (.int .u8))), .val 40 (.leaf false (.sl (.nm 5))), .val 41 (.leaf false (.int .i64)), .val 42 (.leaf false (.int .i64)), .slot 16 (.leaf false (.nm 11)) true none]⟩,
  ⟨29, [true, true, true, true, false, true, false, false, true, true, false, false, true, false, true, false], [.ptr 1 16, .ptr 7 112, .own 3 48 (.leaf true (.sl (.int .u8))), .val 40 (.leaf false (.sl (.nm 5))), .val 41 (.leaf false (.int .i64)), .val 42 (.leaf false (.int .i64)), .val 55 (.leaf false (.sl (.int .i64))), .val 56 (.leaf false (.int .i64)), .val 57 (.leaf false (.int .i64)), .slot 16 (.leaf false (.nm 11)) true none, .slot 112 (.leaf true (.nm 5)) true none]⟩,
  ⟨30, [], [.val 0 (.leaf false (.sl (.int .u8))), .val 1 (.leaf false (.sl (.int .u8)))]⟩,
  ⟨30, [true, true, false, true, false], [.val 0 (.leaf false (.sl (.int .u8))), .val 1 (.leaf false (.sl (.int .u8))), .val 5 (.leaf false (.int .i64))]⟩,
  ⟨31, [], [.own 0 0 (.leaf true (.nm 11)), .val 1 (.leaf false (.int .i64))]⟩,
  ⟨32, [], [.own 0 0 (.leaf true (.sl (.int .u8))), .val 1 (.leaf false (.int .i64))]⟩,
  ⟨32, [true, false, true, false], [.own 0 0 (.leaf true (.sl (.int .u8))), .val 1 (.leaf false (.int .i64)), .val 5 (.leaf false (.int .i64))]⟩,
  ⟨33, [], [.val 0 (.leaf false (.sl (.int .u8))), .val 1 (.leaf false (.int .i64))]⟩,
  ⟨33, [true, false, true, false], [.val 0 (.leaf false (.sl (.int .u8))), .val 1 (.leaf false (.int .i64)), .val 5 (.leaf false (.int .i64))]⟩,
  ⟨34, [], [.val 0 (.leaf false (.int .i64)), .val 1 (.leaf false (.int .i64)), .val 2 (.leaf false (.int .i64))]⟩,
  ⟨35, [], [.val 0 (.leaf false (.nm 6))]⟩,
  ⟨36, [], [.val 0 (.leaf false (.int .i64))]⟩,
  ⟨37, [], [.val 0 (.leaf false (.int .i64)), .val 1 (.leaf false (.int .i64)), .val 2 (.leaf false (.int .i64))]⟩,
  ⟨38, [], [.val 0 (.leaf false (.nm 6))]⟩,
  ⟨39, [], [.val 0 (.leaf false (.sl (.nm 5))), .val 1 (.leaf false (.int .i64))]⟩,
  ⟨39, [true, false, true, false], [.val 0 (.leaf false (.sl (.nm 5))), .val 1 (.leaf false (.int .i64)), .val 5 (.leaf false (.int .i64))]⟩,
  ⟨40, [], [.val 0 (.leaf false (.sl (.nm 5))), .val 1 (.leaf false (.int .i64))]⟩,
  ⟨41, [], [.val 0 (.leaf false (.int .i64))]⟩,
  ⟨42, [], [.val 0 (.leaf false (.nm 2)), .val 1 (.leaf false (.int .i64))]⟩,
  ⟨43, [], [.val 0 (.leaf false (.nm 2))]⟩,
  ⟨44, [], [.val 0 (.leaf false (.nm 7))]⟩,
  ⟨45, [], [.val 0 (.leaf false (.nm 7)), .val 1 (.leaf false (.int .i64))]⟩,
  ⟨46, [], [.val 0 (.leaf false (.nm 7))]⟩,
  ⟨47, [], [.val 0 (.leaf false (.nm 7)), .val 1 (.leaf false (.int .i64))]⟩,
  ⟨48, [], [.val 0 (.leaf false (.nm 5)), .val 1 (.leaf false (.nm 5))]⟩,
  ⟨49, [], [.val 0 (.leaf false (.int .i64))]⟩,
  ⟨49, [true, true, true, false, false], [.val 0 (.leaf false (.int .i64)), .val 3 (.leaf false .str)]⟩,
  ⟨50, [], [.val 0 (.leaf false (.sl (.nm 5))), .val 1 (.leaf false (.int .i64))]⟩,
  ⟨50, [true, false, true, false], [.val 0 (.leaf false (.sl (.nm 5))), .val 1 (.leaf false (.int .i64)), .val 5 (.leaf false (.int .i64))]⟩,
  ⟨51, [], [.val 0 (.leaf false (.nm 11))]⟩,
  ⟨51, [true, true, true, true, true, false, true, false], [.ptr 1 16, .own 3 48 (.leaf true (.sl (.int .u8))), .val 4 (.leaf false (.int .i64)), .slot 16 (.leaf false (.nm 11)) true none]⟩,
  ⟨52, [], [.val 0 (.leaf false (.int .i64))]⟩,
  ⟨52, [true, true, true, false, false], [.val 0 (.leaf false (.int .i64)), .own 3 48 (.leaf true (.sl (.int .u8)))]⟩,
  ⟨53, [], [.val 0 (.leaf false (.sl (.int .u8)))]⟩,
  ⟨54, [], [.val 0 (.leaf false (.int .i64))]⟩,
  ⟨54, [true, true, true, false, false], [.val 0 (.leaf false (.int .i64)), .own 3 48 (.leaf true (.sl (.int .u8)))]⟩,
  ⟨55, [], [.val 0 (.leaf false .str)]⟩,
  ⟨56, [], [.val 0 (.leaf false (.sl (.int .u8)))]⟩,
  ⟨56, [true, true, false, true, false], [.val 3 (.leaf false (.int .i64)), .val 4 (.leaf false (.int .i64)), .val 7 (.leaf false (.sl (.int .u8))), .val 8 (.leaf false (.int .i64)), .val 9 (.leaf false (.int .i64))]⟩,
  ⟨57, [], [.val 0 (.leaf false .str)]⟩,
  ⟨57, [true, false, true, false], [.val 0 (.leaf false .str), .val 3 (.leaf false (.int .i64))]⟩,
  ⟨58, [], [.val 0 (.leaf false .str)]⟩,
  ⟨59, [], [.val 0 (.leaf false (.sl (.nm 5))), .clo 1 131 [16], .slot 16 (.leaf true (.int .i64)) true none]⟩,
  ⟨60, [], [.val 0 (.leaf false (.nm 3)), .val 1 (.leaf false (.int .i64))]⟩,
  ⟨61, [], [.val 0 (.leaf false (.nm 3))]⟩,
  ⟨62, [], [.val 0 (.leaf false (.nm 7)), .val 1 (.leaf false (.int .i64))]⟩,
  ⟨63, [], [.val 0 (.leaf false (.sl (.nm 5)))]⟩,
  ⟨64, [], [.val 0 (.leaf false (.nm 7))]⟩,
  ⟨65, [], [.val 0 (.leaf false (.nm 6)), .val 1 (.leaf false (.nm 6))]⟩,
  ⟨66, [], [.val 0 (.leaf false .str)]⟩,
  ⟨67, [], [.val 0 (.leaf false (.sl (.int .u8)))]⟩,
  ⟨67, [true, true, false, true, false], [.val 0 (.leaf false (.sl (.int .u8))), .val 3 (.leaf false (.int .i64)), .val 4 (.leaf false (.int .i64)), .val 5 (.leaf false (.int .i64))]⟩,
  ⟨68, [], [.val 0 (.leaf false .str), .val 1 (.leaf false .str)]⟩,
  ⟨69, [], [.val 0 (.leaf false (.sl (.nm 5))), .clo 1 131 [16], .slot 16 (.leaf true (.int .i64)) true none]⟩,
  ⟨69, [true, false, true, false], [.clo 1 131 [16], .val 0 (.leaf false (.sl (.nm 5))), .val 7 (.leaf false (.int .i64)), .val 8 (.leaf false (.int .i64)), .slot 16 (.leaf true (.int .i64)) true none]⟩,
  ⟨70, [], [.val 0 (.leaf false .str), .val 1 (.leaf false .str)]⟩,
  ⟨71, [], [.val 0 (.leaf false (.nm 5)), .ptr 1 16, .slot 16 (.leaf true (.int .i64)) true none]⟩,
  ⟨72, [], [.val 0 (.leaf false .str), .val 1 (.leaf false .str)]⟩,
  ⟨73, [], [.val 0 (.leaf false .str), .val 1 (.leaf false (.int .u8))]⟩,
  ⟨74, [], [.val 0 (.leaf false .str), .val 1 (.leaf false (.int .u8))]⟩]
noncomputable def entL : List EntI := [
  ⟨9, bodyOf Try.f9, Try.f9.results.toList, [.val (.leaf false (.nm 4))], [.leaf false .bool], [], [(13, 1), (16, 1), (24, 1)], 27, [], false⟩,
  ⟨10, bodyOf Try.f10, Try.f10.results.toList, [.val (.leaf false (.nm 8)), .val (.leaf false (.int .i64))], [.leaf false .bool], [], [(15, 1), (19, 1), (28, 1)], 31, [], false⟩,
  ⟨11, bodyOf Try.f11, Try.f11.results.toList, [.val (.leaf false (.nm 10))], [.leaf false .bool], [], [(13, 1), (16, 1), (24, 1)], 27, [], false⟩,
  ⟨12, bodyOf Try.f12, Try.f12.results.toList, [.val (.leaf false (.nm 4)), .val (.leaf false (.int .i64)), .val (.leaf false (.int .i64)), .val (.leaf false (.sl (.nm 2)))], [.leaf false .bool], [], [(33, 1), (37, 1), (38, 1), (64, 1), (69, 1), (104, 1), (108, 1), (109, 1)], 129, [], false⟩,
  ⟨14, bodyOf Try.f14, Try.f14.results.toList, [.val (.leaf false (.nm 10))], [.leaf false .bool], [], [(17, 1), (18, 1), (29, 1), (55, 1), (56, 1)], 69, [], false⟩,
  ⟨22, bodyOf Try.f22, Try.f22.results.toList, [.val (.leaf false (.nm 4)), .val (.leaf false (.int .i64))], [.leaf false (.int .i64)], [], [], 12, [], false⟩,
  ⟨24, bodyOf Try.f24, Try.f24.results.toList, [.val (.leaf false (.nm 4))], [.leaf true (.nm 7)], [], [], 15, [], false⟩,
  ⟨57, bodyOf Try.f57, Try.f57.results.toList, [.val (.leaf false (.nm 7))], [.leaf false .bool], [], [], 58, [(122, 8)], false⟩,
  ⟨58, bodyOf Try.f58, Try.f58.results.toList, [.val (.leaf false (.nm 7))], [.leaf false .bool], [], [], 48, [(122, 10)], false⟩,
  ⟨26, bodyOf Try.f26, Try.f26.results.toList, [.val (.leaf false (.nm 7)), .val (.leaf false (.nm 7))], [.leaf false .bool], [], [], 21, [], false⟩,
  ⟨59, bodyOf Try.f59, Try.f59.results.toList, [.val (.leaf false (.nm 8)), .val (.leaf false (.int .i64))], [.leaf false (.int .i64)], [], [], 19, [], false⟩,
  ⟨61, bodyOf Try.f61, Try.f61.results.toList, [.val (.leaf false (.nm 8))], [.leaf false (.nm 9)], [], [(27, 1)], 36, [], false⟩,
  ⟨60, bodyOf Try.f60, Try.f60.results.toList, [.val (.leaf false (.nm 9)), .val (.leaf false (.int .i64))], [.leaf false .bool], [], [], 68, [], false⟩,
  ⟨62, bodyOf Try.f62, Try.f62.results.toList, [.val (.leaf false (.nm 9)), .val (.leaf false (.int .i64))], [.leaf false .bool], [], [], 68, [], false⟩,
  ⟨63, bodyOf Try.f63, Try.f63.results.toList, [.val (.leaf false (.nm 9)), .val (.leaf false (.nm 9))], [.leaf false .bool], [], [], 56, [], false⟩,
  ⟨64, bodyOf Try.f64, Try.f64.results.toList, [.val (.leaf false (.nm 10)), .val (.leaf false (.int .i64))], [.leaf false (.int .i64)], [], [], 19, [], false⟩,
  ⟨66, bodyOf Try.f66, Try.f66.results.toList, [.val (.leaf false (.nm 10))], [.leaf true (.nm 11)], [], [], 24, [], false⟩,
  ⟨65, bodyOf Try.f65, Try.f65.results.toList, [.val (.leaf false (.nm 11))], [.leaf false .bool], [], [], 69, [], false⟩,
  ⟨67, bodyOf Try.f67, Try.f67.results.toList, [.val (.leaf false (.nm 11))], [.leaf false .bool], [], [], 69, [], false⟩,
  ⟨68, bodyOf Try.f68, Try.f68.results.toList, [.val (.leaf false (.nm 11)), .val (.leaf false (.nm 11))], [.leaf false .bool], [], [], 36, [], false⟩,
  ⟨69, bodyOf Try.f69, Try.f69.results.toList, [.val (.leaf false (.sl (.nm 2))), .val (.leaf false (.int .i64))], [.leaf false (.int .i64)], [], [], 27, [(122, 23)], false⟩,
  ⟨71, bodyOf Try.f71, Try.f71.results.toList, [.val (.leaf false (.sl (.nm 2)))], [.leaf true (.sl (.nm 5))], [], [], 23, [(58, 25)], false⟩,
  ⟨70, bodyOf Try.f70, Try.f70.results.toList, [.val (.leaf false (.nm 7)), .val (.leaf false (.int .i64)), .val (.leaf false (.int .i64)), .val (.leaf false (.sl (.nm 5)))], [.leaf false (.nm 7), .leaf false .bool], [], [(16, 1), (71, 1), (78, 1)], 80, [(250, 27)], false⟩,
  ⟨72, bodyOf Try.f72, Try.f72.results.toList, [.val (.leaf false (.nm 7)), .val (.leaf false (.int .i64)), .val (.leaf false (.int .i64)), .val (.leaf false (.sl (.nm 5)))], [.leaf true (.nm 7), .leaf false .bool], [], [(66, 1)], 76, [(250, 29)], false⟩,
  ⟨50, bodyOf Try.f50, Try.f50.results.toList, [.val (.leaf false (.sl (.nm 5))), .val (.leaf false (.sl (.nm 5)))], [.leaf false .bool], [], [], 27, [(58, 31)], false⟩,
  ⟨51, bodyOf Try.f51, Try.f51.results.toList, [.io (.leaf true (.nm 7)), .val (.leaf false (.int .i64))], [.leaf false (.int .i64)], [(32, .orig 0)], [], 10, [], false⟩,
  ⟨52, bodyOf Try.f52, Try.f52.results.toList, [.io (.leaf true (.sl (.nm 5))), .val (.leaf false (.int .i64))], [.leaf false (.int .i64)], [(0, .reg)], [], 45, [(26, 34)], false⟩,
  ⟨56, bodyOf Try.f56, Try.f56.results.toList, [.val (.leaf false (.nm 7)), .val (.leaf false (.int .i64))], [.leaf false (.int .i64)], [], [], 12, [], false⟩,
  ⟨82, bodyOf Try.f82, Try.f82.results.toList, [.val (.leaf false (.nm 11))], [.leaf false (.sl (.int .u8))], [], [(8, 1), (10, 1), (18, 1)], 20, [], false⟩,
  ⟨83, bodyOf Try.f83, Try.f83.results.toList, [.val (.leaf false (.nm 11))], [.leaf true (.sl (.int .u8))], [], [(28, 1), (36, 1), (55, 1), (63, 1), (70, 1), (76, 1), (97, 1)], 99, [(122, 38), (250, 39), (128202, 40)], false⟩,
  ⟨84, bodyOf Try.f84, Try.f84.results.toList, [.val (.leaf false (.sl (.int .u8))), .val (.leaf false (.sl (.int .u8)))], [.leaf false .bool], [], [], 26, [(58, 42)], false⟩,
  ⟨85, bodyOf Try.f85, Try.f85.results.toList, [.own (.leaf true (.nm 11)), .val (.leaf false (.int .i64))], [.leaf false (.int .i64)], [], [], 10, [], false⟩,
  ⟨86, bodyOf Try.f86, Try.f86.results.toList, [.io (.leaf true (.sl (.int .u8))), .val (.leaf false (.int .i64))], [.leaf false (.int .i64)], [(0, .reg)], [], 20, [(26, 45)], false⟩,
  ⟨87, bodyOf Try.f87, Try.f87.results.toList, [.val (.leaf false (.sl (.int .u8))), .val (.leaf false (.int .i64))], [.leaf false (.int .i64)], [], [], 22, [(26, 47)], false⟩,
  ⟨102, bodyOf Try.f102, Try.f102.results.toList, [.val (.leaf false (.int .i64)), .val (.leaf false (.int .i64)), .val (.leaf false (.int .i64))], [.leaf false .bool], [], [], 15, [], false⟩,
  ⟨111, bodyOf Try.f111, Try.f111.results.toList, [.val (.leaf false (.nm 6))], [.leaf false .bool], [], [], 33, [], false⟩,
  ⟨112, bodyOf Try.f112, Try.f112.results.toList, [.val (.leaf false (.int .i64))], [.leaf false .bool], [], [], 5, [], false⟩,
  ⟨100, bodyOf Try.f100, Try.f100.results.toList, [.val (.leaf false (.int .i64)), .val (.leaf false (.int .i64)), .val (.leaf false (.int .i64))], [.leaf false .bool], [], [], 15, [], false⟩,
  ⟨113, bodyOf Try.f113, Try.f113.results.toList, [.val (.leaf false (.nm 6))], [.leaf false .bool], [], [], 27, [], false⟩,
  ⟨114, bodyOf Try.f114, Try.f114.results.toList, [.val (.leaf false (.sl (.nm 5))), .val (.leaf false (.int .i64))], [.leaf false .bool], [], [], 32, [(26, 54)], false⟩,
  ⟨115, bodyOf Try.f115, Try.f115.results.toList, [.val (.leaf false (.sl (.nm 5))), .val (.leaf false (.int .i64))], [.leaf false .bool], [], [], 14, [], false⟩,
  ⟨116, bodyOf Try.f116, Try.f116.results.toList, [.val (.leaf false (.int .i64))], [.leaf false .bool], [], [], 5, [], false⟩,
  ⟨117, bodyOf Try.f117, Try.f117.results.toList, [.val (.leaf false (.nm 2)), .val (.leaf false (.int .i64))], [.leaf false (.int .i64)], [], [], 12, [], false⟩,
  ⟨118, bodyOf Try.f118, Try.f118.results.toList, [.val (.leaf false (.nm 2))], [.leaf false (.nm 5)], [], [], 12, [], false⟩,
  ⟨109, bodyOf Try.f109, Try.f109.results.toList, [.val (.leaf false (.nm 7))], [.leaf true (.nm 7)], [], [], 12, [], false⟩,
  ⟨27, bodyOf Try.f27, Try.f27.results.toList, [.val (.leaf false (.nm 7)), .val (.leaf false (.int .i64))], [.leaf false (.int .i64)], [], [], 23, [], false⟩,
  ⟨110, bodyOf Try.f110, Try.f110.results.toList, [.val (.leaf false (.nm 7))], [.leaf true (.nm 7)], [], [], 8, [], false⟩,
  ⟨28, bodyOf Try.f28, Try.f28.results.toList, [.val (.leaf false (.nm 7)), .val (.leaf false (.int .i64))], [.leaf false (.int .i64)], [], [(7, 1)], 43, [], false⟩,
  ⟨107, bodyOf Try.f107, Try.f107.results.toList, [.val (.leaf false (.nm 5)), .val (.leaf false (.nm 5))], [.leaf false .bool], [], [], 16, [], false⟩,
  ⟨108, bodyOf Try.f108, Try.f108.results.toList, [.val (.leaf false (.int .i64))], [.leaf false .str], [], [(12, 1)], 20, [(60, 65)], false⟩,
  ⟨53, bodyOf Try.f53, Try.f53.results.toList, [.val (.leaf false (.sl (.nm 5))), .val (.leaf false (.int .i64))], [.leaf false (.int .i64)], [], [], 53, [(26, 67)], false⟩,
  ⟨122, bodyOf Try.f122, Try.f122.results.toList, [.val (.leaf false (.nm 11))], [.leaf false (.sl (.int .u8))], [], [(11, 1), (17, 1), (22, 1), (28, 1), (45, 1), (52, 1), (58, 1), (64, 1), (69, 1)], 71, [(506, 69)], false⟩,
  ⟨36, bodyOf Try.f36, Try.f36.results.toList, [.val (.leaf false (.int .i64))], [.leaf true (.sl (.int .u8))], [], [(16, 1), (23, 1)], 25, [(60, 71)], false⟩,
  ⟨123, bodyOf Try.f123, Try.f123.results.toList, [.val (.leaf false (.sl (.int .u8)))], [.leaf false (.sl (.int .u8))], [], [(17, 1)], 18, [], false⟩,
  ⟨32, bodyOf Try.f32, Try.f32.results.toList, [.val (.leaf false (.int .i64))], [.leaf true (.sl (.int .u8))], [], [(15, 1), (22, 1)], 24, [(60, 74)], false⟩,
  ⟨35, bodyOf Try.f35, Try.f35.results.toList, [.val (.leaf false .str)], [.leaf false (.sl (.int .u8))], [], [], 8, [], false⟩,
  ⟨124, bodyOf Try.f124, Try.f124.results.toList, [.val (.leaf false (.sl (.int .u8)))], [.leaf false (.int .i64)], [], [], 27, [(58, 77)], false⟩,
  ⟨128, bodyOf Try.f128, Try.f128.results.toList, [.val (.leaf false .str)], [.leaf false .bool], [], [], 14, [(26, 79)], false⟩,
  ⟨129, bodyOf Try.f129, Try.f129.results.toList, [.val (.leaf false .str)], [.leaf false .bool], [], [], 11, [], false⟩,
  ⟨130, bodyOf Try.f130, Try.f130.results.toList, [.val (.leaf false (.sl (.nm 5))), .clo 131 [.leaf true (.int .i64)]], [.leaf false .bool], [(16, .box)], [], 9, [], false⟩,
  ⟨132, bodyOf Try.f132, Try.f132.results.toList, [.val (.leaf false (.nm 3)), .val (.leaf false (.int .i64))], [.leaf false (.int .i64)], [], [], 13, [], false⟩,
  ⟨133, bodyOf Try.f133, Try.f133.results.toList, [.val (.leaf false (.nm 3))], [.leaf false (.nm 6)], [], [], 14, [], false⟩,
  ⟨96, bodyOf Try.f96, Try.f96.results.toList, [.val (.leaf false (.nm 7)), .val (.leaf false (.int .i64))], [.leaf false (.int .i64)], [], [], 30, [], false⟩,
  ⟨106, bodyOf Try.f106, Try.f106.results.toList, [.val (.leaf false (.sl (.nm 5)))], [.leaf true (.sl (.nm 5))], [], [], 8, [], false⟩,
  ⟨97, bodyOf Try.f97, Try.f97.results.toList, [.val (.leaf false (.nm 7))], [.leaf false (.sl (.nm 5))], [], [], 17, [], false⟩,
  ⟨127, bodyOf Try.f127, Try.f127.results.toList, [.val (.leaf false (.nm 6)), .val (.leaf false (.nm 6))], [.leaf false .bool], [], [], 20, [], false⟩,
  ⟨38, bodyOf Try.f38, Try.f38.results.toList, [.val (.leaf false .str)], [.leaf false (.sl (.int .u8))], [], [], 9, [], false⟩,
  ⟨137, bodyOf Try.f137, Try.f137.results.toList, [.val (.leaf false (.sl (.int .u8)))], [.leaf false (.int .i64)], [], [], 28, [(58, 90)], false⟩,
  ⟨138, bodyOf Try.f138, Try.f138.results.toList, [.val (.leaf false .str), .val (.leaf false .str)], [.leaf false .bool], [], [], 9, [], false⟩,
  ⟨139, bodyOf Try.f139, Try.f139.results.toList, [.val (.leaf false (.sl (.nm 5))), .clo 131 [.leaf true (.int .i64)]], [.leaf false (.int .i64)], [(16, .box)], [], 19, [(26, 93)], false⟩,
  ⟨141, bodyOf Try.f141, Try.f141.results.toList, [.val (.leaf false .str), .val (.leaf false .str)], [.leaf false (.int .i64)], [], [], 8, [], false⟩,
  ⟨131, bodyOf Try.f131, Try.f131.results.toList, [.val (.leaf false (.nm 5)), .ptr (.leaf true (.int .i64))], [.leaf false .bool], [(16, .box)], [], 15, [], false⟩,
  ⟨142, bodyOf Try.f142, Try.f142.results.toList, [.val (.leaf false .str), .val (.leaf false .str)], [.leaf false (.int .i64)], [], [], 143, [], false⟩,
  ⟨143, bodyOf Try.f143, Try.f143.results.toList, [.val (.leaf false .str), .val (.leaf false (.int .u8))], [.leaf false (.int .i64)], [], [], 8, [], false⟩,
  ⟨147, bodyOf Try.f147, Try.f147.results.toList, [.val (.leaf false .str), .val (.leaf false (.int .u8))], [.leaf false (.int .i64)], [], [], 2, [], true⟩]
def callL : CallL := [((9, []), 0), ((10, []), 1), ((11, []), 2), ((12, []), 3), ((14, []), 4), ((22, []), 5), ((24, []), 6), ((57, []), 7), ((58, []), 9), ((26, []), 11), ((59, []), 12), ((61, []), 13), ((60, []), 14), ((62, []), 15), ((63, []), 16), ((64, []), 17), ((66, []), 18), ((65, []), 19), ((67, []), 20), ((68, []), 21), ((69, []), 22), ((71, []), 24), ((70, []), 26), ((72, []), 28), ((50, []), 30), ((51, []), 32), ((52, []), 33), ((56, []), 35), ((82, []), 36), ((83, []), 37), ((84, []), 41), ((85, []), 43), ((86, []), 44), ((87, []), 46), ((102, []), 48), ((111, []), 49), ((112, []), 50), ((100, []), 51), ((113, []), 52), ((114, []), 53), ((115, []), 55), ((116, []), 56), ((117, []), 57), ((118, []), 58), ((109, []), 59), ((27, []), 60), ((110, []), 61), ((28, []), 62), ((107, []), 63), ((108, []), 64), ((53, []), 66), ((122, []), 68), ((36, []), 70), ((123, []), 72), ((32, []), 73), ((35, []), 75), ((124, []), 76), ((128, []), 78), ((129, []), 80), ((130, [131]), 81), ((132, []), 82), ((133, []), 83), ((96, []), 84), ((106, []), 85), ((97, []), 86), ((127, []), 87), ((38, []), 88), ((137, []), 89), ((138, []), 91), ((139, [131]), 92), ((141, []), 94), ((131, []), 95), ((142, []), 96), ((143, []), 97), ((147, []), 98)]
noncomputable def tab : Tab where
  G := gam
  ty := lookT tyL
  key k := keyL.getD k ⟨0, [], []⟩
  ent k := entL.getD k ⟨0, .skip, [], [], [], [], [], 0, [], true⟩
  call := lookC callL
  ext k := match k with
    | 98 => fun x => some (idxI x.1 x.2.1, ())
    | _ => fun _ => none
end Go.Proofs.Ytajahbpeiifcbaa.E.TB
