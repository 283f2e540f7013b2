/- The table of L: structs, types, entries, keys. No condition. -/
import Derived.Test.YtajahbpeiifcbaaEG4
import Derived.Test.YtajahbpeiifcbaaProg
import Derived.KernelRfl
namespace Go.Proofs.Ytajahbpeiifcbaa.E.TL
open Go.Proofs.Ytajahbpeiifcbaa.E
set_option linter.unusedVariables false
set_option maxRecDepth 100000
structure laws_Disk where
  Bytes : (_root_.List Int)
  Sure : Int
def z_laws_Disk : laws_Disk := ⟨[], 0⟩
structure impl_Disk where
  Bytes : (_root_.List Int)
  Sure : Int
def z_impl_Disk : impl_Disk := ⟨[], 0⟩
structure laws_Cmd where
  Who : Int
  Seq : Int
  Line : (_root_.List Int)
def z_laws_Cmd : laws_Cmd := ⟨0, 0, []⟩
structure laws_Entry where
  Term : Int
  C : laws_Cmd
def z_laws_Entry : laws_Entry := ⟨0, z_laws_Cmd⟩
structure laws_Log where
  Base : Int
  BaseTerm : Int
  List : (_root_.List laws_Entry)
def z_laws_Log : laws_Log := ⟨0, 0, []⟩
structure impl_Cmd where
  Who : Int
  Seq : Int
  Line : (_root_.List Int)
def z_impl_Cmd : impl_Cmd := ⟨0, 0, []⟩
structure impl_Entry where
  Term : Int
  C : impl_Cmd
def z_impl_Entry : impl_Entry := ⟨0, z_impl_Cmd⟩
structure impl_Log where
  Base : Int
  BaseTerm : Int
  List : (_root_.List impl_Entry)
def z_impl_Log : impl_Log := ⟨0, 0, []⟩
structure laws_Rpc where
  Kind : Int
  From : Int
  To : Int
  Term : Int
  Index : Int
  IndexTerm : Int
  Commit : Int
  List : (_root_.List laws_Entry)
  Ok : Bool
  Snap : (_root_.List Int)
def z_laws_Rpc : laws_Rpc := ⟨0, 0, 0, 0, 0, 0, 0, [], false, []⟩
structure impl_Rpc where
  Kind : Int
  From : Int
  To : Int
  Term : Int
  Index : Int
  IndexTerm : Int
  Commit : Int
  List : (_root_.List impl_Entry)
  Ok : Bool
  Snap : (_root_.List Int)
def z_impl_Rpc : impl_Rpc := ⟨0, 0, 0, 0, 0, 0, 0, [], false, []⟩
structure laws_Rec where
  Kind : Int
  Term : Int
  Vote : Int
  Prev : Int
  List : (_root_.List laws_Entry)
  Snap : (_root_.List Int)
def z_laws_Rec : laws_Rec := ⟨0, 0, 0, 0, [], []⟩
structure impl_Rec where
  Kind : Int
  Term : Int
  Vote : Int
  Prev : Int
  List : (_root_.List impl_Entry)
  Snap : (_root_.List Int)
def z_impl_Rec : impl_Rec := ⟨0, 0, 0, 0, [], []⟩
structure spec_l1Cur where
  b : (_root_.List Int)
  i : Int
  h : Int
def z_spec_l1Cur : spec_l1Cur := ⟨[], 0, 0⟩
def gT : Nat → Type
  | 0 => laws_Disk
  | 1 => impl_Disk
  | 2 => laws_Log
  | 3 => laws_Entry
  | 4 => laws_Cmd
  | 5 => impl_Log
  | 6 => impl_Entry
  | 7 => impl_Cmd
  | 8 => laws_Rpc
  | 9 => impl_Rpc
  | 10 => laws_Rec
  | 11 => impl_Rec
  | 12 => spec_l1Cur
  | _ => Unit
def gfs : Nat → List FT
  | 0 => [(.sl (.int .u8)), (.int .i64)]
  | 1 => [(.sl (.int .u8)), (.int .i64)]
  | 2 => [(.int .i64), (.int .i64), (.sl (.nm 3))]
  | 3 => [(.int .i64), (.nm 4)]
  | 4 => [(.int .i64), (.int .i64), .str]
  | 5 => [(.int .i64), (.int .i64), (.sl (.nm 6))]
  | 6 => [(.int .i64), (.nm 7)]
  | 7 => [(.int .i64), (.int .i64), .str]
  | 8 => [(.int .i64), (.int .i64), (.int .i64), (.int .i64), (.int .i64), (.int .i64), (.int .i64), (.sl (.nm 3)), .bool, .str]
  | 9 => [(.int .i64), (.int .i64), (.int .i64), (.int .i64), (.int .i64), (.int .i64), (.int .i64), (.sl (.nm 6)), .bool, .str]
  | 10 => [(.int .i64), (.int .i64), (.int .i64), (.int .i64), (.sl (.nm 3)), .str]
  | 11 => [(.int .i64), (.int .i64), (.int .i64), (.int .i64), (.sl (.nm 6)), .str]
  | 12 => [(.sl (.int .u8)), (.int .i64), (.int .i64)]
  | _ => []
def gun : ∀ n, gT n → Js gT (gfs n)
  | 0, x => (x.Bytes, (x.Sure, ()))
  | 1, x => (x.Bytes, (x.Sure, ()))
  | 2, x => (x.Base, (x.BaseTerm, (x.List, ())))
  | 3, x => (x.Term, (x.C, ()))
  | 4, x => (x.Who, (x.Seq, (x.Line, ())))
  | 5, x => (x.Base, (x.BaseTerm, (x.List, ())))
  | 6, x => (x.Term, (x.C, ()))
  | 7, x => (x.Who, (x.Seq, (x.Line, ())))
  | 8, x => (x.Kind, (x.From, (x.To, (x.Term, (x.Index, (x.IndexTerm, (x.Commit, (x.List, (x.Ok, (x.Snap, ()))))))))))
  | 9, x => (x.Kind, (x.From, (x.To, (x.Term, (x.Index, (x.IndexTerm, (x.Commit, (x.List, (x.Ok, (x.Snap, ()))))))))))
  | 10, x => (x.Kind, (x.Term, (x.Vote, (x.Prev, (x.List, (x.Snap, ()))))))
  | 11, x => (x.Kind, (x.Term, (x.Vote, (x.Prev, (x.List, (x.Snap, ()))))))
  | 12, x => (x.b, (x.i, (x.h, ())))
  | (n + 13), _ => ()
def gpk : ∀ n, Js gT (gfs n) → gT n
  | 0, y => ⟨y.1, y.2.1⟩
  | 1, y => ⟨y.1, y.2.1⟩
  | 2, y => ⟨y.1, y.2.1, y.2.2.1⟩
  | 3, y => ⟨y.1, y.2.1⟩
  | 4, y => ⟨y.1, y.2.1, y.2.2.1⟩
  | 5, y => ⟨y.1, y.2.1, y.2.2.1⟩
  | 6, y => ⟨y.1, y.2.1⟩
  | 7, y => ⟨y.1, y.2.1, y.2.2.1⟩
  | 8, y => ⟨y.1, y.2.1, y.2.2.1, y.2.2.2.1, y.2.2.2.2.1, y.2.2.2.2.2.1, y.2.2.2.2.2.2.1, y.2.2.2.2.2.2.2.1, y.2.2.2.2.2.2.2.2.1, y.2.2.2.2.2.2.2.2.2.1⟩
  | 9, y => ⟨y.1, y.2.1, y.2.2.1, y.2.2.2.1, y.2.2.2.2.1, y.2.2.2.2.2.1, y.2.2.2.2.2.2.1, y.2.2.2.2.2.2.2.1, y.2.2.2.2.2.2.2.2.1, y.2.2.2.2.2.2.2.2.2.1⟩
  | 10, y => ⟨y.1, y.2.1, y.2.2.1, y.2.2.2.1, y.2.2.2.2.1, y.2.2.2.2.2.1⟩
  | 11, y => ⟨y.1, y.2.1, y.2.2.1, y.2.2.2.1, y.2.2.2.2.1, y.2.2.2.2.2.1⟩
  | 12, y => ⟨y.1, y.2.1, y.2.2.1⟩
  | (n + 13), _ => ()
theorem gun_pk : ∀ n y, gun n (gpk n y) = y
  | 0, _ => rfl
  | 1, _ => rfl
  | 2, _ => rfl
  | 3, _ => rfl
  | 4, _ => rfl
  | 5, _ => rfl
  | 6, _ => rfl
  | 7, _ => rfl
  | 8, _ => rfl
  | 9, _ => rfl
  | 10, _ => rfl
  | 11, _ => rfl
  | 12, _ => rfl
  | (n + 13), _ => rfl
theorem gpk_un : ∀ n x, gpk n (gun n x) = x
  | 0, x => by cases x; rfl
  | 1, x => by cases x; rfl
  | 2, x => by cases x; rfl
  | 3, x => by cases x; rfl
  | 4, x => by cases x; rfl
  | 5, x => by cases x; rfl
  | 6, x => by cases x; rfl
  | 7, x => by cases x; rfl
  | 8, x => by cases x; rfl
  | 9, x => by cases x; rfl
  | 10, x => by cases x; rfl
  | 11, x => by cases x; rfl
  | 12, x => by cases x; rfl
  | (n + 13), _ => rfl
def gz : ∀ n, gT n
  | 0 => z_laws_Disk
  | 1 => z_impl_Disk
  | 2 => z_laws_Log
  | 3 => z_laws_Entry
  | 4 => z_laws_Cmd
  | 5 => z_impl_Log
  | 6 => z_impl_Entry
  | 7 => z_impl_Cmd
  | 8 => z_laws_Rpc
  | 9 => z_impl_Rpc
  | 10 => z_laws_Rec
  | 11 => z_impl_Rec
  | 12 => z_spec_l1Cur
  | (n + 13) => ()
theorem gun_z : ∀ n, gun n (gz n) = zeroJs gz (gfs n)
  | 0 => rfl
  | 1 => rfl
  | 2 => rfl
  | 3 => rfl
  | 4 => rfl
  | 5 => rfl
  | 6 => rfl
  | 7 => rfl
  | 8 => rfl
  | 9 => rfl
  | 10 => rfl
  | 11 => rfl
  | 12 => rfl
  | (n + 13) => rfl
def gsz : Nat → Nat
  | 0 => 2
  | 1 => 2
  | 2 => 3
  | 3 => 4
  | 4 => 3
  | 5 => 3
  | 6 => 4
  | 7 => 3
  | 8 => 10
  | 9 => 10
  | 10 => 6
  | 11 => 6
  | 12 => 3
  | _ => 0
theorem gsz_eq : ∀ n, gsz n = FT.szs gsz (gfs n)
  | 0 => rfl
  | 1 => rfl
  | 2 => rfl
  | 3 => rfl
  | 4 => rfl
  | 5 => rfl
  | 6 => rfl
  | 7 => rfl
  | 8 => rfl
  | 9 => rfl
  | 10 => rfl
  | 11 => rfl
  | 12 => rfl
  | (n + 13) => rfl
def gfl : Nat → Bool
  | 0 => false
  | 1 => false
  | 2 => false
  | 3 => true
  | 4 => true
  | 5 => false
  | 6 => true
  | 7 => true
  | 8 => false
  | 9 => false
  | 10 => false
  | 11 => false
  | 12 => false
  | _ => true
theorem gfl_eq : ∀ n, gfl n = true → FT.flats gfl (gfs n) = true
  | 0, h => by cases h
  | 1, h => by cases h
  | 2, h => by cases h
  | 3, h => rfl
  | 4, h => rfl
  | 5, h => by cases h
  | 6, h => rfl
  | 7, h => rfl
  | 8, h => by cases h
  | 9, h => by cases h
  | 10, h => by cases h
  | 11, h => by cases h
  | 12, h => by cases h
  | (n + 13), _ => rfl
def gam : Gam := ⟨gT, gfs, gun, gpk, gun_pk, gpk_un, gz, gun_z, gsz, gsz_eq, gfl, gfl_eq⟩
def tyL : List (Nat × FT) := [(2, (.int .i64)), (3, (.int .i64)), (4, .bool), (5, (.int .u8)), (9, .str), (10, .str), (22, (.sl (.int .u8))), (37, (.sl (.nm 6))), (39, (.nm 5)), (95, (.nm 7)), (97, (.nm 6)), (110, (.sl (.int .i64))), (112, (.int .u64)), (114, (.sl .str)), (133, (.nm 12))]
def keyL : List KeyI := [
  ⟨0, [], [.val 0 (.leaf false (.sl (.int .u8)))]⟩,
  ⟨0, [true, true, true, true, true, true, true, true, true, true, true, true, true, true, true, true], [.ptr 3 48, .ptr 7 112, .val 4 (.leaf false (.int .i64)), .val 5 (.leaf false (.int .i64)), .val 6 (.leaf false (.sl (.nm 6))), .val 8 (.leaf false .bool), .slot 48 (.leaf false (.nm 5)) true none, .slot 112 (.leaf false (.nm 5)) true none]⟩,
  ⟨0, [true, true, true, true, true, true, true, true, true, true, true, true, true, true, true, true, true, false, true, false], [.ptr 3 48, .ptr 7 112, .val 4 (.leaf false (.int .i64)), .val 5 (.leaf false (.int .i64)), .val 6 (.leaf false (.sl (.nm 6))), .val 30 (.leaf false (.int .i64)), .slot 48 (.leaf false (.nm 5)) true none, .slot 112 (.leaf false (.nm 5)) true none]⟩,
  ⟨0, [true, true, true, true, true, true, true, true, true, true, true, true, true, true, true, true, true, true, false, true, false], [.ptr 3 48, .ptr 7 112, .val 4 (.leaf false (.int .i64)), .val 5 (.leaf false (.int .i64)), .val 6 (.leaf false (.sl (.nm 6))), .val 31 (.leaf false (.int .i64)), .slot 48 (.leaf false (.nm 5)) true none, .slot 112 (.leaf false (.nm 5)) true none]⟩,
  ⟨1, [], [.val 0 (.leaf false (.sl (.int .u8)))]⟩,
  ⟨2, [], [.val 0 (.leaf false (.sl (.int .u8)))]⟩,
  ⟨2, [true, true, true, true, true], [.ptr 2 32, .ptr 6 176, .ptr 7 112, .val 8 (.leaf false (.int .i64)), .slot 32 (.leaf true (.nm 5)) true none, .slot 112 (.leaf false (.nm 5)) true none, .slot 176 (.leaf false (.nm 12)) true none]⟩,
  ⟨3, [], [.val 0 (.leaf false (.nm 5)), .val 1 (.leaf false (.int .i64)), .val 2 (.leaf false (.int .i64)), .val 3 (.leaf false (.sl (.nm 6)))]⟩,
  ⟨3, [true, true, true, true, false, true, false], [.ptr 4 64, .ptr 8 128, .ptr 10 160, .val 1 (.leaf false (.int .i64)), .val 31 (.leaf false (.sl (.nm 6))), .val 32 (.leaf false (.int .i64)), .val 33 (.leaf false (.int .i64)), .slot 64 (.leaf false (.nm 5)) true none, .slot 128 (.leaf true (.nm 5)) true none, .slot 160 (.leaf true (.nm 5)) true none]⟩,
  ⟨4, [], [.val 0 (.leaf false (.nm 5)), .val 1 (.leaf false (.int .i64)), .val 2 (.leaf false (.int .i64)), .val 3 (.leaf false (.sl (.nm 6)))]⟩,
  ⟨4, [true, true, true, true, false, true, false], [.ptr 4 64, .ptr 8 128, .ptr 10 160, .val 1 (.leaf false (.int .i64)), .val 3 (.leaf false (.sl (.nm 6))), .val 11 (.leaf false (.int .i64)), .slot 64 (.leaf false (.nm 5)) true none, .slot 128 (.leaf true (.nm 5)) true none, .slot 160 (.leaf true (.nm 5)) true none]⟩,
  ⟨5, [], [.val 0 (.leaf false (.nm 5)), .val 1 (.leaf false (.nm 5))]⟩,
  ⟨5, [true, true, false, true, false], [.ptr 2 32, .ptr 3 48, .val 5 (.leaf false (.int .i64)), .slot 32 (.leaf false (.nm 5)) true none, .slot 48 (.leaf false (.nm 5)) true none]⟩,
  ⟨6, [], [.val 0 (.leaf false (.nm 5))]⟩,
  ⟨6, [true, true, true, false, true, false], [.val 3 (.leaf false (.int .i64)), .val 28 (.leaf false (.sl (.nm 6))), .val 29 (.leaf false (.int .i64)), .val 30 (.leaf false (.int .i64))]⟩,
  ⟨7, [], [.val 0 (.leaf false (.nm 5))]⟩,
  ⟨7, [true, true, true, false, true, false], [.ptr 1 16, .val 3 (.leaf false (.int .i64)), .val 4 (.leaf false (.int .i64)), .slot 16 (.leaf false (.nm 5)) true none]⟩,
  ⟨8, [], [.val 0 (.leaf false (.sl (.int .u8)))]⟩,
  ⟨9, [], [.val 0 (.leaf false (.nm 5)), .val 1 (.leaf false (.int .i64))]⟩,
  ⟨10, [], [.val 0 (.leaf false (.sl (.int .u8)))]⟩,
  ⟨11, [], [.val 0 (.leaf false (.sl (.int .u8)))]⟩,
  ⟨12, [], [.val 0 (.leaf false (.sl (.int .u8)))]⟩,
  ⟨13, [], [.val 0 (.leaf false (.sl (.int .u8)))]⟩,
  ⟨14, [], [.val 0 (.leaf false (.nm 5))]⟩,
  ⟨15, [], [.val 0 (.leaf false (.nm 5))]⟩,
  ⟨16, [], [.val 0 (.leaf false (.nm 5)), .val 1 (.leaf false (.int .i64))]⟩,
  ⟨17, [], [.val 0 (.leaf false (.nm 5)), .val 1 (.leaf false (.int .i64))]⟩,
  ⟨18, [], [.val 0 (.leaf false (.nm 5)), .val 1 (.leaf false (.int .i64))]⟩,
  ⟨19, [], [.val 0 (.leaf false (.nm 5)), .val 1 (.leaf false (.int .i64))]⟩,
  ⟨20, [], [.val 0 (.leaf false (.nm 5)), .val 1 (.leaf false (.int .i64))]⟩,
  ⟨21, [], [.val 0 (.leaf false (.nm 5)), .val 1 (.leaf false (.int .i64)), .val 2 (.leaf false (.int .i64))]⟩,
  ⟨22, [], [.val 0 (.leaf false (.nm 5)), .val 1 (.leaf false (.int .i64)), .val 2 (.leaf false (.int .i64))]⟩,
  ⟨23, [], [.val 0 (.leaf false (.sl (.int .u8)))]⟩,
  ⟨23, [true, true, false, true, false], [.val 0 (.leaf false (.sl (.int .u8))), .val 3 (.leaf false (.int .i64)), .val 4 (.leaf false (.int .i64))]⟩,
  ⟨24, [], [.ptr 0 0, .slot 0 (.leaf false (.nm 12)) true none]⟩,
  ⟨25, [], [.ptr 0 0, .slot 0 (.leaf false (.nm 12)) true none, .val 1 (.leaf false (.int .i64))]⟩,
  ⟨26, [], [.ptr 0 0, .slot 0 (.leaf false (.nm 12)) true none, .val 1 (.leaf false (.int .i64))]⟩,
  ⟨27, [], [.val 0 (.leaf false (.int .i64)), .val 1 (.leaf false (.int .i64))]⟩,
  ⟨28, [], [.ptr 0 0, .slot 0 (.leaf false (.nm 12)) true none, .val 1 (.leaf false (.int .i64)), .val 2 (.leaf false (.int .i64))]⟩,
  ⟨28, [true, true, true, false, true, false], [.ptr 0 0, .val 1 (.leaf false (.int .i64)), .own 7 112 (.leaf true (.sl (.nm 6))), .val 8 (.leaf false (.int .i64)), .val 9 (.leaf false (.int .i64)), .slot 0 (.leaf false (.nm 12)) true none]⟩,
  ⟨29, [], [.val 0 (.leaf false (.nm 5))]⟩,
  ⟨30, [], [.val 0 (.leaf false (.nm 5))]⟩,
  ⟨31, [], [.val 0 (.leaf false (.int .i64))]⟩,
  ⟨32, [], [.val 0 (.leaf false (.int .i64)), .val 1 (.leaf false (.int .i64)), .val 2 (.leaf false (.int .i64))]⟩,
  ⟨33, [], [.val 0 (.leaf false (.nm 7))]⟩,
  ⟨34, [], [.val 0 (.leaf false (.int .i64)), .val 1 (.leaf false (.int .i64)), .val 2 (.leaf false (.int .i64))]⟩,
  ⟨35, [], [.val 0 (.leaf false (.nm 7))]⟩,
  ⟨36, [], [.val 0 (.leaf false (.sl (.int .u8)))]⟩,
  ⟨37, [], [.val 0 (.leaf false (.nm 5))]⟩,
  ⟨38, [], [.val 0 (.leaf false (.sl (.nm 6)))]⟩,
  ⟨39, [], [.val 0 (.leaf false (.nm 5)), .val 1 (.leaf false (.int .i64))]⟩,
  ⟨40, [], [.ptr 0 0, .slot 0 (.leaf false (.nm 12)) true none]⟩,
  ⟨41, [], [.ptr 0 0, .slot 0 (.leaf false (.nm 12)) true none, .val 1 (.leaf false (.sl (.int .i64)))]⟩,
  ⟨42, [], [.ptr 0 0, .slot 0 (.leaf false (.nm 12)) true none]⟩,
  ⟨43, [], [.ptr 0 0, .slot 0 (.leaf false (.nm 12)) true none, .val 1 (.leaf false (.nm 7))]⟩,
  ⟨44, [], [.ptr 0 0, .slot 0 (.leaf false (.nm 12)) true none]⟩,
  ⟨45, [], [.val 0 (.leaf false .str)]⟩,
  ⟨46, [], [.val 0 (.leaf false .str)]⟩,
  ⟨46, [true, false, true, false], [.val 0 (.leaf false .str), .val 3 (.leaf false (.int .i64))]⟩,
  ⟨47, [], [.ptr 0 0, .slot 0 (.leaf false (.nm 12)) true none]⟩,
  ⟨47, [true, true, false, true, false], [.ptr 0 0, .val 3 (.leaf false .str), .val 4 (.leaf false (.int .i64)), .slot 0 (.leaf false (.nm 12)) true none]⟩,
  ⟨48, [], [.ptr 0 0, .slot 0 (.leaf false (.nm 12)) true none, .val 1 (.leaf false (.sl .str))]⟩,
  ⟨49, [], [.val 0 (.leaf false .str), .val 1 (.leaf false .str)]⟩,
  ⟨50, [], [.val 0 (.leaf false .str), .val 1 (.leaf false .str)]⟩,
  ⟨51, [], [.val 0 (.leaf false .str), .val 1 (.leaf false .str)]⟩,
  ⟨52, [], [.val 0 (.leaf false .str), .val 1 (.leaf false (.int .u8))]⟩,
  ⟨53, [], [.val 0 (.leaf false .str), .val 1 (.leaf false (.int .u8))]⟩]
noncomputable def entL : List EntI := [
  ⟨13, bodyOf Try.f13, Try.f13.results.toList, [.val (.leaf false (.sl (.int .u8)))], [.leaf false .bool], [], [(38, 1), (48, 1), (56, 1), (77, 1), (82, 1), (85, 1), (90, 1), (95, 1), (100, 1), (114, 1), (129, 1), (133, 1), (243, 1)], 256, [(131071, 1), (2097146, 2), (4194298, 3)], false⟩,
  ⟨29, bodyOf Try.f29, Try.f29.results.toList, [.val (.leaf false (.sl (.int .u8)))], [.leaf false .bool], [], [], 6, [], false⟩,
  ⟨73, bodyOf Try.f73, Try.f73.results.toList, [.val (.leaf false (.sl (.int .u8)))], [.leaf false (.nm 5), .leaf false (.int .i64), .leaf false (.int .i64), .leaf false (.sl (.nm 6))], [], [(11, 1), (13, 1), (48, 1)], 49, [(63, 6)], false⟩,
  ⟨72, bodyOf Try.f72, Try.f72.results.toList, [.val (.leaf false (.nm 5)), .val (.leaf false (.int .i64)), .val (.leaf false (.int .i64)), .val (.leaf false (.sl (.nm 6)))], [.leaf false (.nm 5), .leaf false .bool], [], [(17, 1), (28, 1), (66, 1), (74, 1)], 76, [(250, 8)], false⟩,
  ⟨70, bodyOf Try.f70, Try.f70.results.toList, [.val (.leaf false (.nm 5)), .val (.leaf false (.int .i64)), .val (.leaf false (.int .i64)), .val (.leaf false (.sl (.nm 6)))], [.leaf false (.nm 5), .leaf false .bool], [], [(16, 1), (71, 1), (78, 1)], 80, [(250, 10)], false⟩,
  ⟨74, bodyOf Try.f74, Try.f74.results.toList, [.val (.leaf false (.nm 5)), .val (.leaf false (.nm 5))], [.leaf false .bool], [], [], 45, [(58, 12)], false⟩,
  ⟨58, bodyOf Try.f58, Try.f58.results.toList, [.val (.leaf false (.nm 5))], [.leaf false .bool], [], [], 48, [(122, 14)], false⟩,
  ⟨57, bodyOf Try.f57, Try.f57.results.toList, [.val (.leaf false (.nm 5))], [.leaf false .bool], [], [], 58, [(122, 16)], false⟩,
  ⟨75, bodyOf Try.f75, Try.f75.results.toList, [.val (.leaf false (.sl (.int .u8)))], [.leaf false (.nm 5), .leaf false (.int .i64)], [], [(8, 1)], 13, [], false⟩,
  ⟨55, bodyOf Try.f55, Try.f55.results.toList, [.val (.leaf false (.nm 5)), .val (.leaf false (.int .i64))], [.leaf false (.nm 5)], [], [(7, 1), (27, 1), (39, 1), (40, 1)], 41, [], false⟩,
  ⟨76, bodyOf Try.f76, Try.f76.results.toList, [.val (.leaf false (.sl (.int .u8)))], [.leaf false (.nm 5), .leaf false (.int .i64)], [], [(8, 1)], 13, [], false⟩,
  ⟨77, bodyOf Try.f77, Try.f77.results.toList, [.val (.leaf false (.sl (.int .u8)))], [.leaf false (.nm 5), .leaf false (.int .i64)], [], [(8, 1)], 13, [], false⟩,
  ⟨78, bodyOf Try.f78, Try.f78.results.toList, [.val (.leaf false (.sl (.int .u8)))], [.leaf false (.nm 5), .leaf false (.int .i64), .leaf false (.int .i64)], [], [(9, 1), (15, 1)], 17, [], false⟩,
  ⟨79, bodyOf Try.f79, Try.f79.results.toList, [.val (.leaf false (.sl (.int .u8)))], [.leaf false (.nm 5)], [], [(4, 1), (5, 1)], 6, [], false⟩,
  ⟨80, bodyOf Try.f80, Try.f80.results.toList, [.val (.leaf false (.nm 5))], [.leaf false (.int .i64), .leaf false (.int .i64)], [], [], 27, [], false⟩,
  ⟨81, bodyOf Try.f81, Try.f81.results.toList, [.val (.leaf false (.nm 5))], [.leaf false (.int .i64), .leaf false (.int .i64)], [], [], 25, [], false⟩,
  ⟨54, bodyOf Try.f54, Try.f54.results.toList, [.val (.leaf false (.nm 5)), .val (.leaf false (.int .i64))], [.leaf false (.nm 5)], [], [(8, 1), (29, 1)], 30, [], false⟩,
  ⟨28, bodyOf Try.f28, Try.f28.results.toList, [.val (.leaf false (.nm 5)), .val (.leaf false (.int .i64))], [.leaf false (.int .i64)], [], [(7, 1)], 43, [], false⟩,
  ⟨27, bodyOf Try.f27, Try.f27.results.toList, [.val (.leaf false (.nm 5)), .val (.leaf false (.int .i64))], [.leaf false (.int .i64)], [], [], 23, [], false⟩,
  ⟨49, bodyOf Try.f49, Try.f49.results.toList, [.val (.leaf false (.nm 5)), .val (.leaf false (.int .i64))], [.leaf false (.sl (.nm 6))], [], [(7, 1), (33, 1)], 34, [], false⟩,
  ⟨48, bodyOf Try.f48, Try.f48.results.toList, [.val (.leaf false (.nm 5)), .val (.leaf false (.int .i64))], [.leaf false (.sl (.nm 6))], [], [(11, 1)], 18, [], false⟩,
  ⟨25, bodyOf Try.f25, Try.f25.results.toList, [.val (.leaf false (.nm 5)), .val (.leaf false (.int .i64)), .val (.leaf false (.int .i64))], [.leaf false .bool], [], [], 27, [], false⟩,
  ⟨23, bodyOf Try.f23, Try.f23.results.toList, [.val (.leaf false (.nm 5)), .val (.leaf false (.int .i64)), .val (.leaf false (.int .i64))], [.leaf false .bool], [], [], 27, [], false⟩,
  ⟨99, bodyOf Try.f99, Try.f99.results.toList, [.val (.leaf false (.sl (.int .u8)))], [.pr (.hole 0) (.leaf false (.nm 12))], [], [(30, 1)], 32, [(58, 33)], false⟩,
  ⟨119, bodyOf Try.f119, Try.f119.results.toList, [.ptr (.leaf false (.nm 12))], [.leaf false (.nm 5)], [(0, .box)], [(11, 1), (17, 1), (31, 1)], 35, [], false⟩,
  ⟨105, bodyOf Try.f105, Try.f105.results.toList, [.ptr (.leaf false (.nm 12)), .val (.leaf false (.int .i64))], [.leaf false (.int .i64)], [(0, .box)], [], 37, [], false⟩,
  ⟨104, bodyOf Try.f104, Try.f104.results.toList, [.ptr (.leaf false (.nm 12)), .val (.leaf false (.int .i64))], [.leaf false .bool], [(0, .box)], [], 9, [], false⟩,
  ⟨91, bodyOf Try.f91, Try.f91.results.toList, [.val (.leaf false (.int .i64)), .val (.leaf false (.int .i64))], [.leaf false (.int .i64)], [], [], 10, [], false⟩,
  ⟨120, bodyOf Try.f120, Try.f120.results.toList, [.ptr (.leaf false (.nm 12)), .val (.leaf false (.int .i64)), .val (.leaf false (.int .i64))], [.leaf true (.sl (.nm 6))], [(0, .box)], [(29, 1)], 32, [(122, 39)], false⟩,
  ⟨110, bodyOf Try.f110, Try.f110.results.toList, [.val (.leaf false (.nm 5))], [.leaf true (.nm 5)], [], [], 8, [], false⟩,
  ⟨109, bodyOf Try.f109, Try.f109.results.toList, [.val (.leaf false (.nm 5))], [.leaf true (.nm 5)], [], [], 12, [], false⟩,
  ⟨112, bodyOf Try.f112, Try.f112.results.toList, [.val (.leaf false (.int .i64))], [.leaf false .bool], [], [], 5, [], false⟩,
  ⟨100, bodyOf Try.f100, Try.f100.results.toList, [.val (.leaf false (.int .i64)), .val (.leaf false (.int .i64)), .val (.leaf false (.int .i64))], [.leaf false .bool], [], [], 15, [], false⟩,
  ⟨113, bodyOf Try.f113, Try.f113.results.toList, [.val (.leaf false (.nm 7))], [.leaf false .bool], [], [], 27, [], false⟩,
  ⟨102, bodyOf Try.f102, Try.f102.results.toList, [.val (.leaf false (.int .i64)), .val (.leaf false (.int .i64)), .val (.leaf false (.int .i64))], [.leaf false .bool], [], [], 15, [], false⟩,
  ⟨111, bodyOf Try.f111, Try.f111.results.toList, [.val (.leaf false (.nm 7))], [.leaf false .bool], [], [], 33, [], false⟩,
  ⟨121, bodyOf Try.f121, Try.f121.results.toList, [.val (.leaf false (.sl (.int .u8)))], [.leaf false (.nm 5), .leaf false (.int .i64)], [], [(7, 1), (9, 1), (12, 1)], 14, [], false⟩,
  ⟨97, bodyOf Try.f97, Try.f97.results.toList, [.val (.leaf false (.nm 5))], [.leaf false (.sl (.nm 6))], [], [], 17, [], false⟩,
  ⟨106, bodyOf Try.f106, Try.f106.results.toList, [.val (.leaf false (.sl (.nm 6)))], [.leaf true (.sl (.nm 6))], [], [], 8, [], false⟩,
  ⟨96, bodyOf Try.f96, Try.f96.results.toList, [.val (.leaf false (.nm 5)), .val (.leaf false (.int .i64))], [.leaf false (.int .i64)], [], [], 30, [], false⟩,
  ⟨134, bodyOf Try.f134, Try.f134.results.toList, [.ptr (.leaf false (.nm 12))], [.leaf true (.nm 5)], [(0, .box)], [(8, 1)], 15, [], false⟩,
  ⟨98, bodyOf Try.f98, Try.f98.results.toList, [.ptr (.leaf false (.nm 12)), .val (.leaf false (.sl (.int .i64)))], [.leaf false (.int .i64)], [(0, .box)], [], 12, [], false⟩,
  ⟨136, bodyOf Try.f136, Try.f136.results.toList, [.ptr (.leaf false (.nm 12))], [.leaf false (.nm 7)], [(0, .box)], [], 14, [], false⟩,
  ⟨135, bodyOf Try.f135, Try.f135.results.toList, [.ptr (.leaf false (.nm 12)), .val (.leaf false (.nm 7))], [.leaf false (.nm 7)], [(0, .box)], [(10, 1), (16, 1), (22, 1)], 26, [], false⟩,
  ⟨126, bodyOf Try.f126, Try.f126.results.toList, [.ptr (.leaf false (.nm 12))], [.leaf false (.int .i64)], [(0, .box)], [], 58, [], false⟩,
  ⟨129, bodyOf Try.f129, Try.f129.results.toList, [.val (.leaf false .str)], [.leaf false .bool], [], [], 11, [], false⟩,
  ⟨128, bodyOf Try.f128, Try.f128.results.toList, [.val (.leaf false .str)], [.leaf false .bool], [], [], 14, [(26, 58)], false⟩,
  ⟨140, bodyOf Try.f140, Try.f140.results.toList, [.ptr (.leaf false (.nm 12))], [.leaf false .str], [(0, .box)], [(13, 1), (17, 1)], 21, [(58, 60)], false⟩,
  ⟨101, bodyOf Try.f101, Try.f101.results.toList, [.ptr (.leaf false (.nm 12)), .val (.leaf false (.sl .str))], [.leaf false .str], [(0, .box)], [], 12, [], false⟩,
  ⟨138, bodyOf Try.f138, Try.f138.results.toList, [.val (.leaf false .str), .val (.leaf false .str)], [.leaf false .bool], [], [], 9, [], false⟩,
  ⟨141, bodyOf Try.f141, Try.f141.results.toList, [.val (.leaf false .str), .val (.leaf false .str)], [.leaf false (.int .i64)], [], [], 8, [], false⟩,
  ⟨142, bodyOf Try.f142, Try.f142.results.toList, [.val (.leaf false .str), .val (.leaf false .str)], [.leaf false (.int .i64)], [], [], 143, [], false⟩,
  ⟨143, bodyOf Try.f143, Try.f143.results.toList, [.val (.leaf false .str), .val (.leaf false (.int .u8))], [.leaf false (.int .i64)], [], [], 8, [], false⟩,
  ⟨147, bodyOf Try.f147, Try.f147.results.toList, [.val (.leaf false .str), .val (.leaf false (.int .u8))], [.leaf false (.int .i64)], [], [], 2, [], true⟩]
def callL : CallL := [((13, []), 0), ((29, []), 4), ((73, []), 5), ((72, []), 7), ((70, []), 9), ((74, []), 11), ((58, []), 13), ((57, []), 15), ((75, []), 17), ((55, []), 18), ((76, []), 19), ((77, []), 20), ((78, []), 21), ((79, []), 22), ((80, []), 23), ((81, []), 24), ((54, []), 25), ((28, []), 26), ((27, []), 27), ((49, []), 28), ((48, []), 29), ((25, []), 30), ((23, []), 31), ((99, []), 32), ((119, []), 34), ((105, []), 35), ((104, []), 36), ((91, []), 37), ((120, []), 38), ((110, []), 40), ((109, []), 41), ((112, []), 42), ((100, []), 43), ((113, []), 44), ((102, []), 45), ((111, []), 46), ((121, []), 47), ((97, []), 48), ((106, []), 49), ((96, []), 50), ((134, []), 51), ((98, []), 52), ((136, []), 53), ((135, []), 54), ((126, []), 55), ((129, []), 56), ((128, []), 57), ((140, []), 59), ((101, []), 61), ((138, []), 62), ((141, []), 63), ((142, []), 64), ((143, []), 65), ((147, []), 66)]
noncomputable def tab : Tab where
  G := gam
  ty := lookT tyL
  key k := keyL.getD k ⟨0, [], []⟩
  ent k := entL.getD k ⟨0, .skip, [], [], [], [], [], 0, [], true⟩
  call := lookC callL
  ext k := match k with
    | 66 => fun x => some (idxI x.1 x.2.1, ())
    | _ => fun _ => none
end Go.Proofs.Ytajahbpeiifcbaa.E.TL
