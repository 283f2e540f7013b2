/- The table of C: structs, types, entries, keys. No condition. -/
import Derived.Test.YtajahbpeiifcbaaEG4
import Derived.Test.YtajahbpeiifcbaaProg
import Derived.KernelRfl
namespace Go.Proofs.Ytajahbpeiifcbaa.E.TC
open Go.Proofs.Ytajahbpeiifcbaa.E
set_option linter.unusedVariables false
set_option maxRecDepth 100000
structure laws_Disk where
  Bytes : (_root_.List Int)
  Sure : Int
def z_laws_Disk : laws_Disk := ⟨[], 0⟩
structure impl_Disk where
  Bytes : (_root_.List Int)
  Sure : Int
def z_impl_Disk : impl_Disk := ⟨[], 0⟩
structure laws_Cmd where
  Who : Int
  Seq : Int
  Line : (_root_.List Int)
def z_laws_Cmd : laws_Cmd := ⟨0, 0, []⟩
structure laws_Entry where
  Term : Int
  C : laws_Cmd
def z_laws_Entry : laws_Entry := ⟨0, z_laws_Cmd⟩
structure laws_Log where
  Base : Int
  BaseTerm : Int
  List : (_root_.List laws_Entry)
def z_laws_Log : laws_Log := ⟨0, 0, []⟩
structure impl_Cmd where
  Who : Int
  Seq : Int
  Line : (_root_.List Int)
def z_impl_Cmd : impl_Cmd := ⟨0, 0, []⟩
structure impl_Entry where
  Term : Int
  C : impl_Cmd
def z_impl_Entry : impl_Entry := ⟨0, z_impl_Cmd⟩
structure impl_Log where
  Base : Int
  BaseTerm : Int
  List : (_root_.List impl_Entry)
def z_impl_Log : impl_Log := ⟨0, 0, []⟩
structure laws_Rpc where
  Kind : Int
  From : Int
  To : Int
  Term : Int
  Index : Int
  IndexTerm : Int
  Commit : Int
  List : (_root_.List laws_Entry)
  Ok : Bool
  Snap : (_root_.List Int)
def z_laws_Rpc : laws_Rpc := ⟨0, 0, 0, 0, 0, 0, 0, [], false, []⟩
structure impl_Rpc where
  Kind : Int
  From : Int
  To : Int
  Term : Int
  Index : Int
  IndexTerm : Int
  Commit : Int
  List : (_root_.List impl_Entry)
  Ok : Bool
  Snap : (_root_.List Int)
def z_impl_Rpc : impl_Rpc := ⟨0, 0, 0, 0, 0, 0, 0, [], false, []⟩
structure laws_Rec where
  Kind : Int
  Term : Int
  Vote : Int
  Prev : Int
  List : (_root_.List laws_Entry)
  Snap : (_root_.List Int)
def z_laws_Rec : laws_Rec := ⟨0, 0, 0, 0, [], []⟩
structure impl_Rec where
  Kind : Int
  Term : Int
  Vote : Int
  Prev : Int
  List : (_root_.List impl_Entry)
  Snap : (_root_.List Int)
def z_impl_Rec : impl_Rec := ⟨0, 0, 0, 0, [], []⟩
structure spec_l1Cur where
  b : (_root_.List Int)
  i : Int
  h : Int
def z_spec_l1Cur : spec_l1Cur := ⟨[], 0, 0⟩
def gT : Nat → Type
  | 0 => laws_Disk
  | 1 => impl_Disk
  | 2 => laws_Log
  | 3 => laws_Entry
  | 4 => laws_Cmd
  | 5 => impl_Log
  | 6 => impl_Entry
  | 7 => impl_Cmd
  | 8 => laws_Rpc
  | 9 => impl_Rpc
  | 10 => laws_Rec
  | 11 => impl_Rec
  | 12 => spec_l1Cur
  | _ => Unit
def gfs : Nat → List FT
  | 0 => [(.sl (.int .u8)), (.int .i64)]
  | 1 => [(.sl (.int .u8)), (.int .i64)]
  | 2 => [(.int .i64), (.int .i64), (.sl (.nm 3))]
  | 3 => [(.int .i64), (.nm 4)]
  | 4 => [(.int .i64), (.int .i64), .str]
  | 5 => [(.int .i64), (.int .i64), (.sl (.nm 6))]
  | 6 => [(.int .i64), (.nm 7)]
  | 7 => [(.int .i64), (.int .i64), .str]
  | 8 => [(.int .i64), (.int .i64), (.int .i64), (.int .i64), (.int .i64), (.int .i64), (.int .i64), (.sl (.nm 3)), .bool, .str]
  | 9 => [(.int .i64), (.int .i64), (.int .i64), (.int .i64), (.int .i64), (.int .i64), (.int .i64), (.sl (.nm 6)), .bool, .str]
  | 10 => [(.int .i64), (.int .i64), (.int .i64), (.int .i64), (.sl (.nm 3)), .str]
  | 11 => [(.int .i64), (.int .i64), (.int .i64), (.int .i64), (.sl (.nm 6)), .str]
  | 12 => [(.sl (.int .u8)), (.int .i64), (.int .i64)]
  | _ => []
def gun : ∀ n, gT n → Js gT (gfs n)
  | 0, x => (x.Bytes, (x.Sure, ()))
  | 1, x => (x.Bytes, (x.Sure, ()))
  | 2, x => (x.Base, (x.BaseTerm, (x.List, ())))
  | 3, x => (x.Term, (x.C, ()))
  | 4, x => (x.Who, (x.Seq, (x.Line, ())))
  | 5, x => (x.Base, (x.BaseTerm, (x.List, ())))
  | 6, x => (x.Term, (x.C, ()))
  | 7, x => (x.Who, (x.Seq, (x.Line, ())))
  | 8, x => (x.Kind, (x.From, (x.To, (x.Term, (x.Index, (x.IndexTerm, (x.Commit, (x.List, (x.Ok, (x.Snap, ()))))))))))
  | 9, x => (x.Kind, (x.From, (x.To, (x.Term, (x.Index, (x.IndexTerm, (x.Commit, (x.List, (x.Ok, (x.Snap, ()))))))))))
  | 10, x => (x.Kind, (x.Term, (x.Vote, (x.Prev, (x.List, (x.Snap, ()))))))
  | 11, x => (x.Kind, (x.Term, (x.Vote, (x.Prev, (x.List, (x.Snap, ()))))))
  | 12, x => (x.b, (x.i, (x.h, ())))
  | (n + 13), _ => ()
def gpk : ∀ n, Js gT (gfs n) → gT n
  | 0, y => ⟨y.1, y.2.1⟩
  | 1, y => ⟨y.1, y.2.1⟩
  | 2, y => ⟨y.1, y.2.1, y.2.2.1⟩
  | 3, y => ⟨y.1, y.2.1⟩
  | 4, y => ⟨y.1, y.2.1, y.2.2.1⟩
  | 5, y => ⟨y.1, y.2.1, y.2.2.1⟩
  | 6, y => ⟨y.1, y.2.1⟩
  | 7, y => ⟨y.1, y.2.1, y.2.2.1⟩
  | 8, y => ⟨y.1, y.2.1, y.2.2.1, y.2.2.2.1, y.2.2.2.2.1, y.2.2.2.2.2.1, y.2.2.2.2.2.2.1, y.2.2.2.2.2.2.2.1, y.2.2.2.2.2.2.2.2.1, y.2.2.2.2.2.2.2.2.2.1⟩
  | 9, y => ⟨y.1, y.2.1, y.2.2.1, y.2.2.2.1, y.2.2.2.2.1, y.2.2.2.2.2.1, y.2.2.2.2.2.2.1, y.2.2.2.2.2.2.2.1, y.2.2.2.2.2.2.2.2.1, y.2.2.2.2.2.2.2.2.2.1⟩
  | 10, y => ⟨y.1, y.2.1, y.2.2.1, y.2.2.2.1, y.2.2.2.2.1, y.2.2.2.2.2.1⟩
  | 11, y => ⟨y.1, y.2.1, y.2.2.1, y.2.2.2.1, y.2.2.2.2.1, y.2.2.2.2.2.1⟩
  | 12, y => ⟨y.1, y.2.1, y.2.2.1⟩
  | (n + 13), _ => ()
theorem gun_pk : ∀ n y, gun n (gpk n y) = y
  | 0, _ => rfl
  | 1, _ => rfl
  | 2, _ => rfl
  | 3, _ => rfl
  | 4, _ => rfl
  | 5, _ => rfl
  | 6, _ => rfl
  | 7, _ => rfl
  | 8, _ => rfl
  | 9, _ => rfl
  | 10, _ => rfl
  | 11, _ => rfl
  | 12, _ => rfl
  | (n + 13), _ => rfl
theorem gpk_un : ∀ n x, gpk n (gun n x) = x
  | 0, x => by cases x; rfl
  | 1, x => by cases x; rfl
  | 2, x => by cases x; rfl
  | 3, x => by cases x; rfl
  | 4, x => by cases x; rfl
  | 5, x => by cases x; rfl
  | 6, x => by cases x; rfl
  | 7, x => by cases x; rfl
  | 8, x => by cases x; rfl
  | 9, x => by cases x; rfl
  | 10, x => by cases x; rfl
  | 11, x => by cases x; rfl
  | 12, x => by cases x; rfl
  | (n + 13), _ => rfl
def gz : ∀ n, gT n
  | 0 => z_laws_Disk
  | 1 => z_impl_Disk
  | 2 => z_laws_Log
  | 3 => z_laws_Entry
  | 4 => z_laws_Cmd
  | 5 => z_impl_Log
  | 6 => z_impl_Entry
  | 7 => z_impl_Cmd
  | 8 => z_laws_Rpc
  | 9 => z_impl_Rpc
  | 10 => z_laws_Rec
  | 11 => z_impl_Rec
  | 12 => z_spec_l1Cur
  | (n + 13) => ()
theorem gun_z : ∀ n, gun n (gz n) = zeroJs gz (gfs n)
  | 0 => rfl
  | 1 => rfl
  | 2 => rfl
  | 3 => rfl
  | 4 => rfl
  | 5 => rfl
  | 6 => rfl
  | 7 => rfl
  | 8 => rfl
  | 9 => rfl
  | 10 => rfl
  | 11 => rfl
  | 12 => rfl
  | (n + 13) => rfl
def gsz : Nat → Nat
  | 0 => 2
  | 1 => 2
  | 2 => 3
  | 3 => 4
  | 4 => 3
  | 5 => 3
  | 6 => 4
  | 7 => 3
  | 8 => 10
  | 9 => 10
  | 10 => 6
  | 11 => 6
  | 12 => 3
  | _ => 0
theorem gsz_eq : ∀ n, gsz n = FT.szs gsz (gfs n)
  | 0 => rfl
  | 1 => rfl
  | 2 => rfl
  | 3 => rfl
  | 4 => rfl
  | 5 => rfl
  | 6 => rfl
  | 7 => rfl
  | 8 => rfl
  | 9 => rfl
  | 10 => rfl
  | 11 => rfl
  | 12 => rfl
  | (n + 13) => rfl
def gfl : Nat → Bool
  | 0 => false
  | 1 => false
  | 2 => false
  | 3 => true
  | 4 => true
  | 5 => false
  | 6 => true
  | 7 => true
  | 8 => false
  | 9 => false
  | 10 => false
  | 11 => false
  | 12 => false
  | _ => true
theorem gfl_eq : ∀ n, gfl n = true → FT.flats gfl (gfs n) = true
  | 0, h => by cases h
  | 1, h => by cases h
  | 2, h => by cases h
  | 3, h => rfl
  | 4, h => rfl
  | 5, h => by cases h
  | 6, h => rfl
  | 7, h => rfl
  | 8, h => by cases h
  | 9, h => by cases h
  | 10, h => by cases h
  | 11, h => by cases h
  | 12, h => by cases h
  | (n + 13), _ => rfl
def gam : Gam := ⟨gT, gfs, gun, gpk, gun_pk, gpk_un, gz, gun_z, gsz, gsz_eq, gfl, gfl_eq⟩
def tyL : List (Nat × FT) := [(2, (.int .i64)), (3, (.int .i64)), (4, .bool), (5, (.int .u8)), (6, (.int .u8)), (9, .str), (10, .str), (22, (.sl (.int .u8))), (110, (.sl (.int .i64))), (112, (.int .u64)), (114, (.sl .str)), (133, (.nm 12))]
def keyL : List KeyI := [
  ⟨0, [], [.val 0 (.leaf false (.sl (.int .u8)))]⟩,
  ⟨1, [], [.val 0 (.leaf false (.sl (.int .u8)))]⟩,
  ⟨2, [], [.val 0 (.leaf false (.sl (.int .u8)))]⟩,
  ⟨3, [], [.val 0 (.leaf false (.sl (.int .u8)))]⟩,
  ⟨4, [], [.val 0 (.leaf false (.int .i64))]⟩,
  ⟨4, [true, true, true, false, false], [.val 0 (.leaf false (.int .i64)), .own 3 48 (.leaf true (.sl (.int .u8)))]⟩,
  ⟨5, [], [.val 0 (.leaf false (.int .i64))]⟩,
  ⟨6, [], [.val 0 (.leaf false (.sl (.int .u8)))]⟩,
  ⟨7, [], [.val 0 (.leaf false .str)]⟩,
  ⟨8, [], [.val 0 (.leaf false (.int .i64))]⟩,
  ⟨8, [true, true, true, false, false], [.val 0 (.leaf false (.int .i64)), .own 3 48 (.leaf true (.sl (.int .u8)))]⟩,
  ⟨9, [], [.val 0 (.leaf false (.int .i64))]⟩,
  ⟨10, [], [.val 0 (.leaf false .str)]⟩,
  ⟨11, [], [.val 0 (.leaf false (.sl (.int .u8))), .val 1 (.leaf false (.int .i64))]⟩,
  ⟨11, [true, true, true, false, true, false], [.val 0 (.leaf false (.sl (.int .u8))), .val 1 (.leaf false (.int .i64)), .val 7 (.leaf false (.int .i64)), .val 8 (.leaf false (.int .i64))]⟩,
  ⟨12, [], [.val 0 (.leaf false (.sl (.int .u8))), .val 1 (.leaf false (.int .i64))]⟩,
  ⟨12, [true, true, true, true], [.val 8 (.leaf false (.int .i64)), .val 9 (.leaf false .bool), .val 10 (.leaf false (.int .i64))]⟩,
  ⟨13, [], [.val 0 (.leaf false (.sl (.int .u8))), .val 1 (.leaf false (.int .i64))]⟩,
  ⟨14, [], [.val 0 (.leaf false (.sl (.int .u8)))]⟩,
  ⟨15, [], [.val 0 (.leaf false (.sl (.int .u8))), .val 1 (.leaf false (.int .i64))]⟩,
  ⟨15, [true, true, false, true, false], [.val 0 (.leaf false (.sl (.int .u8))), .val 1 (.leaf false (.int .i64)), .val 7 (.leaf false (.int .i64)), .val 8 (.leaf false (.int .i64))]⟩,
  ⟨16, [], [.val 0 (.leaf false (.sl (.int .u8)))]⟩,
  ⟨17, [], [.val 0 (.leaf false (.sl (.int .u8))), .val 1 (.leaf false (.int .i64))]⟩,
  ⟨17, [true, true, true, true, true], [.val 8 (.leaf false (.int .i64)), .val 10 (.leaf false (.int .i64))]⟩,
  ⟨18, [], [.val 0 (.leaf false (.sl (.int .u8)))]⟩,
  ⟨19, [], [.val 0 (.leaf false (.sl (.int .u8))), .val 1 (.leaf false (.int .i64))]⟩,
  ⟨20, [], [.val 0 (.leaf false (.sl (.int .u8)))]⟩,
  ⟨20, [true, true, false, true, false], [.val 0 (.leaf false (.sl (.int .u8))), .val 3 (.leaf false (.int .i64)), .val 4 (.leaf false (.int .i64))]⟩,
  ⟨21, [], [.ptr 0 0, .slot 0 (.leaf false (.nm 12)) true none, .val 1 (.leaf false (.sl (.int .i64)))]⟩,
  ⟨22, [], [.val 0 (.leaf false (.int .i64)), .val 1 (.leaf false (.int .i64)), .val 2 (.leaf false (.int .i64))]⟩,
  ⟨23, [], [.ptr 0 0, .slot 0 (.leaf false (.nm 12)) true none, .val 1 (.leaf false (.sl .str))]⟩,
  ⟨24, [], [.val 0 (.leaf false (.int .i64)), .val 1 (.leaf false (.int .i64)), .val 2 (.leaf false (.int .i64))]⟩,
  ⟨25, [], [.ptr 0 0, .slot 0 (.leaf false (.nm 12)) true none]⟩,
  ⟨25, [true, true, false, true, false], [.ptr 0 0, .own 3 48 (.leaf true (.sl (.int .u8))), .val 4 (.leaf false (.int .i64)), .slot 0 (.leaf false (.nm 12)) true none]⟩,
  ⟨25, [true, true, true, true], [.ptr 0 0, .own 3 48 (.leaf true (.sl (.int .u8))), .slot 0 (.leaf false (.nm 12)) true none]⟩,
  ⟨26, [], [.ptr 0 0, .slot 0 (.leaf false (.nm 12)) true none, .val 1 (.leaf false (.int .i64))]⟩,
  ⟨27, [], [.ptr 0 0, .slot 0 (.leaf false (.nm 12)) true none, .val 1 (.leaf false (.int .i64))]⟩,
  ⟨28, [], [.ptr 0 0, .slot 0 (.leaf false (.nm 12)) true none]⟩]
noncomputable def entL : List EntI := [
  ⟨6, bodyOf Try.f6, Try.f6.results.toList, [.val (.leaf false (.sl (.int .u8)))], [.leaf false .bool], [], [(49, 1), (51, 1), (55, 1), (59, 1), (66, 1), (74, 1), (151, 1), (170, 1), (189, 1), (238, 1), (252, 1), (267, 1)], 277, [], false⟩,
  ⟨29, bodyOf Try.f29, Try.f29.results.toList, [.val (.leaf false (.sl (.int .u8)))], [.leaf false .bool], [], [], 6, [], false⟩,
  ⟨30, bodyOf Try.f30, Try.f30.results.toList, [.val (.leaf false (.sl (.int .u8)))], [.leaf false (.int .i64)], [], [(4, 1), (5, 1)], 7, [], false⟩,
  ⟨31, bodyOf Try.f31, Try.f31.results.toList, [.val (.leaf false (.sl (.int .u8)))], [.leaf false (.int .i64)], [], [(4, 1), (5, 1)], 7, [], false⟩,
  ⟨32, bodyOf Try.f32, Try.f32.results.toList, [.val (.leaf false (.int .i64))], [.leaf true (.sl (.int .u8))], [], [(15, 1), (22, 1)], 24, [(60, 5)], false⟩,
  ⟨33, bodyOf Try.f33, Try.f33.results.toList, [.val (.leaf false (.int .i64))], [.leaf false (.sl (.int .u8))], [], [(13, 1), (16, 1)], 17, [], false⟩,
  ⟨34, bodyOf Try.f34, Try.f34.results.toList, [.val (.leaf false (.sl (.int .u8)))], [.leaf false .str], [], [(4, 1), (5, 1)], 7, [], false⟩,
  ⟨35, bodyOf Try.f35, Try.f35.results.toList, [.val (.leaf false .str)], [.leaf false (.sl (.int .u8))], [], [], 8, [], false⟩,
  ⟨36, bodyOf Try.f36, Try.f36.results.toList, [.val (.leaf false (.int .i64))], [.leaf true (.sl (.int .u8))], [], [(16, 1), (23, 1)], 25, [(60, 10)], false⟩,
  ⟨37, bodyOf Try.f37, Try.f37.results.toList, [.val (.leaf false (.int .i64))], [.leaf false (.sl (.int .u8))], [], [(10, 1), (16, 1), (19, 1)], 20, [], false⟩,
  ⟨38, bodyOf Try.f38, Try.f38.results.toList, [.val (.leaf false .str)], [.leaf true (.sl (.int .u8))], [], [], 9, [], false⟩,
  ⟨39, bodyOf Try.f39, Try.f39.results.toList, [.val (.leaf false (.sl (.int .u8))), .val (.leaf false (.int .i64))], [.leaf false (.int .i64), .leaf false (.int .i64), .leaf false .bool], [], [], 59, [(122, 14)], false⟩,
  ⟨40, bodyOf Try.f40, Try.f40.results.toList, [.val (.leaf false (.sl (.int .u8))), .val (.leaf false (.int .i64))], [.leaf false (.int .i64), .leaf false (.int .i64), .leaf false .bool], [], [], 36, [(31, 16)], false⟩,
  ⟨41, bodyOf Try.f41, Try.f41.results.toList, [.val (.leaf false (.sl (.int .u8))), .val (.leaf false (.int .i64))], [.leaf false .str, .leaf false (.int .i64), .leaf false .bool], [], [], 37, [], false⟩,
  ⟨42, bodyOf Try.f42, Try.f42.results.toList, [.val (.leaf false (.sl (.int .u8)))], [.leaf false (.sl (.int .u8)), .leaf false (.int .i64)], [], [(7, 1), (9, 1), (17, 1)], 19, [], false⟩,
  ⟨43, bodyOf Try.f43, Try.f43.results.toList, [.val (.leaf false (.sl (.int .u8))), .val (.leaf false (.int .i64))], [.leaf false (.int .i64), .leaf false (.int .i64), .leaf false .bool], [], [], 59, [(58, 20)], false⟩,
  ⟨44, bodyOf Try.f44, Try.f44.results.toList, [.val (.leaf false (.sl (.int .u8)))], [.leaf false (.sl (.int .u8)), .leaf false (.int .i64)], [], [(8, 1)], 13, [], false⟩,
  ⟨45, bodyOf Try.f45, Try.f45.results.toList, [.val (.leaf false (.sl (.int .u8))), .val (.leaf false (.int .i64))], [.leaf false (.int .i64), .leaf false (.int .i64), .leaf false .bool], [], [], 32, [(63, 23)], false⟩,
  ⟨46, bodyOf Try.f46, Try.f46.results.toList, [.val (.leaf false (.sl (.int .u8)))], [.leaf false (.sl (.int .u8)), .leaf false (.int .i64)], [], [(7, 1), (9, 1), (13, 1), (28, 1)], 30, [], false⟩,
  ⟨47, bodyOf Try.f47, Try.f47.results.toList, [.val (.leaf false (.sl (.int .u8))), .val (.leaf false (.int .i64))], [.leaf false .str, .leaf false (.int .i64), .leaf false .bool], [], [], 37, [], false⟩,
  ⟨99, bodyOf Try.f99, Try.f99.results.toList, [.val (.leaf false (.sl (.int .u8)))], [.pr (.hole 0) (.leaf false (.nm 12))], [], [(30, 1)], 32, [(58, 27)], false⟩,
  ⟨98, bodyOf Try.f98, Try.f98.results.toList, [.ptr (.leaf false (.nm 12)), .val (.leaf false (.sl (.int .i64)))], [.leaf false (.int .i64)], [(0, .box)], [], 12, [], false⟩,
  ⟨100, bodyOf Try.f100, Try.f100.results.toList, [.val (.leaf false (.int .i64)), .val (.leaf false (.int .i64)), .val (.leaf false (.int .i64))], [.leaf false .bool], [], [], 15, [], false⟩,
  ⟨101, bodyOf Try.f101, Try.f101.results.toList, [.ptr (.leaf false (.nm 12)), .val (.leaf false (.sl .str))], [.leaf false .str], [(0, .box)], [], 12, [], false⟩,
  ⟨102, bodyOf Try.f102, Try.f102.results.toList, [.val (.leaf false (.int .i64)), .val (.leaf false (.int .i64)), .val (.leaf false (.int .i64))], [.leaf false .bool], [], [], 15, [], false⟩,
  ⟨103, bodyOf Try.f103, Try.f103.results.toList, [.ptr (.leaf false (.nm 12))], [.leaf false (.sl (.int .u8))], [(0, .box)], [(14, 1), (16, 1), (22, 1), (28, 1), (34, 1), (37, 1)], 40, [(58, 33), (31, 34)], false⟩,
  ⟨104, bodyOf Try.f104, Try.f104.results.toList, [.ptr (.leaf false (.nm 12)), .val (.leaf false (.int .i64))], [.leaf false .bool], [(0, .box)], [], 9, [], false⟩,
  ⟨105, bodyOf Try.f105, Try.f105.results.toList, [.ptr (.leaf false (.nm 12)), .val (.leaf false (.int .i64))], [.leaf false (.int .i64)], [(0, .box)], [], 37, [], false⟩,
  ⟨126, bodyOf Try.f126, Try.f126.results.toList, [.ptr (.leaf false (.nm 12))], [.leaf false (.int .i64)], [(0, .box)], [], 58, [], false⟩]
def callL : CallL := [((6, []), 0), ((29, []), 1), ((30, []), 2), ((31, []), 3), ((32, []), 4), ((33, []), 6), ((34, []), 7), ((35, []), 8), ((36, []), 9), ((37, []), 11), ((38, []), 12), ((39, []), 13), ((40, []), 15), ((41, []), 17), ((42, []), 18), ((43, []), 19), ((44, []), 21), ((45, []), 22), ((46, []), 24), ((47, []), 25), ((99, []), 26), ((98, []), 28), ((100, []), 29), ((101, []), 30), ((102, []), 31), ((103, []), 32), ((104, []), 35), ((105, []), 36), ((126, []), 37)]
noncomputable def tab : Tab where
  G := gam
  ty := lookT tyL
  key k := keyL.getD k ⟨0, [], []⟩
  ent k := entL.getD k ⟨0, .skip, [], [], [], [], [], 0, [], true⟩
  call := lookC callL
  ext _ _ := none
end Go.Proofs.Ytajahbpeiifcbaa.E.TC
