/- The table of A: structs, types, entries, keys. No condition. -/
import Derived.Test.YtfafpanihhikoaaEG4
import Derived.Test.YtfafpanihhikoaaProg
import Derived.KernelRfl
namespace Go.Proofs.Ytfafpanihhikoaa.E.TA
open Go.Proofs.Ytfafpanihhikoaa.E
set_option linter.unusedVariables false
set_option maxRecDepth 100000
structure laws_Sink where
  Epoch : Int
  Text : List Int
def z_laws_Sink : laws_Sink := ⟨0, []⟩
structure impl_Sink where
  Epoch : Int
  Text : List Int
def z_impl_Sink : impl_Sink := ⟨0, []⟩
structure laws_Disk where
  Bytes : List Int
  Sure : Int
def z_laws_Disk : laws_Disk := ⟨[], 0⟩
structure impl_Disk where
  Bytes : List Int
  Sure : Int
def z_impl_Disk : impl_Disk := ⟨[], 0⟩
structure laws_Cmd where
  Who : Int
  Seq : Int
  Line : List Int
def z_laws_Cmd : laws_Cmd := ⟨0, 0, []⟩
structure laws_Entry where
  Term : Int
  C : laws_Cmd
def z_laws_Entry : laws_Entry := ⟨0, z_laws_Cmd⟩
structure laws_Log where
  Base : Int
  BaseTerm : Int
  List : List laws_Entry
def z_laws_Log : laws_Log := ⟨0, 0, []⟩
structure impl_Cmd where
  Who : Int
  Seq : Int
  Line : List Int
def z_impl_Cmd : impl_Cmd := ⟨0, 0, []⟩
structure impl_Entry where
  Term : Int
  C : impl_Cmd
def z_impl_Entry : impl_Entry := ⟨0, z_impl_Cmd⟩
structure impl_Log where
  Base : Int
  BaseTerm : Int
  List : List impl_Entry
def z_impl_Log : impl_Log := ⟨0, 0, []⟩
structure spec_l1Cur where
  b : List Int
  i : Int
  h : Int
def z_spec_l1Cur : spec_l1Cur := ⟨[], 0, 0⟩
def gT : Nat → Type
  | 0 => laws_Sink
  | 1 => impl_Sink
  | 2 => laws_Disk
  | 3 => impl_Disk
  | 4 => laws_Entry
  | 5 => laws_Cmd
  | 6 => laws_Log
  | 7 => impl_Entry
  | 8 => impl_Cmd
  | 9 => impl_Log
  | 10 => spec_l1Cur
  | _ => Unit
def gfs : Nat → List FT
  | 0 => [(.int .i64), .str]
  | 1 => [(.int .i64), .str]
  | 2 => [(.sl (.int .u8)), (.int .i64)]
  | 3 => [(.sl (.int .u8)), (.int .i64)]
  | 4 => [(.int .i64), (.nm 5)]
  | 5 => [(.int .i64), (.int .i64), .str]
  | 6 => [(.int .i64), (.int .i64), (.sl (.nm 4))]
  | 7 => [(.int .i64), (.nm 8)]
  | 8 => [(.int .i64), (.int .i64), .str]
  | 9 => [(.int .i64), (.int .i64), (.sl (.nm 7))]
  | 10 => [(.sl (.int .u8)), (.int .i64), (.int .i64)]
  | _ => []
def gun : ∀ n, gT n → Js gT (gfs n)
  | 0, x => (x.Epoch, (x.Text, ()))
  | 1, x => (x.Epoch, (x.Text, ()))
  | 2, x => (x.Bytes, (x.Sure, ()))
  | 3, x => (x.Bytes, (x.Sure, ()))
  | 4, x => (x.Term, (x.C, ()))
  | 5, x => (x.Who, (x.Seq, (x.Line, ())))
  | 6, x => (x.Base, (x.BaseTerm, (x.List, ())))
  | 7, x => (x.Term, (x.C, ()))
  | 8, x => (x.Who, (x.Seq, (x.Line, ())))
  | 9, x => (x.Base, (x.BaseTerm, (x.List, ())))
  | 10, x => (x.b, (x.i, (x.h, ())))
  | (n + 11), _ => ()
def gpk : ∀ n, Js gT (gfs n) → gT n
  | 0, y => ⟨y.1, y.2.1⟩
  | 1, y => ⟨y.1, y.2.1⟩
  | 2, y => ⟨y.1, y.2.1⟩
  | 3, y => ⟨y.1, y.2.1⟩
  | 4, y => ⟨y.1, y.2.1⟩
  | 5, y => ⟨y.1, y.2.1, y.2.2.1⟩
  | 6, y => ⟨y.1, y.2.1, y.2.2.1⟩
  | 7, y => ⟨y.1, y.2.1⟩
  | 8, y => ⟨y.1, y.2.1, y.2.2.1⟩
  | 9, y => ⟨y.1, y.2.1, y.2.2.1⟩
  | 10, y => ⟨y.1, y.2.1, y.2.2.1⟩
  | (n + 11), _ => ()
theorem gun_pk : ∀ n y, gun n (gpk n y) = y
  | 0, _ => rfl
  | 1, _ => rfl
  | 2, _ => rfl
  | 3, _ => rfl
  | 4, _ => rfl
  | 5, _ => rfl
  | 6, _ => rfl
  | 7, _ => rfl
  | 8, _ => rfl
  | 9, _ => rfl
  | 10, _ => rfl
  | (n + 11), _ => rfl
theorem gpk_un : ∀ n x, gpk n (gun n x) = x
  | 0, x => by cases x; rfl
  | 1, x => by cases x; rfl
  | 2, x => by cases x; rfl
  | 3, x => by cases x; rfl
  | 4, x => by cases x; rfl
  | 5, x => by cases x; rfl
  | 6, x => by cases x; rfl
  | 7, x => by cases x; rfl
  | 8, x => by cases x; rfl
  | 9, x => by cases x; rfl
  | 10, x => by cases x; rfl
  | (n + 11), _ => rfl
def gz : ∀ n, gT n
  | 0 => z_laws_Sink
  | 1 => z_impl_Sink
  | 2 => z_laws_Disk
  | 3 => z_impl_Disk
  | 4 => z_laws_Entry
  | 5 => z_laws_Cmd
  | 6 => z_laws_Log
  | 7 => z_impl_Entry
  | 8 => z_impl_Cmd
  | 9 => z_impl_Log
  | 10 => z_spec_l1Cur
  | (n + 11) => ()
theorem gun_z : ∀ n, gun n (gz n) = zeroJs gz (gfs n)
  | 0 => rfl
  | 1 => rfl
  | 2 => rfl
  | 3 => rfl
  | 4 => rfl
  | 5 => rfl
  | 6 => rfl
  | 7 => rfl
  | 8 => rfl
  | 9 => rfl
  | 10 => rfl
  | (n + 11) => rfl
def gsz : Nat → Nat
  | 0 => 2
  | 1 => 2
  | 2 => 2
  | 3 => 2
  | 4 => 4
  | 5 => 3
  | 6 => 3
  | 7 => 4
  | 8 => 3
  | 9 => 3
  | 10 => 3
  | _ => 0
theorem gsz_eq : ∀ n, gsz n = FT.szs gsz (gfs n)
  | 0 => rfl
  | 1 => rfl
  | 2 => rfl
  | 3 => rfl
  | 4 => rfl
  | 5 => rfl
  | 6 => rfl
  | 7 => rfl
  | 8 => rfl
  | 9 => rfl
  | 10 => rfl
  | (n + 11) => rfl
def gfl : Nat → Bool
  | 0 => true
  | 1 => true
  | 2 => false
  | 3 => false
  | 4 => true
  | 5 => true
  | 6 => false
  | 7 => true
  | 8 => true
  | 9 => false
  | 10 => false
  | _ => true
theorem gfl_eq : ∀ n, gfl n = true → FT.flats gfl (gfs n) = true
  | 0, h => rfl
  | 1, h => rfl
  | 2, h => by cases h
  | 3, h => by cases h
  | 4, h => rfl
  | 5, h => rfl
  | 6, h => by cases h
  | 7, h => rfl
  | 8, h => rfl
  | 9, h => by cases h
  | 10, h => by cases h
  | (n + 11), _ => rfl
def gam : Gam := ⟨gT, gfs, gun, gpk, gun_pk, gpk_un, gz, gun_z, gsz, gsz_eq, gfl, gfl_eq⟩
def tyL : List (Nat × FT) := [(2, (.int .i64)), (3, (.int .i64)), (4, .bool), (5, (.int .u8)), (9, .str), (31, (.sl (.int .u8))), (37, (.nm 2)), (40, (.nm 3)), (63, (.sl (.nm 4))), (65, (.nm 6)), (69, (.sl (.nm 7))), (71, (.nm 9)), (85, (.nm 8)), (87, (.nm 7)), (95, (.nm 5)), (97, (.nm 4))]
def keyL : List KeyI := [
  ⟨0, [], [.val 0 (.leaf false (.sl (.int .u8))), .val 1 (.leaf false (.int .i64))]⟩,
  ⟨1, [], [.val 0 (.leaf false (.nm 2))]⟩,
  ⟨2, [], [.val 0 (.leaf false (.nm 2)), .val 1 (.leaf false (.sl (.int .u8)))]⟩,
  ⟨3, [], [.val 0 (.leaf false (.nm 6))]⟩,
  ⟨4, [], [.val 0 (.leaf false (.sl (.int .u8)))]⟩,
  ⟨4, [true, true, false, true, false], [.val 0 (.leaf false (.sl (.int .u8))), .own 3 48 (.leaf true (.sl (.int .u8))), .val 4 (.leaf false (.int .i64))]⟩,
  ⟨5, [], [.val 0 (.leaf false (.sl (.int .u8))), .val 1 (.leaf false (.int .i64))]⟩,
  ⟨6, [], [.val 0 (.leaf false (.sl (.int .u8))), .val 1 (.leaf false (.int .i64))]⟩,
  ⟨7, [], [.val 0 (.leaf false (.sl (.int .u8))), .val 1 (.leaf false (.sl (.int .u8)))]⟩,
  ⟨7, [true, true, false, true, false], [.val 0 (.leaf false (.sl (.int .u8))), .val 1 (.leaf false (.sl (.int .u8))), .val 5 (.leaf false (.int .i64))]⟩,
  ⟨8, [], [.val 0 (.leaf false (.nm 2)), .val 1 (.leaf false (.int .i64))]⟩,
  ⟨9, [], [.val 0 (.leaf false (.nm 2))]⟩,
  ⟨10, [], [.val 0 (.leaf false (.nm 3))]⟩,
  ⟨11, [], [.val 0 (.leaf false (.nm 3))]⟩,
  ⟨12, [], [.val 0 (.leaf false (.nm 3)), .val 1 (.leaf false (.nm 3))]⟩,
  ⟨13, [], [.own 0 0 (.leaf true (.nm 3)), .val 1 (.leaf false (.int .i64))]⟩,
  ⟨14, [], [.val 0 (.leaf false (.nm 3)), .val 1 (.leaf false (.int .i64))]⟩,
  ⟨15, [], [.val 0 (.leaf false (.nm 3)), .val 1 (.leaf false (.sl (.int .u8)))]⟩,
  ⟨16, [], [.val 0 (.leaf false (.nm 3)), .val 1 (.leaf false (.sl (.int .u8)))]⟩,
  ⟨17, [], [.own 0 0 (.leaf true (.sl (.int .u8))), .val 1 (.leaf false (.int .i64))]⟩,
  ⟨17, [true, false, true, false], [.own 0 0 (.leaf true (.sl (.int .u8))), .val 1 (.leaf false (.int .i64)), .val 5 (.leaf false (.int .i64))]⟩,
  ⟨18, [], [.val 0 (.leaf false (.nm 6)), .val 1 (.leaf false (.int .i64))]⟩,
  ⟨19, [], [.val 0 (.leaf false (.nm 6))]⟩,
  ⟨20, [], [.val 0 (.leaf false (.nm 9))]⟩,
  ⟨21, [], [.val 0 (.leaf false (.nm 9))]⟩,
  ⟨22, [], [.val 0 (.leaf false (.nm 9)), .val 1 (.leaf false (.nm 9))]⟩,
  ⟨23, [], [.val 0 (.leaf false (.sl (.int .u8))), .val 1 (.leaf false (.int .i64))]⟩,
  ⟨23, [true, true, false, true, false], [.val 0 (.leaf false (.sl (.int .u8))), .val 1 (.leaf false (.int .i64)), .val 7 (.leaf false (.int .i64)), .val 8 (.leaf false (.int .i64))]⟩,
  ⟨24, [], [.val 0 (.leaf false (.sl (.int .u8))), .val 1 (.leaf false (.int .i64))]⟩,
  ⟨24, [true, true, true, false, true, false], [.val 0 (.leaf false (.sl (.int .u8))), .val 1 (.leaf false (.int .i64)), .val 7 (.leaf false (.int .i64)), .val 8 (.leaf false (.int .i64))]⟩,
  ⟨25, [], [.val 0 (.leaf false (.sl (.int .u8))), .val 1 (.leaf false (.int .i64))]⟩,
  ⟨26, [], [.val 0 (.leaf false (.nm 3))]⟩,
  ⟨27, [], [.val 0 (.leaf false (.nm 3))]⟩,
  ⟨28, [], [.val 0 (.leaf false (.nm 3))]⟩,
  ⟨29, [], [.val 0 (.leaf false (.nm 3))]⟩,
  ⟨30, [], [.val 0 (.leaf false (.sl (.int .u8))), .val 1 (.leaf false (.int .i64))]⟩,
  ⟨30, [true, false, true, false], [.val 0 (.leaf false (.sl (.int .u8))), .val 1 (.leaf false (.int .i64)), .val 5 (.leaf false (.int .i64))]⟩,
  ⟨31, [], [.val 0 (.leaf false (.sl (.nm 4))), .val 1 (.leaf false (.int .i64))]⟩,
  ⟨31, [true, true, true, false, true, false], [.val 0 (.leaf false (.sl (.nm 4))), .val 1 (.leaf false (.int .i64)), .val 5 (.leaf false (.int .i64))]⟩,
  ⟨32, [], [.val 0 (.leaf false (.sl (.nm 4)))]⟩,
  ⟨32, [true, true, false, true, false], [.val 0 (.leaf false (.sl (.nm 4))), .own 3 48 (.leaf true (.sl (.nm 7))), .val 4 (.leaf false (.int .i64))]⟩,
  ⟨33, [], [.val 0 (.leaf false (.sl (.nm 7))), .val 1 (.leaf false (.sl (.nm 7)))]⟩,
  ⟨33, [true, true, false, true, false], [.val 0 (.leaf false (.sl (.nm 7))), .val 1 (.leaf false (.sl (.nm 7))), .val 5 (.leaf false (.int .i64))]⟩,
  ⟨34, [], [.val 0 (.leaf false (.int .i64)), .val 1 (.leaf false (.int .i64)), .val 2 (.leaf false (.int .i64))]⟩,
  ⟨35, [], [.val 0 (.leaf false (.int .i64)), .val 1 (.leaf false (.int .i64)), .val 2 (.leaf false (.int .i64))]⟩,
  ⟨36, [], [.val 0 (.leaf false (.sl (.int .u8)))]⟩,
  ⟨37, [], [.val 0 (.leaf false (.nm 4)), .val 1 (.leaf false (.int .i64))]⟩,
  ⟨38, [], [.val 0 (.leaf false (.nm 4))]⟩,
  ⟨39, [], [.val 0 (.leaf false (.nm 7)), .val 1 (.leaf false (.nm 7))]⟩,
  ⟨40, [], [.val 0 (.leaf false (.nm 5)), .val 1 (.leaf false (.int .i64))]⟩,
  ⟨41, [], [.val 0 (.leaf false (.nm 5))]⟩,
  ⟨42, [], [.val 0 (.leaf false (.nm 8)), .val 1 (.leaf false (.nm 8))]⟩]
noncomputable def entL : List EntI := [
  ⟨8, bodyOf Try.f8, Try.f8.results.toList, [.val (.leaf false (.sl (.int .u8))), .val (.leaf false (.int .i64))], [.leaf false .bool], [], [(17, 1), (24, 1), (47, 1)], 50, [], false⟩,
  ⟨12, bodyOf Try.f12, Try.f12.results.toList, [.val (.leaf false (.nm 2))], [.leaf false .bool], [], [(17, 1), (18, 1), (29, 1), (55, 1), (56, 1)], 69, [], false⟩,
  ⟨13, bodyOf Try.f13, Try.f13.results.toList, [.val (.leaf false (.nm 2)), .val (.leaf false (.sl (.int .u8)))], [.leaf false .bool], [], [(27, 1), (29, 1), (30, 1), (54, 1), (59, 1), (94, 1), (96, 1), (97, 1)], 117, [], false⟩,
  ⟨14, bodyOf Try.f14, Try.f14.results.toList, [.val (.leaf false (.nm 6))], [.leaf false .bool], [], [(16, 1), (21, 1), (37, 1)], 40, [], false⟩,
  ⟨22, bodyOf Try.f22, Try.f22.results.toList, [.val (.leaf false (.sl (.int .u8)))], [.leaf true (.sl (.int .u8))], [], [], 22, [(58, 5)], false⟩,
  ⟨33, bodyOf Try.f33, Try.f33.results.toList, [.val (.leaf false (.sl (.int .u8))), .val (.leaf false (.int .i64))], [.leaf false .str, .leaf false (.int .i64), .leaf false .bool], [], [], 37, [], false⟩,
  ⟨34, bodyOf Try.f34, Try.f34.results.toList, [.val (.leaf false (.sl (.int .u8))), .val (.leaf false (.int .i64))], [.leaf false .str, .leaf false (.int .i64), .leaf false .bool], [], [], 37, [], false⟩,
  ⟨24, bodyOf Try.f24, Try.f24.results.toList, [.val (.leaf false (.sl (.int .u8))), .val (.leaf false (.sl (.int .u8)))], [.leaf false .bool], [], [], 26, [(58, 9)], false⟩,
  ⟨25, bodyOf Try.f25, Try.f25.results.toList, [.val (.leaf false (.nm 2)), .val (.leaf false (.int .i64))], [.leaf false (.int .i64)], [], [], 12, [], false⟩,
  ⟨27, bodyOf Try.f27, Try.f27.results.toList, [.val (.leaf false (.nm 2))], [.leaf true (.nm 3)], [], [], 12, [], false⟩,
  ⟨44, bodyOf Try.f44, Try.f44.results.toList, [.val (.leaf false (.nm 3))], [.leaf false (.nm 3)], [], [(5, 1)], 13, [], false⟩,
  ⟨45, bodyOf Try.f45, Try.f45.results.toList, [.val (.leaf false (.nm 3))], [.leaf true (.nm 3)], [], [], 13, [], false⟩,
  ⟨29, bodyOf Try.f29, Try.f29.results.toList, [.val (.leaf false (.nm 3)), .val (.leaf false (.nm 3))], [.leaf false .bool], [], [], 16, [], false⟩,
  ⟨46, bodyOf Try.f46, Try.f46.results.toList, [.io (.leaf true (.nm 3)), .val (.leaf false (.int .i64))], [.leaf false (.int .i64)], [(32, .orig 0)], [], 10, [], false⟩,
  ⟨47, bodyOf Try.f47, Try.f47.results.toList, [.val (.leaf false (.nm 3)), .val (.leaf false (.int .i64))], [.leaf false (.int .i64)], [], [], 12, [], false⟩,
  ⟨48, bodyOf Try.f48, Try.f48.results.toList, [.val (.leaf false (.nm 3)), .val (.leaf false (.sl (.int .u8)))], [.leaf false (.nm 3), .leaf false .bool], [], [], 28, [], false⟩,
  ⟨49, bodyOf Try.f49, Try.f49.results.toList, [.val (.leaf false (.nm 3)), .val (.leaf false (.sl (.int .u8)))], [.leaf true (.nm 3), .leaf false .bool], [], [], 28, [], false⟩,
  ⟨37, bodyOf Try.f37, Try.f37.results.toList, [.io (.leaf true (.sl (.int .u8))), .val (.leaf false (.int .i64))], [.leaf false (.int .i64)], [(0, .reg)], [], 20, [(26, 20)], false⟩,
  ⟨50, bodyOf Try.f50, Try.f50.results.toList, [.val (.leaf false (.nm 6)), .val (.leaf false (.int .i64))], [.leaf false (.int .i64)], [], [], 12, [], false⟩,
  ⟨52, bodyOf Try.f52, Try.f52.results.toList, [.val (.leaf false (.nm 6))], [.leaf false (.nm 9)], [], [(12, 1)], 15, [], false⟩,
  ⟨51, bodyOf Try.f51, Try.f51.results.toList, [.val (.leaf false (.nm 9))], [.leaf false (.int .i64), .leaf false (.int .i64)], [], [], 25, [], false⟩,
  ⟨53, bodyOf Try.f53, Try.f53.results.toList, [.val (.leaf false (.nm 9))], [.leaf false (.int .i64), .leaf false (.int .i64)], [], [], 27, [], false⟩,
  ⟨54, bodyOf Try.f54, Try.f54.results.toList, [.val (.leaf false (.nm 9)), .val (.leaf false (.nm 9))], [.leaf false .bool], [], [], 21, [], false⟩,
  ⟨59, bodyOf Try.f59, Try.f59.results.toList, [.val (.leaf false (.sl (.int .u8))), .val (.leaf false (.int .i64))], [.leaf false (.int .i64), .leaf false (.int .i64), .leaf false .bool], [], [], 59, [(58, 27)], false⟩,
  ⟨60, bodyOf Try.f60, Try.f60.results.toList, [.val (.leaf false (.sl (.int .u8))), .val (.leaf false (.int .i64))], [.leaf false (.int .i64), .leaf false (.int .i64), .leaf false .bool], [], [], 59, [(122, 29)], false⟩,
  ⟨57, bodyOf Try.f57, Try.f57.results.toList, [.val (.leaf false (.sl (.int .u8))), .val (.leaf false (.int .i64))], [.leaf false (.int .i64)], [], [], 12, [], false⟩,
  ⟨67, bodyOf Try.f67, Try.f67.results.toList, [.val (.leaf false (.nm 3))], [.leaf true (.nm 3)], [], [], 10, [], false⟩,
  ⟨26, bodyOf Try.f26, Try.f26.results.toList, [.val (.leaf false (.nm 3))], [.leaf false .bool], [], [], 15, [], false⟩,
  ⟨68, bodyOf Try.f68, Try.f68.results.toList, [.val (.leaf false (.nm 3))], [.leaf true (.nm 3)], [], [], 9, [], false⟩,
  ⟨28, bodyOf Try.f28, Try.f28.results.toList, [.val (.leaf false (.nm 3))], [.leaf false .bool], [], [], 15, [], false⟩,
  ⟨38, bodyOf Try.f38, Try.f38.results.toList, [.val (.leaf false (.sl (.int .u8))), .val (.leaf false (.int .i64))], [.leaf false (.int .i64)], [], [], 22, [(26, 36)], false⟩,
  ⟨69, bodyOf Try.f69, Try.f69.results.toList, [.val (.leaf false (.sl (.nm 4))), .val (.leaf false (.int .i64))], [.leaf false (.int .i64)], [], [], 27, [(122, 38)], false⟩,
  ⟨70, bodyOf Try.f70, Try.f70.results.toList, [.val (.leaf false (.sl (.nm 4)))], [.leaf false (.sl (.nm 7))], [], [], 23, [(58, 40)], false⟩,
  ⟨71, bodyOf Try.f71, Try.f71.results.toList, [.val (.leaf false (.sl (.nm 7))), .val (.leaf false (.sl (.nm 7)))], [.leaf false .bool], [], [], 27, [(58, 42)], false⟩,
  ⟨58, bodyOf Try.f58, Try.f58.results.toList, [.val (.leaf false (.int .i64)), .val (.leaf false (.int .i64)), .val (.leaf false (.int .i64))], [.leaf false .bool], [], [], 15, [], false⟩,
  ⟨55, bodyOf Try.f55, Try.f55.results.toList, [.val (.leaf false (.int .i64)), .val (.leaf false (.int .i64)), .val (.leaf false (.int .i64))], [.leaf false .bool], [], [], 15, [], false⟩,
  ⟨73, bodyOf Try.f73, Try.f73.results.toList, [.val (.leaf false (.sl (.int .u8)))], [.leaf true (.sl (.int .u8))], [], [], 8, [], false⟩,
  ⟨74, bodyOf Try.f74, Try.f74.results.toList, [.val (.leaf false (.nm 4)), .val (.leaf false (.int .i64))], [.leaf false (.int .i64)], [], [], 12, [], false⟩,
  ⟨75, bodyOf Try.f75, Try.f75.results.toList, [.val (.leaf false (.nm 4))], [.leaf false (.nm 7)], [], [], 12, [], false⟩,
  ⟨76, bodyOf Try.f76, Try.f76.results.toList, [.val (.leaf false (.nm 7)), .val (.leaf false (.nm 7))], [.leaf false .bool], [], [], 16, [], false⟩,
  ⟨78, bodyOf Try.f78, Try.f78.results.toList, [.val (.leaf false (.nm 5)), .val (.leaf false (.int .i64))], [.leaf false (.int .i64)], [], [], 13, [], false⟩,
  ⟨79, bodyOf Try.f79, Try.f79.results.toList, [.val (.leaf false (.nm 5))], [.leaf false (.nm 8)], [], [], 14, [], false⟩,
  ⟨80, bodyOf Try.f80, Try.f80.results.toList, [.val (.leaf false (.nm 8)), .val (.leaf false (.nm 8))], [.leaf false .bool], [], [], 20, [], false⟩]
def callL : CallL := [((8, []), 0), ((12, []), 1), ((13, []), 2), ((14, []), 3), ((22, []), 4), ((33, []), 6), ((34, []), 7), ((24, []), 8), ((25, []), 10), ((27, []), 11), ((44, []), 12), ((45, []), 13), ((29, []), 14), ((46, []), 15), ((47, []), 16), ((48, []), 17), ((49, []), 18), ((37, []), 19), ((50, []), 21), ((52, []), 22), ((51, []), 23), ((53, []), 24), ((54, []), 25), ((59, []), 26), ((60, []), 28), ((57, []), 30), ((67, []), 31), ((26, []), 32), ((68, []), 33), ((28, []), 34), ((38, []), 35), ((69, []), 37), ((70, []), 39), ((71, []), 41), ((58, []), 43), ((55, []), 44), ((73, []), 45), ((74, []), 46), ((75, []), 47), ((76, []), 48), ((78, []), 49), ((79, []), 50), ((80, []), 51)]
noncomputable def tab : Tab where
  G := gam
  ty := lookT tyL
  key k := keyL.getD k ⟨0, [], []⟩
  ent k := entL.getD k ⟨0, .skip, [], [], [], [], [], 0, [], true⟩
  call := lookC callL
  ext _ _ := none
end Go.Proofs.Ytfafpanihhikoaa.E.TA
