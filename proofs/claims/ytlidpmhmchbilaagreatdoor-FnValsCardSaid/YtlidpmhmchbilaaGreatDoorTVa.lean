/- The table of V: structs, types, entries, keys. No condition. -/
import Derived.Test.YtlidpmhmchbilaaGreatDoorEG4
import Derived.Test.YtlidpmhmchbilaaGreatDoorProg
import Derived.KernelRfl
namespace Go.Proofs.YtlidpmhmchbilaaGreatDoor.E.TV
open Go.Proofs.YtlidpmhmchbilaaGreatDoor.E
set_option linter.unusedVariables false
set_option maxRecDepth 100000
structure impl_Val where
  Kind : Int
  N : Int
  S : (_root_.List Int)
def z_impl_Val : impl_Val := ⟨0, 0, []⟩
structure spec_l1Cur where
  b : (_root_.List Int)
  i : Int
  h : Int
def z_spec_l1Cur : spec_l1Cur := ⟨[], 0, 0⟩
def gT : Nat → Type
  | 0 => impl_Val
  | 1 => spec_l1Cur
  | _ => Unit
def gfs : Nat → List FT
  | 0 => [(.int .i64), (.int .i64), .str]
  | 1 => [(.sl (.int .u8)), (.int .i64), (.int .i64)]
  | _ => []
def gun : ∀ n, gT n → Js gT (gfs n)
  | 0, x => (x.Kind, (x.N, (x.S, ())))
  | 1, x => (x.b, (x.i, (x.h, ())))
  | (n + 2), _ => ()
def gpk : ∀ n, Js gT (gfs n) → gT n
  | 0, y => ⟨y.1, y.2.1, y.2.2.1⟩
  | 1, y => ⟨y.1, y.2.1, y.2.2.1⟩
  | (n + 2), _ => ()
theorem gun_pk : ∀ n y, gun n (gpk n y) = y
  | 0, _ => rfl
  | 1, _ => rfl
  | (n + 2), _ => rfl
theorem gpk_un : ∀ n x, gpk n (gun n x) = x
  | 0, x => by cases x; rfl
  | 1, x => by cases x; rfl
  | (n + 2), _ => rfl
def gz : ∀ n, gT n
  | 0 => z_impl_Val
  | 1 => z_spec_l1Cur
  | (n + 2) => ()
theorem gun_z : ∀ n, gun n (gz n) = zeroJs gz (gfs n)
  | 0 => rfl
  | 1 => rfl
  | (n + 2) => rfl
def gsz : Nat → Nat
  | 0 => 3
  | 1 => 3
  | _ => 0
theorem gsz_eq : ∀ n, gsz n = FT.szs gsz (gfs n)
  | 0 => rfl
  | 1 => rfl
  | (n + 2) => rfl
def gfl : Nat → Bool
  | 0 => true
  | 1 => false
  | _ => true
theorem gfl_eq : ∀ n, gfl n = true → FT.flats gfl (gfs n) = true
  | 0, h => rfl
  | 1, h => by cases h
  | (n + 2), _ => rfl
def gam : Gam := ⟨gT, gfs, gun, gpk, gun_pk, gpk_un, gz, gun_z, gsz, gsz_eq, gfl, gfl_eq⟩
def tyL : List (Nat × FT) := [(2, (.int .i64)), (3, (.int .i64)), (4, .bool), (5, (.int .u8)), (6, (.int .u8)), (9, .str), (21, (.int .i32)), (22, (.sl (.int .u8))), (25, (.nm 0)), (55, (.nm 1)), (61, (.sl .str)), (63, (.sl (.int .i64))), (76, (.int .u64)), (83, (.int .u64)), (89, (.int .i64))]
def ifcL : List Nat := [72]
def keyL : List KeyI := [
  ⟨0, [], [.val 0 (.leaf false (.sl (.int .u8)))]⟩,
  ⟨1, [], [.val 0 (.leaf false (.sl (.int .u8)))]⟩,
  ⟨2, [], [.val 0 (.leaf false (.sl (.int .u8)))]⟩,
  ⟨3, [], [.val 0 (.leaf false (.nm 0)), .val 1 (.leaf false (.nm 0))]⟩,
  ⟨4, [], [.val 0 (.leaf false (.sl (.int .u8)))]⟩,
  ⟨5, [], [.val 0 (.leaf false (.sl (.int .u8)))]⟩,
  ⟨6, [], [.val 0 (.leaf false (.sl (.int .u8)))]⟩,
  ⟨7, [], [.val 0 (.leaf false (.sl (.int .u8)))]⟩,
  ⟨8, [], [.val 0 (.leaf false (.nm 0)), .val 1 (.leaf false (.nm 0))]⟩,
  ⟨9, [], [.val 0 (.leaf false (.nm 0))]⟩,
  ⟨10, [], [.val 0 (.leaf false (.nm 0))]⟩,
  ⟨11, [], [.val 0 (.leaf false (.nm 0))]⟩,
  ⟨11, [true, false, true, false, true], [.ptr 1 16, .val 6 (.leaf false (.int .i64)), .val 7 (.leaf false .bool), .slot 16 (.leaf true (.nm 0)) true none]⟩,
  ⟨12, [], [.val 0 (.leaf false (.nm 0))]⟩,
  ⟨12, [true, false, true, false, true], [.ptr 1 16, .val 6 (.leaf false (.int .i64)), .val 7 (.leaf false .bool), .slot 16 (.leaf true (.nm 0)) true none]⟩,
  ⟨13, [], [.val 0 (.leaf false (.nm 0))]⟩,
  ⟨14, [], [.val 0 (.leaf false (.nm 0))]⟩,
  ⟨15, [], [.val 0 (.leaf false (.nm 0))]⟩,
  ⟨15, [true, false, true, false, true], [.ptr 1 16, .val 4 (.leaf false (.int .i64)), .val 5 (.leaf false .bool), .slot 16 (.leaf true (.nm 0)) true none]⟩,
  ⟨16, [], [.val 0 (.leaf false (.nm 0))]⟩,
  ⟨16, [true, false, true, false, true], [.ptr 1 16, .val 4 (.leaf false (.int .i64)), .val 5 (.leaf false .bool), .slot 16 (.leaf true (.nm 0)) true none]⟩,
  ⟨17, [], [.val 0 (.leaf false (.sl (.int .u8)))]⟩,
  ⟨17, [true, true, true, false, true, false, false], [.ptr 3 96, .val 4 (.leaf false .str), .slot 96 (.leaf false (.nm 1)) true none]⟩,
  ⟨18, [], [.val 0 (.leaf false .str)]⟩,
  ⟨19, [], [.val 0 (.leaf false .str)]⟩,
  ⟨19, [true, true], [.ptr 2 32, .val 0 (.leaf false .str), .slot 32 (.leaf true (.nm 0)) true none]⟩,
  ⟨20, [], [.val 0 (.leaf false (.sl (.int .u8)))]⟩,
  ⟨21, [], [.val 0 (.leaf false (.int .i64))]⟩,
  ⟨22, [], [.val 0 (.leaf false (.int .i64))]⟩,
  ⟨22, [true, true, true, true], [.val 0 (.leaf false (.int .i64)), .val 3 (.leaf false .str)]⟩,
  ⟨23, [], [.val 0 (.leaf false (.sl (.int .u8)))]⟩,
  ⟨23, [true, true, false, true, false], [.val 0 (.leaf false (.sl (.int .u8))), .val 3 (.leaf false (.int .i64)), .val 4 (.leaf false (.int .i64))]⟩,
  ⟨24, [], [.ptr 0 0, .slot 0 (.leaf false (.nm 1)) true none]⟩,
  ⟨25, [], [.ptr 0 0, .slot 0 (.leaf false (.nm 1)) true none, .val 1 (.leaf false (.int .i64))]⟩,
  ⟨26, [], [.val 0 (.leaf false .str), .val 1 (.leaf false .str)]⟩,
  ⟨27, [], [.val 0 (.leaf false .bool)]⟩,
  ⟨28, [], [.val 0 (.leaf false .str)]⟩,
  ⟨29, [], [.val 0 (.leaf false (.int .i64)), .val 1 (.leaf false (.int .i64)), .val 2 (.leaf false (.int .i64))]⟩,
  ⟨30, [], [.val 0 (.leaf false (.int .i64))]⟩,
  ⟨31, [], [.val 0 (.leaf false .str)]⟩,
  ⟨31, [true, true, true, false, false], [.val 0 (.leaf false .str), .val 4 (.leaf false (.int .i64)), .val 5 (.leaf false (.int .i64))]⟩,
  ⟨32, [], [.val 0 (.leaf false .str)]⟩,
  ⟨32, [true, true, true, true], [.val 0 (.leaf false .str), .val 4 (.leaf false (.int .i64)), .val 5 (.leaf false .bool)]⟩,
  ⟨32, [true, true, true, true, true, true, true, true, true], [.val 4 (.leaf false (.int .i64)), .val 5 (.leaf false .bool), .val 7 (.leaf false .str), .val 8 (.leaf false .str)]⟩,
  ⟨33, [], [.val 0 (.leaf false .str)]⟩,
  ⟨33, [true, true, false, false], [.val 0 (.leaf false .str), .val 4 (.leaf false (.int .i64))]⟩,
  ⟨33, [true, true, true, true, true], [.val 0 (.leaf false .str), .val 4 (.leaf false (.int .i64)), .val 5 (.leaf false .bool)]⟩,
  ⟨33, [true, true, true, true, true, true, false, false], [.val 0 (.leaf false .str), .val 4 (.leaf false (.int .i64)), .val 5 (.leaf false .bool), .val 6 (.leaf false (.int .i64)), .val 7 (.leaf false (.int .i64))]⟩,
  ⟨33, [true, true, true, true, true, true, true, false, true, false, true, true, false], [.val 0 (.leaf false .str), .val 4 (.leaf false (.int .i64)), .val 5 (.leaf false .bool), .val 6 (.leaf false (.int .i64)), .val 7 (.leaf false (.int .i64)), .val 8 (.leaf false (.int .i64))]⟩,
  ⟨33, [true, true, true, true, true, true, true, true], [.val 4 (.leaf false (.int .i64)), .val 5 (.leaf false .bool), .val 6 (.leaf false (.int .i64)), .val 7 (.leaf false (.int .i64))]⟩,
  ⟨34, [], [.val 0 (.leaf false (.int .i64))]⟩,
  ⟨34, [true, true, true, true, true, false, true, false, true, false, false], [.val 0 (.leaf false (.int .i64)), .val 4 (.leaf false .str), .val 6 (.leaf false .str)]⟩,
  ⟨34, [true, true, true, true, true, true], [.val 0 (.leaf false (.int .i64)), .val 4 (.leaf false .str)]⟩,
  ⟨35, [], [.ptr 0 0, .slot 0 (.leaf false (.nm 1)) true none]⟩,
  ⟨36, [], [.ptr 0 0, .slot 0 (.leaf false (.nm 1)) true none, .val 1 (.leaf false (.int .i64))]⟩,
  ⟨37, [], [.val 0 (.leaf false .str)]⟩,
  ⟨38, [], [.val 0 (.leaf false .str)]⟩,
  ⟨39, [], [.ptr 0 0, .slot 0 (.leaf false (.nm 1)) true none]⟩,
  ⟨40, [], [.val 0 (.leaf false (.int .i64)), .val 1 (.leaf false (.int .i64)), .val 2 (.leaf false (.int .i64))]⟩,
  ⟨41, [], [.val 0 (.leaf false (.int .i64))]⟩,
  ⟨42, [], [.val 0 (.leaf false .str), .val 1 (.leaf false .str)]⟩,
  ⟨43, [], [.ptr 0 0, .slot 0 (.leaf false (.nm 1)) true none]⟩,
  ⟨44, [], [.val 0 (.leaf false .str), .val 1 (.leaf false .str)]⟩,
  ⟨45, [], [.val 0 (.leaf false .str), .val 1 (.leaf false .str)]⟩,
  ⟨46, [], [.val 0 (.leaf false .str), .val 1 (.leaf false .str)]⟩,
  ⟨47, [], [.val 0 (.leaf false .str), .val 1 (.leaf false (.int .i64))]⟩,
  ⟨47, [true, true, false, false], [.val 0 (.leaf false .str), .val 1 (.leaf false (.int .i64)), .val 5 (.leaf false (.int .i64))]⟩,
  ⟨48, [], [.val 0 (.leaf false .str), .val 1 (.leaf false .str)]⟩,
  ⟨49, [], [.val 0 (.leaf false (.int .u8))]⟩,
  ⟨50, [], [.val 0 (.leaf false (.int .i64))]⟩,
  ⟨51, [], [.val 0 (.leaf false (.int .i64))]⟩,
  ⟨51, [true, true, true, false, false], [.val 0 (.leaf false (.int .i64)), .val 3 (.leaf false .str)]⟩,
  ⟨52, [], [.ptr 0 0, .slot 0 (.leaf false (.nm 1)) true none, .val 1 (.leaf false (.sl .str))]⟩,
  ⟨53, [], [.ptr 0 0, .slot 0 (.leaf false (.nm 1)) true none]⟩,
  ⟨54, [], [.ptr 0 0, .slot 0 (.leaf false (.nm 1)) true none]⟩,
  ⟨55, [], [.ptr 0 0, .slot 0 (.leaf false (.nm 1)) true none, .val 1 (.leaf false (.sl (.int .i64)))]⟩,
  ⟨56, [], [.val 0 (.leaf false .str), .val 1 (.leaf false (.int .u8))]⟩,
  ⟨56, [true, false, false], [.val 0 (.leaf false .str), .val 1 (.leaf false (.int .u8))]⟩,
  ⟨57, [], [.val 0 (.leaf false .str), .val 1 (.leaf false .str)]⟩,
  ⟨58, [], [.val 0 (.leaf false .str), .val 1 (.leaf false (.int .u8))]⟩,
  ⟨58, [true, false, false], [.val 0 (.leaf false .str), .val 1 (.leaf false (.int .u8))]⟩,
  ⟨59, [], [.val 0 (.leaf false .str)]⟩,
  ⟨60, [], [.val 0 (.leaf false (.int .i64))]⟩,
  ⟨61, [], [.val 0 (.leaf false .str)]⟩,
  ⟨61, [true, true, false, true, false, true, true], [.val 0 (.leaf false .str), .val 5 (.leaf false .str)]⟩,
  ⟨61, [true, true, false, true, false, true, true, true, false, true, false], [.val 5 (.leaf false .str), .val 6 (.leaf false (.int .i64)), .val 47 (.leaf false (.sl (.int .u8))), .val 48 (.leaf false (.int .i64)), .val 49 (.leaf false (.int .i64))]⟩,
  ⟨62, [], [.val 0 (.leaf false .str), .val 1 (.leaf false (.int .i64)), .val 2 (.leaf false (.int .i64))]⟩,
  ⟨62, [true, true, true, true], [.val 0 (.leaf false .str), .val 1 (.leaf false (.int .i64)), .val 2 (.leaf false (.int .i64)), .val 8 (.leaf false .bool)]⟩,
  ⟨62, [true, true, true, true, true, true, true, true], [.val 2 (.leaf false (.int .i64)), .val 8 (.leaf false .bool), .val 9 (.leaf false (.int .u64))]⟩,
  ⟨63, [], [.val 0 (.leaf false .str), .val 1 (.leaf false (.int .i64)), .val 2 (.leaf false (.int .i64))]⟩,
  ⟨63, [true, true, true, true, true], [.val 0 (.leaf false .str), .val 1 (.leaf false (.int .i64)), .val 2 (.leaf false (.int .i64)), .val 8 (.leaf false .bool), .val 9 (.leaf false .str)]⟩,
  ⟨63, [true, true, true, true, true, true], [.val 0 (.leaf false .str), .val 1 (.leaf false (.int .i64)), .val 2 (.leaf false (.int .i64)), .val 8 (.leaf false .bool), .val 9 (.leaf false .str)]⟩,
  ⟨63, [true, true, true, true, true, true, true, true], [.val 0 (.leaf false .str), .val 1 (.leaf false (.int .i64)), .val 2 (.leaf false (.int .i64)), .val 8 (.leaf false .bool), .val 9 (.leaf false .str), .val 10 (.leaf false (.int .u64))]⟩,
  ⟨63, [true, true, true, true, true, true, true, true, true, true, true, false, true, false], [.val 1 (.leaf false (.int .i64)), .val 8 (.leaf false .bool), .val 9 (.leaf false .str), .val 10 (.leaf false (.int .u64)), .val 11 (.leaf false (.int .u64)), .val 12 (.leaf false .bool), .val 13 (.leaf false (.int .u64)), .val 99 (.leaf false (.sl (.int .u8))), .val 100 (.leaf false (.int .i64)), .val 101 (.leaf false (.int .i64))]⟩,
  ⟨63, [true, true, true, true, true, true, true, true, true, true, true, false, true, false, false, true, true, false, false, true, true, true], [.val 1 (.leaf false (.int .i64)), .val 8 (.leaf false .bool), .val 9 (.leaf false .str), .val 10 (.leaf false (.int .u64)), .val 11 (.leaf false (.int .u64)), .val 12 (.leaf false .bool), .val 13 (.leaf false (.int .u64)), .val 16 (.leaf false (.int .u8)), .val 99 (.leaf false (.sl (.int .u8))), .val 100 (.leaf false (.int .i64)), .val 101 (.leaf false (.int .i64))]⟩,
  ⟨64, [], [.val 0 (.leaf false (.int .u8))]⟩,
  ⟨65, [], [.val 0 (.leaf false .str)]⟩,
  ⟨65, [true, true, true, true], [.val 0 (.leaf false .str), .val 3 (.leaf false (.int .i32)), .val 4 (.leaf false (.int .i64))]⟩,
  ⟨65, [true, true, true, true, true, true], [.val 0 (.leaf false .str), .val 3 (.leaf false (.int .i32)), .val 4 (.leaf false (.int .i64)), .val 5 (.leaf false .bool)]⟩,
  ⟨65, [true, true, true, true, true, true, false, false], [.val 0 (.leaf false .str), .val 3 (.leaf false (.int .i32)), .val 4 (.leaf false (.int .i64)), .val 5 (.leaf false .bool)]⟩]
noncomputable def entL : List EntI := [
  ⟨3, bodyOf Tryz.f3, Tryz.f3.results.toList, [.val (.leaf false (.sl (.int .u8)))], [.leaf false .bool], [], [], 104, [], false⟩,
  ⟨4, bodyOf Tryz.f4, Tryz.f4.results.toList, [.val (.leaf false (.sl (.int .u8)))], [.leaf false .bool], [], [], 6, [], false⟩,
  ⟨5, bodyOf Tryz.f5, Tryz.f5.results.toList, [.val (.leaf false (.sl (.int .u8)))], [.leaf false (.nm 0), .leaf false (.nm 0)], [], [(7, 1)], 17, [], false⟩,
  ⟨6, bodyOf Tryz.f6, Tryz.f6.results.toList, [.val (.leaf false (.nm 0)), .val (.leaf false (.nm 0))], [.leaf false (.int .i64)], [], [], 32, [], false⟩,
  ⟨7, bodyOf Tryz.f7, Tryz.f7.results.toList, [.val (.leaf false (.sl (.int .u8)))], [.leaf false (.nm 0)], [], [(4, 1)], 6, [], false⟩,
  ⟨8, bodyOf Tryz.f8, Tryz.f8.results.toList, [.val (.leaf false (.sl (.int .u8)))], [.leaf false (.nm 0)], [], [(4, 1)], 6, [], false⟩,
  ⟨9, bodyOf Tryz.f9, Tryz.f9.results.toList, [.val (.leaf false (.sl (.int .u8)))], [.leaf false (.nm 0)], [], [(4, 1)], 6, [], false⟩,
  ⟨10, bodyOf Tryz.f10, Tryz.f10.results.toList, [.val (.leaf false (.sl (.int .u8)))], [.leaf false (.nm 0)], [], [(4, 1)], 6, [], false⟩,
  ⟨11, bodyOf Tryz.f11, Tryz.f11.results.toList, [.val (.leaf false (.nm 0)), .val (.leaf false (.nm 0))], [.leaf false (.int .i64)], [], [], 38, [], false⟩,
  ⟨12, bodyOf Tryz.f12, Tryz.f12.results.toList, [.val (.leaf false (.nm 0))], [.leaf false .bool], [], [], 52, [], false⟩,
  ⟨13, bodyOf Tryz.f13, Tryz.f13.results.toList, [.val (.leaf false (.nm 0))], [.leaf false .bool], [], [], 56, [], false⟩,
  ⟨14, bodyOf Tryz.f14, Tryz.f14.results.toList, [.val (.leaf false (.nm 0))], [.leaf false (.int .i64)], [], [], 21, [(53, 12)], false⟩,
  ⟨15, bodyOf Tryz.f15, Tryz.f15.results.toList, [.val (.leaf false (.nm 0))], [.leaf false (.int .i64)], [], [], 21, [(53, 14)], false⟩,
  ⟨16, bodyOf Tryz.f16, Tryz.f16.results.toList, [.val (.leaf false (.nm 0))], [.leaf false .str], [], [], 11, [], false⟩,
  ⟨17, bodyOf Tryz.f17, Tryz.f17.results.toList, [.val (.leaf false (.nm 0))], [.leaf false .str], [], [], 11, [], false⟩,
  ⟨18, bodyOf Tryz.f18, Tryz.f18.results.toList, [.val (.leaf false (.nm 0))], [.leaf false .bool], [], [], 16, [(53, 18)], false⟩,
  ⟨19, bodyOf Tryz.f19, Tryz.f19.results.toList, [.val (.leaf false (.nm 0))], [.leaf false .bool], [], [], 16, [(53, 20)], false⟩,
  ⟨20, bodyOf Tryz.f20, Tryz.f20.results.toList, [.val (.leaf false (.sl (.int .u8)))], [.leaf false .str], [], [(6, 1)], 20, [(244, 22)], false⟩,
  ⟨21, bodyOf Tryz.f21, Tryz.f21.results.toList, [.val (.leaf false .str)], [.leaf false (.nm 0)], [], [], 18, [], false⟩,
  ⟨22, bodyOf Tryz.f22, Tryz.f22.results.toList, [.val (.leaf false .str)], [.leaf false (.nm 0)], [], [], 21, [(7, 25)], false⟩,
  ⟨23, bodyOf Tryz.f23, Tryz.f23.results.toList, [.val (.leaf false (.sl (.int .u8)))], [.leaf false (.int .i64)], [], [(4, 1)], 6, [], false⟩,
  ⟨24, bodyOf Tryz.f24, Tryz.f24.results.toList, [.val (.leaf false (.int .i64))], [.leaf false .bool], [], [], 5, [], false⟩,
  ⟨25, bodyOf Tryz.f25, Tryz.f25.results.toList, [.val (.leaf false (.int .i64))], [.leaf false .str], [], [], 31, [(31, 29)], false⟩,
  ⟨26, bodyOf Tryz.f26, Tryz.f26.results.toList, [.val (.leaf false (.sl (.int .u8)))], [.pr (.hole 0) (.leaf false (.nm 1))], [], [(30, 1)], 32, [(58, 31)], false⟩,
  ⟨27, bodyOf Tryz.f27, Tryz.f27.results.toList, [.ptr (.leaf false (.nm 1)) (.leaf false (.nm 1))], [.leaf false (.nm 0)], [(0, .box)], [], 26, [], false⟩,
  ⟨28, bodyOf Tryz.f28, Tryz.f28.results.toList, [.ptr (.leaf false (.nm 1)) (.leaf false (.nm 1)), .val (.leaf false (.int .i64))], [.leaf false .bool], [(0, .box)], [], 9, [], false⟩,
  ⟨29, bodyOf Tryz.f29, Tryz.f29.results.toList, [.val (.leaf false .str), .val (.leaf false .str)], [.leaf false (.int .i64)], [], [], 8, [], false⟩,
  ⟨30, bodyOf Tryz.f30, Tryz.f30.results.toList, [.val (.leaf false .bool)], [.leaf false (.int .i64)], [], [], 4, [], false⟩,
  ⟨31, bodyOf Tryz.f31, Tryz.f31.results.toList, [.val (.leaf false .str)], [.leaf false (.int .i64), .leaf false .bool], [], [], 21, [], false⟩,
  ⟨32, bodyOf Tryz.f32, Tryz.f32.results.toList, [.val (.leaf false (.int .i64)), .val (.leaf false (.int .i64)), .val (.leaf false (.int .i64))], [.leaf false .bool], [], [], 15, [], false⟩,
  ⟨33, bodyOf Tryz.f33, Tryz.f33.results.toList, [.val (.leaf false (.int .i64))], [.leaf false .bool], [], [], 5, [], false⟩,
  ⟨34, bodyOf Tryz.f34, Tryz.f34.results.toList, [.val (.leaf false .str)], [.leaf false (.int .i64), .leaf false .bool], [], [], 24, [(60, 40)], false⟩,
  ⟨35, bodyOf Tryz.f35, Tryz.f35.results.toList, [.val (.leaf false .str)], [.leaf false (.int .i64), .leaf false (.int .i64)], [], [], 99, [(31, 42), (1023, 43)], false⟩,
  ⟨36, bodyOf Tryz.f36, Tryz.f36.results.toList, [.val (.leaf false .str)], [.leaf false (.int .i64), .leaf false (.int .i64)], [], [], 131, [(28, 45), (63, 46), (508, 47), (16342, 48), (511, 49)], false⟩,
  ⟨37, bodyOf Tryz.f37, Tryz.f37.results.toList, [.val (.leaf false (.int .i64))], [.leaf false .str], [], [], 43, [(4052, 51), (127, 52)], false⟩,
  ⟨38, bodyOf Tryz.f38, Tryz.f38.results.toList, [.ptr (.leaf false (.nm 1)) (.leaf false (.nm 1))], [.leaf false .str], [(0, .box)], [(6, 1), (13, 1), (29, 1), (44, 1)], 47, [], false⟩,
  ⟨39, bodyOf Tryz.f39, Tryz.f39.results.toList, [.ptr (.leaf false (.nm 1)) (.leaf false (.nm 1)), .val (.leaf false (.int .i64))], [.leaf false (.int .i64)], [(0, .box)], [], 37, [], false⟩,
  ⟨40, bodyOf Tryz.f40, Tryz.f40.results.toList, [.val (.leaf false .str)], [.leaf false .str], [], [], 8, [], false⟩,
  ⟨41, bodyOf Tryz.f41, Tryz.f41.results.toList, [.val (.leaf false .str)], [.leaf false (.nm 0)], [], [], 5, [], false⟩,
  ⟨42, bodyOf Tryz.f42, Tryz.f42.results.toList, [.ptr (.leaf false (.nm 1)) (.leaf false (.nm 1))], [.leaf false (.int .i64)], [(0, .box)], [(6, 1)], 10, [], false⟩,
  ⟨43, bodyOf Tryz.f43, Tryz.f43.results.toList, [.val (.leaf false (.int .i64)), .val (.leaf false (.int .i64)), .val (.leaf false (.int .i64))], [.leaf false .bool], [], [], 15, [], false⟩,
  ⟨44, bodyOf Tryz.f44, Tryz.f44.results.toList, [.val (.leaf false (.int .i64))], [.leaf false .str], [], [], 5, [], true⟩,
  ⟨45, bodyOf Tryz.f45, Tryz.f45.results.toList, [.val (.leaf false .str), .val (.leaf false .str)], [.leaf false .str], [], [], 37, [], false⟩,
  ⟨46, bodyOf Tryz.f46, Tryz.f46.results.toList, [.ptr (.leaf false (.nm 1)) (.leaf false (.nm 1))], [.leaf false (.nm 0)], [(0, .box)], [(16, 1), (20, 1)], 23, [], false⟩,
  ⟨47, bodyOf Tryz.f47, Tryz.f47.results.toList, [.val (.leaf false .str), .val (.leaf false .str)], [.leaf false (.int .i64)], [], [], 8, [], false⟩,
  ⟨48, bodyOf Tryz.f48, Tryz.f48.results.toList, [.val (.leaf false .str), .val (.leaf false .str)], [.leaf false .str], [], [], 43, [], false⟩,
  ⟨49, bodyOf Tryz.f49, Tryz.f49.results.toList, [.val (.leaf false .str), .val (.leaf false .str)], [.leaf false .str], [], [], 37, [], false⟩,
  ⟨50, bodyOf Tryz.f50, Tryz.f50.results.toList, [.val (.leaf false .str), .val (.leaf false (.int .i64))], [.leaf false (.int .i64)], [], [], 31, [(28, 66)], false⟩,
  ⟨51, bodyOf Tryz.f51, Tryz.f51.results.toList, [.val (.leaf false .str), .val (.leaf false .str)], [.leaf false (.int .i64), .leaf false .bool], [], [], 28, [], false⟩,
  ⟨52, bodyOf Tryz.f52, Tryz.f52.results.toList, [.val (.leaf false (.int .u8))], [.leaf false .bool], [], [], 9, [], false⟩,
  ⟨53, bodyOf Tryz.f53, Tryz.f53.results.toList, [.val (.leaf false (.int .i64))], [.leaf false (.int .i64)], [], [], 8, [], false⟩,
  ⟨54, bodyOf Tryz.f54, Tryz.f54.results.toList, [.val (.leaf false (.int .i64))], [.leaf false .str], [], [(12, 1)], 19, [(60, 71)], false⟩,
  ⟨55, bodyOf Tryz.f55, Tryz.f55.results.toList, [.ptr (.leaf false (.nm 1)) (.leaf false (.nm 1)), .val (.leaf false (.sl .str))], [.leaf false .str], [(0, .box)], [], 12, [], false⟩,
  ⟨56, bodyOf Tryz.f56, Tryz.f56.results.toList, [.ptr (.leaf false (.nm 1)) (.leaf false (.nm 1))], [.leaf false (.int .i64)], [(0, .box)], [(4, 1)], 6, [], false⟩,
  ⟨57, bodyOf Tryz.f57, Tryz.f57.results.toList, [.ptr (.leaf false (.nm 1)) (.leaf false (.nm 1))], [.leaf false (.int .i64)], [(0, .box)], [], 58, [], false⟩,
  ⟨58, bodyOf Tryz.f58, Tryz.f58.results.toList, [.ptr (.leaf false (.nm 1)) (.leaf false (.nm 1)), .val (.leaf false (.sl (.int .i64)))], [.leaf false (.int .i64)], [(0, .box)], [], 12, [], false⟩,
  ⟨60, bodyOf Tryz.f60, Tryz.f60.results.toList, [.val (.leaf false .str), .val (.leaf false (.int .u8))], [.leaf false .str], [], [], 23, [(12, 77)], false⟩,
  ⟨64, bodyOf Tryz.f64, Tryz.f64.results.toList, [.val (.leaf false .str), .val (.leaf false .str)], [.leaf false (.int .i64)], [], [], 2, [], true⟩,
  ⟨65, bodyOf Tryz.f65, Tryz.f65.results.toList, [.val (.leaf false .str), .val (.leaf false (.int .u8))], [.leaf false .str], [], [], 17, [(12, 80)], false⟩,
  ⟨68, bodyOf Tryz.f68, Tryz.f68.results.toList, [.val (.leaf false .str)], [.leaf false (.int .i64), .hole 1], [], [(16, 1)], 18, [], false⟩,
  ⟨69, bodyOf Tryz.f69, Tryz.f69.results.toList, [.val (.leaf false (.int .i64))], [.leaf false (.int .i64), .leaf false .bool], [], [], 8, [], false⟩,
  ⟨75, bodyOf Tryz.f75, Tryz.f75.results.toList, [.val (.leaf false .str)], [.leaf false (.int .i64), .hole 1], [], [], 77, [(235, 84), (3770, 85)], false⟩,
  ⟨84, bodyOf Tryz.f84, Tryz.f84.results.toList, [.val (.leaf false .str), .val (.leaf false (.int .i64)), .val (.leaf false (.int .i64))], [.leaf false (.int .i64), .hole 1], [], [], 73, [(31, 87), (511, 88)], false⟩,
  ⟨98, bodyOf Tryz.f98, Tryz.f98.results.toList, [.val (.leaf false .str), .val (.leaf false (.int .i64)), .val (.leaf false (.int .i64))], [.leaf false (.int .u64), .hole 1], [], [], 172, [(63, 90), (127, 91), (511, 92), (32762, 93), (8387175, 94)], false⟩,
  ⟨104, bodyOf Tryz.f104, Tryz.f104.results.toList, [.val (.leaf false (.int .u8))], [.leaf false (.int .u8)], [], [], 5, [], false⟩,
  ⟨105, bodyOf Tryz.f105, Tryz.f105.results.toList, [.val (.leaf false .str)], [.leaf false .bool], [], [], 94, [(31, 97), (127, 98), (508, 99)], false⟩]
def callL : CallL := [((3, []), 0), ((4, []), 1), ((5, []), 2), ((6, []), 3), ((7, []), 4), ((8, []), 5), ((9, []), 6), ((10, []), 7), ((11, []), 8), ((12, []), 9), ((13, []), 10), ((14, []), 11), ((15, []), 13), ((16, []), 15), ((17, []), 16), ((18, []), 17), ((19, []), 19), ((20, []), 21), ((21, []), 23), ((22, []), 24), ((23, []), 26), ((24, []), 27), ((25, []), 28), ((26, []), 30), ((27, []), 32), ((28, []), 33), ((29, []), 34), ((30, []), 35), ((31, []), 36), ((32, []), 37), ((33, []), 38), ((34, []), 39), ((35, []), 41), ((36, []), 44), ((37, []), 50), ((38, []), 53), ((39, []), 54), ((40, []), 55), ((41, []), 56), ((42, []), 57), ((43, []), 58), ((44, []), 59), ((45, []), 60), ((46, []), 61), ((47, []), 62), ((48, []), 63), ((49, []), 64), ((50, []), 65), ((51, []), 67), ((52, []), 68), ((53, []), 69), ((54, []), 70), ((55, []), 72), ((56, []), 73), ((57, []), 74), ((58, []), 75), ((60, []), 76), ((64, []), 78), ((65, []), 79), ((68, []), 81), ((69, []), 82), ((75, []), 83), ((84, []), 86), ((98, []), 89), ((104, []), 95), ((105, []), 96)]
noncomputable def tab : Tab where
  G := gam
  ty := lookT tyL
  ifc := memN ifcL
  key k := keyL.getD k ⟨0, [], []⟩
  ent k := entL.getD k ⟨0, .skip, [], [], [], [], [], 0, [], true⟩
  call := lookC callL
  tabs := [("internal/strconv.uint64pow10", .u64, Go.Lib.pow10Tab)]
  ext k := match k with
    | 59 => fun x => some (itoaI x.1, ())
    | 78 => fun x => some (cmpI x.1 x.2.1, ())
    | _ => fun _ => none
end Go.Proofs.YtlidpmhmchbilaaGreatDoor.E.TV
