/- The table of E: structs, types, entries, keys. No condition. -/
import Derived.Test.YtlidpmhmchbilaaEG4
import Derived.Test.YtlidpmhmchbilaaProg
import Derived.KernelRfl
namespace Go.Proofs.Ytlidpmhmchbilaa.E.TE
open Go.Proofs.Ytlidpmhmchbilaa.E
set_option linter.unusedVariables false
set_option maxRecDepth 100000
structure impl_Cmd where
  Who : Int
  Seq : Int
  Line : (_root_.List Int)
def z_impl_Cmd : impl_Cmd := ⟨0, 0, []⟩
structure impl_Entry where
  Term : Int
  C : impl_Cmd
def z_impl_Entry : impl_Entry := ⟨0, z_impl_Cmd⟩
structure impl_Rec where
  Kind : Int
  Term : Int
  Vote : Int
  Prev : Int
  List : (_root_.List impl_Entry)
  Snap : (_root_.List Int)
def z_impl_Rec : impl_Rec := ⟨0, 0, 0, 0, [], []⟩
structure impl_Rex where
  Op : Int
  C : Int
  Set : (_root_.List Int)
  Not : Bool
  Kids : (_root_.List impl_Rex)
def z_impl_Rex : impl_Rex := ⟨0, 0, [], false, []⟩
structure spec_l17Cur where
  b : (_root_.List Int)
  at_ : Int
  ok : Bool
def z_spec_l17Cur : spec_l17Cur := ⟨[], 0, false⟩
structure impl_source where
  b : (_root_.List Int)
  at_ : Int
  bad : Bool
def z_impl_source : impl_source := ⟨[], 0, false⟩
structure spec_l5Part where
  r : impl_Rex
  kids : (_root_.List Int)
def z_spec_l5Part : spec_l5Part := ⟨z_impl_Rex, []⟩
structure spec_l5Work where
  parts : (_root_.List spec_l5Part)
  s : (_root_.List Int)
  ends : (_root_.List (_root_.List (_root_.List Bool)))
def z_spec_l5Work : spec_l5Work := ⟨[], [], []⟩
structure spec_l1Cur where
  b : (_root_.List Int)
  i : Int
  h : Int
def z_spec_l1Cur : spec_l1Cur := ⟨[], 0, 0⟩
structure spec_l3Cur where
  s : (_root_.List Int)
  at_ : Int
  bad : Bool
def z_spec_l3Cur : spec_l3Cur := ⟨[], 0, false⟩
def gT : Nat → Type
  | 0 => impl_Rec
  | 1 => impl_Entry
  | 2 => impl_Cmd
  | 3 => impl_Rex
  | 4 => spec_l17Cur
  | 5 => impl_source
  | 6 => spec_l5Work
  | 7 => spec_l5Part
  | 8 => spec_l1Cur
  | 9 => spec_l3Cur
  | _ => Unit
def gfs : Nat → List FT
  | 0 => [(.int .i64), (.int .i64), (.int .i64), (.int .i64), (.sl (.nm 1)), .str]
  | 1 => [(.int .i64), (.nm 2)]
  | 2 => [(.int .i64), (.int .i64), .str]
  | 3 => [(.int .i64), (.int .i64), .str, .bool, (.sl (.nm 3))]
  | 4 => [(.sl (.int .u8)), (.int .i64), .bool]
  | 5 => [(.sl (.int .u8)), (.int .i64), .bool]
  | 6 => [(.sl (.nm 7)), .str, (.sl (.sl (.sl .bool)))]
  | 7 => [(.nm 3), (.sl (.int .i64))]
  | 8 => [(.sl (.int .u8)), (.int .i64), (.int .i64)]
  | 9 => [.str, (.int .i64), .bool]
  | _ => []
def gun : ∀ n, gT n → Js gT (gfs n)
  | 0, x => (x.Kind, (x.Term, (x.Vote, (x.Prev, (x.List, (x.Snap, ()))))))
  | 1, x => (x.Term, (x.C, ()))
  | 2, x => (x.Who, (x.Seq, (x.Line, ())))
  | 3, x => (x.Op, (x.C, (x.Set, (x.Not, (x.Kids, ())))))
  | 4, x => (x.b, (x.at_, (x.ok, ())))
  | 5, x => (x.b, (x.at_, (x.bad, ())))
  | 6, x => (x.parts, (x.s, (x.ends, ())))
  | 7, x => (x.r, (x.kids, ()))
  | 8, x => (x.b, (x.i, (x.h, ())))
  | 9, x => (x.s, (x.at_, (x.bad, ())))
  | (n + 10), _ => ()
def gpk : ∀ n, Js gT (gfs n) → gT n
  | 0, y => ⟨y.1, y.2.1, y.2.2.1, y.2.2.2.1, y.2.2.2.2.1, y.2.2.2.2.2.1⟩
  | 1, y => ⟨y.1, y.2.1⟩
  | 2, y => ⟨y.1, y.2.1, y.2.2.1⟩
  | 3, y => ⟨y.1, y.2.1, y.2.2.1, y.2.2.2.1, y.2.2.2.2.1⟩
  | 4, y => ⟨y.1, y.2.1, y.2.2.1⟩
  | 5, y => ⟨y.1, y.2.1, y.2.2.1⟩
  | 6, y => ⟨y.1, y.2.1, y.2.2.1⟩
  | 7, y => ⟨y.1, y.2.1⟩
  | 8, y => ⟨y.1, y.2.1, y.2.2.1⟩
  | 9, y => ⟨y.1, y.2.1, y.2.2.1⟩
  | (n + 10), _ => ()
theorem gun_pk : ∀ n y, gun n (gpk n y) = y
  | 0, _ => rfl
  | 1, _ => rfl
  | 2, _ => rfl
  | 3, _ => rfl
  | 4, _ => rfl
  | 5, _ => rfl
  | 6, _ => rfl
  | 7, _ => rfl
  | 8, _ => rfl
  | 9, _ => rfl
  | (n + 10), _ => rfl
theorem gpk_un : ∀ n x, gpk n (gun n x) = x
  | 0, x => by cases x; rfl
  | 1, x => by cases x; rfl
  | 2, x => by cases x; rfl
  | 3, x => by cases x; rfl
  | 4, x => by cases x; rfl
  | 5, x => by cases x; rfl
  | 6, x => by cases x; rfl
  | 7, x => by cases x; rfl
  | 8, x => by cases x; rfl
  | 9, x => by cases x; rfl
  | (n + 10), _ => rfl
def gz : ∀ n, gT n
  | 0 => z_impl_Rec
  | 1 => z_impl_Entry
  | 2 => z_impl_Cmd
  | 3 => z_impl_Rex
  | 4 => z_spec_l17Cur
  | 5 => z_impl_source
  | 6 => z_spec_l5Work
  | 7 => z_spec_l5Part
  | 8 => z_spec_l1Cur
  | 9 => z_spec_l3Cur
  | (n + 10) => ()
theorem gun_z : ∀ n, gun n (gz n) = zeroJs gz (gfs n)
  | 0 => rfl
  | 1 => rfl
  | 2 => rfl
  | 3 => rfl
  | 4 => rfl
  | 5 => rfl
  | 6 => rfl
  | 7 => rfl
  | 8 => rfl
  | 9 => rfl
  | (n + 10) => rfl
def gsz : Nat → Nat
  | 0 => 6
  | 1 => 4
  | 2 => 3
  | 3 => 5
  | 4 => 3
  | 5 => 3
  | 6 => 3
  | 7 => 6
  | 8 => 3
  | 9 => 3
  | _ => 0
theorem gsz_eq : ∀ n, gsz n = FT.szs gsz (gfs n)
  | 0 => rfl
  | 1 => rfl
  | 2 => rfl
  | 3 => rfl
  | 4 => rfl
  | 5 => rfl
  | 6 => rfl
  | 7 => rfl
  | 8 => rfl
  | 9 => rfl
  | (n + 10) => rfl
def gfl : Nat → Bool
  | 0 => false
  | 1 => true
  | 2 => true
  | 3 => false
  | 4 => false
  | 5 => false
  | 6 => false
  | 7 => false
  | 8 => false
  | 9 => true
  | _ => true
theorem gfl_eq : ∀ n, gfl n = true → FT.flats gfl (gfs n) = true
  | 0, h => by cases h
  | 1, h => rfl
  | 2, h => rfl
  | 3, h => by cases h
  | 4, h => by cases h
  | 5, h => by cases h
  | 6, h => by cases h
  | 7, h => by cases h
  | 8, h => by cases h
  | 9, h => rfl
  | (n + 10), _ => rfl
def gam : Gam := ⟨gT, gfs, gun, gpk, gun_pk, gpk_un, gz, gun_z, gsz, gsz_eq, gfl, gfl_eq⟩
def tyL : List (Nat × FT) := [(2, (.int .i64)), (3, (.int .i64)), (4, .bool), (5, (.int .u8)), (9, .str), (22, (.sl (.int .u8))), (23, (.sl (.nm 1))), (25, (.nm 0)), (34, (.sl (.nm 0))), (47, (.sl (.int .i64))), (56, (.nm 4)), (61, (.nm 5)), (85, (.int .u64)), (88, (.nm 2)), (90, (.nm 1))]
def keyL : List KeyI := [
  ⟨0, [], [.val 0 (.leaf false (.sl (.int .u8)))]⟩,
  ⟨1, [], [.val 0 (.leaf false (.sl (.int .u8)))]⟩,
  ⟨1, [true, true, false, true, false], [.val 0 (.leaf false (.sl (.int .u8))), .own 3 48 (.leaf true (.sl (.int .u8))), .val 4 (.leaf false (.int .i64))]⟩,
  ⟨2, [], [.val 0 (.leaf false (.sl (.int .u8)))]⟩,
  ⟨2, [true, true, true, false, false], [.val 0 (.leaf false (.sl (.int .u8))), .own 4 64 (.leaf true (.sl (.nm 0))), .val 5 (.leaf false (.int .i64))]⟩,
  ⟨3, [], [.val 0 (.leaf false (.sl (.int .u8)))]⟩,
  ⟨3, [true, true, true, false], [.val 0 (.leaf false (.sl (.int .u8))), .own 4 64 (.leaf true (.sl (.nm 0))), .val 5 (.leaf false (.int .i64))]⟩,
  ⟨4, [], [.val 0 (.leaf false (.sl (.nm 0))), .val 1 (.leaf false (.sl (.nm 0)))]⟩,
  ⟨4, [true, true, false, true, false], [.val 0 (.leaf false (.sl (.nm 0))), .val 1 (.leaf false (.sl (.nm 0))), .val 5 (.leaf false (.int .i64))]⟩,
  ⟨5, [], [.val 0 (.leaf false (.sl (.int .u8))), .val 1 (.leaf false (.sl (.int .u8)))]⟩,
  ⟨5, [true, true, false, true, false], [.val 0 (.leaf false (.sl (.int .u8))), .val 1 (.leaf false (.sl (.int .u8))), .val 5 (.leaf false (.int .i64))]⟩,
  ⟨6, [], [.own 0 0 (.leaf true (.sl (.int .u8))), .val 1 (.leaf false (.int .i64))]⟩,
  ⟨6, [true, false, true, false], [.own 0 0 (.leaf true (.sl (.int .u8))), .val 1 (.leaf false (.int .i64)), .val 5 (.leaf false (.int .i64))]⟩,
  ⟨7, [], [.own 0 0 (.leaf true (.sl (.nm 0))), .val 1 (.leaf false (.int .i64))]⟩,
  ⟨7, [true, false, true, false], [.own 0 0 (.leaf true (.sl (.nm 0))), .val 1 (.leaf false (.int .i64)), .val 5 (.leaf false (.int .i64))]⟩,
  ⟨8, [], [.val 0 (.leaf false (.sl (.nm 0))), .val 1 (.leaf false (.int .i64))]⟩,
  ⟨8, [true, false, true, false], [.val 0 (.leaf false (.sl (.nm 0))), .val 1 (.leaf false (.int .i64)), .val 5 (.leaf false (.int .i64))]⟩,
  ⟨9, [], [.val 0 (.leaf false (.sl (.int .u8))), .val 1 (.leaf false (.int .i64))]⟩,
  ⟨10, [], [.val 0 (.leaf false (.sl (.int .u8))), .val 1 (.leaf false (.int .i64))]⟩,
  ⟨11, [], [.val 0 (.leaf false (.nm 0)), .val 1 (.leaf false (.nm 0))]⟩,
  ⟨12, [], [.own 0 0 (.leaf true (.sl (.nm 1))), .val 1 (.leaf false (.int .i64))]⟩,
  ⟨12, [true, false, true, false], [.own 0 0 (.leaf true (.sl (.nm 1))), .val 1 (.leaf false (.int .i64)), .val 5 (.leaf false (.int .i64))]⟩,
  ⟨13, [], [.val 0 (.leaf false (.int .i64))]⟩,
  ⟨13, [true, true, true, false, false], [.val 0 (.leaf false (.int .i64)), .val 3 (.leaf false .str)]⟩,
  ⟨14, [], [.val 0 (.leaf false (.sl (.nm 1))), .val 1 (.leaf false (.int .i64))]⟩,
  ⟨14, [true, false, true, false], [.val 0 (.leaf false (.sl (.nm 1))), .val 1 (.leaf false (.int .i64)), .val 5 (.leaf false (.int .i64))]⟩,
  ⟨15, [], [.val 0 (.leaf false (.sl (.int .u8))), .val 1 (.leaf false (.int .i64))]⟩,
  ⟨15, [true, true, false, true, false], [.val 0 (.leaf false (.sl (.int .u8))), .val 1 (.leaf false (.int .i64)), .val 7 (.leaf false (.int .i64)), .val 8 (.leaf false (.int .i64))]⟩,
  ⟨16, [], [.val 0 (.leaf false (.sl (.int .u8)))]⟩,
  ⟨17, [], [.ptr 0 0, .slot 0 (.leaf false (.nm 4)) true none]⟩,
  ⟨17, [true, true, true, true, true, true, true, false, true, false], [.ptr 0 0, .ptr 2 32, .ptr 3 48, .val 4 (.leaf false (.int .i64)), .val 5 (.leaf false (.int .i64)), .slot 0 (.leaf false (.nm 4)) true none, .slot 32 (.leaf true (.nm 0)) true none, .slot 48 (.leaf true (.nm 0)) true none]⟩,
  ⟨18, [], [.val 0 (.leaf false (.nm 0))]⟩,
  ⟨19, [], [.val 0 (.leaf false (.sl (.int .u8))), .val 1 (.leaf false (.int .i64))]⟩,
  ⟨19, [true, true, true, false, true, false], [.val 0 (.leaf false (.sl (.int .u8))), .val 1 (.leaf false (.int .i64)), .val 7 (.leaf false (.int .i64)), .val 8 (.leaf false (.int .i64))]⟩,
  ⟨20, [], [.ptr 0 0, .slot 0 (.leaf false (.nm 5)) true none]⟩,
  ⟨20, [true, true, true, true, true, false, true, false], [.ptr 0 0, .ptr 2 32, .ptr 3 48, .val 19 (.leaf false (.int .i64)), .val 20 (.leaf false (.int .i64)), .slot 0 (.leaf false (.nm 5)) true none, .slot 32 (.leaf true (.nm 0)) true none, .slot 48 (.leaf true (.nm 0)) true none]⟩,
  ⟨21, [], [.val 0 (.leaf false (.nm 0))]⟩,
  ⟨21, [true, true, true, false, true, false], [.ptr 1 16, .own 3 48 (.leaf true (.sl (.int .u8))), .val 28 (.leaf false (.sl (.int .i64))), .val 29 (.leaf false (.int .i64)), .val 30 (.leaf false (.int .i64)), .slot 16 (.leaf false (.nm 0)) true none]⟩,
  ⟨21, [true, true, true, true, false, true, false], [.ptr 1 16, .own 3 48 (.leaf true (.sl (.int .u8))), .val 40 (.leaf false (.sl (.nm 1))), .val 41 (.leaf false (.int .i64)), .val 42 (.leaf false (.int .i64)), .slot 16 (.leaf false (.nm 0)) true none]⟩,
  ⟨21, [true, true, true, true, false, true, false, false, true, true, false, false, true, false, true, false], [.ptr 1 16, .ptr 7 112, .own 3 48 (.leaf true (.sl (.int .u8))), .val 40 (.leaf false (.sl (.nm 1))), .val 41 (.leaf false (.int .i64)), .val 42 (.leaf false (.int .i64)), .val 55 (.leaf false (.sl (.int .i64))), .val 56 (.leaf false (.int .i64)), .val 57 (.leaf false (.int .i64)), .slot 16 (.leaf false (.nm 0)) true none, .slot 112 (.leaf true (.nm 1)) true none]⟩,
  ⟨22, [], [.val 0 (.leaf false (.sl (.int .u8))), .val 1 (.leaf false (.sl (.int .u8)))]⟩,
  ⟨22, [true, true, false, true, false], [.val 0 (.leaf false (.sl (.int .u8))), .val 1 (.leaf false (.sl (.int .u8))), .val 12 (.leaf false (.int .i64)), .val 13 (.leaf false (.int .i64))]⟩,
  ⟨23, [], [.val 0 (.leaf false (.sl (.nm 1))), .val 1 (.leaf false (.sl (.nm 1)))]⟩,
  ⟨23, [true, true, false, true, false], [.val 0 (.leaf false (.sl (.nm 1))), .val 1 (.leaf false (.sl (.nm 1))), .val 5 (.leaf false (.int .i64))]⟩,
  ⟨24, [], [.val 0 (.leaf false (.sl (.int .u8)))]⟩,
  ⟨24, [true, true, false, true, false], [.val 0 (.leaf false (.sl (.int .u8))), .val 3 (.leaf false (.int .i64)), .val 4 (.leaf false (.int .i64)), .val 5 (.leaf false (.int .i64))]⟩,
  ⟨25, [], [.ptr 0 0, .slot 0 (.leaf false (.nm 4)) true none]⟩,
  ⟨26, [], [.ptr 0 0, .slot 0 (.leaf false (.nm 4)) true none]⟩,
  ⟨27, [], [.val 0 (.leaf false (.int .i64)), .val 1 (.leaf false (.int .i64)), .val 2 (.leaf false (.int .i64))]⟩,
  ⟨28, [], [.val 0 (.leaf false (.sl (.nm 1))), .val 1 (.leaf false (.int .i64))]⟩,
  ⟨28, [true, false, true, false], [.val 0 (.leaf false (.sl (.nm 1))), .val 1 (.leaf false (.int .i64)), .val 5 (.leaf false (.int .i64))]⟩,
  ⟨29, [], [.val 0 (.leaf false (.int .i64)), .val 1 (.leaf false (.int .i64)), .val 2 (.leaf false (.int .i64))]⟩,
  ⟨30, [], [.ptr 0 0, .slot 0 (.leaf false (.nm 5)) true none, .val 1 (.leaf false (.int .i64))]⟩,
  ⟨31, [], [.ptr 0 0, .slot 0 (.leaf false (.nm 5)) true none]⟩,
  ⟨32, [], [.val 0 (.leaf false (.nm 0))]⟩,
  ⟨33, [], [.val 0 (.leaf false (.int .i64))]⟩,
  ⟨33, [true, true, true, false, false], [.val 0 (.leaf false (.int .i64)), .own 3 48 (.leaf true (.sl (.int .u8)))]⟩,
  ⟨34, [], [.val 0 (.leaf false .str)]⟩,
  ⟨35, [], [.val 0 (.leaf false (.sl (.int .u8)))]⟩,
  ⟨35, [true, true, false, true, false], [.val 3 (.leaf false (.int .i64)), .val 4 (.leaf false (.int .i64)), .val 7 (.leaf false (.sl (.int .u8))), .val 8 (.leaf false (.int .i64)), .val 9 (.leaf false (.int .i64))]⟩,
  ⟨36, [], [.val 0 (.leaf false (.nm 1)), .val 1 (.leaf false (.nm 1))]⟩,
  ⟨37, [], [.val 0 (.leaf false (.sl (.int .u8))), .val 1 (.leaf false (.int .i64))]⟩,
  ⟨38, [], [.val 0 (.leaf false (.nm 2))]⟩,
  ⟨39, [], [.val 0 (.leaf false (.sl (.int .u8))), .val 1 (.leaf false (.int .i64))]⟩,
  ⟨40, [], [.val 0 (.leaf false (.int .i64))]⟩,
  ⟨41, [], [.val 0 (.leaf false (.sl (.nm 1))), .val 1 (.leaf false (.int .i64))]⟩,
  ⟨42, [], [.val 0 (.leaf false (.int .i64))]⟩,
  ⟨43, [], [.val 0 (.leaf false (.nm 2)), .val 1 (.leaf false (.nm 2))]⟩,
  ⟨44, [], [.val 0 (.leaf false .str)]⟩,
  ⟨44, [true, false, true, false], [.val 0 (.leaf false .str), .val 3 (.leaf false (.int .i64))]⟩,
  ⟨45, [], [.val 0 (.leaf false (.sl (.nm 1))), .clo 1 98 [16], .slot 16 (.leaf false (.int .i64)) true none]⟩,
  ⟨46, [], [.val 0 (.leaf false (.sl (.nm 1))), .clo 1 98 [16], .slot 16 (.leaf false (.int .i64)) true none]⟩,
  ⟨46, [true, false, true, false], [.clo 1 98 [16], .val 0 (.leaf false (.sl (.nm 1))), .val 7 (.leaf false (.int .i64)), .val 8 (.leaf false (.int .i64)), .slot 16 (.leaf true (.int .i64)) true none]⟩,
  ⟨47, [], [.val 0 (.leaf false (.nm 1)), .ptr 1 16, .slot 16 (.leaf false (.int .i64)) true none]⟩,
  ⟨48, [], [.val 0 (.leaf false (.nm 2))]⟩,
  ⟨49, [], [.val 0 (.leaf false .str)]⟩,
  ⟨50, [], [.val 0 (.leaf false .str), .val 1 (.leaf false .str)]⟩,
  ⟨51, [], [.val 0 (.leaf false .str), .val 1 (.leaf false .str)]⟩,
  ⟨52, [], [.val 0 (.leaf false .str), .val 1 (.leaf false .str)]⟩,
  ⟨53, [], [.val 0 (.leaf false .str), .val 1 (.leaf false (.int .u8))]⟩,
  ⟨54, [], [.val 0 (.leaf false .str), .val 1 (.leaf false (.int .u8))]⟩]
noncomputable def entL : List EntI := [
  ⟨4, bodyOf Try.f4, Try.f4.results.toList, [.val (.leaf false (.sl (.int .u8)))], [.leaf false .bool], [], [(18, 1), (19, 1), (40, 1), (72, 1), (73, 1)], 93, [], false⟩,
  ⟨7, bodyOf Try.f7, Try.f7.results.toList, [.val (.leaf false (.sl (.int .u8)))], [.leaf true (.sl (.int .u8))], [], [], 22, [(58, 2)], false⟩,
  ⟨14, bodyOf Try.f14, Try.f14.results.toList, [.val (.leaf false (.sl (.int .u8)))], [.leaf false (.sl (.nm 0)), .leaf false (.int .i64)], [], [], 30, [(60, 4)], false⟩,
  ⟨15, bodyOf Try.f15, Try.f15.results.toList, [.val (.leaf false (.sl (.int .u8)))], [.leaf true (.sl (.nm 0)), .leaf false (.int .i64)], [], [], 26, [(30, 6)], false⟩,
  ⟨16, bodyOf Try.f16, Try.f16.results.toList, [.val (.leaf false (.sl (.nm 0))), .val (.leaf false (.sl (.nm 0)))], [.leaf false .bool], [], [], 27, [(58, 8)], false⟩,
  ⟨10, bodyOf Try.f10, Try.f10.results.toList, [.val (.leaf false (.sl (.int .u8))), .val (.leaf false (.sl (.int .u8)))], [.leaf false .bool], [], [], 26, [(58, 10)], false⟩,
  ⟨11, bodyOf Try.f11, Try.f11.results.toList, [.own (.leaf true (.sl (.int .u8))), .val (.leaf false (.int .i64))], [.leaf false (.int .i64)], [], [], 20, [(26, 12)], false⟩,
  ⟨17, bodyOf Try.f17, Try.f17.results.toList, [.io (.leaf true (.sl (.nm 0))), .val (.leaf false (.int .i64))], [.leaf false (.int .i64)], [(0, .reg)], [], 56, [(26, 14)], false⟩,
  ⟨18, bodyOf Try.f18, Try.f18.results.toList, [.val (.leaf false (.sl (.nm 0))), .val (.leaf false (.int .i64))], [.leaf false (.int .i64)], [], [], 68, [(26, 16)], false⟩,
  ⟨6, bodyOf Try.f6, Try.f6.results.toList, [.val (.leaf false (.sl (.int .u8))), .val (.leaf false (.int .i64))], [.leaf true (.nm 0), .leaf false (.int .i64), .leaf false .bool], [], [(39, 1), (54, 1)], 83, [], false⟩,
  ⟨8, bodyOf Try.f8, Try.f8.results.toList, [.val (.leaf false (.sl (.int .u8))), .val (.leaf false (.int .i64))], [.leaf true (.nm 0), .leaf false (.int .i64), .leaf false .bool], [], [(38, 1), (60, 1)], 71, [], false⟩,
  ⟨9, bodyOf Try.f9, Try.f9.results.toList, [.val (.leaf false (.nm 0)), .val (.leaf false (.nm 0))], [.leaf false .bool], [], [], 36, [], false⟩,
  ⟨36, bodyOf Try.f36, Try.f36.results.toList, [.io (.leaf true (.sl (.nm 1))), .val (.leaf false (.int .i64))], [.leaf false (.int .i64)], [(0, .reg)], [], 45, [(26, 21)], false⟩,
  ⟨38, bodyOf Try.f38, Try.f38.results.toList, [.val (.leaf false (.int .i64))], [.leaf false .str], [], [(12, 1)], 20, [(60, 23)], false⟩,
  ⟨37, bodyOf Try.f37, Try.f37.results.toList, [.val (.leaf false (.sl (.nm 1))), .val (.leaf false (.int .i64))], [.leaf false (.int .i64)], [], [], 53, [(26, 25)], false⟩,
  ⟨27, bodyOf Try.f27, Try.f27.results.toList, [.val (.leaf false (.sl (.int .u8))), .val (.leaf false (.int .i64))], [.leaf false (.int .i64), .leaf false (.int .i64), .leaf false .bool], [], [], 59, [(58, 27)], false⟩,
  ⟨28, bodyOf Try.f28, Try.f28.results.toList, [.val (.leaf false (.sl (.int .u8)))], [.leaf false (.sl (.int .u8))], [], [(17, 1)], 18, [], false⟩,
  ⟨29, bodyOf Try.f29, Try.f29.results.toList, [.ptr (.leaf false (.nm 4))], [.leaf true (.nm 0)], [(0, .box)], [(54, 1)], 61, [(2042, 30)], false⟩,
  ⟨30, bodyOf Try.f30, Try.f30.results.toList, [.val (.leaf false (.nm 0))], [.leaf false .bool], [], [], 69, [], false⟩,
  ⟨31, bodyOf Try.f31, Try.f31.results.toList, [.val (.leaf false (.sl (.int .u8))), .val (.leaf false (.int .i64))], [.leaf false (.int .i64), .leaf false (.int .i64), .leaf false .bool], [], [], 59, [(122, 33)], false⟩,
  ⟨32, bodyOf Try.f32, Try.f32.results.toList, [.ptr (.leaf false (.nm 5))], [.leaf true (.nm 0)], [(0, .box)], [(41, 1)], 49, [(506, 35)], false⟩,
  ⟨34, bodyOf Try.f34, Try.f34.results.toList, [.val (.leaf false (.nm 0))], [.leaf true (.sl (.int .u8))], [], [(28, 1), (36, 1), (55, 1), (63, 1), (70, 1), (76, 1), (97, 1)], 99, [(122, 37), (250, 38), (128202, 39)], false⟩,
  ⟨33, bodyOf Try.f33, Try.f33.results.toList, [.val (.leaf false (.sl (.int .u8))), .val (.leaf false (.sl (.int .u8)))], [.leaf false .bool], [], [], 26, [(58, 41)], false⟩,
  ⟨35, bodyOf Try.f35, Try.f35.results.toList, [.val (.leaf false (.sl (.nm 1))), .val (.leaf false (.sl (.nm 1)))], [.leaf false .bool], [], [], 27, [(58, 43)], false⟩,
  ⟨51, bodyOf Try.f51, Try.f51.results.toList, [.val (.leaf false (.sl (.int .u8)))], [.leaf false (.int .i64)], [], [], 28, [(58, 45)], false⟩,
  ⟨52, bodyOf Try.f52, Try.f52.results.toList, [.ptr (.leaf false (.nm 4))], [.leaf false (.int .i64)], [(0, .box)], [], 36, [], false⟩,
  ⟨53, bodyOf Try.f53, Try.f53.results.toList, [.ptr (.leaf false (.nm 4))], [.leaf false .str], [(0, .box)], [], 36, [], false⟩,
  ⟨46, bodyOf Try.f46, Try.f46.results.toList, [.val (.leaf false (.int .i64)), .val (.leaf false (.int .i64)), .val (.leaf false (.int .i64))], [.leaf false .bool], [], [], 15, [], false⟩,
  ⟨54, bodyOf Try.f54, Try.f54.results.toList, [.val (.leaf false (.sl (.nm 1))), .val (.leaf false (.int .i64))], [.leaf false .bool], [], [], 32, [(26, 50)], false⟩,
  ⟨43, bodyOf Try.f43, Try.f43.results.toList, [.val (.leaf false (.int .i64)), .val (.leaf false (.int .i64)), .val (.leaf false (.int .i64))], [.leaf false .bool], [], [], 15, [], false⟩,
  ⟨55, bodyOf Try.f55, Try.f55.results.toList, [.ptr (.leaf false (.nm 5)), .val (.leaf false (.int .i64))], [.leaf false (.int .i64)], [(0, .box)], [], 42, [], false⟩,
  ⟨56, bodyOf Try.f56, Try.f56.results.toList, [.ptr (.leaf false (.nm 5))], [.leaf false .str], [(0, .box)], [], 35, [], false⟩,
  ⟨57, bodyOf Try.f57, Try.f57.results.toList, [.val (.leaf false (.nm 0))], [.leaf false .bool], [], [], 69, [], false⟩,
  ⟨58, bodyOf Try.f58, Try.f58.results.toList, [.val (.leaf false (.int .i64))], [.leaf true (.sl (.int .u8))], [], [(15, 1), (22, 1)], 24, [(60, 56)], false⟩,
  ⟨59, bodyOf Try.f59, Try.f59.results.toList, [.val (.leaf false .str)], [.leaf false (.sl (.int .u8))], [], [], 8, [], false⟩,
  ⟨60, bodyOf Try.f60, Try.f60.results.toList, [.val (.leaf false (.sl (.int .u8)))], [.leaf false (.int .i64)], [], [], 27, [(58, 59)], false⟩,
  ⟨61, bodyOf Try.f61, Try.f61.results.toList, [.val (.leaf false (.nm 1)), .val (.leaf false (.nm 1))], [.leaf false .bool], [], [], 16, [], false⟩,
  ⟨77, bodyOf Try.f77, Try.f77.results.toList, [.val (.leaf false (.sl (.int .u8))), .val (.leaf false (.int .i64))], [.leaf false .str, .leaf false (.int .i64), .leaf false .bool], [], [], 37, [], false⟩,
  ⟨78, bodyOf Try.f78, Try.f78.results.toList, [.val (.leaf false (.nm 2))], [.leaf false .bool], [], [], 33, [], false⟩,
  ⟨79, bodyOf Try.f79, Try.f79.results.toList, [.val (.leaf false (.sl (.int .u8))), .val (.leaf false (.int .i64))], [.leaf false .str, .leaf false (.int .i64), .leaf false .bool], [], [], 37, [], false⟩,
  ⟨80, bodyOf Try.f80, Try.f80.results.toList, [.val (.leaf false (.int .i64))], [.leaf false .bool], [], [], 5, [], false⟩,
  ⟨81, bodyOf Try.f81, Try.f81.results.toList, [.val (.leaf false (.sl (.nm 1))), .val (.leaf false (.int .i64))], [.leaf false .bool], [], [], 14, [], false⟩,
  ⟨82, bodyOf Try.f82, Try.f82.results.toList, [.val (.leaf false (.int .i64))], [.leaf false .bool], [], [], 5, [], false⟩,
  ⟨83, bodyOf Try.f83, Try.f83.results.toList, [.val (.leaf false (.nm 2)), .val (.leaf false (.nm 2))], [.leaf false .bool], [], [], 20, [], false⟩,
  ⟨96, bodyOf Try.f96, Try.f96.results.toList, [.val (.leaf false .str)], [.leaf false .bool], [], [], 14, [(26, 69)], false⟩,
  ⟨97, bodyOf Try.f97, Try.f97.results.toList, [.val (.leaf false (.sl (.nm 1))), .clo 98 [.leaf false (.int .i64)]], [.leaf false .bool], [(16, .box)], [], 9, [], false⟩,
  ⟨104, bodyOf Try.f104, Try.f104.results.toList, [.val (.leaf false (.sl (.nm 1))), .clo 98 [.leaf false (.int .i64)]], [.leaf false (.int .i64)], [(16, .box)], [], 19, [(26, 72)], false⟩,
  ⟨98, bodyOf Try.f98, Try.f98.results.toList, [.val (.leaf false (.nm 1)), .ptr (.leaf false (.int .i64))], [.leaf false .bool], [(16, .box)], [], 15, [], false⟩,
  ⟨99, bodyOf Try.f99, Try.f99.results.toList, [.val (.leaf false (.nm 2))], [.leaf false .bool], [], [], 27, [], false⟩,
  ⟨105, bodyOf Try.f105, Try.f105.results.toList, [.val (.leaf false .str)], [.leaf false .bool], [], [], 11, [], false⟩,
  ⟨94, bodyOf Try.f94, Try.f94.results.toList, [.val (.leaf false .str), .val (.leaf false .str)], [.leaf false .bool], [], [], 9, [], false⟩,
  ⟨103, bodyOf Try.f103, Try.f103.results.toList, [.val (.leaf false .str), .val (.leaf false .str)], [.leaf false (.int .i64)], [], [], 8, [], false⟩,
  ⟨109, bodyOf Try.f109, Try.f109.results.toList, [.val (.leaf false .str), .val (.leaf false .str)], [.leaf false (.int .i64)], [], [], 143, [], false⟩,
  ⟨101, bodyOf Try.f101, Try.f101.results.toList, [.val (.leaf false .str), .val (.leaf false (.int .u8))], [.leaf false (.int .i64)], [], [], 8, [], false⟩,
  ⟨108, bodyOf Try.f108, Try.f108.results.toList, [.val (.leaf false .str), .val (.leaf false (.int .u8))], [.leaf false (.int .i64)], [], [], 2, [], true⟩]
def callL : CallL := [((4, []), 0), ((7, []), 1), ((14, []), 3), ((15, []), 5), ((16, []), 7), ((10, []), 9), ((11, []), 11), ((17, []), 13), ((18, []), 15), ((6, []), 17), ((8, []), 18), ((9, []), 19), ((36, []), 20), ((38, []), 22), ((37, []), 24), ((27, []), 26), ((28, []), 28), ((29, []), 29), ((30, []), 31), ((31, []), 32), ((32, []), 34), ((34, []), 36), ((33, []), 40), ((35, []), 42), ((51, []), 44), ((52, []), 46), ((53, []), 47), ((46, []), 48), ((54, []), 49), ((43, []), 51), ((55, []), 52), ((56, []), 53), ((57, []), 54), ((58, []), 55), ((59, []), 57), ((60, []), 58), ((61, []), 60), ((77, []), 61), ((78, []), 62), ((79, []), 63), ((80, []), 64), ((81, []), 65), ((82, []), 66), ((83, []), 67), ((96, []), 68), ((97, [98]), 70), ((104, [98]), 71), ((98, []), 73), ((99, []), 74), ((105, []), 75), ((94, []), 76), ((103, []), 77), ((109, []), 78), ((101, []), 79), ((108, []), 80)]
noncomputable def tab : Tab where
  G := gam
  ty := lookT tyL
  key k := keyL.getD k ⟨0, [], []⟩
  ent k := entL.getD k ⟨0, .skip, [], [], [], [], [], 0, [], true⟩
  call := lookC callL
  ext k := match k with
    | 80 => fun x => some (idxI x.1 x.2.1, ())
    | _ => fun _ => none
end Go.Proofs.Ytlidpmhmchbilaa.E.TE
