/- The table of S: structs, types, entries, keys. No condition. -/
import Derived.Test.YtfafpanihhikoaaEG4
import Derived.Test.YtfafpanihhikoaaProg
import Derived.KernelRfl
namespace Go.Proofs.Ytfafpanihhikoaa.E.TS
open Go.Proofs.Ytfafpanihhikoaa.E
set_option linter.unusedVariables false
set_option maxRecDepth 100000
structure laws_Sink where
  Epoch : Int
  Text : (_root_.List Int)
def z_laws_Sink : laws_Sink := ⟨0, []⟩
structure impl_Sink where
  Epoch : Int
  Text : (_root_.List Int)
def z_impl_Sink : impl_Sink := ⟨0, []⟩
structure laws_Disk where
  Bytes : (_root_.List Int)
  Sure : Int
def z_laws_Disk : laws_Disk := ⟨[], 0⟩
structure impl_Disk where
  Bytes : (_root_.List Int)
  Sure : Int
def z_impl_Disk : impl_Disk := ⟨[], 0⟩
structure laws_Cmd where
  Who : Int
  Seq : Int
  Line : (_root_.List Int)
def z_laws_Cmd : laws_Cmd := ⟨0, 0, []⟩
structure laws_Entry where
  Term : Int
  C : laws_Cmd
def z_laws_Entry : laws_Entry := ⟨0, z_laws_Cmd⟩
structure laws_Log where
  Base : Int
  BaseTerm : Int
  List : (_root_.List laws_Entry)
def z_laws_Log : laws_Log := ⟨0, 0, []⟩
structure impl_Cmd where
  Who : Int
  Seq : Int
  Line : (_root_.List Int)
def z_impl_Cmd : impl_Cmd := ⟨0, 0, []⟩
structure impl_Entry where
  Term : Int
  C : impl_Cmd
def z_impl_Entry : impl_Entry := ⟨0, z_impl_Cmd⟩
structure impl_Log where
  Base : Int
  BaseTerm : Int
  List : (_root_.List impl_Entry)
def z_impl_Log : impl_Log := ⟨0, 0, []⟩
structure spec_l1Cur where
  b : (_root_.List Int)
  i : Int
  h : Int
def z_spec_l1Cur : spec_l1Cur := ⟨[], 0, 0⟩
def gT : Nat → Type
  | 0 => laws_Sink
  | 1 => impl_Sink
  | 2 => laws_Disk
  | 3 => impl_Disk
  | 4 => laws_Log
  | 5 => laws_Entry
  | 6 => laws_Cmd
  | 7 => impl_Log
  | 8 => impl_Entry
  | 9 => impl_Cmd
  | 10 => spec_l1Cur
  | _ => Unit
def gfs : Nat → List FT
  | 0 => [(.int .i64), .str]
  | 1 => [(.int .i64), .str]
  | 2 => [(.sl (.int .u8)), (.int .i64)]
  | 3 => [(.sl (.int .u8)), (.int .i64)]
  | 4 => [(.int .i64), (.int .i64), (.sl (.nm 5))]
  | 5 => [(.int .i64), (.nm 6)]
  | 6 => [(.int .i64), (.int .i64), .str]
  | 7 => [(.int .i64), (.int .i64), (.sl (.nm 8))]
  | 8 => [(.int .i64), (.nm 9)]
  | 9 => [(.int .i64), (.int .i64), .str]
  | 10 => [(.sl (.int .u8)), (.int .i64), (.int .i64)]
  | _ => []
def gun : ∀ n, gT n → Js gT (gfs n)
  | 0, x => (x.Epoch, (x.Text, ()))
  | 1, x => (x.Epoch, (x.Text, ()))
  | 2, x => (x.Bytes, (x.Sure, ()))
  | 3, x => (x.Bytes, (x.Sure, ()))
  | 4, x => (x.Base, (x.BaseTerm, (x.List, ())))
  | 5, x => (x.Term, (x.C, ()))
  | 6, x => (x.Who, (x.Seq, (x.Line, ())))
  | 7, x => (x.Base, (x.BaseTerm, (x.List, ())))
  | 8, x => (x.Term, (x.C, ()))
  | 9, x => (x.Who, (x.Seq, (x.Line, ())))
  | 10, x => (x.b, (x.i, (x.h, ())))
  | (n + 11), _ => ()
def gpk : ∀ n, Js gT (gfs n) → gT n
  | 0, y => ⟨y.1, y.2.1⟩
  | 1, y => ⟨y.1, y.2.1⟩
  | 2, y => ⟨y.1, y.2.1⟩
  | 3, y => ⟨y.1, y.2.1⟩
  | 4, y => ⟨y.1, y.2.1, y.2.2.1⟩
  | 5, y => ⟨y.1, y.2.1⟩
  | 6, y => ⟨y.1, y.2.1, y.2.2.1⟩
  | 7, y => ⟨y.1, y.2.1, y.2.2.1⟩
  | 8, y => ⟨y.1, y.2.1⟩
  | 9, y => ⟨y.1, y.2.1, y.2.2.1⟩
  | 10, y => ⟨y.1, y.2.1, y.2.2.1⟩
  | (n + 11), _ => ()
theorem gun_pk : ∀ n y, gun n (gpk n y) = y
  | 0, _ => rfl
  | 1, _ => rfl
  | 2, _ => rfl
  | 3, _ => rfl
  | 4, _ => rfl
  | 5, _ => rfl
  | 6, _ => rfl
  | 7, _ => rfl
  | 8, _ => rfl
  | 9, _ => rfl
  | 10, _ => rfl
  | (n + 11), _ => rfl
theorem gpk_un : ∀ n x, gpk n (gun n x) = x
  | 0, x => by cases x; rfl
  | 1, x => by cases x; rfl
  | 2, x => by cases x; rfl
  | 3, x => by cases x; rfl
  | 4, x => by cases x; rfl
  | 5, x => by cases x; rfl
  | 6, x => by cases x; rfl
  | 7, x => by cases x; rfl
  | 8, x => by cases x; rfl
  | 9, x => by cases x; rfl
  | 10, x => by cases x; rfl
  | (n + 11), _ => rfl
def gz : ∀ n, gT n
  | 0 => z_laws_Sink
  | 1 => z_impl_Sink
  | 2 => z_laws_Disk
  | 3 => z_impl_Disk
  | 4 => z_laws_Log
  | 5 => z_laws_Entry
  | 6 => z_laws_Cmd
  | 7 => z_impl_Log
  | 8 => z_impl_Entry
  | 9 => z_impl_Cmd
  | 10 => z_spec_l1Cur
  | (n + 11) => ()
theorem gun_z : ∀ n, gun n (gz n) = zeroJs gz (gfs n)
  | 0 => rfl
  | 1 => rfl
  | 2 => rfl
  | 3 => rfl
  | 4 => rfl
  | 5 => rfl
  | 6 => rfl
  | 7 => rfl
  | 8 => rfl
  | 9 => rfl
  | 10 => rfl
  | (n + 11) => rfl
def gsz : Nat → Nat
  | 0 => 2
  | 1 => 2
  | 2 => 2
  | 3 => 2
  | 4 => 3
  | 5 => 4
  | 6 => 3
  | 7 => 3
  | 8 => 4
  | 9 => 3
  | 10 => 3
  | _ => 0
theorem gsz_eq : ∀ n, gsz n = FT.szs gsz (gfs n)
  | 0 => rfl
  | 1 => rfl
  | 2 => rfl
  | 3 => rfl
  | 4 => rfl
  | 5 => rfl
  | 6 => rfl
  | 7 => rfl
  | 8 => rfl
  | 9 => rfl
  | 10 => rfl
  | (n + 11) => rfl
def gfl : Nat → Bool
  | 0 => true
  | 1 => true
  | 2 => false
  | 3 => false
  | 4 => false
  | 5 => true
  | 6 => true
  | 7 => false
  | 8 => true
  | 9 => true
  | 10 => false
  | _ => true
theorem gfl_eq : ∀ n, gfl n = true → FT.flats gfl (gfs n) = true
  | 0, h => rfl
  | 1, h => rfl
  | 2, h => by cases h
  | 3, h => by cases h
  | 4, h => by cases h
  | 5, h => rfl
  | 6, h => rfl
  | 7, h => by cases h
  | 8, h => rfl
  | 9, h => rfl
  | 10, h => by cases h
  | (n + 11), _ => rfl
def gam : Gam := ⟨gT, gfs, gun, gpk, gun_pk, gpk_un, gz, gun_z, gsz, gsz_eq, gfl, gfl_eq⟩
def tyL : List (Nat × FT) := [(2, (.int .i64)), (3, (.int .i64)), (4, .bool), (5, (.int .u8)), (9, .str), (28, (.nm 1)), (31, (.sl (.int .u8))), (80, (.sl (.int .i64))), (82, (.sl .str)), (90, (.int .u64)), (92, (.nm 10))]
def keyL : List KeyI := [
  ⟨0, [], [.val 0 (.leaf false (.sl (.int .u8)))]⟩,
  ⟨1, [], [.val 0 (.leaf false (.sl (.int .u8)))]⟩,
  ⟨2, [], [.val 0 (.leaf false (.sl (.int .u8)))]⟩,
  ⟨3, [], [.val 0 (.leaf false (.nm 1)), .val 1 (.leaf false (.int .i64)), .val 2 (.leaf false (.int .i64)), .val 3 (.leaf false .str)]⟩,
  ⟨3, [true, true, true, true], [.ptr 4 64, .ptr 8 128, .ptr 10 160, .slot 64 (.leaf true (.nm 1)) true none, .slot 128 (.leaf true (.nm 1)) true none, .slot 160 (.leaf true (.nm 1)) true none]⟩,
  ⟨4, [], [.val 0 (.leaf false (.nm 1)), .val 1 (.leaf false (.int .i64)), .val 2 (.leaf false (.int .i64)), .val 3 (.leaf false .str)]⟩,
  ⟨4, [true, true, true, true], [.ptr 4 64, .ptr 8 128, .ptr 10 160, .slot 64 (.leaf true (.nm 1)) true none, .slot 128 (.leaf true (.nm 1)) true none, .slot 160 (.leaf true (.nm 1)) true none]⟩,
  ⟨5, [], [.val 0 (.leaf false (.sl (.int .u8)))]⟩,
  ⟨6, [], [.val 0 (.leaf false (.nm 1))]⟩,
  ⟨7, [], [.val 0 (.leaf false (.nm 1))]⟩,
  ⟨8, [], [.val 0 (.leaf false (.sl (.int .u8)))]⟩,
  ⟨8, [true, true, false, true, false], [.val 0 (.leaf false (.sl (.int .u8))), .val 3 (.leaf false (.int .i64)), .val 4 (.leaf false (.int .i64))]⟩,
  ⟨9, [], [.ptr 0 0, .slot 0 (.leaf false (.nm 10)) true none]⟩,
  ⟨9, [true, true, false, true, false, true, true, true, false, false], [.ptr 0 0, .ptr 2 32, .ptr 3 48, .slot 0 (.leaf false (.nm 10)) true none, .slot 32 (.leaf true (.nm 1)) true none, .slot 48 (.leaf true (.nm 1)) true none]⟩,
  ⟨10, [], [.ptr 0 0, .slot 0 (.leaf false (.nm 10)) true none, .val 1 (.leaf false (.sl (.int .i64)))]⟩,
  ⟨11, [], [.ptr 0 0, .slot 0 (.leaf false (.nm 10)) true none, .val 1 (.leaf false (.sl .str))]⟩,
  ⟨12, [], [.val 0 (.leaf false (.int .i64)), .val 1 (.leaf false (.int .i64)), .val 2 (.leaf false (.int .i64))]⟩,
  ⟨13, [], [.val 0 (.leaf false (.int .i64)), .val 1 (.leaf false (.int .i64)), .val 2 (.leaf false (.int .i64))]⟩,
  ⟨14, [], [.val 0 (.leaf false (.int .i64))]⟩,
  ⟨15, [], [.ptr 0 0, .slot 0 (.leaf false (.nm 10)) true none, .val 1 (.leaf false (.int .i64))]⟩,
  ⟨16, [], [.ptr 0 0, .slot 0 (.leaf false (.nm 10)) true none]⟩]
noncomputable def entL : List EntI := [
  ⟨11, bodyOf Try.f11, Try.f11.results.toList, [.val (.leaf false (.sl (.int .u8)))], [.leaf false .bool], [], [], 111, [], false⟩,
  ⟨41, bodyOf Try.f41, Try.f41.results.toList, [.val (.leaf false (.sl (.int .u8)))], [.leaf false .bool], [], [], 6, [], false⟩,
  ⟨42, bodyOf Try.f42, Try.f42.results.toList, [.val (.leaf false (.sl (.int .u8)))], [.leaf false (.nm 1), .leaf false (.int .i64), .leaf false (.int .i64), .leaf false .str], [], [(11, 1), (15, 1), (25, 1), (31, 1)], 33, [], false⟩,
  ⟨31, bodyOf Try.f31, Try.f31.results.toList, [.val (.leaf false (.nm 1)), .val (.leaf false (.int .i64)), .val (.leaf false (.int .i64)), .val (.leaf false .str)], [.leaf false (.nm 1), .leaf false .bool], [], [], 58, [(31, 4)], false⟩,
  ⟨30, bodyOf Try.f30, Try.f30.results.toList, [.val (.leaf false (.nm 1)), .val (.leaf false (.int .i64)), .val (.leaf false (.int .i64)), .val (.leaf false .str)], [.leaf false (.nm 1), .leaf false .bool], [], [], 58, [(31, 6)], false⟩,
  ⟨43, bodyOf Try.f43, Try.f43.results.toList, [.val (.leaf false (.sl (.int .u8)))], [.leaf false (.nm 1)], [], [(4, 1)], 6, [], false⟩,
  ⟨20, bodyOf Try.f20, Try.f20.results.toList, [.val (.leaf false (.nm 1))], [.leaf false .bool], [], [], 12, [], false⟩,
  ⟨18, bodyOf Try.f18, Try.f18.results.toList, [.val (.leaf false (.nm 1))], [.leaf false .bool], [], [], 12, [], false⟩,
  ⟨63, bodyOf Try.f63, Try.f63.results.toList, [.val (.leaf false (.sl (.int .u8)))], [.pr (.hole 0) (.leaf false (.nm 10))], [], [(30, 1)], 32, [(58, 11)], false⟩,
  ⟨64, bodyOf Try.f64, Try.f64.results.toList, [.ptr (.leaf false (.nm 10))], [.leaf false (.nm 1)], [(0, .box)], [(7, 1), (15, 1)], 32, [(1884, 13)], false⟩,
  ⟨65, bodyOf Try.f65, Try.f65.results.toList, [.ptr (.leaf false (.nm 10)), .val (.leaf false (.sl (.int .i64)))], [.leaf false (.int .i64)], [(0, .box)], [], 12, [], false⟩,
  ⟨66, bodyOf Try.f66, Try.f66.results.toList, [.ptr (.leaf false (.nm 10)), .val (.leaf false (.sl .str))], [.leaf false .str], [(0, .box)], [], 12, [], false⟩,
  ⟨58, bodyOf Try.f58, Try.f58.results.toList, [.val (.leaf false (.int .i64)), .val (.leaf false (.int .i64)), .val (.leaf false (.int .i64))], [.leaf false .bool], [], [], 15, [], false⟩,
  ⟨55, bodyOf Try.f55, Try.f55.results.toList, [.val (.leaf false (.int .i64)), .val (.leaf false (.int .i64)), .val (.leaf false (.int .i64))], [.leaf false .bool], [], [], 15, [], false⟩,
  ⟨56, bodyOf Try.f56, Try.f56.results.toList, [.val (.leaf false (.int .i64))], [.leaf false .bool], [], [], 5, [], false⟩,
  ⟨72, bodyOf Try.f72, Try.f72.results.toList, [.ptr (.leaf false (.nm 10)), .val (.leaf false (.int .i64))], [.leaf false (.int .i64)], [(0, .box)], [], 37, [], false⟩,
  ⟨77, bodyOf Try.f77, Try.f77.results.toList, [.ptr (.leaf false (.nm 10))], [.leaf false (.int .i64)], [(0, .box)], [], 58, [], false⟩]
def callL : CallL := [((11, []), 0), ((41, []), 1), ((42, []), 2), ((31, []), 3), ((30, []), 5), ((43, []), 7), ((20, []), 8), ((18, []), 9), ((63, []), 10), ((64, []), 12), ((65, []), 14), ((66, []), 15), ((58, []), 16), ((55, []), 17), ((56, []), 18), ((72, []), 19), ((77, []), 20)]
noncomputable def tab : Tab where
  G := gam
  ty := lookT tyL
  key k := keyL.getD k ⟨0, [], []⟩
  ent k := entL.getD k ⟨0, .skip, [], [], [], [], [], 0, [], true⟩
  call := lookC callL
  ext _ _ := none
end Go.Proofs.Ytfafpanihhikoaa.E.TS
