/- The table of A: structs, types, entries, keys. No condition. -/
import Derived.Test.YtlidpmhmchbilaaDoorEG4
import Derived.Test.YtlidpmhmchbilaaDoorProg
import Derived.KernelRfl
namespace Go.Proofs.YtlidpmhmchbilaaDoor.E.TA
open Go.Proofs.YtlidpmhmchbilaaDoor.E
set_option linter.unusedVariables false
set_option maxRecDepth 100000
structure impl_Val where
  Kind : Int
  N : Int
  S : (_root_.List Int)
def z_impl_Val : impl_Val := ⟨0, 0, []⟩
def gT : Nat → Type
  | 0 => impl_Val
  | _ => Unit
def gfs : Nat → List FT
  | 0 => [(.int .i64), (.int .i64), .str]
  | _ => []
def gun : ∀ n, gT n → Js gT (gfs n)
  | 0, x => (x.Kind, (x.N, (x.S, ())))
  | (n + 1), _ => ()
def gpk : ∀ n, Js gT (gfs n) → gT n
  | 0, y => ⟨y.1, y.2.1, y.2.2.1⟩
  | (n + 1), _ => ()
theorem gun_pk : ∀ n y, gun n (gpk n y) = y
  | 0, _ => rfl
  | (n + 1), _ => rfl
theorem gpk_un : ∀ n x, gpk n (gun n x) = x
  | 0, x => by cases x; rfl
  | (n + 1), _ => rfl
def gz : ∀ n, gT n
  | 0 => z_impl_Val
  | (n + 1) => ()
theorem gun_z : ∀ n, gun n (gz n) = zeroJs gz (gfs n)
  | 0 => rfl
  | (n + 1) => rfl
def gsz : Nat → Nat
  | 0 => 3
  | _ => 0
theorem gsz_eq : ∀ n, gsz n = FT.szs gsz (gfs n)
  | 0 => rfl
  | (n + 1) => rfl
def gfl : Nat → Bool
  | 0 => true
  | _ => true
theorem gfl_eq : ∀ n, gfl n = true → FT.flats gfl (gfs n) = true
  | 0, h => rfl
  | (n + 1), _ => rfl
def gam : Gam := ⟨gT, gfs, gun, gpk, gun_pk, gpk_un, gz, gun_z, gsz, gsz_eq, gfl, gfl_eq⟩
def tyL : List (Nat × FT) := [(2, (.int .i64)), (3, (.int .i64)), (4, .bool), (5, (.int .u8)), (9, .str), (21, (.int .i32)), (23, (.nm 0)), (54, (.int .i64)), (55, (.sl (.int .u8))), (63, (.int .u64)), (71, (.int .u64))]
def ifcL : List Nat := [44]
def keyL : List KeyI := [
  ⟨0, [], [.val 0 (.leaf false .str)]⟩,
  ⟨1, [], [.val 0 (.leaf false .str)]⟩,
  ⟨1, [true, true], [.ptr 2 32, .val 0 (.leaf false .str), .slot 32 (.leaf true (.nm 0)) true none]⟩,
  ⟨2, [], [.val 0 (.leaf false .str)]⟩,
  ⟨3, [], [.val 0 (.leaf false (.nm 0)), .val 1 (.leaf false (.nm 0))]⟩,
  ⟨4, [], [.val 0 (.leaf false .str)]⟩,
  ⟨4, [true, true, true, false, false], [.val 0 (.leaf false .str), .val 4 (.leaf false (.int .i64)), .val 5 (.leaf false (.int .i64))]⟩,
  ⟨5, [], [.val 0 (.leaf false .str)]⟩,
  ⟨6, [], [.val 0 (.leaf false .str)]⟩,
  ⟨7, [], [.val 0 (.leaf false .str)]⟩,
  ⟨8, [], [.val 0 (.leaf false .str)]⟩,
  ⟨8, [true, true, false, false], [.val 0 (.leaf false .str), .val 4 (.leaf false (.int .i64))]⟩,
  ⟨8, [true, true, true, true, true], [.val 0 (.leaf false .str), .val 4 (.leaf false (.int .i64)), .val 5 (.leaf false .bool)]⟩,
  ⟨8, [true, true, true, true, true, true, false, false], [.val 0 (.leaf false .str), .val 4 (.leaf false (.int .i64)), .val 5 (.leaf false .bool), .val 6 (.leaf false (.int .i64)), .val 7 (.leaf false (.int .i64))]⟩,
  ⟨8, [true, true, true, true, true, true, true, false, true, false, true, true, false], [.val 0 (.leaf false .str), .val 4 (.leaf false (.int .i64)), .val 5 (.leaf false .bool), .val 6 (.leaf false (.int .i64)), .val 7 (.leaf false (.int .i64)), .val 8 (.leaf false (.int .i64))]⟩,
  ⟨8, [true, true, true, true, true, true, true, true], [.val 4 (.leaf false (.int .i64)), .val 5 (.leaf false .bool), .val 6 (.leaf false (.int .i64)), .val 7 (.leaf false (.int .i64))]⟩,
  ⟨9, [], [.val 0 (.leaf false .str)]⟩,
  ⟨9, [true, true, true, true], [.val 0 (.leaf false .str), .val 4 (.leaf false (.int .i64)), .val 5 (.leaf false .bool)]⟩,
  ⟨9, [true, true, true, true, true, true, true, true, true], [.val 4 (.leaf false (.int .i64)), .val 5 (.leaf false .bool), .val 7 (.leaf false .str), .val 8 (.leaf false .str)]⟩,
  ⟨10, [], [.val 0 (.leaf false .str), .val 1 (.leaf false .str)]⟩,
  ⟨11, [], [.val 0 (.leaf false (.int .u8))]⟩,
  ⟨12, [], [.val 0 (.leaf false .str), .val 1 (.leaf false .str)]⟩,
  ⟨13, [], [.val 0 (.leaf false .str), .val 1 (.leaf false (.int .i64))]⟩,
  ⟨13, [true, true, false, false], [.val 0 (.leaf false .str), .val 1 (.leaf false (.int .i64)), .val 5 (.leaf false (.int .i64))]⟩,
  ⟨14, [], [.val 0 (.leaf false .str), .val 1 (.leaf false .str)]⟩,
  ⟨15, [], [.val 0 (.leaf false .str), .val 1 (.leaf false (.int .u8))]⟩,
  ⟨15, [true, false, false], [.val 0 (.leaf false .str), .val 1 (.leaf false (.int .u8))]⟩,
  ⟨16, [], [.val 0 (.leaf false .str), .val 1 (.leaf false (.int .u8))]⟩,
  ⟨16, [true, false, false], [.val 0 (.leaf false .str), .val 1 (.leaf false (.int .u8))]⟩,
  ⟨17, [], [.val 0 (.leaf false .str)]⟩,
  ⟨18, [], [.val 0 (.leaf false (.int .i64))]⟩,
  ⟨19, [], [.val 0 (.leaf false .str)]⟩,
  ⟨19, [true, true, false, true, false, true, true], [.val 0 (.leaf false .str), .val 5 (.leaf false .str)]⟩,
  ⟨19, [true, true, false, true, false, true, true, true, false, true, false], [.val 5 (.leaf false .str), .val 6 (.leaf false (.int .i64)), .val 47 (.leaf false (.sl (.int .u8))), .val 48 (.leaf false (.int .i64)), .val 49 (.leaf false (.int .i64))]⟩,
  ⟨20, [], [.val 0 (.leaf false (.int .i64))]⟩,
  ⟨21, [], [.val 0 (.leaf false .str), .val 1 (.leaf false (.int .i64)), .val 2 (.leaf false (.int .i64))]⟩,
  ⟨21, [true, true, true, true], [.val 0 (.leaf false .str), .val 1 (.leaf false (.int .i64)), .val 2 (.leaf false (.int .i64)), .val 8 (.leaf false .bool)]⟩,
  ⟨21, [true, true, true, true, true, true, true, true], [.val 2 (.leaf false (.int .i64)), .val 8 (.leaf false .bool), .val 9 (.leaf false (.int .u64))]⟩,
  ⟨22, [], [.val 0 (.leaf false (.int .i64)), .val 1 (.leaf false (.int .i64)), .val 2 (.leaf false (.int .i64))]⟩,
  ⟨23, [], [.val 0 (.leaf false .str), .val 1 (.leaf false (.int .i64)), .val 2 (.leaf false (.int .i64))]⟩,
  ⟨23, [true, true, true, true, true], [.val 0 (.leaf false .str), .val 1 (.leaf false (.int .i64)), .val 2 (.leaf false (.int .i64)), .val 8 (.leaf false .bool), .val 9 (.leaf false .str)]⟩,
  ⟨23, [true, true, true, true, true, true], [.val 0 (.leaf false .str), .val 1 (.leaf false (.int .i64)), .val 2 (.leaf false (.int .i64)), .val 8 (.leaf false .bool), .val 9 (.leaf false .str)]⟩,
  ⟨23, [true, true, true, true, true, true, true, true], [.val 0 (.leaf false .str), .val 1 (.leaf false (.int .i64)), .val 2 (.leaf false (.int .i64)), .val 8 (.leaf false .bool), .val 9 (.leaf false .str), .val 10 (.leaf false (.int .u64))]⟩,
  ⟨23, [true, true, true, true, true, true, true, true, true, true, true, false, true, false], [.val 1 (.leaf false (.int .i64)), .val 8 (.leaf false .bool), .val 9 (.leaf false .str), .val 10 (.leaf false (.int .u64)), .val 11 (.leaf false (.int .u64)), .val 12 (.leaf false .bool), .val 13 (.leaf false (.int .u64)), .val 99 (.leaf false (.sl (.int .u8))), .val 100 (.leaf false (.int .i64)), .val 101 (.leaf false (.int .i64))]⟩,
  ⟨23, [true, true, true, true, true, true, true, true, true, true, true, false, true, false, false, true, true, false, false, true, true, true], [.val 1 (.leaf false (.int .i64)), .val 8 (.leaf false .bool), .val 9 (.leaf false .str), .val 10 (.leaf false (.int .u64)), .val 11 (.leaf false (.int .u64)), .val 12 (.leaf false .bool), .val 13 (.leaf false (.int .u64)), .val 16 (.leaf false (.int .u8)), .val 99 (.leaf false (.sl (.int .u8))), .val 100 (.leaf false (.int .i64)), .val 101 (.leaf false (.int .i64)), .val 110 (.leaf false .bool), .val 116 (.leaf false (.int .u8)), .val 117 (.leaf false .bool)]⟩,
  ⟨24, [], [.val 0 (.leaf false (.int .u8))]⟩,
  ⟨25, [], [.val 0 (.leaf false .str)]⟩,
  ⟨25, [true, true, true, true], [.val 0 (.leaf false .str), .val 3 (.leaf false (.int .i32)), .val 4 (.leaf false (.int .i64))]⟩,
  ⟨25, [true, true, true, true, true, true], [.val 0 (.leaf false .str), .val 3 (.leaf false (.int .i32)), .val 4 (.leaf false (.int .i64)), .val 5 (.leaf false .bool)]⟩,
  ⟨25, [true, true, true, true, true, true, false, false], [.val 0 (.leaf false .str), .val 3 (.leaf false (.int .i32)), .val 4 (.leaf false (.int .i64)), .val 5 (.leaf false .bool)]⟩]
noncomputable def entL : List EntI := [
  ⟨3, bodyOf Tryd.f3, Tryd.f3.results.toList, [.val (.leaf false .str)], [.leaf false .bool], [], [], 16, [], false⟩,
  ⟨4, bodyOf Tryd.f4, Tryd.f4.results.toList, [.val (.leaf false .str)], [.leaf false (.nm 0)], [], [], 21, [(7, 2)], false⟩,
  ⟨5, bodyOf Tryd.f5, Tryd.f5.results.toList, [.val (.leaf false .str)], [.leaf false (.nm 0)], [], [], 18, [], false⟩,
  ⟨6, bodyOf Tryd.f6, Tryd.f6.results.toList, [.val (.leaf false (.nm 0)), .val (.leaf false (.nm 0))], [.leaf false .bool], [], [], 20, [], false⟩,
  ⟨7, bodyOf Tryd.f7, Tryd.f7.results.toList, [.val (.leaf false .str)], [.leaf false (.int .i64), .leaf false .bool], [], [], 24, [(60, 6)], false⟩,
  ⟨8, bodyOf Tryd.f8, Tryd.f8.results.toList, [.val (.leaf false .str)], [.leaf false .str], [], [], 8, [], false⟩,
  ⟨9, bodyOf Tryd.f9, Tryd.f9.results.toList, [.val (.leaf false .str)], [.leaf false (.int .i64), .leaf false .bool], [], [], 21, [], false⟩,
  ⟨10, bodyOf Tryd.f10, Tryd.f10.results.toList, [.val (.leaf false .str)], [.leaf false (.nm 0)], [], [], 5, [], false⟩,
  ⟨11, bodyOf Tryd.f11, Tryd.f11.results.toList, [.val (.leaf false .str)], [.leaf false (.int .i64), .leaf false (.int .i64)], [], [], 131, [(28, 11), (63, 12), (508, 13), (16342, 14), (511, 15)], false⟩,
  ⟨12, bodyOf Tryd.f12, Tryd.f12.results.toList, [.val (.leaf false .str)], [.leaf false (.int .i64), .leaf false (.int .i64)], [], [], 99, [(31, 17), (1023, 18)], false⟩,
  ⟨13, bodyOf Tryd.f13, Tryd.f13.results.toList, [.val (.leaf false .str), .val (.leaf false .str)], [.leaf false .str], [], [], 43, [], false⟩,
  ⟨14, bodyOf Tryd.f14, Tryd.f14.results.toList, [.val (.leaf false (.int .u8))], [.leaf false .bool], [], [], 9, [], false⟩,
  ⟨15, bodyOf Tryd.f15, Tryd.f15.results.toList, [.val (.leaf false .str), .val (.leaf false .str)], [.leaf false .str], [], [], 37, [], false⟩,
  ⟨16, bodyOf Tryd.f16, Tryd.f16.results.toList, [.val (.leaf false .str), .val (.leaf false (.int .i64))], [.leaf false (.int .i64)], [], [], 31, [(28, 23)], false⟩,
  ⟨17, bodyOf Tryd.f17, Tryd.f17.results.toList, [.val (.leaf false .str), .val (.leaf false .str)], [.leaf false (.int .i64), .leaf false .bool], [], [], 28, [], false⟩,
  ⟨19, bodyOf Tryd.f19, Tryd.f19.results.toList, [.val (.leaf false .str), .val (.leaf false (.int .u8))], [.leaf false .str], [], [], 23, [(12, 26)], false⟩,
  ⟨18, bodyOf Tryd.f18, Tryd.f18.results.toList, [.val (.leaf false .str), .val (.leaf false (.int .u8))], [.leaf false .str], [], [], 17, [(12, 28)], false⟩,
  ⟨25, bodyOf Tryd.f25, Tryd.f25.results.toList, [.val (.leaf false .str)], [.leaf false (.int .i64), .hole 1], [], [(16, 1)], 18, [], false⟩,
  ⟨26, bodyOf Tryd.f26, Tryd.f26.results.toList, [.val (.leaf false (.int .i64))], [.leaf false (.int .i64), .leaf false .bool], [], [], 8, [], false⟩,
  ⟨31, bodyOf Tryd.f31, Tryd.f31.results.toList, [.val (.leaf false .str)], [.leaf false (.int .i64), .hole 1], [], [], 77, [(235, 32), (3770, 33)], false⟩,
  ⟨33, bodyOf Tryd.f33, Tryd.f33.results.toList, [.val (.leaf false (.int .i64))], [.leaf false .bool], [], [], 5, [], false⟩,
  ⟨37, bodyOf Tryd.f37, Tryd.f37.results.toList, [.val (.leaf false .str), .val (.leaf false (.int .i64)), .val (.leaf false (.int .i64))], [.leaf false (.int .i64), .hole 1], [], [], 73, [(31, 36), (511, 37)], false⟩,
  ⟨42, bodyOf Tryd.f42, Tryd.f42.results.toList, [.val (.leaf false (.int .i64)), .val (.leaf false (.int .i64)), .val (.leaf false (.int .i64))], [.leaf false .bool], [], [], 15, [], false⟩,
  ⟨47, bodyOf Tryd.f47, Tryd.f47.results.toList, [.val (.leaf false .str), .val (.leaf false (.int .i64)), .val (.leaf false (.int .i64))], [.leaf false (.int .u64), .hole 1], [], [], 172, [(63, 40), (127, 41), (511, 42), (32762, 43), (8387175, 44)], false⟩,
  ⟨52, bodyOf Tryd.f52, Tryd.f52.results.toList, [.val (.leaf false (.int .u8))], [.leaf false (.int .u8)], [], [], 5, [], false⟩,
  ⟨53, bodyOf Tryd.f53, Tryd.f53.results.toList, [.val (.leaf false .str)], [.leaf false .bool], [], [], 94, [(31, 47), (127, 48), (508, 49)], false⟩]
def callL : CallL := [((3, []), 0), ((4, []), 1), ((5, []), 3), ((6, []), 4), ((7, []), 5), ((8, []), 7), ((9, []), 8), ((10, []), 9), ((11, []), 10), ((12, []), 16), ((13, []), 19), ((14, []), 20), ((15, []), 21), ((16, []), 22), ((17, []), 24), ((19, []), 25), ((18, []), 27), ((25, []), 29), ((26, []), 30), ((31, []), 31), ((33, []), 34), ((37, []), 35), ((42, []), 38), ((47, []), 39), ((52, []), 45), ((53, []), 46)]
noncomputable def tab : Tab where
  G := gam
  ty := lookT tyL
  ifc := memN ifcL
  key k := keyL.getD k ⟨0, [], []⟩
  ent k := entL.getD k ⟨0, .skip, [], [], [], [], [], 0, [], true⟩
  call := lookC callL
  ext _ _ := none
end Go.Proofs.YtlidpmhmchbilaaDoor.E.TA
