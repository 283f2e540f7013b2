/- The table of A: structs, types, entries, keys. No condition. -/
import Derived.Test.YtajahbpeiifcbaaEG4
import Derived.Test.YtajahbpeiifcbaaProg
import Derived.KernelRfl
namespace Go.Proofs.Ytajahbpeiifcbaa.E.TA
open Go.Proofs.Ytajahbpeiifcbaa.E
set_option linter.unusedVariables false
set_option maxRecDepth 100000
structure laws_Disk where
  Bytes : (_root_.List Int)
  Sure : Int
def z_laws_Disk : laws_Disk := ⟨[], 0⟩
structure impl_Disk where
  Bytes : (_root_.List Int)
  Sure : Int
def z_impl_Disk : impl_Disk := ⟨[], 0⟩
structure laws_Cmd where
  Who : Int
  Seq : Int
  Line : (_root_.List Int)
def z_laws_Cmd : laws_Cmd := ⟨0, 0, []⟩
structure laws_Entry where
  Term : Int
  C : laws_Cmd
def z_laws_Entry : laws_Entry := ⟨0, z_laws_Cmd⟩
structure laws_Log where
  Base : Int
  BaseTerm : Int
  List : (_root_.List laws_Entry)
def z_laws_Log : laws_Log := ⟨0, 0, []⟩
structure impl_Cmd where
  Who : Int
  Seq : Int
  Line : (_root_.List Int)
def z_impl_Cmd : impl_Cmd := ⟨0, 0, []⟩
structure impl_Entry where
  Term : Int
  C : impl_Cmd
def z_impl_Entry : impl_Entry := ⟨0, z_impl_Cmd⟩
structure impl_Log where
  Base : Int
  BaseTerm : Int
  List : (_root_.List impl_Entry)
def z_impl_Log : impl_Log := ⟨0, 0, []⟩
structure laws_Rpc where
  Kind : Int
  From : Int
  To : Int
  Term : Int
  Index : Int
  IndexTerm : Int
  Commit : Int
  List : (_root_.List laws_Entry)
  Ok : Bool
  Snap : (_root_.List Int)
def z_laws_Rpc : laws_Rpc := ⟨0, 0, 0, 0, 0, 0, 0, [], false, []⟩
structure impl_Rpc where
  Kind : Int
  From : Int
  To : Int
  Term : Int
  Index : Int
  IndexTerm : Int
  Commit : Int
  List : (_root_.List impl_Entry)
  Ok : Bool
  Snap : (_root_.List Int)
def z_impl_Rpc : impl_Rpc := ⟨0, 0, 0, 0, 0, 0, 0, [], false, []⟩
structure laws_Rec where
  Kind : Int
  Term : Int
  Vote : Int
  Prev : Int
  List : (_root_.List laws_Entry)
  Snap : (_root_.List Int)
def z_laws_Rec : laws_Rec := ⟨0, 0, 0, 0, [], []⟩
structure impl_Rec where
  Kind : Int
  Term : Int
  Vote : Int
  Prev : Int
  List : (_root_.List impl_Entry)
  Snap : (_root_.List Int)
def z_impl_Rec : impl_Rec := ⟨0, 0, 0, 0, [], []⟩
structure spec_l1Cur where
  b : (_root_.List Int)
  i : Int
  h : Int
def z_spec_l1Cur : spec_l1Cur := ⟨[], 0, 0⟩
def gT : Nat → Type
  | 0 => laws_Disk
  | 1 => impl_Disk
  | 2 => laws_Entry
  | 3 => laws_Cmd
  | 4 => laws_Log
  | 5 => impl_Entry
  | 6 => impl_Cmd
  | 7 => impl_Log
  | 8 => laws_Rpc
  | 9 => impl_Rpc
  | 10 => laws_Rec
  | 11 => impl_Rec
  | 12 => spec_l1Cur
  | _ => Unit
def gfs : Nat → List FT
  | 0 => [(.sl (.int .u8)), (.int .i64)]
  | 1 => [(.sl (.int .u8)), (.int .i64)]
  | 2 => [(.int .i64), (.nm 3)]
  | 3 => [(.int .i64), (.int .i64), .str]
  | 4 => [(.int .i64), (.int .i64), (.sl (.nm 2))]
  | 5 => [(.int .i64), (.nm 6)]
  | 6 => [(.int .i64), (.int .i64), .str]
  | 7 => [(.int .i64), (.int .i64), (.sl (.nm 5))]
  | 8 => [(.int .i64), (.int .i64), (.int .i64), (.int .i64), (.int .i64), (.int .i64), (.int .i64), (.sl (.nm 2)), .bool, .str]
  | 9 => [(.int .i64), (.int .i64), (.int .i64), (.int .i64), (.int .i64), (.int .i64), (.int .i64), (.sl (.nm 5)), .bool, .str]
  | 10 => [(.int .i64), (.int .i64), (.int .i64), (.int .i64), (.sl (.nm 2)), .str]
  | 11 => [(.int .i64), (.int .i64), (.int .i64), (.int .i64), (.sl (.nm 5)), .str]
  | 12 => [(.sl (.int .u8)), (.int .i64), (.int .i64)]
  | _ => []
def gun : ∀ n, gT n → Js gT (gfs n)
  | 0, x => (x.Bytes, (x.Sure, ()))
  | 1, x => (x.Bytes, (x.Sure, ()))
  | 2, x => (x.Term, (x.C, ()))
  | 3, x => (x.Who, (x.Seq, (x.Line, ())))
  | 4, x => (x.Base, (x.BaseTerm, (x.List, ())))
  | 5, x => (x.Term, (x.C, ()))
  | 6, x => (x.Who, (x.Seq, (x.Line, ())))
  | 7, x => (x.Base, (x.BaseTerm, (x.List, ())))
  | 8, x => (x.Kind, (x.From, (x.To, (x.Term, (x.Index, (x.IndexTerm, (x.Commit, (x.List, (x.Ok, (x.Snap, ()))))))))))
  | 9, x => (x.Kind, (x.From, (x.To, (x.Term, (x.Index, (x.IndexTerm, (x.Commit, (x.List, (x.Ok, (x.Snap, ()))))))))))
  | 10, x => (x.Kind, (x.Term, (x.Vote, (x.Prev, (x.List, (x.Snap, ()))))))
  | 11, x => (x.Kind, (x.Term, (x.Vote, (x.Prev, (x.List, (x.Snap, ()))))))
  | 12, x => (x.b, (x.i, (x.h, ())))
  | (n + 13), _ => ()
def gpk : ∀ n, Js gT (gfs n) → gT n
  | 0, y => ⟨y.1, y.2.1⟩
  | 1, y => ⟨y.1, y.2.1⟩
  | 2, y => ⟨y.1, y.2.1⟩
  | 3, y => ⟨y.1, y.2.1, y.2.2.1⟩
  | 4, y => ⟨y.1, y.2.1, y.2.2.1⟩
  | 5, y => ⟨y.1, y.2.1⟩
  | 6, y => ⟨y.1, y.2.1, y.2.2.1⟩
  | 7, y => ⟨y.1, y.2.1, y.2.2.1⟩
  | 8, y => ⟨y.1, y.2.1, y.2.2.1, y.2.2.2.1, y.2.2.2.2.1, y.2.2.2.2.2.1, y.2.2.2.2.2.2.1, y.2.2.2.2.2.2.2.1, y.2.2.2.2.2.2.2.2.1, y.2.2.2.2.2.2.2.2.2.1⟩
  | 9, y => ⟨y.1, y.2.1, y.2.2.1, y.2.2.2.1, y.2.2.2.2.1, y.2.2.2.2.2.1, y.2.2.2.2.2.2.1, y.2.2.2.2.2.2.2.1, y.2.2.2.2.2.2.2.2.1, y.2.2.2.2.2.2.2.2.2.1⟩
  | 10, y => ⟨y.1, y.2.1, y.2.2.1, y.2.2.2.1, y.2.2.2.2.1, y.2.2.2.2.2.1⟩
  | 11, y => ⟨y.1, y.2.1, y.2.2.1, y.2.2.2.1, y.2.2.2.2.1, y.2.2.2.2.2.1⟩
  | 12, y => ⟨y.1, y.2.1, y.2.2.1⟩
  | (n + 13), _ => ()
theorem gun_pk : ∀ n y, gun n (gpk n y) = y
  | 0, _ => rfl
  | 1, _ => rfl
  | 2, _ => rfl
  | 3, _ => rfl
  | 4, _ => rfl
  | 5, _ => rfl
  | 6, _ => rfl
  | 7, _ => rfl
  | 8, _ => rfl
  | 9, _ => rfl
  | 10, _ => rfl
  | 11, _ => rfl
  | 12, _ => rfl
  | (n + 13), _ => rfl
theorem gpk_un : ∀ n x, gpk n (gun n x) = x
  | 0, x => by cases x; rfl
  | 1, x => by cases x; rfl
  | 2, x => by cases x; rfl
  | 3, x => by cases x; rfl
  | 4, x => by cases x; rfl
  | 5, x => by cases x; rfl
  | 6, x => by cases x; rfl
  | 7, x => by cases x; rfl
  | 8, x => by cases x; rfl
  | 9, x => by cases x; rfl
  | 10, x => by cases x; rfl
  | 11, x => by cases x; rfl
  | 12, x => by cases x; rfl
  | (n + 13), _ => rfl
def gz : ∀ n, gT n
  | 0 => z_laws_Disk
  | 1 => z_impl_Disk
  | 2 => z_laws_Entry
  | 3 => z_laws_Cmd
  | 4 => z_laws_Log
  | 5 => z_impl_Entry
  | 6 => z_impl_Cmd
  | 7 => z_impl_Log
  | 8 => z_laws_Rpc
  | 9 => z_impl_Rpc
  | 10 => z_laws_Rec
  | 11 => z_impl_Rec
  | 12 => z_spec_l1Cur
  | (n + 13) => ()
theorem gun_z : ∀ n, gun n (gz n) = zeroJs gz (gfs n)
  | 0 => rfl
  | 1 => rfl
  | 2 => rfl
  | 3 => rfl
  | 4 => rfl
  | 5 => rfl
  | 6 => rfl
  | 7 => rfl
  | 8 => rfl
  | 9 => rfl
  | 10 => rfl
  | 11 => rfl
  | 12 => rfl
  | (n + 13) => rfl
def gsz : Nat → Nat
  | 0 => 2
  | 1 => 2
  | 2 => 4
  | 3 => 3
  | 4 => 3
  | 5 => 4
  | 6 => 3
  | 7 => 3
  | 8 => 10
  | 9 => 10
  | 10 => 6
  | 11 => 6
  | 12 => 3
  | _ => 0
theorem gsz_eq : ∀ n, gsz n = FT.szs gsz (gfs n)
  | 0 => rfl
  | 1 => rfl
  | 2 => rfl
  | 3 => rfl
  | 4 => rfl
  | 5 => rfl
  | 6 => rfl
  | 7 => rfl
  | 8 => rfl
  | 9 => rfl
  | 10 => rfl
  | 11 => rfl
  | 12 => rfl
  | (n + 13) => rfl
def gfl : Nat → Bool
  | 0 => false
  | 1 => false
  | 2 => true
  | 3 => true
  | 4 => false
  | 5 => true
  | 6 => true
  | 7 => false
  | 8 => false
  | 9 => false
  | 10 => false
  | 11 => false
  | 12 => false
  | _ => true
theorem gfl_eq : ∀ n, gfl n = true → FT.flats gfl (gfs n) = true
  | 0, h => by cases h
  | 1, h => by cases h
  | 2, h => rfl
  | 3, h => rfl
  | 4, h => by cases h
  | 5, h => rfl
  | 6, h => rfl
  | 7, h => by cases h
  | 8, h => by cases h
  | 9, h => by cases h
  | 10, h => by cases h
  | 11, h => by cases h
  | 12, h => by cases h
  | (n + 13), _ => rfl
def gam : Gam := ⟨gT, gfs, gun, gpk, gun_pk, gpk_un, gz, gun_z, gsz, gsz_eq, gfl, gfl_eq⟩
def tyL : List (Nat × FT) := [(2, (.int .i64)), (3, (.int .i64)), (4, .bool), (5, (.int .u8)), (9, .str), (22, (.sl (.int .u8))), (24, (.nm 0)), (26, (.nm 1)), (32, (.sl (.nm 2))), (34, (.nm 4)), (37, (.sl (.nm 5))), (39, (.nm 7)), (95, (.nm 6)), (97, (.nm 5)), (126, (.nm 3)), (128, (.nm 2))]
def keyL : List KeyI := [
  ⟨0, [], [.val 0 (.leaf false (.nm 0)), .val 1 (.leaf false (.int .i64))]⟩,
  ⟨1, [], [.val 0 (.leaf false (.nm 4)), .val 1 (.leaf false (.int .i64)), .val 2 (.leaf false (.int .i64))]⟩,
  ⟨2, [], [.val 0 (.leaf false (.nm 4)), .val 1 (.leaf false (.int .i64))]⟩,
  ⟨3, [], [.val 0 (.leaf false (.nm 4)), .val 1 (.leaf false (.int .i64))]⟩,
  ⟨4, [], [.val 0 (.leaf false (.nm 4)), .val 1 (.leaf false (.int .i64))]⟩,
  ⟨5, [], [.val 0 (.leaf false (.nm 0)), .val 1 (.leaf false (.int .i64))]⟩,
  ⟨6, [], [.val 0 (.leaf false (.nm 0))]⟩,
  ⟨7, [], [.val 0 (.leaf false (.nm 1)), .val 1 (.leaf false (.int .i64))]⟩,
  ⟨8, [], [.val 0 (.leaf false (.nm 1)), .val 1 (.leaf false (.int .i64))]⟩,
  ⟨9, [], [.val 0 (.leaf false (.nm 1)), .val 1 (.leaf false (.nm 1))]⟩,
  ⟨10, [], [.own 0 0 (.leaf true (.nm 1)), .val 1 (.leaf false (.int .i64))]⟩,
  ⟨11, [], [.val 0 (.leaf false (.nm 1)), .val 1 (.leaf false (.int .i64))]⟩,
  ⟨12, [], [.val 0 (.leaf false (.nm 4)), .val 1 (.leaf false (.int .i64))]⟩,
  ⟨13, [], [.val 0 (.leaf false (.nm 4))]⟩,
  ⟨14, [], [.val 0 (.leaf false (.nm 7)), .val 1 (.leaf false (.int .i64)), .val 2 (.leaf false (.int .i64))]⟩,
  ⟨15, [], [.val 0 (.leaf false (.nm 7)), .val 1 (.leaf false (.int .i64)), .val 2 (.leaf false (.int .i64))]⟩,
  ⟨16, [], [.val 0 (.leaf false (.nm 7)), .val 1 (.leaf false (.nm 7))]⟩,
  ⟨17, [], [.val 0 (.leaf false (.nm 7)), .val 1 (.leaf false (.int .i64))]⟩,
  ⟨18, [], [.val 0 (.leaf false (.nm 7)), .val 1 (.leaf false (.int .i64))]⟩,
  ⟨19, [], [.val 0 (.leaf false (.nm 7)), .val 1 (.leaf false (.int .i64))]⟩,
  ⟨20, [], [.val 0 (.leaf false (.nm 7)), .val 1 (.leaf false (.int .i64))]⟩,
  ⟨21, [], [.val 0 (.leaf false (.sl (.nm 5))), .val 1 (.leaf false (.sl (.nm 5)))]⟩,
  ⟨21, [true, true, false, true, false], [.val 0 (.leaf false (.sl (.nm 5))), .val 1 (.leaf false (.sl (.nm 5))), .val 5 (.leaf false (.int .i64))]⟩,
  ⟨22, [], [.own 0 0 (.leaf true (.nm 7)), .val 1 (.leaf false (.int .i64))]⟩,
  ⟨23, [], [.own 0 0 (.leaf true (.sl (.nm 5))), .val 1 (.leaf false (.int .i64))]⟩,
  ⟨23, [true, false, true, false], [.own 0 0 (.leaf true (.sl (.nm 5))), .val 1 (.leaf false (.int .i64)), .val 5 (.leaf false (.int .i64))]⟩,
  ⟨24, [], [.val 0 (.leaf false (.sl (.nm 5))), .val 1 (.leaf false (.int .i64))]⟩,
  ⟨24, [true, false, true, false], [.val 0 (.leaf false (.sl (.nm 5))), .val 1 (.leaf false (.int .i64)), .val 5 (.leaf false (.int .i64))]⟩,
  ⟨25, [], [.val 0 (.leaf false (.nm 7)), .val 1 (.leaf false (.int .i64))]⟩,
  ⟨26, [], [.val 0 (.leaf false (.nm 7)), .val 1 (.leaf false (.int .i64))]⟩,
  ⟨27, [], [.val 0 (.leaf false (.nm 7)), .val 1 (.leaf false (.int .i64))]⟩,
  ⟨28, [], [.val 0 (.leaf false (.sl (.int .u8))), .val 1 (.leaf false (.int .i64))]⟩,
  ⟨29, [], [.val 0 (.leaf false (.sl (.int .u8)))]⟩,
  ⟨29, [true, true, false, true, false], [.val 0 (.leaf false (.sl (.int .u8))), .own 3 48 (.leaf true (.sl (.int .u8))), .val 4 (.leaf false (.int .i64))]⟩,
  ⟨30, [], [.val 0 (.leaf false (.nm 1))]⟩,
  ⟨31, [], [.val 0 (.leaf false (.nm 1))]⟩,
  ⟨32, [], [.val 0 (.leaf false (.int .i64)), .val 1 (.leaf false (.int .i64))]⟩,
  ⟨33, [], [.val 0 (.leaf false (.int .i64)), .val 1 (.leaf false (.int .i64))]⟩,
  ⟨34, [], [.val 0 (.leaf false (.nm 1))]⟩,
  ⟨35, [], [.val 0 (.leaf false (.nm 1))]⟩,
  ⟨36, [], [.val 0 (.leaf false (.sl (.int .u8))), .val 1 (.leaf false (.sl (.int .u8)))]⟩,
  ⟨36, [true, true, false, true, false], [.val 0 (.leaf false (.sl (.int .u8))), .val 1 (.leaf false (.sl (.int .u8))), .val 5 (.leaf false (.int .i64))]⟩,
  ⟨37, [], [.own 0 0 (.leaf true (.sl (.int .u8))), .val 1 (.leaf false (.int .i64))]⟩,
  ⟨37, [true, false, true, false], [.own 0 0 (.leaf true (.sl (.int .u8))), .val 1 (.leaf false (.int .i64)), .val 5 (.leaf false (.int .i64))]⟩,
  ⟨38, [], [.val 0 (.leaf false (.sl (.int .u8))), .val 1 (.leaf false (.int .i64))]⟩,
  ⟨38, [true, false, true, false], [.val 0 (.leaf false (.sl (.int .u8))), .val 1 (.leaf false (.int .i64)), .val 5 (.leaf false (.int .i64))]⟩,
  ⟨39, [], [.val 0 (.leaf false (.sl (.nm 2))), .val 1 (.leaf false (.int .i64))]⟩,
  ⟨39, [true, true, true, false, true, false], [.val 0 (.leaf false (.sl (.nm 2))), .val 1 (.leaf false (.int .i64)), .val 5 (.leaf false (.int .i64))]⟩,
  ⟨40, [], [.val 0 (.leaf false (.sl (.nm 2)))]⟩,
  ⟨40, [true, true, false, true, false], [.val 0 (.leaf false (.sl (.nm 2))), .own 3 48 (.leaf true (.sl (.nm 5))), .val 4 (.leaf false (.int .i64))]⟩,
  ⟨41, [], [.val 0 (.leaf false (.nm 7))]⟩,
  ⟨42, [], [.val 0 (.leaf false (.nm 7))]⟩,
  ⟨43, [], [.val 0 (.leaf false (.nm 7)), .val 1 (.leaf false (.int .i64))]⟩,
  ⟨44, [], [.val 0 (.leaf false (.nm 7))]⟩,
  ⟨45, [], [.val 0 (.leaf false (.sl (.nm 5)))]⟩,
  ⟨46, [], [.val 0 (.leaf false (.nm 5)), .val 1 (.leaf false (.nm 5))]⟩,
  ⟨47, [], [.val 0 (.leaf false (.int .i64))]⟩,
  ⟨47, [true, true, true, false, false], [.val 0 (.leaf false (.int .i64)), .val 3 (.leaf false .str)]⟩,
  ⟨48, [], [.val 0 (.leaf false (.nm 7))]⟩,
  ⟨49, [], [.val 0 (.leaf false (.nm 7))]⟩,
  ⟨50, [], [.val 0 (.leaf false (.int .i64)), .val 1 (.leaf false (.int .i64)), .val 2 (.leaf false (.int .i64))]⟩,
  ⟨51, [], [.val 0 (.leaf false (.sl (.int .u8)))]⟩,
  ⟨52, [], [.val 0 (.leaf false (.int .i64)), .val 1 (.leaf false (.int .i64)), .val 2 (.leaf false (.int .i64))]⟩,
  ⟨53, [], [.val 0 (.leaf false (.nm 2)), .val 1 (.leaf false (.int .i64))]⟩,
  ⟨54, [], [.val 0 (.leaf false (.nm 2))]⟩,
  ⟨55, [], [.val 0 (.leaf false (.int .i64))]⟩,
  ⟨56, [], [.val 0 (.leaf false (.nm 6)), .val 1 (.leaf false (.nm 6))]⟩,
  ⟨57, [], [.val 0 (.leaf false (.nm 3)), .val 1 (.leaf false (.int .i64))]⟩,
  ⟨58, [], [.val 0 (.leaf false (.nm 3))]⟩]
noncomputable def entL : List EntI := [
  ⟨3, bodyOf Try.f3, Try.f3.results.toList, [.val (.leaf false (.nm 0)), .val (.leaf false (.int .i64))], [.leaf false .bool], [], [(19, 1), (21, 1), (33, 1), (59, 1), (61, 1)], 74, [], false⟩,
  ⟨4, bodyOf Try.f4, Try.f4.results.toList, [.val (.leaf false (.nm 4)), .val (.leaf false (.int .i64)), .val (.leaf false (.int .i64))], [.leaf false .bool], [], [(17, 1), (22, 1), (32, 1)], 35, [], false⟩,
  ⟨5, bodyOf Try.f5, Try.f5.results.toList, [.val (.leaf false (.nm 4)), .val (.leaf false (.int .i64))], [.leaf false .bool], [], [(15, 1), (19, 1), (28, 1)], 31, [], false⟩,
  ⟨7, bodyOf Try.f7, Try.f7.results.toList, [.val (.leaf false (.nm 4)), .val (.leaf false (.int .i64))], [.leaf false .bool], [], [(19, 1), (21, 1), (33, 1), (59, 1), (61, 1)], 74, [], false⟩,
  ⟨8, bodyOf Try.f8, Try.f8.results.toList, [.val (.leaf false (.nm 4)), .val (.leaf false (.int .i64))], [.leaf false .bool], [], [(19, 1), (21, 1), (33, 1), (59, 1), (61, 1)], 74, [], false⟩,
  ⟨15, bodyOf Try.f15, Try.f15.results.toList, [.val (.leaf false (.nm 0)), .val (.leaf false (.int .i64))], [.leaf false (.int .i64)], [], [], 12, [], false⟩,
  ⟨17, bodyOf Try.f17, Try.f17.results.toList, [.val (.leaf false (.nm 0))], [.leaf true (.nm 1)], [], [], 12, [], false⟩,
  ⟨16, bodyOf Try.f16, Try.f16.results.toList, [.val (.leaf false (.nm 1)), .val (.leaf false (.int .i64))], [.leaf false (.nm 1)], [], [(10, 1), (30, 1)], 31, [], false⟩,
  ⟨18, bodyOf Try.f18, Try.f18.results.toList, [.val (.leaf false (.nm 1)), .val (.leaf false (.int .i64))], [.leaf true (.nm 1)], [], [], 30, [], false⟩,
  ⟨19, bodyOf Try.f19, Try.f19.results.toList, [.val (.leaf false (.nm 1)), .val (.leaf false (.nm 1))], [.leaf false .bool], [], [], 16, [], false⟩,
  ⟨20, bodyOf Try.f20, Try.f20.results.toList, [.io (.leaf true (.nm 1)), .val (.leaf false (.int .i64))], [.leaf false (.int .i64)], [(32, .orig 0)], [], 10, [], false⟩,
  ⟨21, bodyOf Try.f21, Try.f21.results.toList, [.val (.leaf false (.nm 1)), .val (.leaf false (.int .i64))], [.leaf false (.int .i64)], [], [], 12, [], false⟩,
  ⟨22, bodyOf Try.f22, Try.f22.results.toList, [.val (.leaf false (.nm 4)), .val (.leaf false (.int .i64))], [.leaf false (.int .i64)], [], [], 12, [], false⟩,
  ⟨24, bodyOf Try.f24, Try.f24.results.toList, [.val (.leaf false (.nm 4))], [.leaf true (.nm 7)], [], [], 15, [], false⟩,
  ⟨23, bodyOf Try.f23, Try.f23.results.toList, [.val (.leaf false (.nm 7)), .val (.leaf false (.int .i64)), .val (.leaf false (.int .i64))], [.leaf false .bool], [], [], 27, [], false⟩,
  ⟨25, bodyOf Try.f25, Try.f25.results.toList, [.val (.leaf false (.nm 7)), .val (.leaf false (.int .i64)), .val (.leaf false (.int .i64))], [.leaf false .bool], [], [], 27, [], false⟩,
  ⟨26, bodyOf Try.f26, Try.f26.results.toList, [.val (.leaf false (.nm 7)), .val (.leaf false (.nm 7))], [.leaf false .bool], [], [], 21, [], false⟩,
  ⟨27, bodyOf Try.f27, Try.f27.results.toList, [.val (.leaf false (.nm 7)), .val (.leaf false (.int .i64))], [.leaf false (.int .i64)], [], [], 23, [], false⟩,
  ⟨28, bodyOf Try.f28, Try.f28.results.toList, [.val (.leaf false (.nm 7)), .val (.leaf false (.int .i64))], [.leaf false (.int .i64)], [], [(7, 1)], 43, [], false⟩,
  ⟨48, bodyOf Try.f48, Try.f48.results.toList, [.val (.leaf false (.nm 7)), .val (.leaf false (.int .i64))], [.leaf false (.sl (.nm 5))], [], [(11, 1)], 18, [], false⟩,
  ⟨49, bodyOf Try.f49, Try.f49.results.toList, [.val (.leaf false (.nm 7)), .val (.leaf false (.int .i64))], [.leaf true (.sl (.nm 5))], [], [(7, 1)], 34, [], false⟩,
  ⟨50, bodyOf Try.f50, Try.f50.results.toList, [.val (.leaf false (.sl (.nm 5))), .val (.leaf false (.sl (.nm 5)))], [.leaf false .bool], [], [], 27, [(58, 22)], false⟩,
  ⟨51, bodyOf Try.f51, Try.f51.results.toList, [.io (.leaf true (.nm 7)), .val (.leaf false (.int .i64))], [.leaf false (.int .i64)], [(32, .orig 0)], [], 10, [], false⟩,
  ⟨52, bodyOf Try.f52, Try.f52.results.toList, [.io (.leaf true (.sl (.nm 5))), .val (.leaf false (.int .i64))], [.leaf false (.int .i64)], [(0, .reg)], [], 45, [(26, 25)], false⟩,
  ⟨53, bodyOf Try.f53, Try.f53.results.toList, [.val (.leaf false (.sl (.nm 5))), .val (.leaf false (.int .i64))], [.leaf false (.int .i64)], [], [], 53, [(26, 27)], false⟩,
  ⟨54, bodyOf Try.f54, Try.f54.results.toList, [.val (.leaf false (.nm 7)), .val (.leaf false (.int .i64))], [.leaf false (.nm 7)], [], [(8, 1), (29, 1)], 30, [], false⟩,
  ⟨55, bodyOf Try.f55, Try.f55.results.toList, [.val (.leaf false (.nm 7)), .val (.leaf false (.int .i64))], [.leaf true (.nm 7)], [], [(7, 1)], 41, [], false⟩,
  ⟨56, bodyOf Try.f56, Try.f56.results.toList, [.val (.leaf false (.nm 7)), .val (.leaf false (.int .i64))], [.leaf false (.int .i64)], [], [], 12, [], false⟩,
  ⟨88, bodyOf Try.f88, Try.f88.results.toList, [.val (.leaf false (.sl (.int .u8))), .val (.leaf false (.int .i64))], [.leaf false (.int .i64)], [], [], 12, [], false⟩,
  ⟨93, bodyOf Try.f93, Try.f93.results.toList, [.val (.leaf false (.sl (.int .u8)))], [.leaf true (.sl (.int .u8))], [], [], 22, [(58, 33)], false⟩,
  ⟨89, bodyOf Try.f89, Try.f89.results.toList, [.val (.leaf false (.nm 1))], [.leaf false .bool], [], [], 15, [], false⟩,
  ⟨90, bodyOf Try.f90, Try.f90.results.toList, [.val (.leaf false (.nm 1))], [.leaf false (.nm 1)], [], [(9, 1)], 10, [], false⟩,
  ⟨92, bodyOf Try.f92, Try.f92.results.toList, [.val (.leaf false (.int .i64)), .val (.leaf false (.int .i64))], [.leaf false (.int .i64)], [], [], 10, [], false⟩,
  ⟨91, bodyOf Try.f91, Try.f91.results.toList, [.val (.leaf false (.int .i64)), .val (.leaf false (.int .i64))], [.leaf false (.int .i64)], [], [], 10, [], false⟩,
  ⟨94, bodyOf Try.f94, Try.f94.results.toList, [.val (.leaf false (.nm 1))], [.leaf true (.nm 1)], [], [], 9, [], false⟩,
  ⟨95, bodyOf Try.f95, Try.f95.results.toList, [.val (.leaf false (.nm 1))], [.leaf false .bool], [], [], 15, [], false⟩,
  ⟨84, bodyOf Try.f84, Try.f84.results.toList, [.val (.leaf false (.sl (.int .u8))), .val (.leaf false (.sl (.int .u8)))], [.leaf false .bool], [], [], 26, [(58, 41)], false⟩,
  ⟨86, bodyOf Try.f86, Try.f86.results.toList, [.io (.leaf true (.sl (.int .u8))), .val (.leaf false (.int .i64))], [.leaf false (.int .i64)], [(0, .reg)], [], 20, [(26, 43)], false⟩,
  ⟨87, bodyOf Try.f87, Try.f87.results.toList, [.val (.leaf false (.sl (.int .u8))), .val (.leaf false (.int .i64))], [.leaf false (.int .i64)], [], [], 22, [(26, 45)], false⟩,
  ⟨69, bodyOf Try.f69, Try.f69.results.toList, [.val (.leaf false (.sl (.nm 2))), .val (.leaf false (.int .i64))], [.leaf false (.int .i64)], [], [], 27, [(122, 47)], false⟩,
  ⟨71, bodyOf Try.f71, Try.f71.results.toList, [.val (.leaf false (.sl (.nm 2)))], [.leaf true (.sl (.nm 5))], [], [], 23, [(58, 49)], false⟩,
  ⟨81, bodyOf Try.f81, Try.f81.results.toList, [.val (.leaf false (.nm 7))], [.leaf false (.int .i64), .leaf false (.int .i64)], [], [], 25, [], false⟩,
  ⟨80, bodyOf Try.f80, Try.f80.results.toList, [.val (.leaf false (.nm 7))], [.leaf false (.int .i64), .leaf false (.int .i64)], [], [], 27, [], false⟩,
  ⟨96, bodyOf Try.f96, Try.f96.results.toList, [.val (.leaf false (.nm 7)), .val (.leaf false (.int .i64))], [.leaf false (.int .i64)], [], [], 30, [], false⟩,
  ⟨97, bodyOf Try.f97, Try.f97.results.toList, [.val (.leaf false (.nm 7))], [.leaf false (.sl (.nm 5))], [], [], 17, [], false⟩,
  ⟨106, bodyOf Try.f106, Try.f106.results.toList, [.val (.leaf false (.sl (.nm 5)))], [.leaf true (.sl (.nm 5))], [], [], 8, [], false⟩,
  ⟨107, bodyOf Try.f107, Try.f107.results.toList, [.val (.leaf false (.nm 5)), .val (.leaf false (.nm 5))], [.leaf false .bool], [], [], 16, [], false⟩,
  ⟨108, bodyOf Try.f108, Try.f108.results.toList, [.val (.leaf false (.int .i64))], [.leaf false .str], [], [(12, 1)], 20, [(60, 57)], false⟩,
  ⟨109, bodyOf Try.f109, Try.f109.results.toList, [.val (.leaf false (.nm 7))], [.leaf false (.nm 7)], [], [(11, 1)], 12, [], false⟩,
  ⟨110, bodyOf Try.f110, Try.f110.results.toList, [.val (.leaf false (.nm 7))], [.leaf true (.nm 7)], [], [], 8, [], false⟩,
  ⟨102, bodyOf Try.f102, Try.f102.results.toList, [.val (.leaf false (.int .i64)), .val (.leaf false (.int .i64)), .val (.leaf false (.int .i64))], [.leaf false .bool], [], [], 15, [], false⟩,
  ⟨125, bodyOf Try.f125, Try.f125.results.toList, [.val (.leaf false (.sl (.int .u8)))], [.leaf true (.sl (.int .u8))], [], [], 8, [], false⟩,
  ⟨100, bodyOf Try.f100, Try.f100.results.toList, [.val (.leaf false (.int .i64)), .val (.leaf false (.int .i64)), .val (.leaf false (.int .i64))], [.leaf false .bool], [], [], 15, [], false⟩,
  ⟨117, bodyOf Try.f117, Try.f117.results.toList, [.val (.leaf false (.nm 2)), .val (.leaf false (.int .i64))], [.leaf false (.int .i64)], [], [], 12, [], false⟩,
  ⟨118, bodyOf Try.f118, Try.f118.results.toList, [.val (.leaf false (.nm 2))], [.leaf false (.nm 5)], [], [], 12, [], false⟩,
  ⟨112, bodyOf Try.f112, Try.f112.results.toList, [.val (.leaf false (.int .i64))], [.leaf false .bool], [], [], 5, [], false⟩,
  ⟨127, bodyOf Try.f127, Try.f127.results.toList, [.val (.leaf false (.nm 6)), .val (.leaf false (.nm 6))], [.leaf false .bool], [], [], 20, [], false⟩,
  ⟨132, bodyOf Try.f132, Try.f132.results.toList, [.val (.leaf false (.nm 3)), .val (.leaf false (.int .i64))], [.leaf false (.int .i64)], [], [], 13, [], false⟩,
  ⟨133, bodyOf Try.f133, Try.f133.results.toList, [.val (.leaf false (.nm 3))], [.leaf false (.nm 6)], [], [], 14, [], false⟩]
def callL : CallL := [((3, []), 0), ((4, []), 1), ((5, []), 2), ((7, []), 3), ((8, []), 4), ((15, []), 5), ((17, []), 6), ((16, []), 7), ((18, []), 8), ((19, []), 9), ((20, []), 10), ((21, []), 11), ((22, []), 12), ((24, []), 13), ((23, []), 14), ((25, []), 15), ((26, []), 16), ((27, []), 17), ((28, []), 18), ((48, []), 19), ((49, []), 20), ((50, []), 21), ((51, []), 23), ((52, []), 24), ((53, []), 26), ((54, []), 28), ((55, []), 29), ((56, []), 30), ((88, []), 31), ((93, []), 32), ((89, []), 34), ((90, []), 35), ((92, []), 36), ((91, []), 37), ((94, []), 38), ((95, []), 39), ((84, []), 40), ((86, []), 42), ((87, []), 44), ((69, []), 46), ((71, []), 48), ((81, []), 50), ((80, []), 51), ((96, []), 52), ((97, []), 53), ((106, []), 54), ((107, []), 55), ((108, []), 56), ((109, []), 58), ((110, []), 59), ((102, []), 60), ((125, []), 61), ((100, []), 62), ((117, []), 63), ((118, []), 64), ((112, []), 65), ((127, []), 66), ((132, []), 67), ((133, []), 68)]
noncomputable def tab : Tab where
  G := gam
  ty := lookT tyL
  key k := keyL.getD k ⟨0, [], []⟩
  ent k := entL.getD k ⟨0, .skip, [], [], [], [], [], 0, [], true⟩
  call := lookC callL
  ext _ _ := none
end Go.Proofs.Ytajahbpeiifcbaa.E.TA
