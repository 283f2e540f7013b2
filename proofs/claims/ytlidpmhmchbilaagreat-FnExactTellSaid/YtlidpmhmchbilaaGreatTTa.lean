/- The table of T: structs, types, entries, keys. No condition. -/
import Derived.Test.YtlidpmhmchbilaaGreatEG4
import Derived.Test.YtlidpmhmchbilaaGreatProg
import Derived.KernelRfl
namespace Go.Proofs.YtlidpmhmchbilaaGreat.E.TT
open Go.Proofs.YtlidpmhmchbilaaGreat.E
set_option linter.unusedVariables false
set_option maxRecDepth 100000
structure laws_Cmd where
  Who : Int
  Seq : Int
  Line : (_root_.List Int)
def z_laws_Cmd : laws_Cmd := ⟨0, 0, []⟩
structure laws_Entry where
  Term : Int
  C : laws_Cmd
def z_laws_Entry : laws_Entry := ⟨0, z_laws_Cmd⟩
structure laws_Log where
  Base : Int
  BaseTerm : Int
  List : (_root_.List laws_Entry)
def z_laws_Log : laws_Log := ⟨0, 0, []⟩
structure laws_Val where
  Kind : Int
  N : Int
  S : (_root_.List Int)
def z_laws_Val : laws_Val := ⟨0, 0, []⟩
structure laws_Cell where
  Name : Int
  Key : (_root_.List Int)
  Val : laws_Val
def z_laws_Cell : laws_Cell := ⟨0, [], z_laws_Val⟩
structure laws_State where
  Vars : (_root_.List laws_Val)
  Cells : (_root_.List laws_Cell)
  Nr : Int
  Err : Int
def z_laws_State : laws_State := ⟨[], [], 0, 0⟩
structure laws_Mach where
  State : laws_State
  Done : (_root_.List Int)
  Out : (_root_.List Int)
def z_laws_Mach : laws_Mach := ⟨z_laws_State, [], []⟩
structure laws_Hard where
  Term : Int
  Vote : Int
  Log : laws_Log
  Snap : laws_Mach
def z_laws_Hard : laws_Hard := ⟨0, 0, z_laws_Log, z_laws_Mach⟩
structure laws_Disk where
  Bytes : (_root_.List Int)
  Sure : Int
def z_laws_Disk : laws_Disk := ⟨[], 0⟩
structure laws_Rpc where
  Kind : Int
  From : Int
  To : Int
  Term : Int
  Index : Int
  IndexTerm : Int
  Commit : Int
  List : (_root_.List laws_Entry)
  Ok : Bool
  Snap : (_root_.List Int)
def z_laws_Rpc : laws_Rpc := ⟨0, 0, 0, 0, 0, 0, 0, [], false, []⟩
structure laws_Peer where
  Id : Int
  Hard : laws_Hard
  Role : Int
  Votes : (_root_.List Bool)
  Next : (_root_.List Int)
  Match : (_root_.List Int)
  Commit : Int
  Now : laws_Mach
  Disk : laws_Disk
  Held : (_root_.List laws_Rpc)
def z_laws_Peer : laws_Peer := ⟨0, z_laws_Hard, 0, [], [], [], 0, z_laws_Mach, z_laws_Disk, []⟩
structure impl_Cmd where
  Who : Int
  Seq : Int
  Line : (_root_.List Int)
def z_impl_Cmd : impl_Cmd := ⟨0, 0, []⟩
structure impl_Entry where
  Term : Int
  C : impl_Cmd
def z_impl_Entry : impl_Entry := ⟨0, z_impl_Cmd⟩
structure impl_Log where
  Base : Int
  BaseTerm : Int
  List : (_root_.List impl_Entry)
def z_impl_Log : impl_Log := ⟨0, 0, []⟩
structure impl_Val where
  Kind : Int
  N : Int
  S : (_root_.List Int)
def z_impl_Val : impl_Val := ⟨0, 0, []⟩
structure impl_Cell where
  Name : Int
  Key : (_root_.List Int)
  Val : impl_Val
def z_impl_Cell : impl_Cell := ⟨0, [], z_impl_Val⟩
structure impl_State where
  Vars : (_root_.List impl_Val)
  Cells : (_root_.List impl_Cell)
  Nr : Int
  Err : Int
def z_impl_State : impl_State := ⟨[], [], 0, 0⟩
structure impl_Mach where
  State : impl_State
  Done : (_root_.List Int)
  Out : (_root_.List Int)
def z_impl_Mach : impl_Mach := ⟨z_impl_State, [], []⟩
structure impl_Hard where
  Term : Int
  Vote : Int
  Log : impl_Log
  Snap : impl_Mach
def z_impl_Hard : impl_Hard := ⟨0, 0, z_impl_Log, z_impl_Mach⟩
structure impl_Disk where
  Bytes : (_root_.List Int)
  Sure : Int
def z_impl_Disk : impl_Disk := ⟨[], 0⟩
structure impl_Rpc where
  Kind : Int
  From : Int
  To : Int
  Term : Int
  Index : Int
  IndexTerm : Int
  Commit : Int
  List : (_root_.List impl_Entry)
  Ok : Bool
  Snap : (_root_.List Int)
def z_impl_Rpc : impl_Rpc := ⟨0, 0, 0, 0, 0, 0, 0, [], false, []⟩
structure impl_Peer where
  Id : Int
  Hard : impl_Hard
  Role : Int
  Votes : (_root_.List Bool)
  Next : (_root_.List Int)
  Match : (_root_.List Int)
  Commit : Int
  Now : impl_Mach
  Disk : impl_Disk
  Held : (_root_.List impl_Rpc)
def z_impl_Peer : impl_Peer := ⟨0, z_impl_Hard, 0, [], [], [], 0, z_impl_Mach, z_impl_Disk, []⟩
def gT : Nat → Type
  | 0 => laws_Log
  | 1 => laws_Entry
  | 2 => laws_Cmd
  | 3 => laws_State
  | 4 => laws_Val
  | 5 => laws_Cell
  | 6 => laws_Mach
  | 7 => laws_Hard
  | 8 => laws_Disk
  | 9 => laws_Peer
  | 10 => laws_Rpc
  | 11 => impl_Log
  | 12 => impl_Entry
  | 13 => impl_Cmd
  | 14 => impl_State
  | 15 => impl_Val
  | 16 => impl_Cell
  | 17 => impl_Mach
  | 18 => impl_Hard
  | 19 => impl_Disk
  | 20 => impl_Peer
  | 21 => impl_Rpc
  | _ => Unit
def gfs : Nat → List FT
  | 0 => [(.int .i64), (.int .i64), (.sl (.nm 1))]
  | 1 => [(.int .i64), (.nm 2)]
  | 2 => [(.int .i64), (.int .i64), .str]
  | 3 => [(.sl (.nm 4)), (.sl (.nm 5)), (.int .i64), (.int .i64)]
  | 4 => [(.int .i64), (.int .i64), .str]
  | 5 => [(.int .i64), .str, (.nm 4)]
  | 6 => [(.nm 3), (.sl (.int .i64)), .str]
  | 7 => [(.int .i64), (.int .i64), (.nm 0), (.nm 6)]
  | 8 => [(.sl (.int .u8)), (.int .i64)]
  | 9 => [(.int .i64), (.nm 7), (.int .i64), (.sl .bool), (.sl (.int .i64)), (.sl (.int .i64)), (.int .i64), (.nm 6), (.nm 8), (.sl (.nm 10))]
  | 10 => [(.int .i64), (.int .i64), (.int .i64), (.int .i64), (.int .i64), (.int .i64), (.int .i64), (.sl (.nm 1)), .bool, .str]
  | 11 => [(.int .i64), (.int .i64), (.sl (.nm 12))]
  | 12 => [(.int .i64), (.nm 13)]
  | 13 => [(.int .i64), (.int .i64), .str]
  | 14 => [(.sl (.nm 15)), (.sl (.nm 16)), (.int .i64), (.int .i64)]
  | 15 => [(.int .i64), (.int .i64), .str]
  | 16 => [(.int .i64), .str, (.nm 15)]
  | 17 => [(.nm 14), (.sl (.int .i64)), .str]
  | 18 => [(.int .i64), (.int .i64), (.nm 11), (.nm 17)]
  | 19 => [(.sl (.int .u8)), (.int .i64)]
  | 20 => [(.int .i64), (.nm 18), (.int .i64), (.sl .bool), (.sl (.int .i64)), (.sl (.int .i64)), (.int .i64), (.nm 17), (.nm 19), (.sl (.nm 21))]
  | 21 => [(.int .i64), (.int .i64), (.int .i64), (.int .i64), (.int .i64), (.int .i64), (.int .i64), (.sl (.nm 12)), .bool, .str]
  | _ => []
def gun : ∀ n, gT n → Js gT (gfs n)
  | 0, x => (x.Base, (x.BaseTerm, (x.List, ())))
  | 1, x => (x.Term, (x.C, ()))
  | 2, x => (x.Who, (x.Seq, (x.Line, ())))
  | 3, x => (x.Vars, (x.Cells, (x.Nr, (x.Err, ()))))
  | 4, x => (x.Kind, (x.N, (x.S, ())))
  | 5, x => (x.Name, (x.Key, (x.Val, ())))
  | 6, x => (x.State, (x.Done, (x.Out, ())))
  | 7, x => (x.Term, (x.Vote, (x.Log, (x.Snap, ()))))
  | 8, x => (x.Bytes, (x.Sure, ()))
  | 9, x => (x.Id, (x.Hard, (x.Role, (x.Votes, (x.Next, (x.Match, (x.Commit, (x.Now, (x.Disk, (x.Held, ()))))))))))
  | 10, x => (x.Kind, (x.From, (x.To, (x.Term, (x.Index, (x.IndexTerm, (x.Commit, (x.List, (x.Ok, (x.Snap, ()))))))))))
  | 11, x => (x.Base, (x.BaseTerm, (x.List, ())))
  | 12, x => (x.Term, (x.C, ()))
  | 13, x => (x.Who, (x.Seq, (x.Line, ())))
  | 14, x => (x.Vars, (x.Cells, (x.Nr, (x.Err, ()))))
  | 15, x => (x.Kind, (x.N, (x.S, ())))
  | 16, x => (x.Name, (x.Key, (x.Val, ())))
  | 17, x => (x.State, (x.Done, (x.Out, ())))
  | 18, x => (x.Term, (x.Vote, (x.Log, (x.Snap, ()))))
  | 19, x => (x.Bytes, (x.Sure, ()))
  | 20, x => (x.Id, (x.Hard, (x.Role, (x.Votes, (x.Next, (x.Match, (x.Commit, (x.Now, (x.Disk, (x.Held, ()))))))))))
  | 21, x => (x.Kind, (x.From, (x.To, (x.Term, (x.Index, (x.IndexTerm, (x.Commit, (x.List, (x.Ok, (x.Snap, ()))))))))))
  | (n + 22), _ => ()
def gpk : ∀ n, Js gT (gfs n) → gT n
  | 0, y => ⟨y.1, y.2.1, y.2.2.1⟩
  | 1, y => ⟨y.1, y.2.1⟩
  | 2, y => ⟨y.1, y.2.1, y.2.2.1⟩
  | 3, y => ⟨y.1, y.2.1, y.2.2.1, y.2.2.2.1⟩
  | 4, y => ⟨y.1, y.2.1, y.2.2.1⟩
  | 5, y => ⟨y.1, y.2.1, y.2.2.1⟩
  | 6, y => ⟨y.1, y.2.1, y.2.2.1⟩
  | 7, y => ⟨y.1, y.2.1, y.2.2.1, y.2.2.2.1⟩
  | 8, y => ⟨y.1, y.2.1⟩
  | 9, y => ⟨y.1, y.2.1, y.2.2.1, y.2.2.2.1, y.2.2.2.2.1, y.2.2.2.2.2.1, y.2.2.2.2.2.2.1, y.2.2.2.2.2.2.2.1, y.2.2.2.2.2.2.2.2.1, y.2.2.2.2.2.2.2.2.2.1⟩
  | 10, y => ⟨y.1, y.2.1, y.2.2.1, y.2.2.2.1, y.2.2.2.2.1, y.2.2.2.2.2.1, y.2.2.2.2.2.2.1, y.2.2.2.2.2.2.2.1, y.2.2.2.2.2.2.2.2.1, y.2.2.2.2.2.2.2.2.2.1⟩
  | 11, y => ⟨y.1, y.2.1, y.2.2.1⟩
  | 12, y => ⟨y.1, y.2.1⟩
  | 13, y => ⟨y.1, y.2.1, y.2.2.1⟩
  | 14, y => ⟨y.1, y.2.1, y.2.2.1, y.2.2.2.1⟩
  | 15, y => ⟨y.1, y.2.1, y.2.2.1⟩
  | 16, y => ⟨y.1, y.2.1, y.2.2.1⟩
  | 17, y => ⟨y.1, y.2.1, y.2.2.1⟩
  | 18, y => ⟨y.1, y.2.1, y.2.2.1, y.2.2.2.1⟩
  | 19, y => ⟨y.1, y.2.1⟩
  | 20, y => ⟨y.1, y.2.1, y.2.2.1, y.2.2.2.1, y.2.2.2.2.1, y.2.2.2.2.2.1, y.2.2.2.2.2.2.1, y.2.2.2.2.2.2.2.1, y.2.2.2.2.2.2.2.2.1, y.2.2.2.2.2.2.2.2.2.1⟩
  | 21, y => ⟨y.1, y.2.1, y.2.2.1, y.2.2.2.1, y.2.2.2.2.1, y.2.2.2.2.2.1, y.2.2.2.2.2.2.1, y.2.2.2.2.2.2.2.1, y.2.2.2.2.2.2.2.2.1, y.2.2.2.2.2.2.2.2.2.1⟩
  | (n + 22), _ => ()
theorem gun_pk : ∀ n y, gun n (gpk n y) = y
  | 0, _ => rfl
  | 1, _ => rfl
  | 2, _ => rfl
  | 3, _ => rfl
  | 4, _ => rfl
  | 5, _ => rfl
  | 6, _ => rfl
  | 7, _ => rfl
  | 8, _ => rfl
  | 9, _ => rfl
  | 10, _ => rfl
  | 11, _ => rfl
  | 12, _ => rfl
  | 13, _ => rfl
  | 14, _ => rfl
  | 15, _ => rfl
  | 16, _ => rfl
  | 17, _ => rfl
  | 18, _ => rfl
  | 19, _ => rfl
  | 20, _ => rfl
  | 21, _ => rfl
  | (n + 22), _ => rfl
theorem gpk_un : ∀ n x, gpk n (gun n x) = x
  | 0, x => by cases x; rfl
  | 1, x => by cases x; rfl
  | 2, x => by cases x; rfl
  | 3, x => by cases x; rfl
  | 4, x => by cases x; rfl
  | 5, x => by cases x; rfl
  | 6, x => by cases x; rfl
  | 7, x => by cases x; rfl
  | 8, x => by cases x; rfl
  | 9, x => by cases x; rfl
  | 10, x => by cases x; rfl
  | 11, x => by cases x; rfl
  | 12, x => by cases x; rfl
  | 13, x => by cases x; rfl
  | 14, x => by cases x; rfl
  | 15, x => by cases x; rfl
  | 16, x => by cases x; rfl
  | 17, x => by cases x; rfl
  | 18, x => by cases x; rfl
  | 19, x => by cases x; rfl
  | 20, x => by cases x; rfl
  | 21, x => by cases x; rfl
  | (n + 22), _ => rfl
def gz : ∀ n, gT n
  | 0 => z_laws_Log
  | 1 => z_laws_Entry
  | 2 => z_laws_Cmd
  | 3 => z_laws_State
  | 4 => z_laws_Val
  | 5 => z_laws_Cell
  | 6 => z_laws_Mach
  | 7 => z_laws_Hard
  | 8 => z_laws_Disk
  | 9 => z_laws_Peer
  | 10 => z_laws_Rpc
  | 11 => z_impl_Log
  | 12 => z_impl_Entry
  | 13 => z_impl_Cmd
  | 14 => z_impl_State
  | 15 => z_impl_Val
  | 16 => z_impl_Cell
  | 17 => z_impl_Mach
  | 18 => z_impl_Hard
  | 19 => z_impl_Disk
  | 20 => z_impl_Peer
  | 21 => z_impl_Rpc
  | (n + 22) => ()
theorem gun_z : ∀ n, gun n (gz n) = zeroJs gz (gfs n)
  | 0 => rfl
  | 1 => rfl
  | 2 => rfl
  | 3 => rfl
  | 4 => rfl
  | 5 => rfl
  | 6 => rfl
  | 7 => rfl
  | 8 => rfl
  | 9 => rfl
  | 10 => rfl
  | 11 => rfl
  | 12 => rfl
  | 13 => rfl
  | 14 => rfl
  | 15 => rfl
  | 16 => rfl
  | 17 => rfl
  | 18 => rfl
  | 19 => rfl
  | 20 => rfl
  | 21 => rfl
  | (n + 22) => rfl
def gsz : Nat → Nat
  | 0 => 3
  | 1 => 4
  | 2 => 3
  | 3 => 4
  | 4 => 3
  | 5 => 5
  | 6 => 6
  | 7 => 11
  | 8 => 2
  | 9 => 26
  | 10 => 10
  | 11 => 3
  | 12 => 4
  | 13 => 3
  | 14 => 4
  | 15 => 3
  | 16 => 5
  | 17 => 6
  | 18 => 11
  | 19 => 2
  | 20 => 26
  | 21 => 10
  | _ => 0
theorem gsz_eq : ∀ n, gsz n = FT.szs gsz (gfs n)
  | 0 => rfl
  | 1 => rfl
  | 2 => rfl
  | 3 => rfl
  | 4 => rfl
  | 5 => rfl
  | 6 => rfl
  | 7 => rfl
  | 8 => rfl
  | 9 => rfl
  | 10 => rfl
  | 11 => rfl
  | 12 => rfl
  | 13 => rfl
  | 14 => rfl
  | 15 => rfl
  | 16 => rfl
  | 17 => rfl
  | 18 => rfl
  | 19 => rfl
  | 20 => rfl
  | 21 => rfl
  | (n + 22) => rfl
def gfl : Nat → Bool
  | 0 => false
  | 1 => true
  | 2 => true
  | 3 => false
  | 4 => true
  | 5 => true
  | 6 => false
  | 7 => false
  | 8 => false
  | 9 => false
  | 10 => false
  | 11 => false
  | 12 => true
  | 13 => true
  | 14 => false
  | 15 => true
  | 16 => true
  | 17 => false
  | 18 => false
  | 19 => false
  | 20 => false
  | 21 => false
  | _ => true
theorem gfl_eq : ∀ n, gfl n = true → FT.flats gfl (gfs n) = true
  | 0, h => by cases h
  | 1, h => rfl
  | 2, h => rfl
  | 3, h => by cases h
  | 4, h => rfl
  | 5, h => rfl
  | 6, h => by cases h
  | 7, h => by cases h
  | 8, h => by cases h
  | 9, h => by cases h
  | 10, h => by cases h
  | 11, h => by cases h
  | 12, h => rfl
  | 13, h => rfl
  | 14, h => by cases h
  | 15, h => rfl
  | 16, h => rfl
  | 17, h => by cases h
  | 18, h => by cases h
  | 19, h => by cases h
  | 20, h => by cases h
  | 21, h => by cases h
  | (n + 22), _ => rfl
def gam : Gam := ⟨gT, gfs, gun, gpk, gun_pk, gpk_un, gz, gun_z, gsz, gsz_eq, gfl, gfl_eq⟩
def tyL : List (Nat × FT) := [(2, (.int .i64)), (3, (.int .i64)), (4, .bool), (5, (.int .u8)), (6, (.int .u8)), (9, .str), (22, (.sl (.nm 1))), (24, (.nm 0)), (25, (.sl (.nm 4))), (26, (.sl (.nm 5))), (28, (.nm 3)), (29, (.sl (.int .i64))), (31, (.nm 6)), (33, (.nm 7)), (34, (.sl .bool)), (35, (.sl (.int .u8))), (37, (.nm 8)), (38, (.sl (.nm 10))), (40, (.nm 9)), (42, (.nm 10)), (45, (.sl (.nm 12))), (47, (.nm 11)), (48, (.sl (.nm 15))), (49, (.sl (.nm 16))), (51, (.nm 14)), (53, (.nm 17)), (55, (.nm 18)), (56, (.nm 19)), (57, (.sl (.nm 21))), (59, (.nm 20)), (64, (.nm 21)), (104, (.nm 2)), (106, (.nm 1)), (114, (.nm 13)), (116, (.nm 12)), (141, (.nm 4)), (144, (.nm 5)), (145, (.nm 15)), (148, (.nm 16))]
def ifcL : List Nat := []
def keyL : List KeyI := [
  ⟨0, [], [.val 0 (.leaf false (.nm 9)), .val 1 (.leaf false (.nm 10))]⟩,
  ⟨1, [], [.val 0 (.leaf false (.nm 9)), .val 1 (.leaf false (.int .i64))]⟩,
  ⟨2, [], [.val 0 (.leaf false (.nm 10)), .val 1 (.leaf false (.int .i64))]⟩,
  ⟨3, [], [.val 0 (.leaf false (.nm 9))]⟩,
  ⟨4, [], [.val 0 (.leaf false (.nm 10))]⟩,
  ⟨5, [], [.val 0 (.leaf false (.nm 20)), .val 1 (.leaf false (.nm 21))]⟩,
  ⟨6, [], [.val 0 (.leaf false (.nm 20)), .val 1 (.leaf false (.nm 21))]⟩,
  ⟨7, [], [.val 0 (.leaf false (.nm 20)), .val 1 (.leaf false (.nm 20))]⟩,
  ⟨8, [], [.val 0 (.leaf false (.nm 21)), .val 1 (.leaf false (.nm 21))]⟩,
  ⟨9, [], [.own 0 0 (.leaf true (.nm 20)), .val 1 (.leaf false (.int .i64))]⟩,
  ⟨10, [], [.own 0 0 (.leaf true (.nm 21)), .val 1 (.leaf false (.int .i64))]⟩,
  ⟨11, [], [.val 0 (.leaf false (.nm 20)), .val 1 (.leaf false (.int .i64))]⟩,
  ⟨12, [], [.val 0 (.leaf false (.nm 7)), .val 1 (.leaf false (.int .i64))]⟩,
  ⟨13, [], [.val 0 (.leaf false (.sl .bool)), .val 1 (.leaf false (.int .i64))]⟩,
  ⟨14, [], [.val 0 (.leaf false (.sl (.int .i64))), .val 1 (.leaf false (.int .i64))]⟩,
  ⟨15, [], [.val 0 (.leaf false (.nm 6)), .val 1 (.leaf false (.int .i64))]⟩,
  ⟨16, [], [.val 0 (.leaf false (.nm 8)), .val 1 (.leaf false (.int .i64))]⟩,
  ⟨17, [], [.val 0 (.leaf false (.sl (.nm 10))), .val 1 (.leaf false (.int .i64))]⟩,
  ⟨17, [true, true, true, false, true, false], [.val 0 (.leaf false (.sl (.nm 10))), .val 1 (.leaf false (.int .i64)), .val 5 (.leaf false (.int .i64))]⟩,
  ⟨18, [], [.val 0 (.leaf false (.sl (.nm 1))), .val 1 (.leaf false (.int .i64))]⟩,
  ⟨18, [true, true, true, false, true, false], [.val 0 (.leaf false (.sl (.nm 1))), .val 1 (.leaf false (.int .i64)), .val 5 (.leaf false (.int .i64))]⟩,
  ⟨19, [], [.val 0 (.leaf false (.nm 7))]⟩,
  ⟨20, [], [.val 0 (.leaf false (.sl .bool))]⟩,
  ⟨20, [true, true, false, true, false], [.val 0 (.leaf false (.sl .bool)), .own 3 48 (.leaf true (.sl .bool)), .val 4 (.leaf false (.int .i64))]⟩,
  ⟨21, [], [.val 0 (.leaf false (.sl (.int .i64)))]⟩,
  ⟨21, [true, true, false, true, false], [.val 0 (.leaf false (.sl (.int .i64))), .own 3 48 (.leaf true (.sl (.int .i64))), .val 4 (.leaf false (.int .i64))]⟩,
  ⟨22, [], [.val 0 (.leaf false (.nm 6))]⟩,
  ⟨23, [], [.val 0 (.leaf false (.nm 8))]⟩,
  ⟨24, [], [.val 0 (.leaf false (.sl (.nm 10)))]⟩,
  ⟨24, [true, true, false, true, false], [.val 0 (.leaf false (.sl (.nm 10))), .own 3 48 (.leaf true (.sl (.nm 21))), .val 4 (.leaf false (.int .i64))]⟩,
  ⟨25, [], [.val 0 (.leaf false (.sl (.nm 1)))]⟩,
  ⟨25, [true, true, false, true, false], [.val 0 (.leaf false (.sl (.nm 1))), .own 3 48 (.leaf true (.sl (.nm 12))), .val 4 (.leaf false (.int .i64))]⟩,
  ⟨26, [], [.val 0 (.leaf false (.nm 20))]⟩,
  ⟨27, [], [.val 0 (.leaf false (.nm 21))]⟩,
  ⟨28, [], [.val 0 (.leaf false (.nm 20))]⟩,
  ⟨29, [], [.val 0 (.leaf false (.nm 21))]⟩,
  ⟨30, [], [.val 0 (.leaf false (.nm 18)), .val 1 (.leaf false (.nm 18))]⟩,
  ⟨31, [], [.val 0 (.leaf false (.sl .bool)), .val 1 (.leaf false (.sl .bool))]⟩,
  ⟨31, [true, true, false, true, false], [.val 0 (.leaf false (.sl .bool)), .val 1 (.leaf false (.sl .bool)), .val 5 (.leaf false (.int .i64))]⟩,
  ⟨32, [], [.val 0 (.leaf false (.sl (.int .i64))), .val 1 (.leaf false (.sl (.int .i64)))]⟩,
  ⟨32, [true, true, false, true, false], [.val 0 (.leaf false (.sl (.int .i64))), .val 1 (.leaf false (.sl (.int .i64))), .val 5 (.leaf false (.int .i64))]⟩,
  ⟨33, [], [.val 0 (.leaf false (.nm 17)), .val 1 (.leaf false (.nm 17))]⟩,
  ⟨34, [], [.val 0 (.leaf false (.nm 19)), .val 1 (.leaf false (.nm 19))]⟩,
  ⟨35, [], [.val 0 (.leaf false (.sl (.nm 21))), .val 1 (.leaf false (.sl (.nm 21)))]⟩,
  ⟨35, [true, true, false, true, false], [.val 0 (.leaf false (.sl (.nm 21))), .val 1 (.leaf false (.sl (.nm 21))), .val 5 (.leaf false (.int .i64))]⟩,
  ⟨36, [], [.val 0 (.leaf false (.sl (.nm 12))), .val 1 (.leaf false (.sl (.nm 12)))]⟩,
  ⟨36, [true, true, false, true, false], [.val 0 (.leaf false (.sl (.nm 12))), .val 1 (.leaf false (.sl (.nm 12))), .val 5 (.leaf false (.int .i64))]⟩,
  ⟨37, [], [.own 0 0 (.leaf true (.nm 18)), .val 1 (.leaf false (.int .i64))]⟩,
  ⟨38, [], [.own 0 0 (.leaf true (.sl .bool)), .val 1 (.leaf false (.int .i64))]⟩,
  ⟨38, [true, false, true, false], [.own 0 0 (.leaf true (.sl .bool)), .val 1 (.leaf false (.int .i64)), .val 5 (.leaf false (.int .i64))]⟩,
  ⟨39, [], [.own 0 0 (.leaf true (.sl (.int .i64))), .val 1 (.leaf false (.int .i64))]⟩,
  ⟨39, [true, false, true, false], [.own 0 0 (.leaf true (.sl (.int .i64))), .val 1 (.leaf false (.int .i64)), .val 5 (.leaf false (.int .i64))]⟩,
  ⟨40, [], [.own 0 0 (.leaf true (.nm 17)), .val 1 (.leaf false (.int .i64))]⟩,
  ⟨41, [], [.own 0 0 (.leaf true (.nm 19)), .val 1 (.leaf false (.int .i64))]⟩,
  ⟨42, [], [.own 0 0 (.leaf true (.sl (.nm 21))), .val 1 (.leaf false (.int .i64))]⟩,
  ⟨42, [true, false, true, false], [.own 0 0 (.leaf true (.sl (.nm 21))), .val 1 (.leaf false (.int .i64)), .val 5 (.leaf false (.int .i64))]⟩,
  ⟨43, [], [.own 0 0 (.leaf true (.sl (.nm 12))), .val 1 (.leaf false (.int .i64))]⟩,
  ⟨43, [true, false, true, false], [.own 0 0 (.leaf true (.sl (.nm 12))), .val 1 (.leaf false (.int .i64)), .val 5 (.leaf false (.int .i64))]⟩,
  ⟨44, [], [.val 0 (.leaf false (.nm 18)), .val 1 (.leaf false (.int .i64))]⟩,
  ⟨45, [], [.val 0 (.leaf false (.sl .bool)), .val 1 (.leaf false (.int .i64))]⟩,
  ⟨45, [true, false, true, false], [.val 0 (.leaf false (.sl .bool)), .val 1 (.leaf false (.int .i64)), .val 5 (.leaf false (.int .i64))]⟩,
  ⟨46, [], [.val 0 (.leaf false (.sl (.int .i64))), .val 1 (.leaf false (.int .i64))]⟩,
  ⟨46, [true, false, true, false], [.val 0 (.leaf false (.sl (.int .i64))), .val 1 (.leaf false (.int .i64)), .val 5 (.leaf false (.int .i64))]⟩,
  ⟨47, [], [.val 0 (.leaf false (.nm 17)), .val 1 (.leaf false (.int .i64))]⟩,
  ⟨48, [], [.val 0 (.leaf false (.nm 19)), .val 1 (.leaf false (.int .i64))]⟩,
  ⟨49, [], [.val 0 (.leaf false (.sl (.nm 21))), .val 1 (.leaf false (.int .i64))]⟩,
  ⟨49, [true, false, true, false], [.val 0 (.leaf false (.sl (.nm 21))), .val 1 (.leaf false (.int .i64)), .val 5 (.leaf false (.int .i64))]⟩,
  ⟨50, [], [.val 0 (.leaf false (.nm 0)), .val 1 (.leaf false (.int .i64))]⟩,
  ⟨51, [], [.val 0 (.leaf false (.nm 3)), .val 1 (.leaf false (.int .i64))]⟩,
  ⟨52, [], [.val 0 (.leaf false (.sl (.int .u8))), .val 1 (.leaf false (.int .i64))]⟩,
  ⟨53, [], [.val 0 (.leaf false (.nm 1)), .val 1 (.leaf false (.int .i64))]⟩,
  ⟨54, [], [.val 0 (.leaf false (.nm 0))]⟩,
  ⟨55, [], [.val 0 (.leaf false (.nm 3))]⟩,
  ⟨56, [], [.val 0 (.leaf false (.sl (.int .u8)))]⟩,
  ⟨56, [true, true, false, true, false], [.val 0 (.leaf false (.sl (.int .u8))), .own 3 48 (.leaf true (.sl (.int .u8))), .val 4 (.leaf false (.int .i64))]⟩,
  ⟨57, [], [.val 0 (.leaf false (.nm 1))]⟩,
  ⟨58, [], [.val 0 (.leaf false (.nm 18))]⟩,
  ⟨59, [], [.val 0 (.leaf false (.nm 17))]⟩,
  ⟨60, [], [.val 0 (.leaf false (.nm 19))]⟩,
  ⟨61, [], [.val 0 (.leaf false (.sl (.nm 21)))]⟩,
  ⟨61, [true, true, false, true, false], [.val 0 (.leaf false (.sl (.nm 21))), .own 3 48 (.leaf true (.sl (.nm 21))), .val 4 (.leaf false (.int .i64))]⟩,
  ⟨62, [], [.val 0 (.leaf false (.nm 18))]⟩,
  ⟨63, [], [.val 0 (.leaf false (.nm 17))]⟩,
  ⟨64, [], [.val 0 (.leaf false (.nm 19))]⟩,
  ⟨65, [], [.val 0 (.leaf false (.sl (.nm 21)))]⟩,
  ⟨65, [true, true, false, true, false], [.own 3 48 (.leaf true (.sl (.nm 21))), .val 6 (.leaf false (.sl (.nm 21))), .val 7 (.leaf false (.int .i64)), .val 8 (.leaf false (.int .i64))]⟩,
  ⟨66, [], [.val 0 (.leaf false (.sl .bool))]⟩,
  ⟨67, [], [.val 0 (.leaf false (.sl (.int .i64)))]⟩,
  ⟨68, [], [.val 0 (.leaf false (.sl (.nm 12)))]⟩,
  ⟨69, [], [.val 0 (.leaf false (.nm 11)), .val 1 (.leaf false (.nm 11))]⟩,
  ⟨70, [], [.val 0 (.leaf false (.nm 14)), .val 1 (.leaf false (.nm 14))]⟩,
  ⟨71, [], [.val 0 (.leaf false (.sl (.int .u8))), .val 1 (.leaf false (.sl (.int .u8)))]⟩,
  ⟨71, [true, true, false, true, false], [.val 0 (.leaf false (.sl (.int .u8))), .val 1 (.leaf false (.sl (.int .u8))), .val 5 (.leaf false (.int .i64))]⟩,
  ⟨72, [], [.val 0 (.leaf false (.nm 12)), .val 1 (.leaf false (.nm 12))]⟩,
  ⟨73, [], [.own 0 0 (.leaf true (.nm 11)), .val 1 (.leaf false (.int .i64))]⟩,
  ⟨74, [], [.own 0 0 (.leaf true (.nm 14)), .val 1 (.leaf false (.int .i64))]⟩,
  ⟨75, [], [.own 0 0 (.leaf true (.sl (.int .u8))), .val 1 (.leaf false (.int .i64))]⟩,
  ⟨75, [true, false, true, false], [.own 0 0 (.leaf true (.sl (.int .u8))), .val 1 (.leaf false (.int .i64)), .val 5 (.leaf false (.int .i64))]⟩,
  ⟨76, [], [.val 0 (.leaf false (.int .i64))]⟩,
  ⟨76, [true, true, true, false, false], [.val 0 (.leaf false (.int .i64)), .val 3 (.leaf false .str)]⟩,
  ⟨77, [], [.val 0 (.leaf false (.nm 11)), .val 1 (.leaf false (.int .i64))]⟩,
  ⟨78, [], [.val 0 (.leaf false (.nm 14)), .val 1 (.leaf false (.int .i64))]⟩,
  ⟨79, [], [.val 0 (.leaf false (.sl (.int .u8))), .val 1 (.leaf false (.int .i64))]⟩,
  ⟨79, [true, false, true, false], [.val 0 (.leaf false (.sl (.int .u8))), .val 1 (.leaf false (.int .i64)), .val 5 (.leaf false (.int .i64))]⟩,
  ⟨80, [], [.val 0 (.leaf false (.sl (.nm 12))), .val 1 (.leaf false (.int .i64))]⟩,
  ⟨80, [true, false, true, false], [.val 0 (.leaf false (.sl (.nm 12))), .val 1 (.leaf false (.int .i64)), .val 5 (.leaf false (.int .i64))]⟩,
  ⟨81, [], [.val 0 (.leaf false (.sl (.nm 4))), .val 1 (.leaf false (.int .i64))]⟩,
  ⟨81, [true, true, true, false, true, false], [.val 0 (.leaf false (.sl (.nm 4))), .val 1 (.leaf false (.int .i64)), .val 5 (.leaf false (.int .i64))]⟩,
  ⟨82, [], [.val 0 (.leaf false (.sl (.nm 5))), .val 1 (.leaf false (.int .i64))]⟩,
  ⟨82, [true, true, true, false, true, false], [.val 0 (.leaf false (.sl (.nm 5))), .val 1 (.leaf false (.int .i64)), .val 5 (.leaf false (.int .i64))]⟩,
  ⟨83, [], [.val 0 (.leaf false (.nm 2)), .val 1 (.leaf false (.int .i64))]⟩,
  ⟨84, [], [.val 0 (.leaf false (.sl (.nm 4)))]⟩,
  ⟨84, [true, true, false, true, false], [.val 0 (.leaf false (.sl (.nm 4))), .own 3 48 (.leaf true (.sl (.nm 15))), .val 4 (.leaf false (.int .i64))]⟩,
  ⟨85, [], [.val 0 (.leaf false (.sl (.nm 5)))]⟩,
  ⟨85, [true, true, false, true, false], [.val 0 (.leaf false (.sl (.nm 5))), .own 3 48 (.leaf true (.sl (.nm 16))), .val 4 (.leaf false (.int .i64))]⟩,
  ⟨86, [], [.val 0 (.leaf false (.nm 2))]⟩,
  ⟨87, [], [.val 0 (.leaf false (.nm 11))]⟩,
  ⟨88, [], [.val 0 (.leaf false (.nm 14))]⟩,
  ⟨89, [], [.val 0 (.leaf false (.nm 11))]⟩,
  ⟨90, [], [.val 0 (.leaf false (.nm 14))]⟩,
  ⟨91, [], [.val 0 (.leaf false (.sl (.int .u8)))]⟩,
  ⟨92, [], [.val 0 (.leaf false (.sl (.nm 15))), .val 1 (.leaf false (.sl (.nm 15)))]⟩,
  ⟨92, [true, true, false, true, false], [.val 0 (.leaf false (.sl (.nm 15))), .val 1 (.leaf false (.sl (.nm 15))), .val 5 (.leaf false (.int .i64))]⟩,
  ⟨93, [], [.val 0 (.leaf false (.sl (.nm 16))), .val 1 (.leaf false (.sl (.nm 16)))]⟩,
  ⟨93, [true, true, false, true, false], [.val 0 (.leaf false (.sl (.nm 16))), .val 1 (.leaf false (.sl (.nm 16))), .val 5 (.leaf false (.int .i64))]⟩,
  ⟨94, [], [.val 0 (.leaf false (.nm 13)), .val 1 (.leaf false (.nm 13))]⟩,
  ⟨95, [], [.own 0 0 (.leaf true (.sl (.nm 15))), .val 1 (.leaf false (.int .i64))]⟩,
  ⟨95, [true, false, true, false], [.own 0 0 (.leaf true (.sl (.nm 15))), .val 1 (.leaf false (.int .i64)), .val 5 (.leaf false (.int .i64))]⟩,
  ⟨96, [], [.own 0 0 (.leaf true (.sl (.nm 16))), .val 1 (.leaf false (.int .i64))]⟩,
  ⟨96, [true, false, true, false], [.own 0 0 (.leaf true (.sl (.nm 16))), .val 1 (.leaf false (.int .i64)), .val 5 (.leaf false (.int .i64))]⟩,
  ⟨97, [], [.val 0 (.leaf false (.sl (.nm 15))), .val 1 (.leaf false (.int .i64))]⟩,
  ⟨97, [true, false, true, false], [.val 0 (.leaf false (.sl (.nm 15))), .val 1 (.leaf false (.int .i64)), .val 5 (.leaf false (.int .i64))]⟩,
  ⟨98, [], [.val 0 (.leaf false (.sl (.nm 16))), .val 1 (.leaf false (.int .i64))]⟩,
  ⟨98, [true, false, true, false], [.val 0 (.leaf false (.sl (.nm 16))), .val 1 (.leaf false (.int .i64)), .val 5 (.leaf false (.int .i64))]⟩,
  ⟨99, [], [.val 0 (.leaf false (.nm 4)), .val 1 (.leaf false (.int .i64))]⟩,
  ⟨100, [], [.val 0 (.leaf false (.nm 5)), .val 1 (.leaf false (.int .i64))]⟩,
  ⟨101, [], [.val 0 (.leaf false (.nm 4))]⟩,
  ⟨102, [], [.val 0 (.leaf false (.nm 5))]⟩,
  ⟨103, [], [.val 0 (.leaf false (.sl (.nm 15)))]⟩,
  ⟨104, [], [.val 0 (.leaf false (.sl (.nm 16)))]⟩,
  ⟨105, [], [.val 0 (.leaf false (.nm 15)), .val 1 (.leaf false (.nm 15))]⟩,
  ⟨106, [], [.val 0 (.leaf false (.nm 16)), .val 1 (.leaf false (.nm 16))]⟩]
noncomputable def entL : List EntI := [
  ⟨3, bodyOf Tryz.f3, Tryz.f3.results.toList, [.val (.leaf false (.nm 9)), .val (.leaf false (.nm 10))], [.leaf false .bool], [], [(29, 1), (31, 1), (32, 1), (56, 1), (61, 1), (96, 1), (98, 1), (99, 1)], 119, [], false⟩,
  ⟨4, bodyOf Tryz.f4, Tryz.f4.results.toList, [.val (.leaf false (.nm 9)), .val (.leaf false (.int .i64))], [.leaf false (.int .i64)], [], [], 48, [], false⟩,
  ⟨5, bodyOf Tryz.f5, Tryz.f5.results.toList, [.val (.leaf false (.nm 10)), .val (.leaf false (.int .i64))], [.leaf false (.int .i64)], [], [], 19, [], false⟩,
  ⟨7, bodyOf Tryz.f7, Tryz.f7.results.toList, [.val (.leaf false (.nm 9))], [.leaf true (.nm 20)], [], [], 42, [], false⟩,
  ⟨8, bodyOf Tryz.f8, Tryz.f8.results.toList, [.val (.leaf false (.nm 10))], [.leaf true (.nm 21)], [], [], 36, [], false⟩,
  ⟨6, bodyOf Tryz.f6, Tryz.f6.results.toList, [.val (.leaf false (.nm 20)), .val (.leaf false (.nm 21))], [.leaf false (.nm 20), .leaf false .bool], [], [], 22, [], false⟩,
  ⟨9, bodyOf Tryz.f9, Tryz.f9.results.toList, [.val (.leaf false (.nm 20)), .val (.leaf false (.nm 21))], [.leaf true (.nm 20), .leaf false .bool], [], [], 22, [], false⟩,
  ⟨10, bodyOf Tryz.f10, Tryz.f10.results.toList, [.val (.leaf false (.nm 20)), .val (.leaf false (.nm 20))], [.leaf false .bool], [], [], 62, [], false⟩,
  ⟨11, bodyOf Tryz.f11, Tryz.f11.results.toList, [.val (.leaf false (.nm 21)), .val (.leaf false (.nm 21))], [.leaf false .bool], [], [], 56, [], false⟩,
  ⟨12, bodyOf Tryz.f12, Tryz.f12.results.toList, [.io (.leaf true (.nm 20)), .val (.leaf false (.int .i64))], [.leaf false (.int .i64)], [(32, .orig 0)], [], 34, [], false⟩,
  ⟨13, bodyOf Tryz.f13, Tryz.f13.results.toList, [.own (.leaf true (.nm 21)), .val (.leaf false (.int .i64))], [.leaf false (.int .i64)], [], [], 10, [], false⟩,
  ⟨14, bodyOf Tryz.f14, Tryz.f14.results.toList, [.val (.leaf false (.nm 20)), .val (.leaf false (.int .i64))], [.leaf false (.int .i64)], [], [], 48, [], false⟩,
  ⟨15, bodyOf Tryz.f15, Tryz.f15.results.toList, [.val (.leaf false (.nm 7)), .val (.leaf false (.int .i64))], [.leaf false (.int .i64)], [], [], 18, [], false⟩,
  ⟨16, bodyOf Tryz.f16, Tryz.f16.results.toList, [.val (.leaf false (.sl .bool)), .val (.leaf false (.int .i64))], [.leaf false (.int .i64)], [], [], 12, [], false⟩,
  ⟨17, bodyOf Tryz.f17, Tryz.f17.results.toList, [.val (.leaf false (.sl (.int .i64))), .val (.leaf false (.int .i64))], [.leaf false (.int .i64)], [], [], 12, [], false⟩,
  ⟨18, bodyOf Tryz.f18, Tryz.f18.results.toList, [.val (.leaf false (.nm 6)), .val (.leaf false (.int .i64))], [.leaf false (.int .i64)], [], [], 25, [], false⟩,
  ⟨19, bodyOf Tryz.f19, Tryz.f19.results.toList, [.val (.leaf false (.nm 8)), .val (.leaf false (.int .i64))], [.leaf false (.int .i64)], [], [], 12, [], false⟩,
  ⟨20, bodyOf Tryz.f20, Tryz.f20.results.toList, [.val (.leaf false (.sl (.nm 10))), .val (.leaf false (.int .i64))], [.leaf false (.int .i64)], [], [], 27, [(122, 18)], false⟩,
  ⟨21, bodyOf Tryz.f21, Tryz.f21.results.toList, [.val (.leaf false (.sl (.nm 1))), .val (.leaf false (.int .i64))], [.leaf false (.int .i64)], [], [], 27, [(122, 20)], false⟩,
  ⟨24, bodyOf Tryz.f24, Tryz.f24.results.toList, [.val (.leaf false (.nm 7))], [.leaf true (.nm 18)], [], [], 19, [], false⟩,
  ⟨25, bodyOf Tryz.f25, Tryz.f25.results.toList, [.val (.leaf false (.sl .bool))], [.leaf true (.sl .bool)], [], [], 22, [(58, 23)], false⟩,
  ⟨26, bodyOf Tryz.f26, Tryz.f26.results.toList, [.val (.leaf false (.sl (.int .i64)))], [.leaf true (.sl (.int .i64))], [], [], 22, [(58, 25)], false⟩,
  ⟨27, bodyOf Tryz.f27, Tryz.f27.results.toList, [.val (.leaf false (.nm 6))], [.leaf true (.nm 17)], [], [], 16, [], false⟩,
  ⟨28, bodyOf Tryz.f28, Tryz.f28.results.toList, [.val (.leaf false (.nm 8))], [.leaf true (.nm 19)], [], [], 12, [], false⟩,
  ⟨29, bodyOf Tryz.f29, Tryz.f29.results.toList, [.val (.leaf false (.sl (.nm 10)))], [.leaf true (.sl (.nm 21))], [], [], 23, [(58, 29)], false⟩,
  ⟨30, bodyOf Tryz.f30, Tryz.f30.results.toList, [.val (.leaf false (.sl (.nm 1)))], [.leaf true (.sl (.nm 12))], [], [], 23, [(58, 31)], false⟩,
  ⟨22, bodyOf Tryz.f22, Tryz.f22.results.toList, [.val (.leaf false (.nm 20))], [.leaf true (.nm 20)], [], [], 34, [], false⟩,
  ⟨23, bodyOf Tryz.f23, Tryz.f23.results.toList, [.val (.leaf false (.nm 21))], [.leaf true (.nm 21)], [], [], 9, [], false⟩,
  ⟨31, bodyOf Tryz.f31, Tryz.f31.results.toList, [.val (.leaf false (.nm 20))], [.leaf true (.nm 20)], [], [], 32, [], false⟩,
  ⟨32, bodyOf Tryz.f32, Tryz.f32.results.toList, [.val (.leaf false (.nm 21))], [.leaf true (.nm 21)], [], [], 8, [], false⟩,
  ⟨33, bodyOf Tryz.f33, Tryz.f33.results.toList, [.val (.leaf false (.nm 18)), .val (.leaf false (.nm 18))], [.leaf false .bool], [], [], 27, [], false⟩,
  ⟨34, bodyOf Tryz.f34, Tryz.f34.results.toList, [.val (.leaf false (.sl .bool)), .val (.leaf false (.sl .bool))], [.leaf false .bool], [], [], 26, [(58, 38)], false⟩,
  ⟨35, bodyOf Tryz.f35, Tryz.f35.results.toList, [.val (.leaf false (.sl (.int .i64))), .val (.leaf false (.sl (.int .i64)))], [.leaf false .bool], [], [], 26, [(58, 40)], false⟩,
  ⟨36, bodyOf Tryz.f36, Tryz.f36.results.toList, [.val (.leaf false (.nm 17)), .val (.leaf false (.nm 17))], [.leaf false .bool], [], [], 22, [], false⟩,
  ⟨37, bodyOf Tryz.f37, Tryz.f37.results.toList, [.val (.leaf false (.nm 19)), .val (.leaf false (.nm 19))], [.leaf false .bool], [], [], 16, [], false⟩,
  ⟨38, bodyOf Tryz.f38, Tryz.f38.results.toList, [.val (.leaf false (.sl (.nm 21))), .val (.leaf false (.sl (.nm 21)))], [.leaf false .bool], [], [], 27, [(58, 44)], false⟩,
  ⟨39, bodyOf Tryz.f39, Tryz.f39.results.toList, [.val (.leaf false (.sl (.nm 12))), .val (.leaf false (.sl (.nm 12)))], [.leaf false .bool], [], [], 27, [(58, 46)], false⟩,
  ⟨40, bodyOf Tryz.f40, Tryz.f40.results.toList, [.io (.leaf true (.nm 18)), .val (.leaf false (.int .i64))], [.leaf false (.int .i64)], [(32, .orig 0)], [], 14, [], false⟩,
  ⟨41, bodyOf Tryz.f41, Tryz.f41.results.toList, [.io (.leaf true (.sl .bool)), .val (.leaf false (.int .i64))], [.leaf false (.int .i64)], [(0, .reg)], [], 21, [(26, 49)], false⟩,
  ⟨42, bodyOf Tryz.f42, Tryz.f42.results.toList, [.io (.leaf true (.sl (.int .i64))), .val (.leaf false (.int .i64))], [.leaf false (.int .i64)], [(0, .reg)], [], 19, [(26, 51)], false⟩,
  ⟨43, bodyOf Tryz.f43, Tryz.f43.results.toList, [.io (.leaf true (.nm 17)), .val (.leaf false (.int .i64))], [.leaf false (.int .i64)], [(32, .orig 0)], [], 14, [], false⟩,
  ⟨44, bodyOf Tryz.f44, Tryz.f44.results.toList, [.io (.leaf true (.nm 19)), .val (.leaf false (.int .i64))], [.leaf false (.int .i64)], [(32, .orig 0)], [], 10, [], false⟩,
  ⟨45, bodyOf Tryz.f45, Tryz.f45.results.toList, [.io (.leaf true (.sl (.nm 21))), .val (.leaf false (.int .i64))], [.leaf false (.int .i64)], [(0, .reg)], [], 86, [(26, 55)], false⟩,
  ⟨46, bodyOf Tryz.f46, Tryz.f46.results.toList, [.io (.leaf true (.sl (.nm 12))), .val (.leaf false (.int .i64))], [.leaf false (.int .i64)], [(0, .reg)], [], 45, [(26, 57)], false⟩,
  ⟨47, bodyOf Tryz.f47, Tryz.f47.results.toList, [.val (.leaf false (.nm 18)), .val (.leaf false (.int .i64))], [.leaf false (.int .i64)], [], [], 18, [], false⟩,
  ⟨48, bodyOf Tryz.f48, Tryz.f48.results.toList, [.val (.leaf false (.sl .bool)), .val (.leaf false (.int .i64))], [.leaf false (.int .i64)], [], [], 23, [(26, 60)], false⟩,
  ⟨49, bodyOf Tryz.f49, Tryz.f49.results.toList, [.val (.leaf false (.sl (.int .i64))), .val (.leaf false (.int .i64))], [.leaf false (.int .i64)], [], [], 21, [(26, 62)], false⟩,
  ⟨50, bodyOf Tryz.f50, Tryz.f50.results.toList, [.val (.leaf false (.nm 17)), .val (.leaf false (.int .i64))], [.leaf false (.int .i64)], [], [], 18, [], false⟩,
  ⟨51, bodyOf Tryz.f51, Tryz.f51.results.toList, [.val (.leaf false (.nm 19)), .val (.leaf false (.int .i64))], [.leaf false (.int .i64)], [], [], 12, [], false⟩,
  ⟨52, bodyOf Tryz.f52, Tryz.f52.results.toList, [.val (.leaf false (.sl (.nm 21))), .val (.leaf false (.int .i64))], [.leaf false (.int .i64)], [], [], 106, [(26, 66)], false⟩,
  ⟨53, bodyOf Tryz.f53, Tryz.f53.results.toList, [.val (.leaf false (.nm 0)), .val (.leaf false (.int .i64))], [.leaf false (.int .i64)], [], [], 12, [], false⟩,
  ⟨54, bodyOf Tryz.f54, Tryz.f54.results.toList, [.val (.leaf false (.nm 3)), .val (.leaf false (.int .i64))], [.leaf false (.int .i64)], [], [], 18, [], false⟩,
  ⟨55, bodyOf Tryz.f55, Tryz.f55.results.toList, [.val (.leaf false (.sl (.int .u8))), .val (.leaf false (.int .i64))], [.leaf false (.int .i64)], [], [], 12, [], false⟩,
  ⟨56, bodyOf Tryz.f56, Tryz.f56.results.toList, [.val (.leaf false (.nm 1)), .val (.leaf false (.int .i64))], [.leaf false (.int .i64)], [], [], 12, [], false⟩,
  ⟨61, bodyOf Tryz.f61, Tryz.f61.results.toList, [.val (.leaf false (.nm 0))], [.leaf true (.nm 11)], [], [], 15, [], false⟩,
  ⟨62, bodyOf Tryz.f62, Tryz.f62.results.toList, [.val (.leaf false (.nm 3))], [.leaf true (.nm 14)], [], [], 19, [], false⟩,
  ⟨63, bodyOf Tryz.f63, Tryz.f63.results.toList, [.val (.leaf false (.sl (.int .u8)))], [.leaf true (.sl (.int .u8))], [], [], 22, [(58, 74)], false⟩,
  ⟨64, bodyOf Tryz.f64, Tryz.f64.results.toList, [.val (.leaf false (.nm 1))], [.leaf false (.nm 12)], [], [], 12, [], false⟩,
  ⟨57, bodyOf Tryz.f57, Tryz.f57.results.toList, [.val (.leaf false (.nm 18))], [.leaf true (.nm 18)], [], [], 14, [], false⟩,
  ⟨58, bodyOf Tryz.f58, Tryz.f58.results.toList, [.val (.leaf false (.nm 17))], [.leaf true (.nm 17)], [], [], 13, [], false⟩,
  ⟨59, bodyOf Tryz.f59, Tryz.f59.results.toList, [.val (.leaf false (.nm 19))], [.leaf true (.nm 19)], [], [], 10, [], false⟩,
  ⟨60, bodyOf Tryz.f60, Tryz.f60.results.toList, [.val (.leaf false (.sl (.nm 21)))], [.leaf true (.sl (.nm 21))], [], [], 21, [(58, 80)], false⟩,
  ⟨65, bodyOf Tryz.f65, Tryz.f65.results.toList, [.val (.leaf false (.nm 18))], [.leaf true (.nm 18)], [], [], 12, [], false⟩,
  ⟨66, bodyOf Tryz.f66, Tryz.f66.results.toList, [.val (.leaf false (.nm 17))], [.leaf true (.nm 17)], [], [], 12, [], false⟩,
  ⟨67, bodyOf Tryz.f67, Tryz.f67.results.toList, [.val (.leaf false (.nm 19))], [.leaf true (.nm 19)], [], [], 9, [], false⟩,
  ⟨68, bodyOf Tryz.f68, Tryz.f68.results.toList, [.val (.leaf false (.sl (.nm 21)))], [.leaf true (.sl (.nm 21))], [], [], 19, [(58, 85)], false⟩,
  ⟨69, bodyOf Tryz.f69, Tryz.f69.results.toList, [.val (.leaf false (.sl .bool))], [.leaf true (.sl .bool)], [], [], 8, [], false⟩,
  ⟨70, bodyOf Tryz.f70, Tryz.f70.results.toList, [.val (.leaf false (.sl (.int .i64)))], [.leaf true (.sl (.int .i64))], [], [], 8, [], false⟩,
  ⟨71, bodyOf Tryz.f71, Tryz.f71.results.toList, [.val (.leaf false (.sl (.nm 12)))], [.leaf true (.sl (.nm 12))], [], [], 8, [], false⟩,
  ⟨72, bodyOf Tryz.f72, Tryz.f72.results.toList, [.val (.leaf false (.nm 11)), .val (.leaf false (.nm 11))], [.leaf false .bool], [], [], 21, [], false⟩,
  ⟨73, bodyOf Tryz.f73, Tryz.f73.results.toList, [.val (.leaf false (.nm 14)), .val (.leaf false (.nm 14))], [.leaf false .bool], [], [], 27, [], false⟩,
  ⟨74, bodyOf Tryz.f74, Tryz.f74.results.toList, [.val (.leaf false (.sl (.int .u8))), .val (.leaf false (.sl (.int .u8)))], [.leaf false .bool], [], [], 26, [(58, 92)], false⟩,
  ⟨75, bodyOf Tryz.f75, Tryz.f75.results.toList, [.val (.leaf false (.nm 12)), .val (.leaf false (.nm 12))], [.leaf false .bool], [], [], 16, [], false⟩,
  ⟨76, bodyOf Tryz.f76, Tryz.f76.results.toList, [.io (.leaf true (.nm 11)), .val (.leaf false (.int .i64))], [.leaf false (.int .i64)], [(32, .orig 0)], [], 10, [], false⟩,
  ⟨77, bodyOf Tryz.f77, Tryz.f77.results.toList, [.io (.leaf true (.nm 14)), .val (.leaf false (.int .i64))], [.leaf false (.int .i64)], [(32, .orig 0)], [], 14, [], false⟩,
  ⟨78, bodyOf Tryz.f78, Tryz.f78.results.toList, [.io (.leaf true (.sl (.int .u8))), .val (.leaf false (.int .i64))], [.leaf false (.int .i64)], [(0, .reg)], [], 20, [(26, 97)], false⟩,
  ⟨79, bodyOf Tryz.f79, Tryz.f79.results.toList, [.val (.leaf false (.int .i64))], [.leaf false .str], [], [(12, 1)], 20, [(60, 99)], false⟩,
  ⟨80, bodyOf Tryz.f80, Tryz.f80.results.toList, [.val (.leaf false (.nm 11)), .val (.leaf false (.int .i64))], [.leaf false (.int .i64)], [], [], 12, [], false⟩,
  ⟨81, bodyOf Tryz.f81, Tryz.f81.results.toList, [.val (.leaf false (.nm 14)), .val (.leaf false (.int .i64))], [.leaf false (.int .i64)], [], [], 18, [], false⟩,
  ⟨82, bodyOf Tryz.f82, Tryz.f82.results.toList, [.val (.leaf false (.sl (.int .u8))), .val (.leaf false (.int .i64))], [.leaf false (.int .i64)], [], [], 22, [(26, 103)], false⟩,
  ⟨83, bodyOf Tryz.f83, Tryz.f83.results.toList, [.val (.leaf false (.sl (.nm 12))), .val (.leaf false (.int .i64))], [.leaf false (.int .i64)], [], [], 53, [(26, 105)], false⟩,
  ⟨84, bodyOf Tryz.f84, Tryz.f84.results.toList, [.val (.leaf false (.sl (.nm 4))), .val (.leaf false (.int .i64))], [.leaf false (.int .i64)], [], [], 27, [(122, 107)], false⟩,
  ⟨85, bodyOf Tryz.f85, Tryz.f85.results.toList, [.val (.leaf false (.sl (.nm 5))), .val (.leaf false (.int .i64))], [.leaf false (.int .i64)], [], [], 27, [(122, 109)], false⟩,
  ⟨86, bodyOf Tryz.f86, Tryz.f86.results.toList, [.val (.leaf false (.nm 2)), .val (.leaf false (.int .i64))], [.leaf false (.int .i64)], [], [], 13, [], false⟩,
  ⟨89, bodyOf Tryz.f89, Tryz.f89.results.toList, [.val (.leaf false (.sl (.nm 4)))], [.leaf true (.sl (.nm 15))], [], [], 23, [(58, 112)], false⟩,
  ⟨90, bodyOf Tryz.f90, Tryz.f90.results.toList, [.val (.leaf false (.sl (.nm 5)))], [.leaf true (.sl (.nm 16))], [], [], 23, [(58, 114)], false⟩,
  ⟨91, bodyOf Tryz.f91, Tryz.f91.results.toList, [.val (.leaf false (.nm 2))], [.leaf false (.nm 13)], [], [], 14, [], false⟩,
  ⟨87, bodyOf Tryz.f87, Tryz.f87.results.toList, [.val (.leaf false (.nm 11))], [.leaf true (.nm 11)], [], [], 12, [], false⟩,
  ⟨88, bodyOf Tryz.f88, Tryz.f88.results.toList, [.val (.leaf false (.nm 14))], [.leaf true (.nm 14)], [], [], 16, [], false⟩,
  ⟨92, bodyOf Tryz.f92, Tryz.f92.results.toList, [.val (.leaf false (.nm 11))], [.leaf true (.nm 11)], [], [], 8, [], false⟩,
  ⟨93, bodyOf Tryz.f93, Tryz.f93.results.toList, [.val (.leaf false (.nm 14))], [.leaf true (.nm 14)], [], [], 12, [], false⟩,
  ⟨94, bodyOf Tryz.f94, Tryz.f94.results.toList, [.val (.leaf false (.sl (.int .u8)))], [.leaf true (.sl (.int .u8))], [], [], 8, [], false⟩,
  ⟨95, bodyOf Tryz.f95, Tryz.f95.results.toList, [.val (.leaf false (.sl (.nm 15))), .val (.leaf false (.sl (.nm 15)))], [.leaf false .bool], [], [], 27, [(58, 122)], false⟩,
  ⟨96, bodyOf Tryz.f96, Tryz.f96.results.toList, [.val (.leaf false (.sl (.nm 16))), .val (.leaf false (.sl (.nm 16)))], [.leaf false .bool], [], [], 27, [(58, 124)], false⟩,
  ⟨97, bodyOf Tryz.f97, Tryz.f97.results.toList, [.val (.leaf false (.nm 13)), .val (.leaf false (.nm 13))], [.leaf false .bool], [], [], 20, [], false⟩,
  ⟨98, bodyOf Tryz.f98, Tryz.f98.results.toList, [.io (.leaf true (.sl (.nm 15))), .val (.leaf false (.int .i64))], [.leaf false (.int .i64)], [(0, .reg)], [], 35, [(26, 127)], false⟩,
  ⟨99, bodyOf Tryz.f99, Tryz.f99.results.toList, [.io (.leaf true (.sl (.nm 16))), .val (.leaf false (.int .i64))], [.leaf false (.int .i64)], [(0, .reg)], [], 53, [(26, 129)], false⟩,
  ⟨100, bodyOf Tryz.f100, Tryz.f100.results.toList, [.val (.leaf false (.sl (.nm 15))), .val (.leaf false (.int .i64))], [.leaf false (.int .i64)], [], [], 41, [(26, 131)], false⟩,
  ⟨101, bodyOf Tryz.f101, Tryz.f101.results.toList, [.val (.leaf false (.sl (.nm 16))), .val (.leaf false (.int .i64))], [.leaf false (.int .i64)], [], [], 63, [(26, 133)], false⟩,
  ⟨102, bodyOf Tryz.f102, Tryz.f102.results.toList, [.val (.leaf false (.nm 4)), .val (.leaf false (.int .i64))], [.leaf false (.int .i64)], [], [], 13, [], false⟩,
  ⟨103, bodyOf Tryz.f103, Tryz.f103.results.toList, [.val (.leaf false (.nm 5)), .val (.leaf false (.int .i64))], [.leaf false (.int .i64)], [], [], 19, [], false⟩,
  ⟨104, bodyOf Tryz.f104, Tryz.f104.results.toList, [.val (.leaf false (.nm 4))], [.leaf false (.nm 15)], [], [], 14, [], false⟩,
  ⟨105, bodyOf Tryz.f105, Tryz.f105.results.toList, [.val (.leaf false (.nm 5))], [.leaf false (.nm 16)], [], [], 15, [], false⟩,
  ⟨106, bodyOf Tryz.f106, Tryz.f106.results.toList, [.val (.leaf false (.sl (.nm 15)))], [.leaf true (.sl (.nm 15))], [], [], 8, [], false⟩,
  ⟨107, bodyOf Tryz.f107, Tryz.f107.results.toList, [.val (.leaf false (.sl (.nm 16)))], [.leaf true (.sl (.nm 16))], [], [], 8, [], false⟩,
  ⟨108, bodyOf Tryz.f108, Tryz.f108.results.toList, [.val (.leaf false (.nm 15)), .val (.leaf false (.nm 15))], [.leaf false .bool], [], [], 20, [], false⟩,
  ⟨109, bodyOf Tryz.f109, Tryz.f109.results.toList, [.val (.leaf false (.nm 16)), .val (.leaf false (.nm 16))], [.leaf false .bool], [], [], 21, [], false⟩]
def callL : CallL := [((3, []), 0), ((4, []), 1), ((5, []), 2), ((7, []), 3), ((8, []), 4), ((6, []), 5), ((9, []), 6), ((10, []), 7), ((11, []), 8), ((12, []), 9), ((13, []), 10), ((14, []), 11), ((15, []), 12), ((16, []), 13), ((17, []), 14), ((18, []), 15), ((19, []), 16), ((20, []), 17), ((21, []), 19), ((24, []), 21), ((25, []), 22), ((26, []), 24), ((27, []), 26), ((28, []), 27), ((29, []), 28), ((30, []), 30), ((22, []), 32), ((23, []), 33), ((31, []), 34), ((32, []), 35), ((33, []), 36), ((34, []), 37), ((35, []), 39), ((36, []), 41), ((37, []), 42), ((38, []), 43), ((39, []), 45), ((40, []), 47), ((41, []), 48), ((42, []), 50), ((43, []), 52), ((44, []), 53), ((45, []), 54), ((46, []), 56), ((47, []), 58), ((48, []), 59), ((49, []), 61), ((50, []), 63), ((51, []), 64), ((52, []), 65), ((53, []), 67), ((54, []), 68), ((55, []), 69), ((56, []), 70), ((61, []), 71), ((62, []), 72), ((63, []), 73), ((64, []), 75), ((57, []), 76), ((58, []), 77), ((59, []), 78), ((60, []), 79), ((65, []), 81), ((66, []), 82), ((67, []), 83), ((68, []), 84), ((69, []), 86), ((70, []), 87), ((71, []), 88), ((72, []), 89), ((73, []), 90), ((74, []), 91), ((75, []), 93), ((76, []), 94), ((77, []), 95), ((78, []), 96), ((79, []), 98), ((80, []), 100), ((81, []), 101), ((82, []), 102), ((83, []), 104), ((84, []), 106), ((85, []), 108), ((86, []), 110), ((89, []), 111), ((90, []), 113), ((91, []), 115), ((87, []), 116), ((88, []), 117), ((92, []), 118), ((93, []), 119), ((94, []), 120), ((95, []), 121), ((96, []), 123), ((97, []), 125), ((98, []), 126), ((99, []), 128), ((100, []), 130), ((101, []), 132), ((102, []), 134), ((103, []), 135), ((104, []), 136), ((105, []), 137), ((106, []), 138), ((107, []), 139), ((108, []), 140), ((109, []), 141)]
noncomputable def tab : Tab where
  G := gam
  ty := lookT tyL
  ifc := memN ifcL
  key k := keyL.getD k ⟨0, [], []⟩
  ent k := entL.getD k ⟨0, .skip, [], [], [], [], [], 0, [], true⟩
  call := lookC callL
  ext _ _ := none
end Go.Proofs.YtlidpmhmchbilaaGreat.E.TT
