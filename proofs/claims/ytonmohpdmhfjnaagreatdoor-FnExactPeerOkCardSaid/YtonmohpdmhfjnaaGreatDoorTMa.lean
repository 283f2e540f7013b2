/- The table of M: structs, types, entries, keys. No condition. -/
import Derived.Test.YtonmohpdmhfjnaaGreatDoorEG4
import Derived.Test.YtonmohpdmhfjnaaGreatDoorProg
import Derived.KernelRfl
namespace Go.Proofs.YtonmohpdmhfjnaaGreatDoor.E.TM
open Go.Proofs.YtonmohpdmhfjnaaGreatDoor.E
set_option linter.unusedVariables false
set_option maxRecDepth 100000
structure laws_Op where
  Code : Int
  N : Int
  S : (_root_.List Int)
def z_laws_Op : laws_Op := ⟨0, 0, []⟩
structure laws_Prog where
  Vars : (_root_.List (_root_.List Int))
  Cells : (_root_.List (_root_.List Int))
  Start : (_root_.List laws_Op)
  Main : (_root_.List laws_Op)
def z_laws_Prog : laws_Prog := ⟨[], [], [], []⟩
structure laws_Val where
  Kind : Int
  N : Int
  S : (_root_.List Int)
def z_laws_Val : laws_Val := ⟨0, 0, []⟩
structure laws_Cell where
  Name : Int
  Key : (_root_.List Int)
  Val : laws_Val
def z_laws_Cell : laws_Cell := ⟨0, [], z_laws_Val⟩
structure laws_State where
  Vars : (_root_.List laws_Val)
  Cells : (_root_.List laws_Cell)
  Nr : Int
  Err : Int
def z_laws_State : laws_State := ⟨[], [], 0, 0⟩
structure laws_Mach where
  State : laws_State
  Done : (_root_.List Int)
  Out : (_root_.List Int)
def z_laws_Mach : laws_Mach := ⟨z_laws_State, [], []⟩
structure impl_Op where
  Code : Int
  N : Int
  S : (_root_.List Int)
def z_impl_Op : impl_Op := ⟨0, 0, []⟩
structure impl_Prog where
  Vars : (_root_.List (_root_.List Int))
  Cells : (_root_.List (_root_.List Int))
  Start : (_root_.List impl_Op)
  Main : (_root_.List impl_Op)
def z_impl_Prog : impl_Prog := ⟨[], [], [], []⟩
structure impl_Val where
  Kind : Int
  N : Int
  S : (_root_.List Int)
def z_impl_Val : impl_Val := ⟨0, 0, []⟩
structure impl_Cell where
  Name : Int
  Key : (_root_.List Int)
  Val : impl_Val
def z_impl_Cell : impl_Cell := ⟨0, [], z_impl_Val⟩
structure impl_State where
  Vars : (_root_.List impl_Val)
  Cells : (_root_.List impl_Cell)
  Nr : Int
  Err : Int
def z_impl_State : impl_State := ⟨[], [], 0, 0⟩
structure impl_Mach where
  State : impl_State
  Done : (_root_.List Int)
  Out : (_root_.List Int)
def z_impl_Mach : impl_Mach := ⟨z_impl_State, [], []⟩
structure laws_Cmd where
  Who : Int
  Seq : Int
  Line : (_root_.List Int)
def z_laws_Cmd : laws_Cmd := ⟨0, 0, []⟩
structure laws_Entry where
  Term : Int
  C : laws_Cmd
def z_laws_Entry : laws_Entry := ⟨0, z_laws_Cmd⟩
structure laws_Log where
  Base : Int
  BaseTerm : Int
  List : (_root_.List laws_Entry)
def z_laws_Log : laws_Log := ⟨0, 0, []⟩
structure laws_Hard where
  Term : Int
  Vote : Int
  Log : laws_Log
  Snap : laws_Mach
def z_laws_Hard : laws_Hard := ⟨0, 0, z_laws_Log, z_laws_Mach⟩
structure impl_Cmd where
  Who : Int
  Seq : Int
  Line : (_root_.List Int)
def z_impl_Cmd : impl_Cmd := ⟨0, 0, []⟩
structure impl_Entry where
  Term : Int
  C : impl_Cmd
def z_impl_Entry : impl_Entry := ⟨0, z_impl_Cmd⟩
structure impl_Log where
  Base : Int
  BaseTerm : Int
  List : (_root_.List impl_Entry)
def z_impl_Log : impl_Log := ⟨0, 0, []⟩
structure impl_Hard where
  Term : Int
  Vote : Int
  Log : impl_Log
  Snap : impl_Mach
def z_impl_Hard : impl_Hard := ⟨0, 0, z_impl_Log, z_impl_Mach⟩
structure laws_Disk where
  Bytes : (_root_.List Int)
  Sure : Int
def z_laws_Disk : laws_Disk := ⟨[], 0⟩
structure laws_Rpc where
  Kind : Int
  From : Int
  To : Int
  Term : Int
  Index : Int
  IndexTerm : Int
  Commit : Int
  List : (_root_.List laws_Entry)
  Ok : Bool
  Snap : (_root_.List Int)
def z_laws_Rpc : laws_Rpc := ⟨0, 0, 0, 0, 0, 0, 0, [], false, []⟩
structure laws_Peer where
  Id : Int
  Hard : laws_Hard
  Role : Int
  Votes : (_root_.List Bool)
  Next : (_root_.List Int)
  Match : (_root_.List Int)
  Commit : Int
  Now : laws_Mach
  Disk : laws_Disk
  Held : (_root_.List laws_Rpc)
def z_laws_Peer : laws_Peer := ⟨0, z_laws_Hard, 0, [], [], [], 0, z_laws_Mach, z_laws_Disk, []⟩
structure impl_Disk where
  Bytes : (_root_.List Int)
  Sure : Int
def z_impl_Disk : impl_Disk := ⟨[], 0⟩
structure impl_Rpc where
  Kind : Int
  From : Int
  To : Int
  Term : Int
  Index : Int
  IndexTerm : Int
  Commit : Int
  List : (_root_.List impl_Entry)
  Ok : Bool
  Snap : (_root_.List Int)
def z_impl_Rpc : impl_Rpc := ⟨0, 0, 0, 0, 0, 0, 0, [], false, []⟩
structure impl_Peer where
  Id : Int
  Hard : impl_Hard
  Role : Int
  Votes : (_root_.List Bool)
  Next : (_root_.List Int)
  Match : (_root_.List Int)
  Commit : Int
  Now : impl_Mach
  Disk : impl_Disk
  Held : (_root_.List impl_Rpc)
def z_impl_Peer : impl_Peer := ⟨0, z_impl_Hard, 0, [], [], [], 0, z_impl_Mach, z_impl_Disk, []⟩
structure spec_l17Cur where
  b : (_root_.List Int)
  at_ : Int
  ok : Bool
def z_spec_l17Cur : spec_l17Cur := ⟨[], 0, false⟩
structure impl_source where
  b : (_root_.List Int)
  at_ : Int
  bad : Bool
def z_impl_source : impl_source := ⟨[], 0, false⟩
structure impl_Rex where
  Op : Int
  C : Int
  Set : (_root_.List Int)
  Not : Bool
  Kids : (_root_.List impl_Rex)
def z_impl_Rex : impl_Rex := ⟨0, 0, [], false, []⟩
structure spec_l3Cur where
  s : (_root_.List Int)
  at_ : Int
  bad : Bool
def z_spec_l3Cur : spec_l3Cur := ⟨[], 0, false⟩
structure impl_rexReader where
  s : (_root_.List Int)
  bad : Bool
def z_impl_rexReader : impl_rexReader := ⟨[], false⟩
def gT : Nat → Type
  | 0 => laws_Prog
  | 1 => laws_Op
  | 2 => laws_State
  | 3 => laws_Val
  | 4 => laws_Cell
  | 5 => laws_Mach
  | 6 => impl_Prog
  | 7 => impl_Op
  | 8 => impl_State
  | 9 => impl_Val
  | 10 => impl_Cell
  | 11 => impl_Mach
  | 12 => laws_Log
  | 13 => laws_Entry
  | 14 => laws_Cmd
  | 15 => laws_Hard
  | 16 => impl_Log
  | 17 => impl_Entry
  | 18 => impl_Cmd
  | 19 => impl_Hard
  | 20 => laws_Disk
  | 21 => laws_Peer
  | 22 => laws_Rpc
  | 23 => impl_Disk
  | 24 => impl_Peer
  | 25 => impl_Rpc
  | 26 => spec_l17Cur
  | 27 => impl_source
  | 28 => impl_Rex
  | 29 => spec_l3Cur
  | 30 => impl_rexReader
  | _ => Unit
def gfs : Nat → List FT
  | 0 => [(.sl .str), (.sl .str), (.sl (.nm 1)), (.sl (.nm 1))]
  | 1 => [(.int .i64), (.int .i64), .str]
  | 2 => [(.sl (.nm 3)), (.sl (.nm 4)), (.int .i64), (.int .i64)]
  | 3 => [(.int .i64), (.int .i64), .str]
  | 4 => [(.int .i64), .str, (.nm 3)]
  | 5 => [(.nm 2), (.sl (.int .i64)), .str]
  | 6 => [(.sl .str), (.sl .str), (.sl (.nm 7)), (.sl (.nm 7))]
  | 7 => [(.int .i64), (.int .i64), .str]
  | 8 => [(.sl (.nm 9)), (.sl (.nm 10)), (.int .i64), (.int .i64)]
  | 9 => [(.int .i64), (.int .i64), .str]
  | 10 => [(.int .i64), .str, (.nm 9)]
  | 11 => [(.nm 8), (.sl (.int .i64)), .str]
  | 12 => [(.int .i64), (.int .i64), (.sl (.nm 13))]
  | 13 => [(.int .i64), (.nm 14)]
  | 14 => [(.int .i64), (.int .i64), .str]
  | 15 => [(.int .i64), (.int .i64), (.nm 12), (.nm 5)]
  | 16 => [(.int .i64), (.int .i64), (.sl (.nm 17))]
  | 17 => [(.int .i64), (.nm 18)]
  | 18 => [(.int .i64), (.int .i64), .str]
  | 19 => [(.int .i64), (.int .i64), (.nm 16), (.nm 11)]
  | 20 => [(.sl (.int .u8)), (.int .i64)]
  | 21 => [(.int .i64), (.nm 15), (.int .i64), (.sl .bool), (.sl (.int .i64)), (.sl (.int .i64)), (.int .i64), (.nm 5), (.nm 20), (.sl (.nm 22))]
  | 22 => [(.int .i64), (.int .i64), (.int .i64), (.int .i64), (.int .i64), (.int .i64), (.int .i64), (.sl (.nm 13)), .bool, .str]
  | 23 => [(.sl (.int .u8)), (.int .i64)]
  | 24 => [(.int .i64), (.nm 19), (.int .i64), (.sl .bool), (.sl (.int .i64)), (.sl (.int .i64)), (.int .i64), (.nm 11), (.nm 23), (.sl (.nm 25))]
  | 25 => [(.int .i64), (.int .i64), (.int .i64), (.int .i64), (.int .i64), (.int .i64), (.int .i64), (.sl (.nm 17)), .bool, .str]
  | 26 => [(.sl (.int .u8)), (.int .i64), .bool]
  | 27 => [(.sl (.int .u8)), (.int .i64), .bool]
  | 28 => [(.int .i64), (.int .i64), .str, .bool, (.sl (.nm 28))]
  | 29 => [.str, (.int .i64), .bool]
  | 30 => [.str, .bool]
  | _ => []
def gun : ∀ n, gT n → Js gT (gfs n)
  | 0, x => (x.Vars, (x.Cells, (x.Start, (x.Main, ()))))
  | 1, x => (x.Code, (x.N, (x.S, ())))
  | 2, x => (x.Vars, (x.Cells, (x.Nr, (x.Err, ()))))
  | 3, x => (x.Kind, (x.N, (x.S, ())))
  | 4, x => (x.Name, (x.Key, (x.Val, ())))
  | 5, x => (x.State, (x.Done, (x.Out, ())))
  | 6, x => (x.Vars, (x.Cells, (x.Start, (x.Main, ()))))
  | 7, x => (x.Code, (x.N, (x.S, ())))
  | 8, x => (x.Vars, (x.Cells, (x.Nr, (x.Err, ()))))
  | 9, x => (x.Kind, (x.N, (x.S, ())))
  | 10, x => (x.Name, (x.Key, (x.Val, ())))
  | 11, x => (x.State, (x.Done, (x.Out, ())))
  | 12, x => (x.Base, (x.BaseTerm, (x.List, ())))
  | 13, x => (x.Term, (x.C, ()))
  | 14, x => (x.Who, (x.Seq, (x.Line, ())))
  | 15, x => (x.Term, (x.Vote, (x.Log, (x.Snap, ()))))
  | 16, x => (x.Base, (x.BaseTerm, (x.List, ())))
  | 17, x => (x.Term, (x.C, ()))
  | 18, x => (x.Who, (x.Seq, (x.Line, ())))
  | 19, x => (x.Term, (x.Vote, (x.Log, (x.Snap, ()))))
  | 20, x => (x.Bytes, (x.Sure, ()))
  | 21, x => (x.Id, (x.Hard, (x.Role, (x.Votes, (x.Next, (x.Match, (x.Commit, (x.Now, (x.Disk, (x.Held, ()))))))))))
  | 22, x => (x.Kind, (x.From, (x.To, (x.Term, (x.Index, (x.IndexTerm, (x.Commit, (x.List, (x.Ok, (x.Snap, ()))))))))))
  | 23, x => (x.Bytes, (x.Sure, ()))
  | 24, x => (x.Id, (x.Hard, (x.Role, (x.Votes, (x.Next, (x.Match, (x.Commit, (x.Now, (x.Disk, (x.Held, ()))))))))))
  | 25, x => (x.Kind, (x.From, (x.To, (x.Term, (x.Index, (x.IndexTerm, (x.Commit, (x.List, (x.Ok, (x.Snap, ()))))))))))
  | 26, x => (x.b, (x.at_, (x.ok, ())))
  | 27, x => (x.b, (x.at_, (x.bad, ())))
  | 28, x => (x.Op, (x.C, (x.Set, (x.Not, (x.Kids, ())))))
  | 29, x => (x.s, (x.at_, (x.bad, ())))
  | 30, x => (x.s, (x.bad, ()))
  | (n + 31), _ => ()
def gpk : ∀ n, Js gT (gfs n) → gT n
  | 0, y => ⟨y.1, y.2.1, y.2.2.1, y.2.2.2.1⟩
  | 1, y => ⟨y.1, y.2.1, y.2.2.1⟩
  | 2, y => ⟨y.1, y.2.1, y.2.2.1, y.2.2.2.1⟩
  | 3, y => ⟨y.1, y.2.1, y.2.2.1⟩
  | 4, y => ⟨y.1, y.2.1, y.2.2.1⟩
  | 5, y => ⟨y.1, y.2.1, y.2.2.1⟩
  | 6, y => ⟨y.1, y.2.1, y.2.2.1, y.2.2.2.1⟩
  | 7, y => ⟨y.1, y.2.1, y.2.2.1⟩
  | 8, y => ⟨y.1, y.2.1, y.2.2.1, y.2.2.2.1⟩
  | 9, y => ⟨y.1, y.2.1, y.2.2.1⟩
  | 10, y => ⟨y.1, y.2.1, y.2.2.1⟩
  | 11, y => ⟨y.1, y.2.1, y.2.2.1⟩
  | 12, y => ⟨y.1, y.2.1, y.2.2.1⟩
  | 13, y => ⟨y.1, y.2.1⟩
  | 14, y => ⟨y.1, y.2.1, y.2.2.1⟩
  | 15, y => ⟨y.1, y.2.1, y.2.2.1, y.2.2.2.1⟩
  | 16, y => ⟨y.1, y.2.1, y.2.2.1⟩
  | 17, y => ⟨y.1, y.2.1⟩
  | 18, y => ⟨y.1, y.2.1, y.2.2.1⟩
  | 19, y => ⟨y.1, y.2.1, y.2.2.1, y.2.2.2.1⟩
  | 20, y => ⟨y.1, y.2.1⟩
  | 21, y => ⟨y.1, y.2.1, y.2.2.1, y.2.2.2.1, y.2.2.2.2.1, y.2.2.2.2.2.1, y.2.2.2.2.2.2.1, y.2.2.2.2.2.2.2.1, y.2.2.2.2.2.2.2.2.1, y.2.2.2.2.2.2.2.2.2.1⟩
  | 22, y => ⟨y.1, y.2.1, y.2.2.1, y.2.2.2.1, y.2.2.2.2.1, y.2.2.2.2.2.1, y.2.2.2.2.2.2.1, y.2.2.2.2.2.2.2.1, y.2.2.2.2.2.2.2.2.1, y.2.2.2.2.2.2.2.2.2.1⟩
  | 23, y => ⟨y.1, y.2.1⟩
  | 24, y => ⟨y.1, y.2.1, y.2.2.1, y.2.2.2.1, y.2.2.2.2.1, y.2.2.2.2.2.1, y.2.2.2.2.2.2.1, y.2.2.2.2.2.2.2.1, y.2.2.2.2.2.2.2.2.1, y.2.2.2.2.2.2.2.2.2.1⟩
  | 25, y => ⟨y.1, y.2.1, y.2.2.1, y.2.2.2.1, y.2.2.2.2.1, y.2.2.2.2.2.1, y.2.2.2.2.2.2.1, y.2.2.2.2.2.2.2.1, y.2.2.2.2.2.2.2.2.1, y.2.2.2.2.2.2.2.2.2.1⟩
  | 26, y => ⟨y.1, y.2.1, y.2.2.1⟩
  | 27, y => ⟨y.1, y.2.1, y.2.2.1⟩
  | 28, y => ⟨y.1, y.2.1, y.2.2.1, y.2.2.2.1, y.2.2.2.2.1⟩
  | 29, y => ⟨y.1, y.2.1, y.2.2.1⟩
  | 30, y => ⟨y.1, y.2.1⟩
  | (n + 31), _ => ()
theorem gun_pk : ∀ n y, gun n (gpk n y) = y
  | 0, _ => rfl
  | 1, _ => rfl
  | 2, _ => rfl
  | 3, _ => rfl
  | 4, _ => rfl
  | 5, _ => rfl
  | 6, _ => rfl
  | 7, _ => rfl
  | 8, _ => rfl
  | 9, _ => rfl
  | 10, _ => rfl
  | 11, _ => rfl
  | 12, _ => rfl
  | 13, _ => rfl
  | 14, _ => rfl
  | 15, _ => rfl
  | 16, _ => rfl
  | 17, _ => rfl
  | 18, _ => rfl
  | 19, _ => rfl
  | 20, _ => rfl
  | 21, _ => rfl
  | 22, _ => rfl
  | 23, _ => rfl
  | 24, _ => rfl
  | 25, _ => rfl
  | 26, _ => rfl
  | 27, _ => rfl
  | 28, _ => rfl
  | 29, _ => rfl
  | 30, _ => rfl
  | (n + 31), _ => rfl
theorem gpk_un : ∀ n x, gpk n (gun n x) = x
  | 0, x => by cases x; rfl
  | 1, x => by cases x; rfl
  | 2, x => by cases x; rfl
  | 3, x => by cases x; rfl
  | 4, x => by cases x; rfl
  | 5, x => by cases x; rfl
  | 6, x => by cases x; rfl
  | 7, x => by cases x; rfl
  | 8, x => by cases x; rfl
  | 9, x => by cases x; rfl
  | 10, x => by cases x; rfl
  | 11, x => by cases x; rfl
  | 12, x => by cases x; rfl
  | 13, x => by cases x; rfl
  | 14, x => by cases x; rfl
  | 15, x => by cases x; rfl
  | 16, x => by cases x; rfl
  | 17, x => by cases x; rfl
  | 18, x => by cases x; rfl
  | 19, x => by cases x; rfl
  | 20, x => by cases x; rfl
  | 21, x => by cases x; rfl
  | 22, x => by cases x; rfl
  | 23, x => by cases x; rfl
  | 24, x => by cases x; rfl
  | 25, x => by cases x; rfl
  | 26, x => by cases x; rfl
  | 27, x => by cases x; rfl
  | 28, x => by cases x; rfl
  | 29, x => by cases x; rfl
  | 30, x => by cases x; rfl
  | (n + 31), _ => rfl
def gz : ∀ n, gT n
  | 0 => z_laws_Prog
  | 1 => z_laws_Op
  | 2 => z_laws_State
  | 3 => z_laws_Val
  | 4 => z_laws_Cell
  | 5 => z_laws_Mach
  | 6 => z_impl_Prog
  | 7 => z_impl_Op
  | 8 => z_impl_State
  | 9 => z_impl_Val
  | 10 => z_impl_Cell
  | 11 => z_impl_Mach
  | 12 => z_laws_Log
  | 13 => z_laws_Entry
  | 14 => z_laws_Cmd
  | 15 => z_laws_Hard
  | 16 => z_impl_Log
  | 17 => z_impl_Entry
  | 18 => z_impl_Cmd
  | 19 => z_impl_Hard
  | 20 => z_laws_Disk
  | 21 => z_laws_Peer
  | 22 => z_laws_Rpc
  | 23 => z_impl_Disk
  | 24 => z_impl_Peer
  | 25 => z_impl_Rpc
  | 26 => z_spec_l17Cur
  | 27 => z_impl_source
  | 28 => z_impl_Rex
  | 29 => z_spec_l3Cur
  | 30 => z_impl_rexReader
  | (n + 31) => ()
theorem gun_z : ∀ n, gun n (gz n) = zeroJs gz (gfs n)
  | 0 => rfl
  | 1 => rfl
  | 2 => rfl
  | 3 => rfl
  | 4 => rfl
  | 5 => rfl
  | 6 => rfl
  | 7 => rfl
  | 8 => rfl
  | 9 => rfl
  | 10 => rfl
  | 11 => rfl
  | 12 => rfl
  | 13 => rfl
  | 14 => rfl
  | 15 => rfl
  | 16 => rfl
  | 17 => rfl
  | 18 => rfl
  | 19 => rfl
  | 20 => rfl
  | 21 => rfl
  | 22 => rfl
  | 23 => rfl
  | 24 => rfl
  | 25 => rfl
  | 26 => rfl
  | 27 => rfl
  | 28 => rfl
  | 29 => rfl
  | 30 => rfl
  | (n + 31) => rfl
def gsz : Nat → Nat
  | 0 => 4
  | 1 => 3
  | 2 => 4
  | 3 => 3
  | 4 => 5
  | 5 => 6
  | 6 => 4
  | 7 => 3
  | 8 => 4
  | 9 => 3
  | 10 => 5
  | 11 => 6
  | 12 => 3
  | 13 => 4
  | 14 => 3
  | 15 => 11
  | 16 => 3
  | 17 => 4
  | 18 => 3
  | 19 => 11
  | 20 => 2
  | 21 => 26
  | 22 => 10
  | 23 => 2
  | 24 => 26
  | 25 => 10
  | 26 => 3
  | 27 => 3
  | 28 => 5
  | 29 => 3
  | 30 => 2
  | _ => 0
theorem gsz_eq : ∀ n, gsz n = FT.szs gsz (gfs n)
  | 0 => rfl
  | 1 => rfl
  | 2 => rfl
  | 3 => rfl
  | 4 => rfl
  | 5 => rfl
  | 6 => rfl
  | 7 => rfl
  | 8 => rfl
  | 9 => rfl
  | 10 => rfl
  | 11 => rfl
  | 12 => rfl
  | 13 => rfl
  | 14 => rfl
  | 15 => rfl
  | 16 => rfl
  | 17 => rfl
  | 18 => rfl
  | 19 => rfl
  | 20 => rfl
  | 21 => rfl
  | 22 => rfl
  | 23 => rfl
  | 24 => rfl
  | 25 => rfl
  | 26 => rfl
  | 27 => rfl
  | 28 => rfl
  | 29 => rfl
  | 30 => rfl
  | (n + 31) => rfl
def gfl : Nat → Bool
  | 0 => false
  | 1 => true
  | 2 => false
  | 3 => true
  | 4 => true
  | 5 => false
  | 6 => false
  | 7 => true
  | 8 => false
  | 9 => true
  | 10 => true
  | 11 => false
  | 12 => false
  | 13 => true
  | 14 => true
  | 15 => false
  | 16 => false
  | 17 => true
  | 18 => true
  | 19 => false
  | 20 => false
  | 21 => false
  | 22 => false
  | 23 => false
  | 24 => false
  | 25 => false
  | 26 => false
  | 27 => false
  | 28 => false
  | 29 => true
  | 30 => true
  | _ => true
theorem gfl_eq : ∀ n, gfl n = true → FT.flats gfl (gfs n) = true
  | 0, h => by cases h
  | 1, h => rfl
  | 2, h => by cases h
  | 3, h => rfl
  | 4, h => rfl
  | 5, h => by cases h
  | 6, h => by cases h
  | 7, h => rfl
  | 8, h => by cases h
  | 9, h => rfl
  | 10, h => rfl
  | 11, h => by cases h
  | 12, h => by cases h
  | 13, h => rfl
  | 14, h => rfl
  | 15, h => by cases h
  | 16, h => by cases h
  | 17, h => rfl
  | 18, h => rfl
  | 19, h => by cases h
  | 20, h => by cases h
  | 21, h => by cases h
  | 22, h => by cases h
  | 23, h => by cases h
  | 24, h => by cases h
  | 25, h => by cases h
  | 26, h => by cases h
  | 27, h => by cases h
  | 28, h => by cases h
  | 29, h => rfl
  | 30, h => rfl
  | (n + 31), _ => rfl
def gam : Gam := ⟨gT, gfs, gun, gpk, gun_pk, gpk_un, gz, gun_z, gsz, gsz_eq, gfl, gfl_eq⟩
def tyL : List (Nat × FT) := [(2, (.int .i64)), (3, (.int .i64)), (4, .bool), (5, (.int .u8)), (6, (.int .u8)), (9, .str), (21, (.int .i32)), (22, (.sl .str)), (23, (.sl (.nm 1))), (25, (.nm 0)), (26, (.sl (.nm 3))), (27, (.sl (.nm 4))), (29, (.nm 2)), (30, (.sl (.int .i64))), (32, (.nm 5)), (35, (.sl (.int .u8))), (37, (.sl (.nm 7))), (39, (.nm 6)), (41, (.sl (.nm 9))), (42, (.sl (.nm 10))), (44, (.nm 8)), (46, (.nm 11)), (59, (.sl (.nm 13))), (61, (.nm 12)), (63, (.nm 15)), (66, (.sl (.nm 17))), (68, (.nm 16)), (70, (.nm 19)), (74, (.sl .bool)), (76, (.nm 20)), (77, (.sl (.nm 22))), (79, (.nm 21)), (82, (.nm 23)), (83, (.sl (.nm 25))), (85, (.nm 24)), (101, (.nm 9)), (104, (.nm 10)), (135, (.nm 25)), (148, (.nm 1)), (154, (.nm 7)), (159, (.int .u64)), (175, (.nm 18)), (177, (.nm 17)), (183, (.nm 22)), (189, (.nm 3)), (192, (.nm 4)), (208, (.nm 14)), (210, (.nm 13)), (231, (.sl (.nm 28))), (233, (.nm 28)), (244, (.nm 29)), (259, (.nm 30)), (277, (.int .i64)), (290, (.int .u64))]
def ifcL : List Nat := [262]
def keyL : List KeyI := [
  ⟨0, [], [.val 0 (.leaf false (.nm 0)), .val 1 (.leaf false (.nm 21)), .val 2 (.leaf false (.int .i64))]⟩,
  ⟨1, [], [.val 0 (.leaf false (.nm 0)), .val 1 (.leaf false (.int .i64))]⟩,
  ⟨2, [], [.val 0 (.leaf false (.nm 21)), .val 1 (.leaf false (.int .i64))]⟩,
  ⟨3, [], [.val 0 (.leaf false (.nm 0))]⟩,
  ⟨4, [], [.val 0 (.leaf false (.nm 21))]⟩,
  ⟨5, [], [.val 0 (.leaf false (.nm 6)), .val 1 (.leaf false (.nm 24)), .val 2 (.leaf false (.int .i64))]⟩,
  ⟨5, [true, true, true, false, true, false], [.ptr 3 48, .ptr 4 64, .val 2 (.leaf false (.int .i64)), .val 7 (.leaf false (.int .i64)), .val 9 (.leaf false (.int .i64)), .slot 48 (.leaf false (.nm 6)) true none, .slot 64 (.leaf false (.nm 24)) true none]⟩,
  ⟨5, [true, true, true, true, false, true, false], [.ptr 3 48, .ptr 4 64, .val 2 (.leaf false (.int .i64)), .val 7 (.leaf false (.int .i64)), .val 10 (.leaf false (.int .i64)), .slot 48 (.leaf false (.nm 6)) true none, .slot 64 (.leaf false (.nm 24)) true none]⟩,
  ⟨6, [], [.val 0 (.leaf false (.nm 6)), .val 1 (.leaf false (.nm 24)), .val 2 (.leaf false (.int .i64))]⟩,
  ⟨7, [], [.val 0 (.leaf false (.nm 6)), .val 1 (.leaf false (.nm 6))]⟩,
  ⟨8, [], [.val 0 (.leaf false (.nm 24)), .val 1 (.leaf false (.nm 24))]⟩,
  ⟨9, [], [.val 0 (.leaf false (.sl .str)), .val 1 (.leaf false (.int .i64))]⟩,
  ⟨9, [true, true, true, false, true, false], [.val 0 (.leaf false (.sl .str)), .val 1 (.leaf false (.int .i64)), .val 5 (.leaf false (.int .i64))]⟩,
  ⟨10, [], [.val 0 (.leaf false (.sl (.nm 1))), .val 1 (.leaf false (.int .i64))]⟩,
  ⟨10, [true, true, true, false, true, false], [.val 0 (.leaf false (.sl (.nm 1))), .val 1 (.leaf false (.int .i64)), .val 5 (.leaf false (.int .i64))]⟩,
  ⟨11, [], [.val 0 (.leaf false (.nm 15)), .val 1 (.leaf false (.int .i64))]⟩,
  ⟨12, [], [.val 0 (.leaf false (.sl .bool)), .val 1 (.leaf false (.int .i64))]⟩,
  ⟨13, [], [.val 0 (.leaf false (.sl (.int .i64))), .val 1 (.leaf false (.int .i64))]⟩,
  ⟨14, [], [.val 0 (.leaf false (.nm 5)), .val 1 (.leaf false (.int .i64))]⟩,
  ⟨15, [], [.val 0 (.leaf false (.nm 20)), .val 1 (.leaf false (.int .i64))]⟩,
  ⟨16, [], [.val 0 (.leaf false (.sl (.nm 22))), .val 1 (.leaf false (.int .i64))]⟩,
  ⟨16, [true, true, true, false, true, false], [.val 0 (.leaf false (.sl (.nm 22))), .val 1 (.leaf false (.int .i64)), .val 5 (.leaf false (.int .i64))]⟩,
  ⟨17, [], [.val 0 (.leaf false (.sl .str))]⟩,
  ⟨17, [true, true, false, true, false], [.val 0 (.leaf false (.sl .str)), .own 3 48 (.leaf true (.sl .str)), .val 4 (.leaf false (.int .i64))]⟩,
  ⟨18, [], [.val 0 (.leaf false (.sl (.nm 1)))]⟩,
  ⟨18, [true, true, false, true, false], [.val 0 (.leaf false (.sl (.nm 1))), .own 3 48 (.leaf true (.sl (.nm 7))), .val 4 (.leaf false (.int .i64))]⟩,
  ⟨19, [], [.val 0 (.leaf false (.nm 15))]⟩,
  ⟨20, [], [.val 0 (.leaf false (.sl .bool))]⟩,
  ⟨20, [true, true, false, true, false], [.val 0 (.leaf false (.sl .bool)), .own 3 48 (.leaf true (.sl .bool)), .val 4 (.leaf false (.int .i64))]⟩,
  ⟨21, [], [.val 0 (.leaf false (.sl (.int .i64)))]⟩,
  ⟨21, [true, true, false, true, false], [.val 0 (.leaf false (.sl (.int .i64))), .own 3 48 (.leaf true (.sl (.int .i64))), .val 4 (.leaf false (.int .i64))]⟩,
  ⟨22, [], [.val 0 (.leaf false (.nm 5))]⟩,
  ⟨23, [], [.val 0 (.leaf false (.nm 20))]⟩,
  ⟨24, [], [.val 0 (.leaf false (.sl (.nm 22)))]⟩,
  ⟨24, [true, true, false, true, false], [.val 0 (.leaf false (.sl (.nm 22))), .own 3 48 (.leaf true (.sl (.nm 25))), .val 4 (.leaf false (.int .i64))]⟩,
  ⟨25, [], [.val 0 (.leaf false (.int .i64)), .val 1 (.leaf false (.int .i64)), .val 2 (.leaf false (.int .i64))]⟩,
  ⟨26, [], [.val 0 (.leaf false (.nm 6)), .val 1 (.leaf false (.nm 19))]⟩,
  ⟨27, [], [.val 0 (.leaf false (.nm 16))]⟩,
  ⟨28, [], [.val 0 (.leaf false (.nm 25)), .val 1 (.leaf false (.int .i64))]⟩,
  ⟨29, [], [.val 0 (.leaf false (.nm 6)), .val 1 (.leaf false (.nm 11))]⟩,
  ⟨29, [true, false, true, false], [.ptr 2 32, .ptr 3 48, .val 5 (.leaf false (.int .i64)), .slot 32 (.leaf false (.nm 6)) true none, .slot 48 (.leaf false (.nm 11)) true none]⟩,
  ⟨30, [], [.val 0 (.leaf false (.nm 23))]⟩,
  ⟨31, [], [.val 0 (.leaf false (.int .i64)), .val 1 (.leaf false (.int .i64)), .val 2 (.leaf false (.int .i64))]⟩,
  ⟨32, [], [.val 0 (.leaf false (.nm 6)), .val 1 (.leaf false (.nm 19))]⟩,
  ⟨33, [], [.val 0 (.leaf false (.nm 16))]⟩,
  ⟨34, [], [.val 0 (.leaf false (.sl (.int .i64))), .val 1 (.leaf false (.int .i64)), .val 2 (.leaf false (.int .i64)), .val 3 (.leaf false (.int .i64))]⟩,
  ⟨35, [], [.val 0 (.leaf false (.nm 6)), .val 1 (.leaf false (.nm 11))]⟩,
  ⟨36, [], [.val 0 (.leaf false (.nm 23))]⟩,
  ⟨37, [], [.val 0 (.leaf false (.sl (.nm 25))), .clo 1 84 [16, 17], .slot 16 (.leaf false (.int .i64)) true none, .slot 17 (.leaf false (.nm 24)) true none]⟩,
  ⟨38, [], [.val 0 (.leaf false (.sl .str)), .val 1 (.leaf false (.sl .str))]⟩,
  ⟨38, [true, true, false, true, false], [.val 0 (.leaf false (.sl .str)), .val 1 (.leaf false (.sl .str)), .val 5 (.leaf false (.int .i64))]⟩,
  ⟨39, [], [.val 0 (.leaf false (.sl (.nm 7))), .val 1 (.leaf false (.sl (.nm 7)))]⟩,
  ⟨39, [true, true, false, true, false], [.val 0 (.leaf false (.sl (.nm 7))), .val 1 (.leaf false (.sl (.nm 7))), .val 5 (.leaf false (.int .i64))]⟩,
  ⟨40, [], [.val 0 (.leaf false (.nm 19)), .val 1 (.leaf false (.nm 19))]⟩,
  ⟨41, [], [.val 0 (.leaf false (.sl .bool)), .val 1 (.leaf false (.sl .bool))]⟩,
  ⟨41, [true, true, false, true, false], [.val 0 (.leaf false (.sl .bool)), .val 1 (.leaf false (.sl .bool)), .val 5 (.leaf false (.int .i64))]⟩,
  ⟨42, [], [.val 0 (.leaf false (.sl (.int .i64))), .val 1 (.leaf false (.sl (.int .i64)))]⟩,
  ⟨42, [true, true, false, true, false], [.val 0 (.leaf false (.sl (.int .i64))), .val 1 (.leaf false (.sl (.int .i64))), .val 5 (.leaf false (.int .i64))]⟩,
  ⟨43, [], [.val 0 (.leaf false (.nm 11)), .val 1 (.leaf false (.nm 11))]⟩,
  ⟨44, [], [.val 0 (.leaf false (.nm 23)), .val 1 (.leaf false (.nm 23))]⟩,
  ⟨45, [], [.val 0 (.leaf false (.sl (.nm 25))), .val 1 (.leaf false (.sl (.nm 25)))]⟩,
  ⟨45, [true, true, false, true, false], [.val 0 (.leaf false (.sl (.nm 25))), .val 1 (.leaf false (.sl (.nm 25))), .val 5 (.leaf false (.int .i64))]⟩,
  ⟨46, [], [.val 0 (.leaf false (.nm 1)), .val 1 (.leaf false (.int .i64))]⟩,
  ⟨47, [], [.val 0 (.leaf false (.nm 12)), .val 1 (.leaf false (.int .i64))]⟩,
  ⟨48, [], [.val 0 (.leaf false (.nm 2)), .val 1 (.leaf false (.int .i64))]⟩,
  ⟨49, [], [.val 0 (.leaf false (.sl (.int .u8))), .val 1 (.leaf false (.int .i64))]⟩,
  ⟨50, [], [.val 0 (.leaf false (.nm 22)), .val 1 (.leaf false (.int .i64))]⟩,
  ⟨51, [], [.val 0 (.leaf false (.nm 1))]⟩,
  ⟨52, [], [.val 0 (.leaf false (.nm 12))]⟩,
  ⟨53, [], [.val 0 (.leaf false (.nm 2))]⟩,
  ⟨54, [], [.val 0 (.leaf false (.sl (.int .u8)))]⟩,
  ⟨54, [true, true, false, true, false], [.val 0 (.leaf false (.sl (.int .u8))), .own 3 48 (.leaf true (.sl (.int .u8))), .val 4 (.leaf false (.int .i64))]⟩,
  ⟨55, [], [.val 0 (.leaf false (.nm 22))]⟩,
  ⟨56, [], [.val 0 (.leaf false (.nm 16))]⟩,
  ⟨56, [true, true, true, false, true, false], [.ptr 1 16, .val 3 (.leaf false (.int .i64)), .val 4 (.leaf false (.int .i64)), .slot 16 (.leaf false (.nm 16)) true none]⟩,
  ⟨57, [], [.val 0 (.leaf false (.sl (.nm 17))), .val 1 (.leaf false (.int .i64))]⟩,
  ⟨57, [true, false, true, false], [.val 0 (.leaf false (.sl (.nm 17))), .val 1 (.leaf false (.int .i64)), .val 5 (.leaf false (.int .i64))]⟩,
  ⟨58, [], [.val 0 (.leaf false (.nm 6))]⟩,
  ⟨58, [true, false, true, false], [.ptr 1 16, .val 3 (.leaf false (.int .i64)), .slot 16 (.leaf false (.nm 6)) true none]⟩,
  ⟨58, [true, true, false, true, false], [.ptr 1 16, .val 4 (.leaf false (.int .i64)), .slot 16 (.leaf false (.nm 6)) true none]⟩,
  ⟨59, [], [.val 0 (.leaf false (.nm 8)), .val 1 (.leaf false (.int .i64)), .val 2 (.leaf false (.int .i64))]⟩,
  ⟨59, [true, false, true, false], [.ptr 3 48, .val 1 (.leaf false (.int .i64)), .val 2 (.leaf false (.int .i64)), .val 7 (.leaf false (.int .i64)), .slot 48 (.leaf false (.nm 8)) true none]⟩,
  ⟨59, [true, true, false, true, false], [.ptr 3 48, .val 1 (.leaf false (.int .i64)), .val 2 (.leaf false (.int .i64)), .val 8 (.leaf false (.int .i64)), .slot 48 (.leaf false (.nm 8)) true none]⟩,
  ⟨60, [], [.val 0 (.leaf false (.int .i64))]⟩,
  ⟨61, [], [.val 0 (.leaf false (.int .i64))]⟩,
  ⟨62, [], [.val 0 (.leaf false (.nm 16))]⟩,
  ⟨62, [true, true, true, false, true, false], [.val 3 (.leaf false (.int .i64)), .val 28 (.leaf false (.sl (.nm 17))), .val 29 (.leaf false (.int .i64)), .val 30 (.leaf false (.int .i64))]⟩,
  ⟨63, [], [.val 0 (.leaf false (.sl (.int .i64))), .clo 1 128 [16, 17], .slot 16 (.leaf false (.int .i64)) true none, .slot 17 (.leaf false (.int .i64)) true none]⟩,
  ⟨64, [], [.val 0 (.leaf false (.nm 6))]⟩,
  ⟨65, [], [.val 0 (.leaf false (.nm 8)), .val 1 (.leaf false (.int .i64)), .val 2 (.leaf false (.int .i64))]⟩,
  ⟨65, [true, true, false, true, false], [.ptr 3 48, .val 2 (.leaf false (.int .i64)), .val 38 (.leaf false (.sl (.nm 10))), .val 39 (.leaf false (.int .i64)), .val 40 (.leaf false (.int .i64)), .slot 48 (.leaf false (.nm 8)) true none]⟩,
  ⟨66, [], [.val 0 (.leaf false (.sl (.int .i64))), .clo 1 103 []]⟩,
  ⟨67, [], [.val 0 (.leaf false (.sl (.nm 25))), .clo 1 84 [16, 17], .slot 16 (.leaf false (.int .i64)) true none, .slot 17 (.leaf false (.nm 24)) true none]⟩,
  ⟨67, [true, false, true, false], [.clo 1 84 [16, 17], .val 0 (.leaf false (.sl (.nm 25))), .val 7 (.leaf false (.int .i64)), .val 8 (.leaf false (.int .i64)), .slot 16 (.leaf true (.int .i64)) true none, .slot 17 (.leaf false (.nm 24)) true none]⟩,
  ⟨68, [], [.val 0 (.leaf false (.nm 7)), .val 1 (.leaf false (.nm 7))]⟩,
  ⟨69, [], [.val 0 (.leaf false (.nm 16)), .val 1 (.leaf false (.nm 16))]⟩,
  ⟨70, [], [.val 0 (.leaf false (.nm 8)), .val 1 (.leaf false (.nm 8))]⟩,
  ⟨71, [], [.val 0 (.leaf false (.sl (.int .u8))), .val 1 (.leaf false (.sl (.int .u8)))]⟩,
  ⟨71, [true, true, false, true, false], [.val 0 (.leaf false (.sl (.int .u8))), .val 1 (.leaf false (.sl (.int .u8))), .val 5 (.leaf false (.int .i64))]⟩,
  ⟨72, [], [.val 0 (.leaf false (.nm 25)), .val 1 (.leaf false (.nm 25))]⟩,
  ⟨73, [], [.val 0 (.leaf false (.sl (.nm 13))), .val 1 (.leaf false (.int .i64))]⟩,
  ⟨73, [true, true, true, false, true, false], [.val 0 (.leaf false (.sl (.nm 13))), .val 1 (.leaf false (.int .i64)), .val 5 (.leaf false (.int .i64))]⟩,
  ⟨74, [], [.val 0 (.leaf false (.sl (.nm 3))), .val 1 (.leaf false (.int .i64))]⟩,
  ⟨74, [true, true, true, false, true, false], [.val 0 (.leaf false (.sl (.nm 3))), .val 1 (.leaf false (.int .i64)), .val 5 (.leaf false (.int .i64))]⟩,
  ⟨75, [], [.val 0 (.leaf false (.sl (.nm 4))), .val 1 (.leaf false (.int .i64))]⟩,
  ⟨75, [true, true, true, false, true, false], [.val 0 (.leaf false (.sl (.nm 4))), .val 1 (.leaf false (.int .i64)), .val 5 (.leaf false (.int .i64))]⟩,
  ⟨76, [], [.val 0 (.leaf false (.sl (.nm 13)))]⟩,
  ⟨76, [true, true, false, true, false], [.val 0 (.leaf false (.sl (.nm 13))), .own 3 48 (.leaf true (.sl (.nm 17))), .val 4 (.leaf false (.int .i64))]⟩,
  ⟨77, [], [.val 0 (.leaf false (.sl (.nm 3)))]⟩,
  ⟨77, [true, true, false, true, false], [.val 0 (.leaf false (.sl (.nm 3))), .own 3 48 (.leaf true (.sl (.nm 9))), .val 4 (.leaf false (.int .i64))]⟩,
  ⟨78, [], [.val 0 (.leaf false (.sl (.nm 4)))]⟩,
  ⟨78, [true, true, false, true, false], [.val 0 (.leaf false (.sl (.nm 4))), .own 3 48 (.leaf true (.sl (.nm 10))), .val 4 (.leaf false (.int .i64))]⟩,
  ⟨79, [], [.val 0 (.leaf false (.nm 18))]⟩,
  ⟨80, [], [.val 0 (.leaf false .str)]⟩,
  ⟨80, [true, false, true, false], [.val 0 (.leaf false .str), .val 3 (.leaf false (.int .i64))]⟩,
  ⟨81, [], [.val 0 (.leaf false (.sl .str)), .val 1 (.leaf false .str)]⟩,
  ⟨81, [true, false, true, false], [.val 0 (.leaf false (.sl .str)), .val 1 (.leaf false .str), .val 5 (.leaf false (.int .i64))]⟩,
  ⟨82, [], [.val 0 (.leaf false (.sl (.nm 7))), .val 1 (.leaf false (.int .i64)), .val 2 (.leaf false (.int .i64))]⟩,
  ⟨82, [true, true, true, false, true, false], [.val 0 (.leaf false (.sl (.nm 7))), .val 1 (.leaf false (.int .i64)), .val 2 (.leaf false (.int .i64)), .val 7 (.leaf false (.int .i64)), .val 8 (.leaf false (.int .i64))]⟩,
  ⟨83, [], [.val 0 (.leaf false (.nm 9))]⟩,
  ⟨84, [], [.val 0 (.leaf false (.nm 10)), .val 1 (.leaf false (.int .i64)), .val 2 (.leaf false .str)]⟩,
  ⟨85, [], [.val 0 (.leaf false (.nm 18))]⟩,
  ⟨86, [], [.val 0 (.leaf false (.sl (.int .i64))), .clo 1 128 [16, 17], .slot 16 (.leaf false (.int .i64)) true none, .slot 17 (.leaf false (.int .i64)) true none]⟩,
  ⟨86, [true, false, true, false], [.clo 1 128 [16, 17], .val 0 (.leaf false (.sl (.int .i64))), .val 7 (.leaf false (.int .i64)), .val 8 (.leaf false (.int .i64)), .slot 16 (.leaf true (.int .i64)) true none, .slot 17 (.leaf true (.int .i64)) true none]⟩,
  ⟨87, [], [.val 0 (.leaf false (.sl .str))]⟩,
  ⟨87, [true, false, true, false], [.val 0 (.leaf false (.sl .str)), .val 5 (.leaf false (.sl .str)), .val 6 (.leaf false (.int .i64)), .val 7 (.leaf false (.int .i64))]⟩,
  ⟨88, [], [.val 0 (.leaf false (.sl .str)), .clo 1 144 [16], .slot 16 (.leaf false (.nm 6)) true none]⟩,
  ⟨89, [], [.val 0 (.leaf false (.sl (.nm 7))), .val 1 (.leaf false (.int .i64)), .val 2 (.leaf false (.int .i64))]⟩,
  ⟨90, [], [.val 0 (.leaf false (.sl (.nm 9))), .clo 1 148 []]⟩,
  ⟨91, [], [.val 0 (.leaf false (.nm 9))]⟩,
  ⟨92, [], [.val 0 (.leaf false (.nm 10)), .val 1 (.leaf false (.nm 10))]⟩,
  ⟨93, [], [.val 0 (.leaf false (.sl (.int .i64))), .clo 1 103 []]⟩,
  ⟨93, [true, false, true, false], [.clo 1 103 [], .val 0 (.leaf false (.sl (.int .i64))), .val 7 (.leaf false (.int .i64)), .val 8 (.leaf false (.int .i64))]⟩,
  ⟨94, [], [.val 0 (.leaf false (.nm 25)), .ptr 1 16, .slot 16 (.leaf false (.int .i64)) true none, .ptr 2 32, .slot 32 (.leaf false (.nm 24)) true none]⟩,
  ⟨95, [], [.val 0 (.leaf false (.sl (.nm 17))), .val 1 (.leaf false (.sl (.nm 17)))]⟩,
  ⟨95, [true, true, false, true, false], [.val 0 (.leaf false (.sl (.nm 17))), .val 1 (.leaf false (.sl (.nm 17))), .val 5 (.leaf false (.int .i64))]⟩,
  ⟨96, [], [.val 0 (.leaf false (.sl (.nm 9))), .val 1 (.leaf false (.sl (.nm 9)))]⟩,
  ⟨96, [true, true, false, true, false], [.val 0 (.leaf false (.sl (.nm 9))), .val 1 (.leaf false (.sl (.nm 9))), .val 5 (.leaf false (.int .i64))]⟩,
  ⟨97, [], [.val 0 (.leaf false (.sl (.nm 10))), .val 1 (.leaf false (.sl (.nm 10)))]⟩,
  ⟨97, [true, true, false, true, false], [.val 0 (.leaf false (.sl (.nm 10))), .val 1 (.leaf false (.sl (.nm 10))), .val 5 (.leaf false (.int .i64))]⟩,
  ⟨98, [], [.val 0 (.leaf false (.nm 13)), .val 1 (.leaf false (.int .i64))]⟩,
  ⟨99, [], [.val 0 (.leaf false (.nm 3)), .val 1 (.leaf false (.int .i64))]⟩,
  ⟨100, [], [.val 0 (.leaf false (.nm 4)), .val 1 (.leaf false (.int .i64))]⟩,
  ⟨101, [], [.val 0 (.leaf false (.nm 13))]⟩,
  ⟨102, [], [.val 0 (.leaf false (.nm 3))]⟩,
  ⟨103, [], [.val 0 (.leaf false (.nm 4))]⟩,
  ⟨104, [], [.val 0 (.leaf false .str)]⟩,
  ⟨104, [true, false, true, false], [.val 0 (.leaf false .str), .val 3 (.leaf false (.int .i64))]⟩,
  ⟨105, [], [.val 0 (.leaf false (.int .u8))]⟩,
  ⟨106, [], [.val 0 (.leaf false .str)]⟩,
  ⟨107, [], [.val 0 (.leaf false (.nm 7)), .val 1 (.leaf false (.int .i64)), .val 2 (.leaf false (.int .i64)), .val 3 (.leaf false (.int .i64))]⟩,
  ⟨107, [true, false, true, false, true, true, true, true, true], [.ptr 4 64, .val 1 (.leaf false (.int .i64)), .val 2 (.leaf false (.int .i64)), .val 3 (.leaf false (.int .i64)), .val 12 (.leaf false (.int .i64)), .val 28 (.leaf false .bool), .slot 64 (.leaf true (.nm 7)) true none]⟩,
  ⟨107, [true, false, true, false, true, true, true, true, true, true, true], [.ptr 4 64, .val 1 (.leaf false (.int .i64)), .val 3 (.leaf false (.int .i64)), .val 12 (.leaf false (.int .i64)), .val 46 (.leaf false .bool), .slot 64 (.leaf true (.nm 7)) true none]⟩,
  ⟨107, [true, false, true, false, true, true, true, true, true, true, true, true, true], [.ptr 4 64, .val 1 (.leaf false (.int .i64)), .val 12 (.leaf false (.int .i64)), .val 65 (.leaf false .bool), .slot 64 (.leaf true (.nm 7)) true none]⟩,
  ⟨107, [true, false, true, false, true, true, true, true, true, true, true, true, true, true, true, true, true], [.ptr 4 64, .val 1 (.leaf false (.int .i64)), .val 12 (.leaf false (.int .i64)), .val 91 (.leaf false .bool), .slot 64 (.leaf true (.nm 7)) true none]⟩,
  ⟨108, [], [.val 0 (.leaf false (.int .i64))]⟩,
  ⟨109, [], [.val 0 (.leaf false .str)]⟩,
  ⟨109, [true, true, true, false, false], [.val 0 (.leaf false .str), .val 4 (.leaf false (.int .i64)), .val 5 (.leaf false (.int .i64))]⟩,
  ⟨110, [], [.val 0 (.leaf false .str)]⟩,
  ⟨111, [], [.val 0 (.leaf false (.int .i64)), .ptr 1 16, .slot 16 (.leaf false (.int .i64)) true none, .ptr 2 32, .slot 32 (.leaf false (.int .i64)) true none]⟩,
  ⟨112, [], [.val 0 (.leaf false .str)]⟩,
  ⟨113, [], [.val 0 (.leaf false (.sl .str)), .clo 1 144 [16], .slot 16 (.leaf false (.nm 6)) true none]⟩,
  ⟨113, [true, false, true, false], [.clo 1 144 [16], .val 0 (.leaf false (.sl .str)), .val 7 (.leaf false (.int .i64)), .val 8 (.leaf false (.int .i64)), .slot 16 (.leaf false (.nm 6)) true none]⟩,
  ⟨114, [], [.val 0 (.leaf false (.sl (.nm 7))), .clo 1 173 [16, 17, 18], .slot 16 (.leaf false (.sl (.nm 7))) true none, .slot 17 (.leaf false (.int .i64)) true none, .slot 18 (.leaf false (.int .i64)) true none]⟩,
  ⟨115, [], [.val 0 (.leaf false (.sl (.nm 9))), .clo 1 148 []]⟩,
  ⟨115, [true, false, true, false], [.clo 1 148 [], .val 0 (.leaf false (.sl (.nm 9))), .val 7 (.leaf false (.int .i64)), .val 8 (.leaf false (.int .i64))]⟩,
  ⟨116, [], [.val 0 (.leaf false (.int .i64))]⟩,
  ⟨117, [], [.val 0 (.leaf false .str)]⟩,
  ⟨118, [], [.val 0 (.leaf false .str), .val 1 (.leaf false .str)]⟩,
  ⟨119, [], [.val 0 (.leaf false (.int .i64))]⟩,
  ⟨120, [], [.val 0 (.leaf false (.nm 25)), .val 1 (.leaf false (.int .i64))]⟩,
  ⟨121, [], [.val 0 (.leaf false (.nm 17)), .val 1 (.leaf false (.nm 17))]⟩,
  ⟨122, [], [.val 0 (.leaf false (.nm 9)), .val 1 (.leaf false (.nm 9))]⟩,
  ⟨123, [], [.val 0 (.leaf false (.nm 10)), .val 1 (.leaf false (.nm 10))]⟩,
  ⟨124, [], [.val 0 (.leaf false (.nm 14)), .val 1 (.leaf false (.int .i64))]⟩,
  ⟨125, [], [.val 0 (.leaf false (.nm 14))]⟩,
  ⟨126, [], []⟩,
  ⟨127, [], [.val 0 (.leaf false .str)]⟩,
  ⟨128, [], [.val 0 (.leaf false .str)]⟩,
  ⟨128, [true, true, false, false], [.val 0 (.leaf false .str), .val 4 (.leaf false (.int .i64))]⟩,
  ⟨128, [true, true, true, true, true], [.val 0 (.leaf false .str), .val 4 (.leaf false (.int .i64)), .val 5 (.leaf false .bool)]⟩,
  ⟨128, [true, true, true, true, true, true, false, false], [.val 0 (.leaf false .str), .val 4 (.leaf false (.int .i64)), .val 5 (.leaf false .bool), .val 6 (.leaf false (.int .i64)), .val 7 (.leaf false (.int .i64))]⟩,
  ⟨128, [true, true, true, true, true, true, true, false, true, false, true, true, false], [.val 0 (.leaf false .str), .val 4 (.leaf false (.int .i64)), .val 5 (.leaf false .bool), .val 6 (.leaf false (.int .i64)), .val 7 (.leaf false (.int .i64)), .val 8 (.leaf false (.int .i64))]⟩,
  ⟨128, [true, true, true, true, true, true, true, true], [.val 4 (.leaf false (.int .i64)), .val 5 (.leaf false .bool), .val 6 (.leaf false (.int .i64)), .val 7 (.leaf false (.int .i64))]⟩,
  ⟨129, [], [.val 0 (.leaf false .str), .val 1 (.leaf false .str)]⟩,
  ⟨130, [], [.val 0 (.leaf false .str), .val 1 (.leaf false (.int .i64))]⟩,
  ⟨130, [true, true, false, false], [.val 0 (.leaf false .str), .val 1 (.leaf false (.int .i64)), .val 5 (.leaf false (.int .i64))]⟩,
  ⟨131, [], [.val 0 (.leaf false .str)]⟩,
  ⟨131, [true, false, true, false, true], [.val 0 (.leaf false .str), .val 4 (.leaf false .bool)]⟩,
  ⟨132, [], [.val 0 (.leaf false .str), .ptr 1 16, .slot 16 (.leaf false (.nm 6)) true none]⟩,
  ⟨133, [], [.val 0 (.leaf false (.sl (.nm 7))), .clo 1 173 [16, 17, 18], .slot 16 (.leaf false (.sl (.nm 7))) true none, .slot 17 (.leaf false (.int .i64)) true none, .slot 18 (.leaf false (.int .i64)) true none]⟩,
  ⟨133, [true, false, true, false], [.clo 1 173 [16, 17, 18], .val 0 (.leaf false (.sl (.nm 7))), .val 7 (.leaf false (.int .i64)), .val 8 (.leaf false (.int .i64)), .slot 16 (.leaf false (.sl (.nm 7))) true none, .slot 17 (.leaf true (.int .i64)) true none, .slot 18 (.leaf true (.int .i64)) true none]⟩,
  ⟨134, [], [.val 0 (.leaf false (.nm 9))]⟩,
  ⟨135, [], [.val 0 (.leaf false .str)]⟩,
  ⟨135, [true, true, true, true], [.val 0 (.leaf false .str), .val 4 (.leaf false (.int .i64)), .val 5 (.leaf false .bool)]⟩,
  ⟨135, [true, true, true, true, true, true, true, true, true], [.val 4 (.leaf false (.int .i64)), .val 5 (.leaf false .bool), .val 7 (.leaf false .str), .val 8 (.leaf false .str)]⟩,
  ⟨136, [], [.val 0 (.leaf false .str), .val 1 (.leaf false .str)]⟩,
  ⟨137, [], [.val 0 (.leaf false .str), .val 1 (.leaf false .str)]⟩,
  ⟨138, [], [.val 0 (.leaf false (.sl (.nm 17))), .val 1 (.leaf false (.int .i64))]⟩,
  ⟨139, [], [.val 0 (.leaf false (.nm 18)), .val 1 (.leaf false (.nm 18))]⟩,
  ⟨140, [], [.ptr 0 0, .slot 0 (.leaf false (.nm 29)) true none, .val 1 (.leaf false (.int .i64))]⟩,
  ⟨140, [true, true, false, false], [.ptr 0 0, .ptr 4 64, .val 1 (.leaf false (.int .i64)), .own 5 80 (.leaf true (.sl (.nm 28))), .slot 0 (.leaf true (.nm 29)) true none, .slot 64 (.leaf true (.nm 28)) true none]⟩,
  ⟨141, [], [.val 0 (.leaf false (.nm 28))]⟩,
  ⟨141, [true, true, false, true, false], [.ptr 1 16, .val 3 (.leaf false (.int .i64)), .val 4 (.leaf false (.int .i64)), .slot 16 (.leaf false (.nm 28)) true none]⟩,
  ⟨142, [], [.val 0 (.leaf false (.int .u8))]⟩,
  ⟨143, [], [.val 0 (.leaf false .str), .val 1 (.leaf false .str)]⟩,
  ⟨144, [], [.val 0 (.leaf false (.int .u8))]⟩,
  ⟨145, [], []⟩,
  ⟨146, [], [.val 0 (.leaf false (.sl .str)), .val 1 (.leaf false .str)]⟩,
  ⟨147, [], [.val 0 (.leaf false (.nm 7)), .ptr 1 16, .slot 16 (.leaf false (.sl (.nm 7))) true none, .ptr 2 32, .slot 32 (.leaf false (.int .i64)) true none, .ptr 3 48, .slot 48 (.leaf false (.int .i64)) true none]⟩,
  ⟨148, [], [.val 0 (.leaf false .str), .val 1 (.leaf false .str)]⟩,
  ⟨149, [], [.val 0 (.leaf false .str), .val 1 (.leaf false (.int .i64))]⟩,
  ⟨149, [true, true, false, false], [.val 0 (.leaf false .str), .val 1 (.leaf false (.int .i64)), .val 5 (.leaf false (.int .i64))]⟩,
  ⟨150, [], [.val 0 (.leaf false .str), .val 1 (.leaf false .str)]⟩,
  ⟨151, [], [.val 0 (.leaf false .str), .val 1 (.leaf false (.int .u8))]⟩,
  ⟨151, [true, false, false], [.val 0 (.leaf false .str), .val 1 (.leaf false (.int .u8))]⟩,
  ⟨152, [], [.val 0 (.leaf false .str), .val 1 (.leaf false (.int .u8))]⟩,
  ⟨152, [true, false, false], [.val 0 (.leaf false .str), .val 1 (.leaf false (.int .u8))]⟩,
  ⟨153, [], [.val 0 (.leaf false .str), .val 1 (.leaf false .str)]⟩,
  ⟨154, [], [.val 0 (.leaf false (.sl (.nm 17))), .clo 1 163 [16], .slot 16 (.leaf false (.int .i64)) true none]⟩,
  ⟨155, [], [.ptr 0 0, .slot 0 (.leaf false (.nm 29)) true none, .val 1 (.leaf false (.int .i64))]⟩,
  ⟨155, [true, true, false, false], [.ptr 0 0, .ptr 4 64, .val 1 (.leaf false (.int .i64)), .own 5 80 (.leaf true (.sl (.nm 28))), .slot 0 (.leaf true (.nm 29)) true none, .slot 64 (.leaf true (.nm 28)) true none]⟩,
  ⟨156, [], [.ptr 0 0, .slot 0 (.leaf false (.nm 29)) true none, .val 1 (.leaf false (.int .u8))]⟩,
  ⟨157, [], [.val 0 (.leaf false (.int .i64)), .val 1 (.leaf false (.int .i64))]⟩,
  ⟨158, [], [.val 0 (.leaf false .str), .val 1 (.leaf false .str)]⟩,
  ⟨159, [], [.val 0 (.leaf false (.sl .str)), .val 1 (.leaf false .str)]⟩,
  ⟨159, [true, false, true, false], [.val 0 (.leaf false (.sl .str)), .val 1 (.leaf false .str), .val 7 (.leaf false (.int .i64)), .val 8 (.leaf false (.int .i64))]⟩,
  ⟨160, [], [.val 0 (.leaf false (.nm 7)), .val 1 (.leaf false (.int .i64)), .val 2 (.leaf false (.int .i64)), .val 3 (.leaf false (.int .i64))]⟩,
  ⟨160, [true, true, true, false, true, false, true, true, true], [.ptr 4 64, .val 1 (.leaf false (.int .i64)), .val 2 (.leaf false (.int .i64)), .val 3 (.leaf false (.int .i64)), .val 56 (.leaf false (.int .i64)), .val 62 (.leaf false .bool), .slot 64 (.leaf true (.nm 7)) true none]⟩,
  ⟨160, [true, true, true, false, true, false, true, true, true, true, true], [.ptr 4 64, .val 1 (.leaf false (.int .i64)), .val 3 (.leaf false (.int .i64)), .val 56 (.leaf false (.int .i64)), .val 75 (.leaf false .bool), .slot 64 (.leaf true (.nm 7)) true none]⟩,
  ⟨160, [true, true, true, false, true, false, true, true, true, true, true, true, true], [.ptr 4 64, .val 1 (.leaf false (.int .i64)), .val 56 (.leaf false (.int .i64)), .val 89 (.leaf false .bool), .slot 64 (.leaf true (.nm 7)) true none]⟩,
  ⟨160, [true, true, true, false, true, false, true, true, true, true, true, true, true, true, true, true, true], [.ptr 4 64, .val 1 (.leaf false (.int .i64)), .val 56 (.leaf false (.int .i64)), .val 106 (.leaf false .bool), .slot 64 (.leaf true (.nm 7)) true none]⟩,
  ⟨161, [], [.val 0 (.leaf false .str)]⟩,
  ⟨162, [], [.val 0 (.leaf false (.int .i64))]⟩,
  ⟨163, [], [.val 0 (.leaf false (.sl (.nm 17))), .clo 1 163 [16], .slot 16 (.leaf false (.int .i64)) true none]⟩,
  ⟨163, [true, false, true, false], [.clo 1 163 [16], .val 0 (.leaf false (.sl (.nm 17))), .val 7 (.leaf false (.int .i64)), .val 8 (.leaf false (.int .i64)), .slot 16 (.leaf true (.int .i64)) true none]⟩,
  ⟨164, [], [.ptr 0 0, .slot 0 (.leaf false (.nm 29)) true none, .val 1 (.leaf false (.int .i64))]⟩,
  ⟨164, [true, true, false, false], [.ptr 0 0, .ptr 4 64, .ptr 5 80, .slot 0 (.leaf true (.nm 29)) true none, .slot 64 (.leaf true (.nm 28)) true none, .slot 80 (.leaf true (.nm 28)) true none]⟩,
  ⟨164, [true, true, false, false, false, true, false, true, true], [.ptr 0 0, .ptr 4 64, .ptr 5 80, .val 6 (.leaf false (.int .i64)), .slot 0 (.leaf true (.nm 29)) true none, .slot 64 (.leaf true (.nm 28)) true none, .slot 80 (.leaf true (.nm 28)) true none]⟩,
  ⟨165, [], [.val 0 (.leaf false .str), .val 1 (.leaf false (.int .u8))]⟩,
  ⟨166, [], [.val 0 (.leaf false (.int .i64))]⟩,
  ⟨166, [true, true, true, true, true], [.val 0 (.leaf false (.int .i64)), .val 4 (.leaf false (.sl .str)), .val 5 (.leaf false .str)]⟩,
  ⟨166, [true, true, true, true, false, true, false, true, true, true], [.val 0 (.leaf false (.int .i64)), .val 4 (.leaf false (.sl .str)), .val 5 (.leaf false .str), .val 13 (.leaf false (.int .i64)), .val 16 (.leaf false .bool)]⟩,
  ⟨166, [true, true, true, true, false, true, false, true, true, true, true, true, true, true], [.val 0 (.leaf false (.int .i64)), .val 4 (.leaf false (.sl .str)), .val 5 (.leaf false .str), .val 22 (.leaf false .bool)]⟩,
  ⟨167, [], [.val 0 (.leaf false .str)]⟩,
  ⟨168, [], [.val 0 (.leaf false .str)]⟩,
  ⟨168, [true, true, false, true, false, true, true], [.val 0 (.leaf false .str), .val 5 (.leaf false .str)]⟩,
  ⟨168, [true, true, false, true, false, true, true, true, false, true, false], [.val 5 (.leaf false .str), .val 6 (.leaf false (.int .i64)), .val 47 (.leaf false (.sl (.int .u8))), .val 48 (.leaf false (.int .i64)), .val 49 (.leaf false (.int .i64))]⟩,
  ⟨169, [], [.val 0 (.leaf false (.nm 17)), .ptr 1 16, .slot 16 (.leaf false (.int .i64)) true none]⟩,
  ⟨170, [], [.ptr 0 0, .slot 0 (.leaf false (.nm 29)) true none, .val 1 (.leaf false (.int .i64))]⟩,
  ⟨170, [true, true, true, true, true], [.ptr 4 64, .val 5 (.leaf false (.int .u8)), .slot 0 (.leaf true (.nm 29)) true none, .slot 64 (.leaf true (.nm 28)) true none]⟩,
  ⟨171, [], [.val 0 (.leaf false .str), .val 1 (.leaf false (.int .u8))]⟩,
  ⟨172, [], [.val 0 (.leaf false .str)]⟩,
  ⟨173, [], [.val 0 (.leaf false .str), .val 1 (.leaf false (.int .i64)), .val 2 (.leaf false (.int .i64))]⟩,
  ⟨173, [true, true, true, true], [.val 0 (.leaf false .str), .val 1 (.leaf false (.int .i64)), .val 2 (.leaf false (.int .i64)), .val 8 (.leaf false .bool)]⟩,
  ⟨173, [true, true, true, true, true, true, true, true], [.val 2 (.leaf false (.int .i64)), .val 8 (.leaf false .bool), .val 9 (.leaf false (.int .u64))]⟩,
  ⟨174, [], [.ptr 0 0, .slot 0 (.leaf false (.nm 29)) true none]⟩,
  ⟨174, [true, true, true], [.ptr 0 0, .ptr 2 32, .ptr 3 48, .slot 0 (.leaf true (.nm 29)) true none, .slot 32 (.leaf true (.nm 28)) true none, .slot 48 (.leaf true (.nm 28)) true none]⟩,
  ⟨174, [true, true, true, true, true, false, false], [.ptr 0 0, .ptr 2 32, .ptr 3 48, .own 4 64 (.leaf true (.sl .bool)), .val 5 (.leaf false (.int .i64)), .slot 0 (.leaf true (.nm 29)) true none, .slot 32 (.leaf true (.nm 28)) true none, .slot 48 (.leaf true (.nm 28)) true none]⟩,
  ⟨174, [true, true, true, true, true, false, false, false, true, false, true, true, true, true], [.ptr 0 0, .ptr 2 32, .ptr 3 48, .own 4 64 (.leaf true (.sl .bool)), .val 5 (.leaf false (.int .i64)), .val 6 (.leaf false (.int .i64)), .val 7 (.leaf false (.int .i64)), .slot 0 (.leaf true (.nm 29)) true none, .slot 32 (.leaf true (.nm 28)) true none, .slot 48 (.leaf true (.nm 28)) true none]⟩,
  ⟨174, [true, true, true, true, true, true, true], [.ptr 0 0, .ptr 2 32, .ptr 3 48, .val 4 (.leaf false (.sl .bool)), .slot 0 (.leaf true (.nm 29)) true none, .slot 32 (.leaf true (.nm 28)) true none, .slot 48 (.leaf true (.nm 28)) true none]⟩,
  ⟨174, [true, true, true, true, true, false, false, false, true, false, true, true, true, true, true], [.ptr 0 0, .ptr 2 32, .ptr 3 48, .own 4 64 (.leaf true (.sl .bool)), .val 5 (.leaf false (.int .i64)), .val 6 (.leaf false (.int .i64)), .val 7 (.leaf false (.int .i64)), .slot 0 (.leaf true (.nm 29)) true none, .slot 32 (.leaf true (.nm 28)) true none, .slot 48 (.leaf true (.nm 28)) true none]⟩,
  ⟨174, [true, true, true, true, true, true, true, true, true, false, true, false], [.ptr 2 32, .ptr 3 48, .val 4 (.leaf false (.sl .bool)), .own 9 144 (.leaf true (.sl (.int .u8))), .val 10 (.leaf false (.int .i64)), .slot 0 (.leaf true (.nm 29)) true none, .slot 32 (.leaf true (.nm 28)) true none, .slot 48 (.leaf true (.nm 28)) true none]⟩,
  ⟨174, [true, true, true, true, true, false, false, false, true, false, true, true, true, true, true, false, true, false], [.ptr 0 0, .ptr 2 32, .ptr 3 48, .own 4 64 (.leaf true (.sl .bool)), .val 5 (.leaf false (.int .i64)), .val 7 (.leaf false (.int .i64)), .val 8 (.leaf false (.int .i64)), .slot 0 (.leaf true (.nm 29)) true none, .slot 32 (.leaf true (.nm 28)) true none, .slot 48 (.leaf true (.nm 28)) true none]⟩,
  ⟨175, [], [.ptr 0 0, .slot 0 (.leaf false (.nm 30)) true none]⟩,
  ⟨175, [true, true, false, false], [.ptr 0 0, .ptr 2 32, .own 3 48 (.leaf true (.sl (.nm 28))), .slot 0 (.leaf true (.nm 30)) true none, .slot 32 (.leaf true (.nm 28)) true none]⟩,
  ⟨176, [], [.val 0 (.leaf false (.nm 28))]⟩,
  ⟨176, [true, true, false, true, false], [.val 3 (.leaf false (.int .i64)), .val 7 (.leaf false (.sl (.nm 28))), .val 8 (.leaf false (.int .i64)), .val 9 (.leaf false (.int .i64))]⟩,
  ⟨177, [], [.val 0 (.leaf false .str), .val 1 (.leaf false (.int .i64)), .val 2 (.leaf false (.int .i64))]⟩,
  ⟨177, [true, true, true, true, true], [.val 0 (.leaf false .str), .val 1 (.leaf false (.int .i64)), .val 2 (.leaf false (.int .i64)), .val 8 (.leaf false .bool), .val 9 (.leaf false .str)]⟩,
  ⟨177, [true, true, true, true, true, true], [.val 0 (.leaf false .str), .val 1 (.leaf false (.int .i64)), .val 2 (.leaf false (.int .i64)), .val 8 (.leaf false .bool), .val 9 (.leaf false .str)]⟩,
  ⟨177, [true, true, true, true, true, true, true, true], [.val 0 (.leaf false .str), .val 1 (.leaf false (.int .i64)), .val 2 (.leaf false (.int .i64)), .val 8 (.leaf false .bool), .val 9 (.leaf false .str), .val 10 (.leaf false (.int .u64))]⟩,
  ⟨177, [true, true, true, true, true, true, true, true, true, true, true, false, true, false], [.val 1 (.leaf false (.int .i64)), .val 8 (.leaf false .bool), .val 9 (.leaf false .str), .val 10 (.leaf false (.int .u64)), .val 11 (.leaf false (.int .u64)), .val 12 (.leaf false .bool), .val 13 (.leaf false (.int .u64)), .val 99 (.leaf false (.sl (.int .u8))), .val 100 (.leaf false (.int .i64)), .val 101 (.leaf false (.int .i64))]⟩,
  ⟨177, [true, true, true, true, true, true, true, true, true, true, true, false, true, false, false, true, true, false, false, true, true, true], [.val 1 (.leaf false (.int .i64)), .val 8 (.leaf false .bool), .val 9 (.leaf false .str), .val 10 (.leaf false (.int .u64)), .val 11 (.leaf false (.int .u64)), .val 12 (.leaf false .bool), .val 13 (.leaf false (.int .u64)), .val 16 (.leaf false (.int .u8)), .val 99 (.leaf false (.sl (.int .u8))), .val 100 (.leaf false (.int .i64)), .val 101 (.leaf false (.int .i64))]⟩,
  ⟨178, [], [.ptr 0 0, .slot 0 (.leaf false (.nm 30)) true none]⟩,
  ⟨178, [true, true, false, false], [.ptr 0 0, .ptr 2 32, .own 3 48 (.leaf true (.sl (.nm 28))), .slot 0 (.leaf true (.nm 30)) true none, .slot 32 (.leaf true (.nm 28)) true none]⟩,
  ⟨179, [], [.ptr 0 0, .slot 0 (.leaf false (.nm 30)) true none, .val 1 (.leaf false (.int .u8))]⟩,
  ⟨180, [], [.val 0 (.leaf false (.int .u8))]⟩,
  ⟨181, [], [.val 0 (.leaf false .str)]⟩,
  ⟨181, [true, true, true, true], [.val 0 (.leaf false .str), .val 3 (.leaf false (.int .i32)), .val 4 (.leaf false (.int .i64))]⟩,
  ⟨181, [true, true, true, true, true, true], [.val 0 (.leaf false .str), .val 3 (.leaf false (.int .i32)), .val 4 (.leaf false (.int .i64)), .val 5 (.leaf false .bool)]⟩,
  ⟨181, [true, true, true, true, true, true, false, false], [.val 0 (.leaf false .str), .val 3 (.leaf false (.int .i32)), .val 4 (.leaf false (.int .i64)), .val 5 (.leaf false .bool)]⟩,
  ⟨182, [], [.ptr 0 0, .slot 0 (.leaf false (.nm 30)) true none]⟩,
  ⟨183, [], [.ptr 0 0, .slot 0 (.leaf false (.nm 30)) true none]⟩,
  ⟨183, [true, true, false], [.ptr 0 0, .ptr 2 32, .ptr 3 48, .slot 0 (.leaf true (.nm 30)) true none, .slot 32 (.leaf true (.nm 28)) true none, .slot 48 (.leaf true (.nm 28)) true none]⟩,
  ⟨184, [], [.ptr 0 0, .slot 0 (.leaf false (.nm 30)) true none]⟩,
  ⟨184, [true, true, true, false, true, false, true, true, true, true, true, true, true, true, true, true, true, true, true], [.ptr 0 0, .ptr 2 32, .val 3 (.leaf false (.int .u8)), .val 70 (.leaf false .bool), .slot 0 (.leaf true (.nm 30)) true none, .slot 32 (.leaf true (.nm 28)) true none]⟩,
  ⟨185, [], [.val 0 (.leaf false (.int .u8))]⟩,
  ⟨186, [], [.ptr 0 0, .slot 0 (.leaf false (.nm 30)) true none]⟩,
  ⟨186, [true, true, true, true, true, true, true, false, true, false], [.ptr 0 0, .ptr 2 32, .ptr 3 48, .val 5 (.leaf false .str), .own 6 96 (.leaf true (.sl .bool)), .val 7 (.leaf false (.int .i64)), .slot 0 (.leaf true (.nm 30)) true none, .slot 32 (.leaf true (.nm 28)) true none, .slot 48 (.leaf true (.nm 28)) true none]⟩,
  ⟨186, [true, true, true, true, true, true, true, false, true, false, false, true, false, false, true, true], [.ptr 0 0, .ptr 2 32, .ptr 3 48, .val 5 (.leaf false .str), .own 6 96 (.leaf true (.sl .bool)), .val 7 (.leaf false (.int .i64)), .val 8 (.leaf false (.int .i64)), .val 9 (.leaf false (.int .i64)), .slot 0 (.leaf true (.nm 30)) true none, .slot 32 (.leaf true (.nm 28)) true none, .slot 48 (.leaf true (.nm 28)) true none]⟩,
  ⟨186, [true, true, true, true, true, true, true, true, true, false, true, false], [.ptr 2 32, .ptr 3 48, .own 11 176 (.leaf true (.sl (.int .u8))), .val 100 (.leaf false (.sl .bool)), .val 101 (.leaf false (.int .i64)), .val 102 (.leaf false (.int .i64)), .slot 0 (.leaf true (.nm 30)) true none, .slot 32 (.leaf true (.nm 28)) true none, .slot 48 (.leaf true (.nm 28)) true none]⟩,
  ⟨186, [true, true, true, true, true, true, true, false, true, false, false, true, false, false, true, true, true, false], [.ptr 0 0, .ptr 2 32, .ptr 3 48, .val 5 (.leaf false .str), .own 6 96 (.leaf true (.sl .bool)), .val 7 (.leaf false (.int .i64)), .val 9 (.leaf false (.int .i64)), .val 10 (.leaf false (.int .i64)), .slot 0 (.leaf true (.nm 30)) true none, .slot 32 (.leaf true (.nm 28)) true none, .slot 48 (.leaf true (.nm 28)) true none]⟩,
  ⟨187, [], [.val 0 (.leaf false .str), .val 1 (.leaf false (.int .u8))]⟩]
noncomputable def entL : List EntI := [
  ⟨6, bodyOf Tryz.f6, Tryz.f6.results.toList, [.val (.leaf false (.nm 0)), .val (.leaf false (.nm 21)), .val (.leaf false (.int .i64))], [.leaf false .bool], [], [(23, 1), (25, 1), (29, 1), (31, 1), (41, 1), (46, 1)], 49, [], false⟩,
  ⟨7, bodyOf Tryz.f7, Tryz.f7.results.toList, [.val (.leaf false (.nm 0)), .val (.leaf false (.int .i64))], [.leaf false (.int .i64)], [], [], 30, [], false⟩,
  ⟨29, bodyOf Tryz.f29, Tryz.f29.results.toList, [.val (.leaf false (.nm 21)), .val (.leaf false (.int .i64))], [.leaf false (.int .i64)], [], [], 48, [], false⟩,
  ⟨10, bodyOf Tryz.f10, Tryz.f10.results.toList, [.val (.leaf false (.nm 0))], [.leaf false (.nm 6)], [], [(6, 1), (10, 1), (14, 1), (18, 1)], 21, [], false⟩,
  ⟨31, bodyOf Tryz.f31, Tryz.f31.results.toList, [.val (.leaf false (.nm 21))], [.leaf false (.nm 24)], [], [(9, 1), (16, 1), (20, 1), (24, 1), (31, 1), (35, 1), (39, 1)], 42, [], false⟩,
  ⟨30, bodyOf Tryz.f30, Tryz.f30.results.toList, [.val (.leaf false (.nm 6)), .val (.leaf false (.nm 24)), .val (.leaf false (.int .i64))], [.leaf false .bool], [], [], 145, [(122, 6), (250, 7)], false⟩,
  ⟨32, bodyOf Tryz.f32, Tryz.f32.results.toList, [.val (.leaf false (.nm 6)), .val (.leaf false (.nm 24)), .val (.leaf false (.int .i64))], [.leaf false .bool], [], [], 104, [], false⟩,
  ⟨14, bodyOf Tryz.f14, Tryz.f14.results.toList, [.val (.leaf false (.nm 6)), .val (.leaf false (.nm 6))], [.leaf false .bool], [], [], 29, [], false⟩,
  ⟨33, bodyOf Tryz.f33, Tryz.f33.results.toList, [.val (.leaf false (.nm 24)), .val (.leaf false (.nm 24))], [.leaf false .bool], [], [], 62, [], false⟩,
  ⟨34, bodyOf Tryz.f34, Tryz.f34.results.toList, [.val (.leaf false (.sl .str)), .val (.leaf false (.int .i64))], [.leaf false (.int .i64)], [], [], 28, [(122, 12)], false⟩,
  ⟨35, bodyOf Tryz.f35, Tryz.f35.results.toList, [.val (.leaf false (.sl (.nm 1))), .val (.leaf false (.int .i64))], [.leaf false (.int .i64)], [], [], 27, [(122, 14)], false⟩,
  ⟨24, bodyOf Tryz.f24, Tryz.f24.results.toList, [.val (.leaf false (.nm 15)), .val (.leaf false (.int .i64))], [.leaf false (.int .i64)], [], [], 18, [], false⟩,
  ⟨72, bodyOf Tryz.f72, Tryz.f72.results.toList, [.val (.leaf false (.sl .bool)), .val (.leaf false (.int .i64))], [.leaf false (.int .i64)], [], [], 12, [], false⟩,
  ⟨37, bodyOf Tryz.f37, Tryz.f37.results.toList, [.val (.leaf false (.sl (.int .i64))), .val (.leaf false (.int .i64))], [.leaf false (.int .i64)], [], [], 12, [], false⟩,
  ⟨8, bodyOf Tryz.f8, Tryz.f8.results.toList, [.val (.leaf false (.nm 5)), .val (.leaf false (.int .i64))], [.leaf false (.int .i64)], [], [], 25, [], false⟩,
  ⟨73, bodyOf Tryz.f73, Tryz.f73.results.toList, [.val (.leaf false (.nm 20)), .val (.leaf false (.int .i64))], [.leaf false (.int .i64)], [], [], 12, [], false⟩,
  ⟨74, bodyOf Tryz.f74, Tryz.f74.results.toList, [.val (.leaf false (.sl (.nm 22))), .val (.leaf false (.int .i64))], [.leaf false (.int .i64)], [], [], 27, [(122, 21)], false⟩,
  ⟨40, bodyOf Tryz.f40, Tryz.f40.results.toList, [.val (.leaf false (.sl .str))], [.leaf false (.sl .str)], [], [], 22, [(58, 23)], false⟩,
  ⟨41, bodyOf Tryz.f41, Tryz.f41.results.toList, [.val (.leaf false (.sl (.nm 1)))], [.leaf false (.sl (.nm 7))], [], [], 23, [(58, 25)], false⟩,
  ⟨26, bodyOf Tryz.f26, Tryz.f26.results.toList, [.val (.leaf false (.nm 15))], [.leaf false (.nm 19)], [], [(12, 1), (16, 1)], 19, [], false⟩,
  ⟨77, bodyOf Tryz.f77, Tryz.f77.results.toList, [.val (.leaf false (.sl .bool))], [.leaf false (.sl .bool)], [], [], 22, [(58, 28)], false⟩,
  ⟨43, bodyOf Tryz.f43, Tryz.f43.results.toList, [.val (.leaf false (.sl (.int .i64)))], [.leaf false (.sl (.int .i64))], [], [], 22, [(58, 30)], false⟩,
  ⟨11, bodyOf Tryz.f11, Tryz.f11.results.toList, [.val (.leaf false (.nm 5))], [.leaf false (.nm 11)], [], [(6, 1), (10, 1)], 16, [], false⟩,
  ⟨78, bodyOf Tryz.f78, Tryz.f78.results.toList, [.val (.leaf false (.nm 20))], [.leaf false (.nm 23)], [], [(6, 1)], 12, [], false⟩,
  ⟨79, bodyOf Tryz.f79, Tryz.f79.results.toList, [.val (.leaf false (.sl (.nm 22)))], [.leaf false (.sl (.nm 25))], [], [], 23, [(58, 34)], false⟩,
  ⟨64, bodyOf Tryz.f64, Tryz.f64.results.toList, [.val (.leaf false (.int .i64)), .val (.leaf false (.int .i64)), .val (.leaf false (.int .i64))], [.leaf false .bool], [], [], 15, [], false⟩,
  ⟨25, bodyOf Tryz.f25, Tryz.f25.results.toList, [.val (.leaf false (.nm 6)), .val (.leaf false (.nm 19))], [.leaf false .bool], [], [], 38, [], false⟩,
  ⟨63, bodyOf Tryz.f63, Tryz.f63.results.toList, [.val (.leaf false (.nm 16))], [.leaf false (.int .i64), .leaf false (.int .i64)], [], [], 25, [], false⟩,
  ⟨75, bodyOf Tryz.f75, Tryz.f75.results.toList, [.val (.leaf false (.nm 25)), .val (.leaf false (.int .i64))], [.leaf false .bool], [], [], 68, [], false⟩,
  ⟨38, bodyOf Tryz.f38, Tryz.f38.results.toList, [.val (.leaf false (.nm 6)), .val (.leaf false (.nm 11))], [.leaf false .bool], [], [], 45, [(26, 40)], false⟩,
  ⟨76, bodyOf Tryz.f76, Tryz.f76.results.toList, [.val (.leaf false (.nm 23))], [.leaf false .bool], [], [], 15, [], false⟩,
  ⟨80, bodyOf Tryz.f80, Tryz.f80.results.toList, [.val (.leaf false (.int .i64)), .val (.leaf false (.int .i64)), .val (.leaf false (.int .i64))], [.leaf false .bool], [], [], 15, [], false⟩,
  ⟨27, bodyOf Tryz.f27, Tryz.f27.results.toList, [.val (.leaf false (.nm 6)), .val (.leaf false (.nm 19))], [.leaf false .bool], [], [], 38, [], false⟩,
  ⟨67, bodyOf Tryz.f67, Tryz.f67.results.toList, [.val (.leaf false (.nm 16))], [.leaf false (.int .i64), .leaf false (.int .i64)], [], [], 27, [], false⟩,
  ⟨81, bodyOf Tryz.f81, Tryz.f81.results.toList, [.val (.leaf false (.sl (.int .i64))), .val (.leaf false (.int .i64)), .val (.leaf false (.int .i64)), .val (.leaf false (.int .i64))], [.leaf false .bool], [], [], 19, [], false⟩,
  ⟨44, bodyOf Tryz.f44, Tryz.f44.results.toList, [.val (.leaf false (.nm 6)), .val (.leaf false (.nm 11))], [.leaf false .bool], [], [], 36, [], false⟩,
  ⟨82, bodyOf Tryz.f82, Tryz.f82.results.toList, [.val (.leaf false (.nm 23))], [.leaf false .bool], [], [], 15, [], false⟩,
  ⟨83, bodyOf Tryz.f83, Tryz.f83.results.toList, [.val (.leaf false (.sl (.nm 25))), .clo 84 [.leaf false (.int .i64), .leaf false (.nm 24)]], [.leaf false .bool], [(16, .box), (17, .box)], [], 9, [], false⟩,
  ⟨48, bodyOf Tryz.f48, Tryz.f48.results.toList, [.val (.leaf false (.sl .str)), .val (.leaf false (.sl .str))], [.leaf false .bool], [], [], 26, [(58, 50)], false⟩,
  ⟨49, bodyOf Tryz.f49, Tryz.f49.results.toList, [.val (.leaf false (.sl (.nm 7))), .val (.leaf false (.sl (.nm 7)))], [.leaf false .bool], [], [], 27, [(58, 52)], false⟩,
  ⟨28, bodyOf Tryz.f28, Tryz.f28.results.toList, [.val (.leaf false (.nm 19)), .val (.leaf false (.nm 19))], [.leaf false .bool], [], [], 27, [], false⟩,
  ⟨86, bodyOf Tryz.f86, Tryz.f86.results.toList, [.val (.leaf false (.sl .bool)), .val (.leaf false (.sl .bool))], [.leaf false .bool], [], [], 26, [(58, 55)], false⟩,
  ⟨51, bodyOf Tryz.f51, Tryz.f51.results.toList, [.val (.leaf false (.sl (.int .i64))), .val (.leaf false (.sl (.int .i64)))], [.leaf false .bool], [], [], 26, [(58, 57)], false⟩,
  ⟨15, bodyOf Tryz.f15, Tryz.f15.results.toList, [.val (.leaf false (.nm 11)), .val (.leaf false (.nm 11))], [.leaf false .bool], [], [], 22, [], false⟩,
  ⟨87, bodyOf Tryz.f87, Tryz.f87.results.toList, [.val (.leaf false (.nm 23)), .val (.leaf false (.nm 23))], [.leaf false .bool], [], [], 16, [], false⟩,
  ⟨88, bodyOf Tryz.f88, Tryz.f88.results.toList, [.val (.leaf false (.sl (.nm 25))), .val (.leaf false (.sl (.nm 25)))], [.leaf false .bool], [], [], 27, [(58, 61)], false⟩,
  ⟨89, bodyOf Tryz.f89, Tryz.f89.results.toList, [.val (.leaf false (.nm 1)), .val (.leaf false (.int .i64))], [.leaf false (.int .i64)], [], [], 13, [], false⟩,
  ⟨62, bodyOf Tryz.f62, Tryz.f62.results.toList, [.val (.leaf false (.nm 12)), .val (.leaf false (.int .i64))], [.leaf false (.int .i64)], [], [], 12, [], false⟩,
  ⟨36, bodyOf Tryz.f36, Tryz.f36.results.toList, [.val (.leaf false (.nm 2)), .val (.leaf false (.int .i64))], [.leaf false (.int .i64)], [], [], 18, [], false⟩,
  ⟨124, bodyOf Tryz.f124, Tryz.f124.results.toList, [.val (.leaf false (.sl (.int .u8))), .val (.leaf false (.int .i64))], [.leaf false (.int .i64)], [], [], 12, [], false⟩,
  ⟨125, bodyOf Tryz.f125, Tryz.f125.results.toList, [.val (.leaf false (.nm 22)), .val (.leaf false (.int .i64))], [.leaf false (.int .i64)], [], [], 19, [], false⟩,
  ⟨97, bodyOf Tryz.f97, Tryz.f97.results.toList, [.val (.leaf false (.nm 1))], [.leaf false (.nm 7)], [], [], 14, [], false⟩,
  ⟨66, bodyOf Tryz.f66, Tryz.f66.results.toList, [.val (.leaf false (.nm 12))], [.leaf false (.nm 16)], [], [(12, 1)], 15, [], false⟩,
  ⟨42, bodyOf Tryz.f42, Tryz.f42.results.toList, [.val (.leaf false (.nm 2))], [.leaf false (.nm 8)], [], [(6, 1), (10, 1)], 19, [], false⟩,
  ⟨21, bodyOf Tryz.f21, Tryz.f21.results.toList, [.val (.leaf false (.sl (.int .u8)))], [.leaf false (.sl (.int .u8))], [], [], 22, [(58, 71)], false⟩,
  ⟨127, bodyOf Tryz.f127, Tryz.f127.results.toList, [.val (.leaf false (.nm 22))], [.leaf true (.nm 25)], [], [], 36, [], false⟩,
  ⟨65, bodyOf Tryz.f65, Tryz.f65.results.toList, [.val (.leaf false (.nm 16))], [.leaf false .bool], [], [], 58, [(122, 74)], false⟩,
  ⟨126, bodyOf Tryz.f126, Tryz.f126.results.toList, [.val (.leaf false (.sl (.nm 17))), .val (.leaf false (.int .i64))], [.leaf false .bool], [], [], 32, [(26, 76)], false⟩,
  ⟨92, bodyOf Tryz.f92, Tryz.f92.results.toList, [.val (.leaf false (.nm 6))], [.leaf false .bool], [], [], 107, [(26, 78), (58, 79)], false⟩,
  ⟨93, bodyOf Tryz.f93, Tryz.f93.results.toList, [.val (.leaf false (.nm 8)), .val (.leaf false (.int .i64)), .val (.leaf false (.int .i64))], [.leaf false .bool], [], [], 96, [(26, 81), (58, 82)], false⟩,
  ⟨68, bodyOf Tryz.f68, Tryz.f68.results.toList, [.val (.leaf false (.int .i64))], [.leaf false .bool], [], [], 5, [], false⟩,
  ⟨69, bodyOf Tryz.f69, Tryz.f69.results.toList, [.val (.leaf false (.int .i64))], [.leaf false .bool], [], [], 5, [], false⟩,
  ⟨70, bodyOf Tryz.f70, Tryz.f70.results.toList, [.val (.leaf false (.nm 16))], [.leaf false .bool], [], [], 48, [(122, 86)], false⟩,
  ⟨102, bodyOf Tryz.f102, Tryz.f102.results.toList, [.val (.leaf false (.sl (.int .i64))), .clo 128 [.leaf false (.int .i64), .leaf false (.int .i64)]], [.leaf false .bool], [(16, .box), (17, .box)], [], 9, [], false⟩,
  ⟨100, bodyOf Tryz.f100, Tryz.f100.results.toList, [.val (.leaf false (.nm 6))], [.leaf false .bool], [], [], 39, [], false⟩,
  ⟨101, bodyOf Tryz.f101, Tryz.f101.results.toList, [.val (.leaf false (.nm 8)), .val (.leaf false (.int .i64)), .val (.leaf false (.int .i64))], [.leaf false .bool], [], [], 82, [(58, 90)], false⟩,
  ⟨102, bodyOf Tryz.f102, Tryz.f102.results.toList, [.val (.leaf false (.sl (.int .i64))), .clo 103 []], [.leaf false .bool], [], [], 9, [], false⟩,
  ⟨129, bodyOf Tryz.f129, Tryz.f129.results.toList, [.val (.leaf false (.sl (.nm 25))), .clo 84 [.leaf false (.int .i64), .leaf false (.nm 24)]], [.leaf false (.int .i64)], [(16, .box), (17, .box)], [], 19, [(26, 93)], false⟩,
  ⟨105, bodyOf Tryz.f105, Tryz.f105.results.toList, [.val (.leaf false (.nm 7)), .val (.leaf false (.nm 7))], [.leaf false .bool], [], [], 20, [], false⟩,
  ⟨71, bodyOf Tryz.f71, Tryz.f71.results.toList, [.val (.leaf false (.nm 16)), .val (.leaf false (.nm 16))], [.leaf false .bool], [], [], 21, [], false⟩,
  ⟨50, bodyOf Tryz.f50, Tryz.f50.results.toList, [.val (.leaf false (.nm 8)), .val (.leaf false (.nm 8))], [.leaf false .bool], [], [], 27, [], false⟩,
  ⟨13, bodyOf Tryz.f13, Tryz.f13.results.toList, [.val (.leaf false (.sl (.int .u8))), .val (.leaf false (.sl (.int .u8)))], [.leaf false .bool], [], [], 26, [(58, 98)], false⟩,
  ⟨131, bodyOf Tryz.f131, Tryz.f131.results.toList, [.val (.leaf false (.nm 25)), .val (.leaf false (.nm 25))], [.leaf false .bool], [], [], 56, [], false⟩,
  ⟨119, bodyOf Tryz.f119, Tryz.f119.results.toList, [.val (.leaf false (.sl (.nm 13))), .val (.leaf false (.int .i64))], [.leaf false (.int .i64)], [], [], 27, [(122, 101)], false⟩,
  ⟨90, bodyOf Tryz.f90, Tryz.f90.results.toList, [.val (.leaf false (.sl (.nm 3))), .val (.leaf false (.int .i64))], [.leaf false (.int .i64)], [], [], 27, [(122, 103)], false⟩,
  ⟨91, bodyOf Tryz.f91, Tryz.f91.results.toList, [.val (.leaf false (.sl (.nm 4))), .val (.leaf false (.int .i64))], [.leaf false (.int .i64)], [], [], 27, [(122, 105)], false⟩,
  ⟨121, bodyOf Tryz.f121, Tryz.f121.results.toList, [.val (.leaf false (.sl (.nm 13)))], [.leaf true (.sl (.nm 17))], [], [], 23, [(58, 107)], false⟩,
  ⟨98, bodyOf Tryz.f98, Tryz.f98.results.toList, [.val (.leaf false (.sl (.nm 3)))], [.leaf false (.sl (.nm 9))], [], [], 23, [(58, 109)], false⟩,
  ⟨99, bodyOf Tryz.f99, Tryz.f99.results.toList, [.val (.leaf false (.sl (.nm 4)))], [.leaf false (.sl (.nm 10))], [], [], 23, [(58, 111)], false⟩,
  ⟨120, bodyOf Tryz.f120, Tryz.f120.results.toList, [.val (.leaf false (.nm 18))], [.leaf false .bool], [], [], 33, [], false⟩,
  ⟨134, bodyOf Tryz.f134, Tryz.f134.results.toList, [.val (.leaf false .str)], [.leaf false .bool], [], [], 23, [(26, 114)], false⟩,
  ⟨135, bodyOf Tryz.f135, Tryz.f135.results.toList, [.val (.leaf false (.sl .str)), .val (.leaf false .str)], [.leaf false .bool], [], [], 18, [(26, 116)], false⟩,
  ⟨136, bodyOf Tryz.f136, Tryz.f136.results.toList, [.val (.leaf false (.sl (.nm 7))), .val (.leaf false (.int .i64)), .val (.leaf false (.int .i64))], [.leaf false .bool], [], [], 37, [(122, 118)], false⟩,
  ⟨137, bodyOf Tryz.f137, Tryz.f137.results.toList, [.val (.leaf false (.nm 9))], [.leaf false .bool], [], [], 56, [], false⟩,
  ⟨138, bodyOf Tryz.f138, Tryz.f138.results.toList, [.val (.leaf false (.nm 10)), .val (.leaf false (.int .i64)), .val (.leaf false .str)], [.leaf false .bool], [], [], 23, [], false⟩,
  ⟨122, bodyOf Tryz.f122, Tryz.f122.results.toList, [.val (.leaf false (.nm 18))], [.leaf false .bool], [], [], 27, [], false⟩,
  ⟨151, bodyOf Tryz.f151, Tryz.f151.results.toList, [.val (.leaf false (.sl (.int .i64))), .clo 128 [.leaf false (.int .i64), .leaf false (.int .i64)]], [.leaf false (.int .i64)], [(16, .box), (17, .box)], [], 19, [(26, 123)], false⟩,
  ⟨142, bodyOf Tryz.f142, Tryz.f142.results.toList, [.val (.leaf false (.sl .str))], [.leaf false .bool], [], [], 32, [(26, 125)], false⟩,
  ⟨143, bodyOf Tryz.f143, Tryz.f143.results.toList, [.val (.leaf false (.sl .str)), .clo 144 [.leaf false (.nm 6)]], [.leaf false .bool], [(16, .box)], [], 9, [], false⟩,
  ⟨146, bodyOf Tryz.f146, Tryz.f146.results.toList, [.val (.leaf false (.sl (.nm 7))), .val (.leaf false (.int .i64)), .val (.leaf false (.int .i64))], [.leaf false .bool], [], [], 25, [], false⟩,
  ⟨147, bodyOf Tryz.f147, Tryz.f147.results.toList, [.val (.leaf false (.sl (.nm 9))), .clo 148 []], [.leaf false .bool], [], [], 9, [], false⟩,
  ⟨149, bodyOf Tryz.f149, Tryz.f149.results.toList, [.val (.leaf false (.nm 9))], [.leaf false .bool], [], [], 52, [], false⟩,
  ⟨150, bodyOf Tryz.f150, Tryz.f150.results.toList, [.val (.leaf false (.nm 10)), .val (.leaf false (.nm 10))], [.leaf false (.int .i64)], [], [], 22, [], false⟩,
  ⟨151, bodyOf Tryz.f151, Tryz.f151.results.toList, [.val (.leaf false (.sl (.int .i64))), .clo 103 []], [.leaf false (.int .i64)], [], [], 19, [(26, 132)], false⟩,
  ⟨84, bodyOf Tryz.f84, Tryz.f84.results.toList, [.val (.leaf false (.nm 25)), .ptr (.leaf false (.int .i64)) (.leaf false (.int .i64)), .ptr (.leaf false (.nm 24)) (.leaf false (.nm 24))], [.leaf false .bool], [(16, .box), (32, .box)], [], 16, [], false⟩,
  ⟨123, bodyOf Tryz.f123, Tryz.f123.results.toList, [.val (.leaf false (.sl (.nm 17))), .val (.leaf false (.sl (.nm 17)))], [.leaf false .bool], [], [], 27, [(58, 135)], false⟩,
  ⟨106, bodyOf Tryz.f106, Tryz.f106.results.toList, [.val (.leaf false (.sl (.nm 9))), .val (.leaf false (.sl (.nm 9)))], [.leaf false .bool], [], [], 27, [(58, 137)], false⟩,
  ⟨107, bodyOf Tryz.f107, Tryz.f107.results.toList, [.val (.leaf false (.sl (.nm 10))), .val (.leaf false (.sl (.nm 10)))], [.leaf false .bool], [], [], 27, [(58, 139)], false⟩,
  ⟨157, bodyOf Tryz.f157, Tryz.f157.results.toList, [.val (.leaf false (.nm 13)), .val (.leaf false (.int .i64))], [.leaf false (.int .i64)], [], [], 12, [], false⟩,
  ⟨132, bodyOf Tryz.f132, Tryz.f132.results.toList, [.val (.leaf false (.nm 3)), .val (.leaf false (.int .i64))], [.leaf false (.int .i64)], [], [], 13, [], false⟩,
  ⟨133, bodyOf Tryz.f133, Tryz.f133.results.toList, [.val (.leaf false (.nm 4)), .val (.leaf false (.int .i64))], [.leaf false (.int .i64)], [], [], 19, [], false⟩,
  ⟨159, bodyOf Tryz.f159, Tryz.f159.results.toList, [.val (.leaf false (.nm 13))], [.leaf false (.nm 17)], [], [], 12, [], false⟩,
  ⟨140, bodyOf Tryz.f140, Tryz.f140.results.toList, [.val (.leaf false (.nm 3))], [.leaf false (.nm 9)], [], [], 14, [], false⟩,
  ⟨141, bodyOf Tryz.f141, Tryz.f141.results.toList, [.val (.leaf false (.nm 4))], [.leaf false (.nm 10)], [], [], 15, [], false⟩,
  ⟨158, bodyOf Tryz.f158, Tryz.f158.results.toList, [.val (.leaf false .str)], [.leaf false .bool], [], [], 14, [(26, 147)], false⟩,
  ⟨164, bodyOf Tryz.f164, Tryz.f164.results.toList, [.val (.leaf false (.int .u8))], [.leaf false .bool], [], [], 17, [], false⟩,
  ⟨165, bodyOf Tryz.f165, Tryz.f165.results.toList, [.val (.leaf false .str)], [.leaf false .bool], [], [(3, 1), (7, 1)], 11, [], false⟩,
  ⟨166, bodyOf Tryz.f166, Tryz.f166.results.toList, [.val (.leaf false (.nm 7)), .val (.leaf false (.int .i64)), .val (.leaf false (.int .i64)), .val (.leaf false (.int .i64))], [.leaf false .bool], [], [(71, 1), (86, 1)], 127, [(863, 151), (3455, 152), (13823, 153), (221183, 154)], false⟩,
  ⟨167, bodyOf Tryz.f167, Tryz.f167.results.toList, [.val (.leaf false (.int .i64))], [.leaf false .bool], [], [], 5, [], false⟩,
  ⟨168, bodyOf Tryz.f168, Tryz.f168.results.toList, [.val (.leaf false .str)], [.leaf false (.int .i64), .leaf false .bool], [], [], 24, [(60, 157)], false⟩,
  ⟨160, bodyOf Tryz.f160, Tryz.f160.results.toList, [.val (.leaf false .str)], [.leaf false .bool], [], [], 11, [], false⟩,
  ⟨128, bodyOf Tryz.f128, Tryz.f128.results.toList, [.val (.leaf false (.int .i64)), .ptr (.leaf false (.int .i64)) (.leaf false (.int .i64)), .ptr (.leaf false (.int .i64)) (.leaf false (.int .i64))], [.leaf false .bool], [(16, .box), (32, .box)], [], 10, [], false⟩,
  ⟨169, bodyOf Tryz.f169, Tryz.f169.results.toList, [.val (.leaf false .str)], [.leaf false .bool], [], [], 18, [], false⟩,
  ⟨170, bodyOf Tryz.f170, Tryz.f170.results.toList, [.val (.leaf false (.sl .str)), .clo 144 [.leaf false (.nm 6)]], [.leaf false (.int .i64)], [(16, .box)], [], 19, [(26, 162)], false⟩,
  ⟨172, bodyOf Tryz.f172, Tryz.f172.results.toList, [.val (.leaf false (.sl (.nm 7))), .clo 173 [.leaf false (.sl (.nm 7)), .leaf false (.int .i64), .leaf false (.int .i64)]], [.leaf false .bool], [(16, .box), (17, .box), (18, .box)], [], 9, [], false⟩,
  ⟨175, bodyOf Tryz.f175, Tryz.f175.results.toList, [.val (.leaf false (.sl (.nm 9))), .clo 148 []], [.leaf false (.int .i64)], [], [], 19, [(26, 165)], false⟩,
  ⟨176, bodyOf Tryz.f176, Tryz.f176.results.toList, [.val (.leaf false (.int .i64))], [.leaf false .bool], [], [], 5, [], false⟩,
  ⟨177, bodyOf Tryz.f177, Tryz.f177.results.toList, [.val (.leaf false .str)], [.leaf false (.int .i64), .leaf false .bool], [], [], 21, [], false⟩,
  ⟨178, bodyOf Tryz.f178, Tryz.f178.results.toList, [.val (.leaf false .str), .val (.leaf false .str)], [.leaf false (.int .i64)], [], [], 8, [], false⟩,
  ⟨103, bodyOf Tryz.f103, Tryz.f103.results.toList, [.val (.leaf false (.int .i64))], [.leaf false .bool], [], [], 6, [], false⟩,
  ⟨85, bodyOf Tryz.f85, Tryz.f85.results.toList, [.val (.leaf false (.nm 25)), .val (.leaf false (.int .i64))], [.leaf false .bool], [], [], 68, [], false⟩,
  ⟨161, bodyOf Tryz.f161, Tryz.f161.results.toList, [.val (.leaf false (.nm 17)), .val (.leaf false (.nm 17))], [.leaf false .bool], [], [], 16, [], false⟩,
  ⟨152, bodyOf Tryz.f152, Tryz.f152.results.toList, [.val (.leaf false (.nm 9)), .val (.leaf false (.nm 9))], [.leaf false .bool], [], [], 20, [], false⟩,
  ⟨153, bodyOf Tryz.f153, Tryz.f153.results.toList, [.val (.leaf false (.nm 10)), .val (.leaf false (.nm 10))], [.leaf false .bool], [], [], 21, [], false⟩,
  ⟨180, bodyOf Tryz.f180, Tryz.f180.results.toList, [.val (.leaf false (.nm 14)), .val (.leaf false (.int .i64))], [.leaf false (.int .i64)], [], [], 13, [], false⟩,
  ⟨181, bodyOf Tryz.f181, Tryz.f181.results.toList, [.val (.leaf false (.nm 14))], [.leaf false (.nm 18)], [], [], 14, [], false⟩,
  ⟨185, bodyOf Tryz.f185, Tryz.f185.results.toList, [], [.leaf false (.sl .str)], [], [(1, 1)], 2, [], false⟩,
  ⟨186, bodyOf Tryz.f186, Tryz.f186.results.toList, [.val (.leaf false .str)], [.leaf false (.nm 28), .leaf false .bool], [], [(9, 1), (14, 1), (33, 1)], 35, [], false⟩,
  ⟨187, bodyOf Tryz.f187, Tryz.f187.results.toList, [.val (.leaf false .str)], [.leaf false (.int .i64), .leaf false (.int .i64)], [], [], 131, [(28, 179), (63, 180), (508, 181), (16342, 182), (511, 183)], false⟩,
  ⟨182, bodyOf Tryz.f182, Tryz.f182.results.toList, [.val (.leaf false .str), .val (.leaf false .str)], [.leaf false .bool], [], [], 9, [], false⟩,
  ⟨188, bodyOf Tryz.f188, Tryz.f188.results.toList, [.val (.leaf false .str), .val (.leaf false (.int .i64))], [.leaf false (.int .i64)], [], [], 23, [(28, 186)], false⟩,
  ⟨189, bodyOf Tryz.f189, Tryz.f189.results.toList, [.val (.leaf false .str)], [.leaf false .bool], [], [(14, 1)], 17, [(53, 188)], false⟩,
  ⟨144, bodyOf Tryz.f144, Tryz.f144.results.toList, [.val (.leaf false .str), .ptr (.leaf false (.nm 6)) (.leaf false (.nm 6))], [.leaf false .bool], [(16, .box)], [], 8, [], false⟩,
  ⟨190, bodyOf Tryz.f190, Tryz.f190.results.toList, [.val (.leaf false (.sl (.nm 7))), .clo 173 [.leaf false (.sl (.nm 7)), .leaf false (.int .i64), .leaf false (.int .i64)]], [.leaf false (.int .i64)], [(16, .box), (17, .box), (18, .box)], [], 19, [(26, 191)], false⟩,
  ⟨148, bodyOf Tryz.f148, Tryz.f148.results.toList, [.val (.leaf false (.nm 9))], [.leaf false .bool], [], [], 6, [], false⟩,
  ⟨194, bodyOf Tryz.f194, Tryz.f194.results.toList, [.val (.leaf false .str)], [.leaf false (.int .i64), .leaf false (.int .i64)], [], [], 99, [(31, 194), (1023, 195)], false⟩,
  ⟨195, bodyOf Tryz.f195, Tryz.f195.results.toList, [.val (.leaf false .str), .val (.leaf false .str)], [.leaf false .str], [], [], 43, [], false⟩,
  ⟨196, bodyOf Tryz.f196, Tryz.f196.results.toList, [.val (.leaf false .str), .val (.leaf false .str)], [.leaf false (.int .i64)], [], [], 8, [], false⟩,
  ⟨130, bodyOf Tryz.f130, Tryz.f130.results.toList, [.val (.leaf false (.sl (.nm 17))), .val (.leaf false (.int .i64))], [.leaf false .bool], [], [], 14, [], false⟩,
  ⟨183, bodyOf Tryz.f183, Tryz.f183.results.toList, [.val (.leaf false (.nm 18)), .val (.leaf false (.nm 18))], [.leaf false .bool], [], [], 20, [], false⟩,
  ⟨198, bodyOf Tryz.f198, Tryz.f198.results.toList, [.ptr (.leaf false (.nm 29)) (.leaf false (.nm 29)), .val (.leaf false (.int .i64))], [.leaf true (.nm 28)], [(0, .box)], [], 33, [(28, 201)], false⟩,
  ⟨199, bodyOf Tryz.f199, Tryz.f199.results.toList, [.val (.leaf false (.nm 28))], [.leaf false (.int .i64)], [], [], 22, [(58, 203)], false⟩,
  ⟨200, bodyOf Tryz.f200, Tryz.f200.results.toList, [.val (.leaf false (.int .u8))], [.leaf false .bool], [], [], 9, [], false⟩,
  ⟨197, bodyOf Tryz.f197, Tryz.f197.results.toList, [.val (.leaf false .str), .val (.leaf false .str)], [.leaf false (.int .i64)], [], [], 8, [], false⟩,
  ⟨201, bodyOf Tryz.f201, Tryz.f201.results.toList, [.val (.leaf false (.int .u8))], [.leaf false .bool], [], [], 17, [], false⟩,
  ⟨193, bodyOf Tryz.f193, Tryz.f193.results.toList, [], [.leaf false (.sl .str)], [], [(1, 1)], 2, [], false⟩,
  ⟨145, bodyOf Tryz.f145, Tryz.f145.results.toList, [.val (.leaf false (.sl .str)), .val (.leaf false .str)], [.leaf false .bool], [], [], 9, [], false⟩,
  ⟨173, bodyOf Tryz.f173, Tryz.f173.results.toList, [.val (.leaf false (.nm 7)), .ptr (.leaf false (.sl (.nm 7))) (.leaf false (.sl (.nm 7))), .ptr (.leaf false (.int .i64)) (.leaf false (.int .i64)), .ptr (.leaf false (.int .i64)) (.leaf false (.int .i64))], [.leaf false .bool], [(16, .box), (32, .box), (48, .box)], [], 13, [], false⟩,
  ⟨203, bodyOf Tryz.f203, Tryz.f203.results.toList, [.val (.leaf false .str), .val (.leaf false .str)], [.leaf false .str], [], [], 37, [], false⟩,
  ⟨204, bodyOf Tryz.f204, Tryz.f204.results.toList, [.val (.leaf false .str), .val (.leaf false (.int .i64))], [.leaf false (.int .i64)], [], [], 31, [(28, 212)], false⟩,
  ⟨205, bodyOf Tryz.f205, Tryz.f205.results.toList, [.val (.leaf false .str), .val (.leaf false .str)], [.leaf false (.int .i64), .leaf false .bool], [], [], 28, [], false⟩,
  ⟨207, bodyOf Tryz.f207, Tryz.f207.results.toList, [.val (.leaf false .str), .val (.leaf false (.int .u8))], [.leaf false .str], [], [], 23, [(12, 215)], false⟩,
  ⟨206, bodyOf Tryz.f206, Tryz.f206.results.toList, [.val (.leaf false .str), .val (.leaf false (.int .u8))], [.leaf false .str], [], [], 17, [(12, 217)], false⟩,
  ⟨213, bodyOf Tryz.f213, Tryz.f213.results.toList, [.val (.leaf false .str), .val (.leaf false .str)], [.leaf false (.int .i64)], [], [], 2, [], true⟩,
  ⟨162, bodyOf Tryz.f162, Tryz.f162.results.toList, [.val (.leaf false (.sl (.nm 17))), .clo 163 [.leaf false (.int .i64)]], [.leaf false .bool], [(16, .box)], [], 9, [], false⟩,
  ⟨215, bodyOf Tryz.f215, Tryz.f215.results.toList, [.ptr (.leaf false (.nm 29)) (.leaf false (.nm 29)), .val (.leaf false (.int .i64))], [.leaf true (.nm 28)], [(0, .box)], [], 66, [(28, 221)], false⟩,
  ⟨216, bodyOf Tryz.f216, Tryz.f216.results.toList, [.ptr (.leaf false (.nm 29)) (.leaf false (.nm 29)), .val (.leaf false (.int .u8))], [.leaf false .bool], [(0, .box)], [], 35, [], false⟩,
  ⟨217, bodyOf Tryz.f217, Tryz.f217.results.toList, [.val (.leaf false (.int .i64)), .val (.leaf false (.int .i64))], [.leaf false (.int .i64)], [], [], 10, [], false⟩,
  ⟨214, bodyOf Tryz.f214, Tryz.f214.results.toList, [.val (.leaf false .str), .val (.leaf false .str)], [.leaf false (.int .i64)], [], [], 143, [], false⟩,
  ⟨171, bodyOf Tryz.f171, Tryz.f171.results.toList, [.val (.leaf false (.sl .str)), .val (.leaf false .str)], [.leaf false (.int .i64)], [], [], 19, [(26, 226)], false⟩,
  ⟨174, bodyOf Tryz.f174, Tryz.f174.results.toList, [.val (.leaf false (.nm 7)), .val (.leaf false (.int .i64)), .val (.leaf false (.int .i64)), .val (.leaf false (.int .i64))], [.leaf false .bool], [], [(101, 1)], 119, [(983, 228), (3935, 229), (15743, 230), (251903, 231)], false⟩,
  ⟨220, bodyOf Tryz.f220, Tryz.f220.results.toList, [.val (.leaf false .str)], [.leaf false (.int .i64), .hole 1], [], [(16, 1)], 18, [], false⟩,
  ⟨221, bodyOf Tryz.f221, Tryz.f221.results.toList, [.val (.leaf false (.int .i64))], [.leaf false (.int .i64), .leaf false .bool], [], [], 8, [], false⟩,
  ⟨184, bodyOf Tryz.f184, Tryz.f184.results.toList, [.val (.leaf false (.sl (.nm 17))), .clo 163 [.leaf false (.int .i64)]], [.leaf false (.int .i64)], [(16, .box)], [], 19, [(26, 235)], false⟩,
  ⟨230, bodyOf Tryz.f230, Tryz.f230.results.toList, [.ptr (.leaf false (.nm 29)) (.leaf false (.nm 29)), .val (.leaf false (.int .i64))], [.leaf true (.nm 28)], [(0, .box)], [], 40, [(28, 237), (907, 238)], false⟩,
  ⟨226, bodyOf Tryz.f226, Tryz.f226.results.toList, [.val (.leaf false .str), .val (.leaf false (.int .u8))], [.leaf false (.int .i64)], [], [], 8, [], false⟩,
  ⟨191, bodyOf Tryz.f191, Tryz.f191.results.toList, [.val (.leaf false (.int .i64))], [.leaf false .str, .leaf false .str], [], [(6, 1)], 38, [(63, 241), (2007, 242), (32127, 243)], false⟩,
  ⟨192, bodyOf Tryz.f192, Tryz.f192.results.toList, [.val (.leaf false .str)], [.leaf false .bool], [], [(7, 1)], 11, [], false⟩,
  ⟨233, bodyOf Tryz.f233, Tryz.f233.results.toList, [.val (.leaf false .str)], [.leaf false (.int .i64), .hole 1], [], [], 77, [(235, 246), (3770, 247)], false⟩,
  ⟨163, bodyOf Tryz.f163, Tryz.f163.results.toList, [.val (.leaf false (.nm 17)), .ptr (.leaf false (.int .i64)) (.leaf false (.int .i64))], [.leaf false .bool], [(16, .box)], [], 15, [], false⟩,
  ⟨240, bodyOf Tryz.f240, Tryz.f240.results.toList, [.ptr (.leaf false (.nm 29)) (.leaf false (.nm 29)), .val (.leaf false (.int .i64))], [.leaf true (.nm 28)], [(0, .box)], [], 126, [(63, 250)], false⟩,
  ⟨238, bodyOf Tryz.f238, Tryz.f238.results.toList, [.val (.leaf false .str), .val (.leaf false (.int .u8))], [.leaf false (.int .i64)], [], [], 2, [], true⟩,
  ⟨202, bodyOf Tryz.f202, Tryz.f202.results.toList, [.val (.leaf false .str)], [.leaf false (.nm 28), .leaf false .bool], [], [(9, 1), (14, 1), (31, 1)], 33, [], false⟩,
  ⟨243, bodyOf Tryz.f243, Tryz.f243.results.toList, [.val (.leaf false .str), .val (.leaf false (.int .i64)), .val (.leaf false (.int .i64))], [.leaf false (.int .i64), .hole 1], [], [], 73, [(31, 254), (511, 255)], false⟩,
  ⟨250, bodyOf Tryz.f250, Tryz.f250.results.toList, [.ptr (.leaf false (.nm 29)) (.leaf false (.nm 29))], [.leaf true (.nm 28)], [(0, .box)], [(171, 1)], 177, [(15, 257), (252, 258), (32303, 259), (255, 260), (64607, 261), (8186, 262), (516858, 263)], false⟩,
  ⟨218, bodyOf Tryz.f218, Tryz.f218.results.toList, [.ptr (.leaf false (.nm 30)) (.leaf false (.nm 30))], [.leaf true (.nm 28)], [(0, .box)], [], 22, [(28, 265)], false⟩,
  ⟨219, bodyOf Tryz.f219, Tryz.f219.results.toList, [.val (.leaf false (.nm 28))], [.leaf false (.int .i64)], [], [], 20, [(58, 267)], false⟩,
  ⟨253, bodyOf Tryz.f253, Tryz.f253.results.toList, [.val (.leaf false .str), .val (.leaf false (.int .i64)), .val (.leaf false (.int .i64))], [.leaf false (.int .u64), .hole 1], [], [], 172, [(63, 269), (127, 270), (511, 271), (32762, 272), (8387175, 273)], false⟩,
  ⟨231, bodyOf Tryz.f231, Tryz.f231.results.toList, [.ptr (.leaf false (.nm 30)) (.leaf false (.nm 30))], [.leaf true (.nm 28)], [(0, .box)], [], 39, [(28, 275)], false⟩,
  ⟨232, bodyOf Tryz.f232, Tryz.f232.results.toList, [.ptr (.leaf false (.nm 30)) (.leaf false (.nm 30)), .val (.leaf false (.int .u8))], [.leaf false .bool], [(0, .box)], [], 27, [], false⟩,
  ⟨258, bodyOf Tryz.f258, Tryz.f258.results.toList, [.val (.leaf false (.int .u8))], [.leaf false (.int .u8)], [], [], 5, [], false⟩,
  ⟨259, bodyOf Tryz.f259, Tryz.f259.results.toList, [.val (.leaf false .str)], [.leaf false .bool], [], [], 94, [(31, 279), (127, 280), (508, 281)], false⟩,
  ⟨241, bodyOf Tryz.f241, Tryz.f241.results.toList, [.ptr (.leaf false (.nm 30)) (.leaf false (.nm 30))], [.leaf false (.int .u8), .leaf false .bool], [(0, .box)], [], 20, [], false⟩,
  ⟨242, bodyOf Tryz.f242, Tryz.f242.results.toList, [.ptr (.leaf false (.nm 30)) (.leaf false (.nm 30))], [.leaf true (.nm 28)], [(0, .box)], [], 34, [(14, 284)], false⟩,
  ⟨251, bodyOf Tryz.f251, Tryz.f251.results.toList, [.ptr (.leaf false (.nm 30)) (.leaf false (.nm 30))], [.leaf true (.nm 28)], [(0, .box)], [], 81, [(1007615, 286)], false⟩,
  ⟨252, bodyOf Tryz.f252, Tryz.f252.results.toList, [.val (.leaf false (.int .u8))], [.leaf false (.int .i64)], [], [], 10, [], false⟩,
  ⟨257, bodyOf Tryz.f257, Tryz.f257.results.toList, [.ptr (.leaf false (.nm 30)) (.leaf false (.nm 30))], [.leaf true (.nm 28)], [(0, .box)], [(111, 1)], 118, [(2042, 289), (130707, 290), (8186, 291), (522830, 292)], false⟩,
  ⟨248, bodyOf Tryz.f248, Tryz.f248.results.toList, [.val (.leaf false .str), .val (.leaf false (.int .u8))], [.leaf false (.int .i64)], [], [], 8, [], false⟩]
def callL : CallL := [((6, []), 0), ((7, []), 1), ((29, []), 2), ((10, []), 3), ((31, []), 4), ((30, []), 5), ((32, []), 8), ((14, []), 9), ((33, []), 10), ((34, []), 11), ((35, []), 13), ((24, []), 15), ((72, []), 16), ((37, []), 17), ((8, []), 18), ((73, []), 19), ((74, []), 20), ((40, []), 22), ((41, []), 24), ((26, []), 26), ((77, []), 27), ((43, []), 29), ((11, []), 31), ((78, []), 32), ((79, []), 33), ((64, []), 35), ((25, []), 36), ((63, []), 37), ((75, []), 38), ((38, []), 39), ((76, []), 41), ((80, []), 42), ((27, []), 43), ((67, []), 44), ((81, []), 45), ((44, []), 46), ((82, []), 47), ((83, [84]), 48), ((48, []), 49), ((49, []), 51), ((28, []), 53), ((86, []), 54), ((51, []), 56), ((15, []), 58), ((87, []), 59), ((88, []), 60), ((89, []), 62), ((62, []), 63), ((36, []), 64), ((124, []), 65), ((125, []), 66), ((97, []), 67), ((66, []), 68), ((42, []), 69), ((21, []), 70), ((127, []), 72), ((65, []), 73), ((126, []), 75), ((92, []), 77), ((93, []), 80), ((68, []), 83), ((69, []), 84), ((70, []), 85), ((102, [128]), 87), ((100, []), 88), ((101, []), 89), ((102, [103]), 91), ((129, [84]), 92), ((105, []), 94), ((71, []), 95), ((50, []), 96), ((13, []), 97), ((131, []), 99), ((119, []), 100), ((90, []), 102), ((91, []), 104), ((121, []), 106), ((98, []), 108), ((99, []), 110), ((120, []), 112), ((134, []), 113), ((135, []), 115), ((136, []), 117), ((137, []), 119), ((138, []), 120), ((122, []), 121), ((151, [128]), 122), ((142, []), 124), ((143, [144]), 126), ((146, []), 127), ((147, [148]), 128), ((149, []), 129), ((150, []), 130), ((151, [103]), 131), ((84, []), 133), ((123, []), 134), ((106, []), 136), ((107, []), 138), ((157, []), 140), ((132, []), 141), ((133, []), 142), ((159, []), 143), ((140, []), 144), ((141, []), 145), ((158, []), 146), ((164, []), 148), ((165, []), 149), ((166, []), 150), ((167, []), 155), ((168, []), 156), ((160, []), 158), ((128, []), 159), ((169, []), 160), ((170, [144]), 161), ((172, [173]), 163), ((175, [148]), 164), ((176, []), 166), ((177, []), 167), ((178, []), 168), ((103, []), 169), ((85, []), 170), ((161, []), 171), ((152, []), 172), ((153, []), 173), ((180, []), 174), ((181, []), 175), ((185, []), 176), ((186, []), 177), ((187, []), 178), ((182, []), 184), ((188, []), 185), ((189, []), 187), ((144, []), 189), ((190, [173]), 190), ((148, []), 192), ((194, []), 193), ((195, []), 196), ((196, []), 197), ((130, []), 198), ((183, []), 199), ((198, []), 200), ((199, []), 202), ((200, []), 204), ((197, []), 205), ((201, []), 206), ((193, []), 207), ((145, []), 208), ((173, []), 209), ((203, []), 210), ((204, []), 211), ((205, []), 213), ((207, []), 214), ((206, []), 216), ((213, []), 218), ((162, [163]), 219), ((215, []), 220), ((216, []), 222), ((217, []), 223), ((214, []), 224), ((171, []), 225), ((174, []), 227), ((220, []), 232), ((221, []), 233), ((184, [163]), 234), ((230, []), 236), ((226, []), 239), ((191, []), 240), ((192, []), 244), ((233, []), 245), ((163, []), 248), ((240, []), 249), ((238, []), 251), ((202, []), 252), ((243, []), 253), ((250, []), 256), ((218, []), 264), ((219, []), 266), ((253, []), 268), ((231, []), 274), ((232, []), 276), ((258, []), 277), ((259, []), 278), ((241, []), 282), ((242, []), 283), ((251, []), 285), ((252, []), 287), ((257, []), 288), ((248, []), 293)]
noncomputable def tab : Tab where
  G := gam
  ty := lookT tyL
  ifc := memN ifcL
  key k := keyL.getD k ⟨0, [], []⟩
  ent k := entL.getD k ⟨0, .skip, [], [], [], [], [], 0, [], true⟩
  call := lookC callL
  tabs := []
  ext k := match k with
    | 218 => fun x => some (cmpI x.1 x.2.1, ())
    | 251 => fun x => some (idxI x.1 x.2.1, ())
    | _ => fun _ => none
end Go.Proofs.YtonmohpdmhfjnaaGreatDoor.E.TM
