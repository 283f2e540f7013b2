/- The table of H: structs,types,entries,keys. No condition. -/
import Derived.Test.YtcngnpahpbaagaaGreatDoorEG4
import Derived.Test.YtcngnpahpbaagaaGreatDoorProg
import Derived.KernelRfl
namespace Go.Proofs.YtcngnpahpbaagaaGreatDoor.E.TH
open Go.Proofs.YtcngnpahpbaagaaGreatDoor.E
set_option linter.unusedVariables false
set_option maxRecDepth 100000
structure laws_Op where
 Code:Int
 N:Int
 S:(_root_.List Int)
def z_laws_Op:laws_Op:=⟨0,0,[]⟩
structure laws_Prog where
 Vars:(_root_.List (_root_.List Int))
 Cells:(_root_.List (_root_.List Int))
 Start:(_root_.List laws_Op)
 Main:(_root_.List laws_Op)
def z_laws_Prog:laws_Prog:=⟨[],[],[],[]⟩
structure laws_Sink where
 Epoch:Int
 Text:(_root_.List Int)
def z_laws_Sink:laws_Sink:=⟨0,[]⟩
structure laws_Cmd where
 Who:Int
 Seq:Int
 Line:(_root_.List Int)
def z_laws_Cmd:laws_Cmd:=⟨0,0,[]⟩
structure laws_Entry where
 Term:Int
 C:laws_Cmd
def z_laws_Entry:laws_Entry:=⟨0,z_laws_Cmd⟩
structure laws_Log where
 Base:Int
 BaseTerm:Int
 List:(_root_.List laws_Entry)
def z_laws_Log:laws_Log:=⟨0,0,[]⟩
structure laws_Val where
 Kind:Int
 N:Int
 S:(_root_.List Int)
def z_laws_Val:laws_Val:=⟨0,0,[]⟩
structure laws_Cell where
 Name:Int
 Key:(_root_.List Int)
 Val:laws_Val
def z_laws_Cell:laws_Cell:=⟨0,[],z_laws_Val⟩
structure laws_State where
 Vars:(_root_.List laws_Val)
 Cells:(_root_.List laws_Cell)
 Nr:Int
 Err:Int
def z_laws_State:laws_State:=⟨[],[],0,0⟩
structure laws_Mach where
 State:laws_State
 Done:(_root_.List Int)
 Out:(_root_.List Int)
def z_laws_Mach:laws_Mach:=⟨z_laws_State,[],[]⟩
structure laws_Hard where
 Term:Int
 Vote:Int
 Log:laws_Log
 Snap:laws_Mach
def z_laws_Hard:laws_Hard:=⟨0,0,z_laws_Log,z_laws_Mach⟩
structure laws_Disk where
 Bytes:(_root_.List Int)
 Sure:Int
def z_laws_Disk:laws_Disk:=⟨[],0⟩
structure laws_Rpc where
 Kind:Int
 From:Int
 To:Int
 Term:Int
 Index:Int
 IndexTerm:Int
 Commit:Int
 List:(_root_.List laws_Entry)
 Ok:Bool
 Snap:(_root_.List Int)
def z_laws_Rpc:laws_Rpc:=⟨0,0,0,0,0,0,0,[],false,[]⟩
structure laws_Peer where
 Id:Int
 Hard:laws_Hard
 Role:Int
 Votes:(_root_.List Bool)
 Next:(_root_.List Int)
 Match:(_root_.List Int)
 Commit:Int
 Now:laws_Mach
 Disk:laws_Disk
 Held:(_root_.List laws_Rpc)
def z_laws_Peer:laws_Peer:=⟨0,z_laws_Hard,0,[],[],[],0,z_laws_Mach,z_laws_Disk,[]⟩
structure laws_World where
 Prog:laws_Prog
 Size:Int
 Nodes:(_root_.List laws_Peer)
 Net:(_root_.List laws_Rpc)
 Sink:laws_Sink
 Sent:(_root_.List Int)
 Acked:(_root_.List Int)
 Done:(_root_.List laws_Cmd)
def z_laws_World:laws_World:=⟨z_laws_Prog,0,[],[],z_laws_Sink,[],[],[]⟩
structure impl_Op where
 Code:Int
 N:Int
 S:(_root_.List Int)
def z_impl_Op:impl_Op:=⟨0,0,[]⟩
structure impl_Prog where
 Vars:(_root_.List (_root_.List Int))
 Cells:(_root_.List (_root_.List Int))
 Start:(_root_.List impl_Op)
 Main:(_root_.List impl_Op)
def z_impl_Prog:impl_Prog:=⟨[],[],[],[]⟩
structure impl_Sink where
 Epoch:Int
 Text:(_root_.List Int)
def z_impl_Sink:impl_Sink:=⟨0,[]⟩
structure impl_Cmd where
 Who:Int
 Seq:Int
 Line:(_root_.List Int)
def z_impl_Cmd:impl_Cmd:=⟨0,0,[]⟩
structure impl_Entry where
 Term:Int
 C:impl_Cmd
def z_impl_Entry:impl_Entry:=⟨0,z_impl_Cmd⟩
structure impl_Log where
 Base:Int
 BaseTerm:Int
 List:(_root_.List impl_Entry)
def z_impl_Log:impl_Log:=⟨0,0,[]⟩
structure impl_Val where
 Kind:Int
 N:Int
 S:(_root_.List Int)
def z_impl_Val:impl_Val:=⟨0,0,[]⟩
structure impl_Cell where
 Name:Int
 Key:(_root_.List Int)
 Val:impl_Val
def z_impl_Cell:impl_Cell:=⟨0,[],z_impl_Val⟩
structure impl_State where
 Vars:(_root_.List impl_Val)
 Cells:(_root_.List impl_Cell)
 Nr:Int
 Err:Int
def z_impl_State:impl_State:=⟨[],[],0,0⟩
structure impl_Mach where
 State:impl_State
 Done:(_root_.List Int)
 Out:(_root_.List Int)
def z_impl_Mach:impl_Mach:=⟨z_impl_State,[],[]⟩
structure impl_Hard where
 Term:Int
 Vote:Int
 Log:impl_Log
 Snap:impl_Mach
def z_impl_Hard:impl_Hard:=⟨0,0,z_impl_Log,z_impl_Mach⟩
structure impl_Disk where
 Bytes:(_root_.List Int)
 Sure:Int
def z_impl_Disk:impl_Disk:=⟨[],0⟩
structure impl_Rpc where
 Kind:Int
 From:Int
 To:Int
 Term:Int
 Index:Int
 IndexTerm:Int
 Commit:Int
 List:(_root_.List impl_Entry)
 Ok:Bool
 Snap:(_root_.List Int)
def z_impl_Rpc:impl_Rpc:=⟨0,0,0,0,0,0,0,[],false,[]⟩
structure impl_Peer where
 Id:Int
 Hard:impl_Hard
 Role:Int
 Votes:(_root_.List Bool)
 Next:(_root_.List Int)
 Match:(_root_.List Int)
 Commit:Int
 Now:impl_Mach
 Disk:impl_Disk
 Held:(_root_.List impl_Rpc)
def z_impl_Peer:impl_Peer:=⟨0,z_impl_Hard,0,[],[],[],0,z_impl_Mach,z_impl_Disk,[]⟩
structure impl_World where
 Prog:impl_Prog
 Size:Int
 Nodes:(_root_.List impl_Peer)
 Net:(_root_.List impl_Rpc)
 Sink:impl_Sink
 Sent:(_root_.List Int)
 Acked:(_root_.List Int)
 Done:(_root_.List impl_Cmd)
def z_impl_World:impl_World:=⟨z_impl_Prog,0,[],[],z_impl_Sink,[],[],[]⟩
structure laws_Rec where
 Kind:Int
 Term:Int
 Vote:Int
 Prev:Int
 List:(_root_.List laws_Entry)
 Snap:(_root_.List Int)
def z_laws_Rec:laws_Rec:=⟨0,0,0,0,[],[]⟩
structure impl_Rec where
 Kind:Int
 Term:Int
 Vote:Int
 Prev:Int
 List:(_root_.List impl_Entry)
 Snap:(_root_.List Int)
def z_impl_Rec:impl_Rec:=⟨0,0,0,0,[],[]⟩
structure impl_act where
 p:impl_Prog
 n:impl_Peer
 size:Int
 no:Bool
def z_impl_act:impl_act:=⟨z_impl_Prog,z_impl_Peer,0,false⟩
structure spec_l23Work where
 p:impl_Prog
 size:Int
 n:impl_Peer
 ok:Bool
def z_spec_l23Work:spec_l23Work:=⟨z_impl_Prog,0,z_impl_Peer,false⟩
structure spec_l17Cur where
 b:(_root_.List Int)
 at_:Int
 ok:Bool
def z_spec_l17Cur:spec_l17Cur:=⟨[],0,false⟩
structure impl_source where
 b:(_root_.List Int)
 at_:Int
 bad:Bool
def z_impl_source:impl_source:=⟨[],0,false⟩
structure impl_Rex where
 Op:Int
 C:Int
 Set:(_root_.List Int)
 Not:Bool
 Kids:(_root_.List impl_Rex)
def z_impl_Rex:impl_Rex:=⟨0,0,[],false,[]⟩
structure spec_l3Cur where
 s:(_root_.List Int)
 at_:Int
 bad:Bool
def z_spec_l3Cur:spec_l3Cur:=⟨[],0,false⟩
structure impl_rexReader where
 s:(_root_.List Int)
 bad:Bool
def z_impl_rexReader:impl_rexReader:=⟨[],false⟩
def gT:Nat→Type
 | 0=>laws_Prog
 | 1=>laws_Op
 | 2=>laws_Sink
 | 3=>laws_World
 | 4=>laws_Peer
 | 5=>laws_Hard
 | 6=>laws_Log
 | 7=>laws_Entry
 | 8=>laws_Cmd
 | 9=>laws_Mach
 | 10=>laws_State
 | 11=>laws_Val
 | 12=>laws_Cell
 | 13=>laws_Disk
 | 14=>laws_Rpc
 | 15=>impl_Prog
 | 16=>impl_Op
 | 17=>impl_Sink
 | 18=>impl_World
 | 19=>impl_Peer
 | 20=>impl_Hard
 | 21=>impl_Log
 | 22=>impl_Entry
 | 23=>impl_Cmd
 | 24=>impl_Mach
 | 25=>impl_State
 | 26=>impl_Val
 | 27=>impl_Cell
 | 28=>impl_Disk
 | 29=>impl_Rpc
 | 30=>laws_Rec
 | 31=>impl_Rec
 | 32=>impl_act
 | 33=>spec_l23Work
 | 34=>spec_l17Cur
 | 35=>impl_source
 | 36=>impl_Rex
 | 37=>spec_l3Cur
 | 38=>impl_rexReader
 | _=>Unit
def gfs:Nat→List FT
 | 0=>[(.sl .str),(.sl .str),(.sl (.nm 1)),(.sl (.nm 1))]
 | 1=>[(.int .i64),(.int .i64),.str]
 | 2=>[(.int .i64),.str]
 | 3=>[(.nm 0),(.int .i64),(.sl (.nm 4)),(.sl (.nm 14)),(.nm 2),(.sl (.int .i64)),(.sl (.int .i64)),(.sl (.nm 8))]
 | 4=>[(.int .i64),(.nm 5),(.int .i64),(.sl .bool),(.sl (.int .i64)),(.sl (.int .i64)),(.int .i64),(.nm 9),(.nm 13),(.sl (.nm 14))]
 | 5=>[(.int .i64),(.int .i64),(.nm 6),(.nm 9)]
 | 6=>[(.int .i64),(.int .i64),(.sl (.nm 7))]
 | 7=>[(.int .i64),(.nm 8)]
 | 8=>[(.int .i64),(.int .i64),.str]
 | 9=>[(.nm 10),(.sl (.int .i64)),.str]
 | 10=>[(.sl (.nm 11)),(.sl (.nm 12)),(.int .i64),(.int .i64)]
 | 11=>[(.int .i64),(.int .i64),.str]
 | 12=>[(.int .i64),.str,(.nm 11)]
 | 13=>[(.sl (.int .u8)),(.int .i64)]
 | 14=>[(.int .i64),(.int .i64),(.int .i64),(.int .i64),(.int .i64),(.int .i64),(.int .i64),(.sl (.nm 7)),.bool,.str]
 | 15=>[(.sl .str),(.sl .str),(.sl (.nm 16)),(.sl (.nm 16))]
 | 16=>[(.int .i64),(.int .i64),.str]
 | 17=>[(.int .i64),.str]
 | 18=>[(.nm 15),(.int .i64),(.sl (.nm 19)),(.sl (.nm 29)),(.nm 17),(.sl (.int .i64)),(.sl (.int .i64)),(.sl (.nm 23))]
 | 19=>[(.int .i64),(.nm 20),(.int .i64),(.sl .bool),(.sl (.int .i64)),(.sl (.int .i64)),(.int .i64),(.nm 24),(.nm 28),(.sl (.nm 29))]
 | 20=>[(.int .i64),(.int .i64),(.nm 21),(.nm 24)]
 | 21=>[(.int .i64),(.int .i64),(.sl (.nm 22))]
 | 22=>[(.int .i64),(.nm 23)]
 | 23=>[(.int .i64),(.int .i64),.str]
 | 24=>[(.nm 25),(.sl (.int .i64)),.str]
 | 25=>[(.sl (.nm 26)),(.sl (.nm 27)),(.int .i64),(.int .i64)]
 | 26=>[(.int .i64),(.int .i64),.str]
 | 27=>[(.int .i64),.str,(.nm 26)]
 | 28=>[(.sl (.int .u8)),(.int .i64)]
 | 29=>[(.int .i64),(.int .i64),(.int .i64),(.int .i64),(.int .i64),(.int .i64),(.int .i64),(.sl (.nm 22)),.bool,.str]
 | 30=>[(.int .i64),(.int .i64),(.int .i64),(.int .i64),(.sl (.nm 7)),.str]
 | 31=>[(.int .i64),(.int .i64),(.int .i64),(.int .i64),(.sl (.nm 22)),.str]
 | 32=>[(.nm 15),(.nm 19),(.int .i64),.bool]
 | 33=>[(.nm 15),(.int .i64),(.nm 19),.bool]
 | 34=>[(.sl (.int .u8)),(.int .i64),.bool]
 | 35=>[(.sl (.int .u8)),(.int .i64),.bool]
 | 36=>[(.int .i64),(.int .i64),.str,.bool,(.sl (.nm 36))]
 | 37=>[.str,(.int .i64),.bool]
 | 38=>[.str,.bool]
 | _=>[]
def gun:∀ n,gT n→Js gT (gfs n)
 | 0,x=>(x.Vars,(x.Cells,(x.Start,(x.Main,()))))
 | 1,x=>(x.Code,(x.N,(x.S,())))
 | 2,x=>(x.Epoch,(x.Text,()))
 | 3,x=>(x.Prog,(x.Size,(x.Nodes,(x.Net,(x.Sink,(x.Sent,(x.Acked,(x.Done,()))))))))
 | 4,x=>(x.Id,(x.Hard,(x.Role,(x.Votes,(x.Next,(x.Match,(x.Commit,(x.Now,(x.Disk,(x.Held,()))))))))))
 | 5,x=>(x.Term,(x.Vote,(x.Log,(x.Snap,()))))
 | 6,x=>(x.Base,(x.BaseTerm,(x.List,())))
 | 7,x=>(x.Term,(x.C,()))
 | 8,x=>(x.Who,(x.Seq,(x.Line,())))
 | 9,x=>(x.State,(x.Done,(x.Out,())))
 | 10,x=>(x.Vars,(x.Cells,(x.Nr,(x.Err,()))))
 | 11,x=>(x.Kind,(x.N,(x.S,())))
 | 12,x=>(x.Name,(x.Key,(x.Val,())))
 | 13,x=>(x.Bytes,(x.Sure,()))
 | 14,x=>(x.Kind,(x.From,(x.To,(x.Term,(x.Index,(x.IndexTerm,(x.Commit,(x.List,(x.Ok,(x.Snap,()))))))))))
 | 15,x=>(x.Vars,(x.Cells,(x.Start,(x.Main,()))))
 | 16,x=>(x.Code,(x.N,(x.S,())))
 | 17,x=>(x.Epoch,(x.Text,()))
 | 18,x=>(x.Prog,(x.Size,(x.Nodes,(x.Net,(x.Sink,(x.Sent,(x.Acked,(x.Done,()))))))))
 | 19,x=>(x.Id,(x.Hard,(x.Role,(x.Votes,(x.Next,(x.Match,(x.Commit,(x.Now,(x.Disk,(x.Held,()))))))))))
 | 20,x=>(x.Term,(x.Vote,(x.Log,(x.Snap,()))))
 | 21,x=>(x.Base,(x.BaseTerm,(x.List,())))
 | 22,x=>(x.Term,(x.C,()))
 | 23,x=>(x.Who,(x.Seq,(x.Line,())))
 | 24,x=>(x.State,(x.Done,(x.Out,())))
 | 25,x=>(x.Vars,(x.Cells,(x.Nr,(x.Err,()))))
 | 26,x=>(x.Kind,(x.N,(x.S,())))
 | 27,x=>(x.Name,(x.Key,(x.Val,())))
 | 28,x=>(x.Bytes,(x.Sure,()))
 | 29,x=>(x.Kind,(x.From,(x.To,(x.Term,(x.Index,(x.IndexTerm,(x.Commit,(x.List,(x.Ok,(x.Snap,()))))))))))
 | 30,x=>(x.Kind,(x.Term,(x.Vote,(x.Prev,(x.List,(x.Snap,()))))))
 | 31,x=>(x.Kind,(x.Term,(x.Vote,(x.Prev,(x.List,(x.Snap,()))))))
 | 32,x=>(x.p,(x.n,(x.size,(x.no,()))))
 | 33,x=>(x.p,(x.size,(x.n,(x.ok,()))))
 | 34,x=>(x.b,(x.at_,(x.ok,())))
 | 35,x=>(x.b,(x.at_,(x.bad,())))
 | 36,x=>(x.Op,(x.C,(x.Set,(x.Not,(x.Kids,())))))
 | 37,x=>(x.s,(x.at_,(x.bad,())))
 | 38,x=>(x.s,(x.bad,()))
 | (n+39),_=>()
def gpk:∀ n,Js gT (gfs n)→gT n
 | 0,y=>⟨y.1,y.2.1,y.2.2.1,y.2.2.2.1⟩
 | 1,y=>⟨y.1,y.2.1,y.2.2.1⟩
 | 2,y=>⟨y.1,y.2.1⟩
 | 3,y=>⟨y.1,y.2.1,y.2.2.1,y.2.2.2.1,y.2.2.2.2.1,y.2.2.2.2.2.1,y.2.2.2.2.2.2.1,y.2.2.2.2.2.2.2.1⟩
 | 4,y=>⟨y.1,y.2.1,y.2.2.1,y.2.2.2.1,y.2.2.2.2.1,y.2.2.2.2.2.1,y.2.2.2.2.2.2.1,y.2.2.2.2.2.2.2.1,y.2.2.2.2.2.2.2.2.1,y.2.2.2.2.2.2.2.2.2.1⟩
 | 5,y=>⟨y.1,y.2.1,y.2.2.1,y.2.2.2.1⟩
 | 6,y=>⟨y.1,y.2.1,y.2.2.1⟩
 | 7,y=>⟨y.1,y.2.1⟩
 | 8,y=>⟨y.1,y.2.1,y.2.2.1⟩
 | 9,y=>⟨y.1,y.2.1,y.2.2.1⟩
 | 10,y=>⟨y.1,y.2.1,y.2.2.1,y.2.2.2.1⟩
 | 11,y=>⟨y.1,y.2.1,y.2.2.1⟩
 | 12,y=>⟨y.1,y.2.1,y.2.2.1⟩
 | 13,y=>⟨y.1,y.2.1⟩
 | 14,y=>⟨y.1,y.2.1,y.2.2.1,y.2.2.2.1,y.2.2.2.2.1,y.2.2.2.2.2.1,y.2.2.2.2.2.2.1,y.2.2.2.2.2.2.2.1,y.2.2.2.2.2.2.2.2.1,y.2.2.2.2.2.2.2.2.2.1⟩
 | 15,y=>⟨y.1,y.2.1,y.2.2.1,y.2.2.2.1⟩
 | 16,y=>⟨y.1,y.2.1,y.2.2.1⟩
 | 17,y=>⟨y.1,y.2.1⟩
 | 18,y=>⟨y.1,y.2.1,y.2.2.1,y.2.2.2.1,y.2.2.2.2.1,y.2.2.2.2.2.1,y.2.2.2.2.2.2.1,y.2.2.2.2.2.2.2.1⟩
 | 19,y=>⟨y.1,y.2.1,y.2.2.1,y.2.2.2.1,y.2.2.2.2.1,y.2.2.2.2.2.1,y.2.2.2.2.2.2.1,y.2.2.2.2.2.2.2.1,y.2.2.2.2.2.2.2.2.1,y.2.2.2.2.2.2.2.2.2.1⟩
 | 20,y=>⟨y.1,y.2.1,y.2.2.1,y.2.2.2.1⟩
 | 21,y=>⟨y.1,y.2.1,y.2.2.1⟩
 | 22,y=>⟨y.1,y.2.1⟩
 | 23,y=>⟨y.1,y.2.1,y.2.2.1⟩
 | 24,y=>⟨y.1,y.2.1,y.2.2.1⟩
 | 25,y=>⟨y.1,y.2.1,y.2.2.1,y.2.2.2.1⟩
 | 26,y=>⟨y.1,y.2.1,y.2.2.1⟩
 | 27,y=>⟨y.1,y.2.1,y.2.2.1⟩
 | 28,y=>⟨y.1,y.2.1⟩
 | 29,y=>⟨y.1,y.2.1,y.2.2.1,y.2.2.2.1,y.2.2.2.2.1,y.2.2.2.2.2.1,y.2.2.2.2.2.2.1,y.2.2.2.2.2.2.2.1,y.2.2.2.2.2.2.2.2.1,y.2.2.2.2.2.2.2.2.2.1⟩
 | 30,y=>⟨y.1,y.2.1,y.2.2.1,y.2.2.2.1,y.2.2.2.2.1,y.2.2.2.2.2.1⟩
 | 31,y=>⟨y.1,y.2.1,y.2.2.1,y.2.2.2.1,y.2.2.2.2.1,y.2.2.2.2.2.1⟩
 | 32,y=>⟨y.1,y.2.1,y.2.2.1,y.2.2.2.1⟩
 | 33,y=>⟨y.1,y.2.1,y.2.2.1,y.2.2.2.1⟩
 | 34,y=>⟨y.1,y.2.1,y.2.2.1⟩
 | 35,y=>⟨y.1,y.2.1,y.2.2.1⟩
 | 36,y=>⟨y.1,y.2.1,y.2.2.1,y.2.2.2.1,y.2.2.2.2.1⟩
 | 37,y=>⟨y.1,y.2.1,y.2.2.1⟩
 | 38,y=>⟨y.1,y.2.1⟩
 | (n+39),_=>()
theorem gun_pk:∀ n y,gun n (gpk n y)=y
 | 0,_=>rfl
 | 1,_=>rfl
 | 2,_=>rfl
 | 3,_=>rfl
 | 4,_=>rfl
 | 5,_=>rfl
 | 6,_=>rfl
 | 7,_=>rfl
 | 8,_=>rfl
 | 9,_=>rfl
 | 10,_=>rfl
 | 11,_=>rfl
 | 12,_=>rfl
 | 13,_=>rfl
 | 14,_=>rfl
 | 15,_=>rfl
 | 16,_=>rfl
 | 17,_=>rfl
 | 18,_=>rfl
 | 19,_=>rfl
 | 20,_=>rfl
 | 21,_=>rfl
 | 22,_=>rfl
 | 23,_=>rfl
 | 24,_=>rfl
 | 25,_=>rfl
 | 26,_=>rfl
 | 27,_=>rfl
 | 28,_=>rfl
 | 29,_=>rfl
 | 30,_=>rfl
 | 31,_=>rfl
 | 32,_=>rfl
 | 33,_=>rfl
 | 34,_=>rfl
 | 35,_=>rfl
 | 36,_=>rfl
 | 37,_=>rfl
 | 38,_=>rfl
 | (n+39),_=>rfl
theorem gpk_un:∀ n x,gpk n (gun n x)=x
 | 0,x=>by cases x; rfl
 | 1,x=>by cases x; rfl
 | 2,x=>by cases x; rfl
 | 3,x=>by cases x; rfl
 | 4,x=>by cases x; rfl
 | 5,x=>by cases x; rfl
 | 6,x=>by cases x; rfl
 | 7,x=>by cases x; rfl
 | 8,x=>by cases x; rfl
 | 9,x=>by cases x; rfl
 | 10,x=>by cases x; rfl
 | 11,x=>by cases x; rfl
 | 12,x=>by cases x; rfl
 | 13,x=>by cases x; rfl
 | 14,x=>by cases x; rfl
 | 15,x=>by cases x; rfl
 | 16,x=>by cases x; rfl
 | 17,x=>by cases x; rfl
 | 18,x=>by cases x; rfl
 | 19,x=>by cases x; rfl
 | 20,x=>by cases x; rfl
 | 21,x=>by cases x; rfl
 | 22,x=>by cases x; rfl
 | 23,x=>by cases x; rfl
 | 24,x=>by cases x; rfl
 | 25,x=>by cases x; rfl
 | 26,x=>by cases x; rfl
 | 27,x=>by cases x; rfl
 | 28,x=>by cases x; rfl
 | 29,x=>by cases x; rfl
 | 30,x=>by cases x; rfl
 | 31,x=>by cases x; rfl
 | 32,x=>by cases x; rfl
 | 33,x=>by cases x; rfl
 | 34,x=>by cases x; rfl
 | 35,x=>by cases x; rfl
 | 36,x=>by cases x; rfl
 | 37,x=>by cases x; rfl
 | 38,x=>by cases x; rfl
 | (n+39),_=>rfl
def gz:∀ n,gT n
 | 0=>z_laws_Prog
 | 1=>z_laws_Op
 | 2=>z_laws_Sink
 | 3=>z_laws_World
 | 4=>z_laws_Peer
 | 5=>z_laws_Hard
 | 6=>z_laws_Log
 | 7=>z_laws_Entry
 | 8=>z_laws_Cmd
 | 9=>z_laws_Mach
 | 10=>z_laws_State
 | 11=>z_laws_Val
 | 12=>z_laws_Cell
 | 13=>z_laws_Disk
 | 14=>z_laws_Rpc
 | 15=>z_impl_Prog
 | 16=>z_impl_Op
 | 17=>z_impl_Sink
 | 18=>z_impl_World
 | 19=>z_impl_Peer
 | 20=>z_impl_Hard
 | 21=>z_impl_Log
 | 22=>z_impl_Entry
 | 23=>z_impl_Cmd
 | 24=>z_impl_Mach
 | 25=>z_impl_State
 | 26=>z_impl_Val
 | 27=>z_impl_Cell
 | 28=>z_impl_Disk
 | 29=>z_impl_Rpc
 | 30=>z_laws_Rec
 | 31=>z_impl_Rec
 | 32=>z_impl_act
 | 33=>z_spec_l23Work
 | 34=>z_spec_l17Cur
 | 35=>z_impl_source
 | 36=>z_impl_Rex
 | 37=>z_spec_l3Cur
 | 38=>z_impl_rexReader
 | (n+39)=>()
theorem gun_z:∀ n,gun n (gz n)=zeroJs gz (gfs n)
 | 0=>rfl
 | 1=>rfl
 | 2=>rfl
 | 3=>rfl
 | 4=>rfl
 | 5=>rfl
 | 6=>rfl
 | 7=>rfl
 | 8=>rfl
 | 9=>rfl
 | 10=>rfl
 | 11=>rfl
 | 12=>rfl
 | 13=>rfl
 | 14=>rfl
 | 15=>rfl
 | 16=>rfl
 | 17=>rfl
 | 18=>rfl
 | 19=>rfl
 | 20=>rfl
 | 21=>rfl
 | 22=>rfl
 | 23=>rfl
 | 24=>rfl
 | 25=>rfl
 | 26=>rfl
 | 27=>rfl
 | 28=>rfl
 | 29=>rfl
 | 30=>rfl
 | 31=>rfl
 | 32=>rfl
 | 33=>rfl
 | 34=>rfl
 | 35=>rfl
 | 36=>rfl
 | 37=>rfl
 | 38=>rfl
 | (n+39)=>rfl
def gsz:Nat→Nat
 | 0=>4
 | 1=>3
 | 2=>2
 | 3=>12
 | 4=>26
 | 5=>11
 | 6=>3
 | 7=>4
 | 8=>3
 | 9=>6
 | 10=>4
 | 11=>3
 | 12=>5
 | 13=>2
 | 14=>10
 | 15=>4
 | 16=>3
 | 17=>2
 | 18=>12
 | 19=>26
 | 20=>11
 | 21=>3
 | 22=>4
 | 23=>3
 | 24=>6
 | 25=>4
 | 26=>3
 | 27=>5
 | 28=>2
 | 29=>10
 | 30=>6
 | 31=>6
 | 32=>32
 | 33=>32
 | 34=>3
 | 35=>3
 | 36=>5
 | 37=>3
 | 38=>2
 | _=>0
theorem gsz_eq:∀ n,gsz n=FT.szs gsz (gfs n)
 | 0=>rfl
 | 1=>rfl
 | 2=>rfl
 | 3=>rfl
 | 4=>rfl
 | 5=>rfl
 | 6=>rfl
 | 7=>rfl
 | 8=>rfl
 | 9=>rfl
 | 10=>rfl
 | 11=>rfl
 | 12=>rfl
 | 13=>rfl
 | 14=>rfl
 | 15=>rfl
 | 16=>rfl
 | 17=>rfl
 | 18=>rfl
 | 19=>rfl
 | 20=>rfl
 | 21=>rfl
 | 22=>rfl
 | 23=>rfl
 | 24=>rfl
 | 25=>rfl
 | 26=>rfl
 | 27=>rfl
 | 28=>rfl
 | 29=>rfl
 | 30=>rfl
 | 31=>rfl
 | 32=>rfl
 | 33=>rfl
 | 34=>rfl
 | 35=>rfl
 | 36=>rfl
 | 37=>rfl
 | 38=>rfl
 | (n+39)=>rfl
def gfl:Nat→Bool
 | 0=>false
 | 1=>true
 | 2=>true
 | 3=>false
 | 4=>false
 | 5=>false
 | 6=>false
 | 7=>true
 | 8=>true
 | 9=>false
 | 10=>false
 | 11=>true
 | 12=>true
 | 13=>false
 | 14=>false
 | 15=>false
 | 16=>true
 | 17=>true
 | 18=>false
 | 19=>false
 | 20=>false
 | 21=>false
 | 22=>true
 | 23=>true
 | 24=>false
 | 25=>false
 | 26=>true
 | 27=>true
 | 28=>false
 | 29=>false
 | 30=>false
 | 31=>false
 | 32=>false
 | 33=>false
 | 34=>false
 | 35=>false
 | 36=>false
 | 37=>true
 | 38=>true
 | _=>true
theorem gfl_eq:∀ n,gfl n=true→FT.flats gfl (gfs n)=true
 | 0,h=>by cases h
 | 1,h=>rfl
 | 2,h=>rfl
 | 3,h=>by cases h
 | 4,h=>by cases h
 | 5,h=>by cases h
 | 6,h=>by cases h
 | 7,h=>rfl
 | 8,h=>rfl
 | 9,h=>by cases h
 | 10,h=>by cases h
 | 11,h=>rfl
 | 12,h=>rfl
 | 13,h=>by cases h
 | 14,h=>by cases h
 | 15,h=>by cases h
 | 16,h=>rfl
 | 17,h=>rfl
 | 18,h=>by cases h
 | 19,h=>by cases h
 | 20,h=>by cases h
 | 21,h=>by cases h
 | 22,h=>rfl
 | 23,h=>rfl
 | 24,h=>by cases h
 | 25,h=>by cases h
 | 26,h=>rfl
 | 27,h=>rfl
 | 28,h=>by cases h
 | 29,h=>by cases h
 | 30,h=>by cases h
 | 31,h=>by cases h
 | 32,h=>by cases h
 | 33,h=>by cases h
 | 34,h=>by cases h
 | 35,h=>by cases h
 | 36,h=>by cases h
 | 37,h=>rfl
 | 38,h=>rfl
 | (n+39),_=>rfl
def gam:Gam:=⟨gT,gfs,gun,gpk,gun_pk,gpk_un,gz,gun_z,gsz,gsz_eq,gfl,gfl_eq⟩
def tyL:List (Nat × FT):=[(2,(.int .i64)),(3,(.int .i64)),(4,.bool),(5,(.int .u8)),(6,(.int .u8)),(9,.str),(21,(.int .i32)),(22,(.sl .str)),(23,(.sl (.nm 1))),(25,(.nm 0)),(27,(.sl (.nm 14))),(30,(.sl (.int .i64))),(36,(.sl (.nm 16))),(38,(.nm 15)),(40,(.sl (.nm 29))),(48,(.sl (.nm 7))),(50,(.nm 6)),(51,(.sl (.nm 11))),(52,(.sl (.nm 12))),(54,(.nm 10)),(56,(.nm 9)),(58,(.nm 5)),(59,(.sl .bool)),(60,(.sl (.int .u8))),(62,(.nm 13)),(64,(.nm 4)),(66,(.nm 8)),(70,(.sl (.nm 22))),(72,(.nm 21)),(73,(.sl (.nm 26))),(74,(.sl (.nm 27))),(76,(.nm 25)),(78,(.nm 24)),(80,(.nm 20)),(81,(.nm 28)),(83,(.nm 19)),(88,(.nm 23)),(110,(.nm 31)),(131,(.nm 29)),(156,(.nm 22)),(164,(.nm 32)),(179,(.nm 33)),(207,(.nm 14)),(225,(.nm 1)),(230,(.nm 16)),(242,(.nm 26)),(244,(.nm 27)),(252,(.int .u64)),(255,(.nm 7)),(287,(.nm 34)),(291,(.nm 35)),(297,(.sl (.nm 36))),(299,(.nm 36)),(313,(.nm 11)),(316,(.nm 12)),(330,(.int .u32)),(333,(.int .u64)),(338,(.nm 37)),(348,(.nm 38)),(375,(.int .i64))]
def ifcL:List Nat:=[364]
abbrev BT0:BT:=.leaf false .str
abbrev BT1:BT:=.leaf false .bool
abbrev BT2:BT:=.leaf true (.nm 19)
abbrev BT3:BT:=.leaf true (.nm 20)
abbrev BT4:BT:=.leaf true (.nm 21)
abbrev BT5:BT:=.leaf true (.nm 16)
abbrev BT6:BT:=.leaf true (.nm 24)
abbrev BT7:BT:=.leaf true (.nm 37)
abbrev BT8:BT:=.leaf true (.nm 36)
abbrev BT9:BT:=.leaf true (.nm 38)
abbrev BT10:BT:=.leaf false (.nm 0)
abbrev BT11:BT:=.leaf false (.nm 4)
abbrev BT12:BT:=.leaf true (.nm 28)
abbrev BT13:BT:=.leaf true (.nm 25)
abbrev BT14:BT:=.leaf true (.nm 29)
abbrev BT15:BT:=.leaf false (.nm 19)
abbrev BT16:BT:=.leaf false (.nm 15)
abbrev BT17:BT:=.leaf false (.nm 24)
abbrev BT18:BT:=.leaf false (.nm 21)
abbrev BT19:BT:=.leaf false (.nm 25)
abbrev BT20:BT:=.leaf false (.nm 20)
abbrev BT21:BT:=.leaf false (.nm 31)
abbrev BT22:BT:=.leaf false (.nm 35)
abbrev BT23:BT:=.leaf false (.nm 34)
abbrev BT24:BT:=.leaf false (.nm 36)
abbrev BT25:BT:=.leaf false (.nm 33)
abbrev BT26:BT:=.leaf false (.nm 29)
abbrev BT27:BT:=.leaf false (.nm 28)
abbrev BT28:BT:=.leaf false (.nm 16)
abbrev BT29:BT:=.leaf false (.nm 22)
abbrev BT30:BT:=.leaf false (.nm 26)
abbrev BT31:BT:=.leaf false (.nm 27)
abbrev BT32:BT:=.leaf false (.nm 23)
abbrev BT33:BT:=.leaf false (.nm 37)
abbrev BT34:BT:=.leaf false (.nm 38)
abbrev BT35:BT:=.leaf true (.sl .str)
abbrev BT36:BT:=.leaf false (.sl .str)
abbrev BT37:BT:=.leaf true (.sl .bool)
abbrev BT38:BT:=.leaf true (.int .i64)
abbrev BT39:BT:=.leaf false (.int .u8)
abbrev BT40:BT:=.leaf false (.int .i64)
abbrev BT41:BT:=.leaf false (.sl .bool)
abbrev BT42:BT:=.leaf false (.int .u64)
abbrev BT43:BT:=.leaf false (.int .i32)
abbrev BT44:BT:=.leaf false (.sl (.nm 1))
abbrev BT45:BT:=.leaf true (.sl (.nm 16))
abbrev BT46:BT:=.leaf true (.sl (.nm 29))
abbrev BT47:BT:=.leaf true (.sl (.nm 22))
abbrev BT48:BT:=.leaf false (.sl (.nm 7))
abbrev BT49:BT:=.leaf true (.sl (.nm 26))
abbrev BT50:BT:=.leaf true (.sl (.nm 27))
abbrev BT51:BT:=.leaf true (.sl (.nm 36))
abbrev BT52:BT:=.leaf false (.sl (.nm 14))
abbrev BT53:BT:=.leaf false (.sl (.nm 29))
abbrev BT54:BT:=.leaf false (.sl (.nm 16))
abbrev BT55:BT:=.leaf false (.sl (.nm 22))
abbrev BT56:BT:=.leaf false (.sl (.nm 11))
abbrev BT57:BT:=.leaf false (.sl (.nm 12))
abbrev BT58:BT:=.leaf false (.sl (.nm 27))
abbrev BT59:BT:=.leaf false (.sl (.nm 26))
abbrev BT60:BT:=.leaf true (.sl (.int .u8))
abbrev BT61:BT:=.leaf true (.sl (.int .i64))
abbrev BT62:BT:=.leaf false (.sl (.int .u8))
abbrev BT63:BT:=.pr (.leaf false .bool) (.un)
abbrev BT64:BT:=.leaf false (.sl (.int .i64))
abbrev BT65:BT:=.pr (.leaf false (.int .i64)) (.pr (.leaf false .bool) (.un))
abbrev BT67:BT:=.pr (.leaf false (.nm 15)) (.pr (.leaf true (.nm 19)) (.pr (.leaf false (.int .i64)) (.pr (.leaf false .bool) (.un))))
def keyL:List KeyI:=[
 ⟨0,[],[]⟩,
 ⟨1,[],[]⟩,
 ⟨2,[],[]⟩,
 ⟨3,[],[]⟩,
 ⟨4,[],[]⟩,
 ⟨5,[],[]⟩,
 ⟨5,[true,true,true,true,true,true,true,true,false,true,false],[.ptr 4 64,.ptr 6 96,.ptr 8 560,.val 2 (BT40),.val 9 (BT40),.val 10 (BT40),.val 11 (BT40),.slot 64 (BT15) true none,.slot 96 (BT2) true none,.slot 560 (.pr (BT16) (.pr (BT40) (.pr (BT15) (BT63)))) true none]⟩,
 ⟨6,[],[]⟩,
 ⟨6,[true,true,true,true,true,true,true,true,false,true,false],[.ptr 4 64,.ptr 6 96,.ptr 8 560,.val 2 (BT40),.val 9 (BT40),.val 10 (BT40),.val 73 (BT40),.val 74 (BT40),.slot 64 (BT15) true none,.slot 96 (BT2) true none,.slot 560 (BT67) true none]⟩,
 ⟨7,[],[]⟩,
 ⟨8,[],[]⟩,
 ⟨9,[],[]⟩,
 ⟨10,[],[]⟩,
 ⟨11,[],[]⟩,
 ⟨12,[],[]⟩,
 ⟨12,[true,true,true,false,true,false],[.val 0 (BT36),.val 1 (BT40),.val 5 (BT40)]⟩,
 ⟨13,[],[]⟩,
 ⟨13,[true,true,true,false,true,false],[.val 0 (BT44),.val 1 (BT40),.val 5 (BT40)]⟩,
 ⟨14,[],[]⟩,
 ⟨15,[],[]⟩,
 ⟨16,[],[]⟩,
 ⟨17,[],[]⟩,
 ⟨18,[],[]⟩,
 ⟨19,[],[]⟩,
 ⟨19,[true,true,true,false,true,false],[.val 0 (BT52),.val 1 (BT40),.val 5 (BT40)]⟩,
 ⟨20,[],[]⟩,
 ⟨20,[true,true,false,true,false],[.val 0 (BT36),.own 3 48 (BT35),.val 4 (BT40)]⟩,
 ⟨21,[],[]⟩,
 ⟨21,[true,true,false,true,false],[.val 0 (BT44),.own 3 48 (BT45),.val 4 (BT40)]⟩,
 ⟨22,[],[]⟩,
 ⟨23,[],[]⟩,
 ⟨23,[true,true,false,true,false],[.val 0 (BT41),.own 3 48 (BT37),.val 4 (BT40)]⟩,
 ⟨24,[],[]⟩,
 ⟨24,[true,true,false,true,false],[.val 0 (BT64),.own 3 48 (BT61),.val 4 (BT40)]⟩,
 ⟨25,[],[]⟩,
 ⟨26,[],[]⟩,
 ⟨27,[],[]⟩,
 ⟨27,[true,true,false,true,false],[.val 0 (BT52),.own 3 48 (BT46),.val 4 (BT40)]⟩,
 ⟨28,[],[]⟩,
 ⟨28,[true,true,true,false,true,false],[.ptr 3 48,.ptr 4 64,.val 2 (BT40),.val 7 (BT40),.val 9 (BT40),.slot 48 (BT16) true none,.slot 64 (BT15) true none]⟩,
 ⟨28,[true,true,true,true,false,true,false],[.ptr 3 48,.ptr 4 64,.val 2 (BT40),.val 7 (BT40),.val 10 (BT40),.slot 48 (BT16) true none,.slot 64 (BT15) true none]⟩,
 ⟨29,[],[]⟩,
 ⟨30,[],[]⟩,
 ⟨31,[],[]⟩,
 ⟨32,[],[]⟩,
 ⟨33,[],[]⟩,
 ⟨34,[],[]⟩,
 ⟨35,[],[]⟩,
 ⟨36,[],[]⟩,
 ⟨37,[],[]⟩,
 ⟨38,[],[]⟩,
 ⟨39,[],[]⟩,
 ⟨40,[],[]⟩,
 ⟨41,[],[]⟩,
 ⟨42,[],[]⟩,
 ⟨43,[],[]⟩,
 ⟨44,[],[]⟩,
 ⟨44,[true,true,false,true,false],[.val 0 (BT41),.val 1 (BT41),.val 5 (BT40)]⟩,
 ⟨45,[],[]⟩,
 ⟨45,[true,true,false,true,false],[.val 0 (BT64),.val 1 (BT64),.val 5 (BT40)]⟩,
 ⟨46,[],[]⟩,
 ⟨47,[],[]⟩,
 ⟨48,[],[]⟩,
 ⟨48,[true,true,false,true,false],[.val 0 (BT53),.val 1 (BT53),.val 5 (BT40)]⟩,
 ⟨49,[],[]⟩,
 ⟨49,[true,true,false,true,false],[.val 0 (BT36),.val 1 (BT36),.val 5 (BT40)]⟩,
 ⟨50,[],[]⟩,
 ⟨50,[true,true,false,true,false],[.val 0 (BT54),.val 1 (BT54),.val 5 (BT40)]⟩,
 ⟨51,[],[]⟩,
 ⟨51,[true,false,true,false],[.own 0 320 (BT35),.val 1 (BT40),.val 5 (BT40)]⟩,
 ⟨52,[],[]⟩,
 ⟨52,[true,false,true,false],[.own 0 560 (BT45),.val 1 (BT40),.val 5 (BT40)]⟩,
 ⟨53,[],[]⟩,
 ⟨54,[],[]⟩,
 ⟨54,[true,false,true,false],[.own 0 0 (BT37),.val 1 (BT40),.val 5 (BT40)]⟩,
 ⟨55,[],[]⟩,
 ⟨55,[true,false,true,false],[.own 0 0 (BT61),.val 1 (BT40),.val 5 (BT40)]⟩,
 ⟨56,[],[]⟩,
 ⟨57,[],[]⟩,
 ⟨58,[],[]⟩,
 ⟨58,[true,false,true,false],[.own 0 0 (BT46),.val 1 (BT40),.val 5 (BT40)]⟩,
 ⟨59,[],[]⟩,
 ⟨60,[],[]⟩,
 ⟨60,[true,false,true,false],[.val 0 (BT41),.val 1 (BT40),.val 5 (BT40)]⟩,
 ⟨61,[],[]⟩,
 ⟨61,[true,false,true,false],[.val 0 (BT64),.val 1 (BT40),.val 5 (BT40)]⟩,
 ⟨62,[],[]⟩,
 ⟨63,[],[]⟩,
 ⟨64,[],[]⟩,
 ⟨64,[true,false,true,false],[.val 0 (BT53),.val 1 (BT40),.val 5 (BT40)]⟩,
 ⟨65,[],[]⟩,
 ⟨66,[],[]⟩,
 ⟨67,[],[]⟩,
 ⟨68,[],[]⟩,
 ⟨69,[],[]⟩,
 ⟨70,[],[]⟩,
 ⟨71,[],[]⟩,
 ⟨72,[],[]⟩,
 ⟨73,[],[]⟩,
 ⟨73,[true,true,false,true,false],[.val 0 (BT62),.own 3 48 (BT60),.val 4 (BT40)]⟩,
 ⟨74,[],[]⟩,
 ⟨75,[],[]⟩,
 ⟨76,[],[]⟩,
 ⟨77,[],[]⟩,
 ⟨78,[],[]⟩,
 ⟨78,[true,false,true,false],[.ptr 2 32,.ptr 3 48,.val 5 (BT40),.slot 32 (BT16) true none,.slot 48 (BT17) true none]⟩,
 ⟨79,[],[]⟩,
 ⟨80,[],[]⟩,
 ⟨81,[],[]⟩,
 ⟨82,[],[]⟩,
 ⟨83,[],[]⟩,
 ⟨83,[true,true,false,true,false],[.val 0 (BT53),.own 3 48 (BT46),.val 4 (BT40)]⟩,
 ⟨84,[],[]⟩,
 ⟨85,[],[]⟩,
 ⟨86,[],[]⟩,
 ⟨86,[true,true,false,true,false],[.val 0 (BT40),.val 1 (BT40),.own 5 80 (BT61),.val 6 (BT40)]⟩,
 ⟨87,[],[]⟩,
 ⟨88,[],[]⟩,
 ⟨89,[],[]⟩,
 ⟨90,[],[]⟩,
 ⟨91,[],[]⟩,
 ⟨92,[],[]⟩,
 ⟨93,[],[]⟩,
 ⟨94,[],[]⟩,
 ⟨95,[],[]⟩,
 ⟨96,[],[]⟩,
 ⟨96,[true,true,false,true,false],[.own 3 48 (BT46),.val 6 (BT53),.val 7 (BT40),.val 8 (BT40)]⟩,
 ⟨97,[],[]⟩,
 ⟨98,[],[]⟩,
 ⟨99,[],[]⟩,
 ⟨100,[],[]⟩,
 ⟨101,[],[]⟩,
 ⟨101,[true,true],[.val 0 (BT64),.val 1 (BT40)]⟩,
 ⟨101,[true,true,true,true],[.val 0 (BT64),.val 6 (BT42)]⟩,
 ⟨101,[true,true,true,true,true,true,false,false],[.own 7 112 (BT61),.val 8 (BT40)]⟩,
 ⟨102,[],[]⟩,
 ⟨103,[],[]⟩,
 ⟨104,[],[]⟩,
 ⟨105,[],[]⟩,
 ⟨105,[true,true,false,true,false],[.val 0 (BT62),.val 1 (BT62),.val 5 (BT40)]⟩,
 ⟨106,[],[]⟩,
 ⟨107,[],[]⟩,
 ⟨108,[],[]⟩,
 ⟨108,[true,true,true,false,false],[.val 0 (BT40),.val 3 (BT0)]⟩,
 ⟨109,[],[]⟩,
 ⟨110,[],[]⟩,
 ⟨111,[],[]⟩,
 ⟨111,[true,false,true,false],[.own 0 0 (BT60),.val 1 (BT40),.val 5 (BT40)]⟩,
 ⟨112,[],[]⟩,
 ⟨112,[true,false,true,false],[.own 0 0 (BT47),.val 1 (BT40),.val 5 (BT40)]⟩,
 ⟨113,[],[]⟩,
 ⟨114,[],[]⟩,
 ⟨115,[],[]⟩,
 ⟨115,[true,false,true,false],[.val 0 (BT62),.val 1 (BT40),.val 5 (BT40)]⟩,
 ⟨116,[],[]⟩,
 ⟨116,[true,false,true,false],[.val 0 (BT55),.val 1 (BT40),.val 5 (BT40)]⟩,
 ⟨117,[],[]⟩,
 ⟨117,[true,true,true,false,true,false],[.val 0 (BT48),.val 1 (BT40),.val 5 (BT40)]⟩,
 ⟨118,[],[]⟩,
 ⟨118,[true,true,true,false,true,false],[.val 0 (BT56),.val 1 (BT40),.val 5 (BT40)]⟩,
 ⟨119,[],[]⟩,
 ⟨119,[true,true,true,false,true,false],[.val 0 (BT57),.val 1 (BT40),.val 5 (BT40)]⟩,
 ⟨120,[],[]⟩,
 ⟨120,[true,true,false,true,false],[.val 0 (BT48),.own 3 48 (BT47),.val 4 (BT40)]⟩,
 ⟨121,[],[]⟩,
 ⟨121,[true,true,false,true,false],[.val 0 (BT56),.own 3 48 (BT49),.val 4 (BT40)]⟩,
 ⟨122,[],[]⟩,
 ⟨122,[true,true,false,true,false],[.val 0 (BT57),.own 3 48 (BT50),.val 4 (BT40)]⟩,
 ⟨123,[],[]⟩,
 ⟨123,[true,true,true,false,true,false],[.ptr 1 16,.val 3 (BT40),.val 4 (BT40),.slot 16 (BT18) true none]⟩,
 ⟨124,[],[]⟩,
 ⟨124,[true,false,true,false],[.val 0 (BT55),.val 1 (BT40),.val 5 (BT40)]⟩,
 ⟨125,[],[]⟩,
 ⟨125,[true,false,true,false],[.ptr 1 16,.val 3 (BT40),.slot 16 (BT16) true none]⟩,
 ⟨125,[true,true,false,true,false],[.ptr 1 16,.val 4 (BT40),.slot 16 (BT16) true none]⟩,
 ⟨126,[],[]⟩,
 ⟨126,[true,false,true,false],[.ptr 3 48,.val 1 (BT40),.val 2 (BT40),.val 7 (BT40),.slot 48 (BT19) true none]⟩,
 ⟨126,[true,true,false,true,false],[.ptr 3 48,.val 1 (BT40),.val 2 (BT40),.val 8 (BT40),.slot 48 (BT19) true none]⟩,
 ⟨127,[],[]⟩,
 ⟨128,[],[]⟩,
 ⟨129,[],[]⟩,
 ⟨130,[],[]⟩,
 ⟨131,[],[]⟩,
 ⟨132,[],[]⟩,
 ⟨133,[],[]⟩,
 ⟨134,[],[]⟩,
 ⟨135,[],[]⟩,
 ⟨136,[],[]⟩,
 ⟨136,[true,true,true,false,true,false],[.val 3 (BT40),.val 28 (BT55),.val 29 (BT40),.val 30 (BT40)]⟩,
 ⟨137,[],[]⟩,
 ⟨138,[],[]⟩,
 ⟨139,[],[]⟩,
 ⟨139,[true,true,false,true,false],[.ptr 3 48,.val 2 (BT40),.val 38 (BT58),.val 39 (BT40),.val 40 (BT40),.slot 48 (BT19) true none]⟩,
 ⟨140,[],[]⟩,
 ⟨141,[],[]⟩,
 ⟨141,[true,false,true,false],[.clo 1 171 [16,17],.val 0 (BT53),.val 7 (BT40),.val 8 (BT40),.slot 16 (BT38) true none,.slot 17 (BT15) true none]⟩,
 ⟨142,[],[]⟩,
 ⟨143,[],[]⟩,
 ⟨144,[],[]⟩,
 ⟨145,[],[]⟩,
 ⟨146,[],[]⟩,
 ⟨146,[true,true,true,true],[.ptr 3 48,.ptr 4 64,.ptr 6 96,.ptr 7 112,.slot 48 (BT16) true none,.slot 64 (BT20) true none,.slot 96 (BT3) true none,.slot 112 (BT3) true none]⟩,
 ⟨147,[],[]⟩,
 ⟨147,[true,true,true,false,true,false],[.ptr 1 16,.own 3 48 (BT60),.val 28 (BT64),.val 29 (BT40),.val 30 (BT40),.slot 16 (BT21) true none]⟩,
 ⟨147,[true,true,true,true,false,true,false],[.ptr 1 16,.own 3 48 (BT60),.val 40 (BT55),.val 41 (BT40),.val 42 (BT40),.slot 16 (BT21) true none]⟩,
 ⟨147,[true,true,true,true,false,true,false,false,true,true,false,false,true,false,true,false],[.ptr 1 16,.ptr 7 112,.own 3 48 (BT60),.val 40 (BT55),.val 41 (BT40),.val 42 (BT40),.val 55 (BT64),.val 56 (BT40),.val 57 (BT40),.slot 16 (BT21) true none,.slot 112 (.leaf true (.nm 22)) true none]⟩,
 ⟨148,[],[]⟩,
 ⟨149,[],[]⟩,
 ⟨150,[],[]⟩,
 ⟨151,[],[]⟩,
 ⟨151,[true,true,false,true,false],[.val 0 (BT55),.val 1 (BT55),.val 5 (BT40)]⟩,
 ⟨152,[],[]⟩,
 ⟨152,[true,true,false,true,false],[.val 0 (BT59),.val 1 (BT59),.val 5 (BT40)]⟩,
 ⟨153,[],[]⟩,
 ⟨153,[true,true,false,true,false],[.val 0 (BT58),.val 1 (BT58),.val 5 (BT40)]⟩,
 ⟨154,[],[]⟩,
 ⟨154,[true,false,true,false],[.own 0 0 (BT49),.val 1 (BT40),.val 5 (BT40)]⟩,
 ⟨155,[],[]⟩,
 ⟨155,[true,false,true,false],[.own 0 0 (BT50),.val 1 (BT40),.val 5 (BT40)]⟩,
 ⟨156,[],[]⟩,
 ⟨156,[true,false,true,false],[.val 0 (BT59),.val 1 (BT40),.val 5 (BT40)]⟩,
 ⟨157,[],[]⟩,
 ⟨157,[true,false,true,false],[.val 0 (BT58),.val 1 (BT40),.val 5 (BT40)]⟩,
 ⟨158,[],[]⟩,
 ⟨159,[],[]⟩,
 ⟨160,[],[]⟩,
 ⟨161,[],[]⟩,
 ⟨162,[],[]⟩,
 ⟨163,[],[]⟩,
 ⟨164,[],[]⟩,
 ⟨165,[],[]⟩,
 ⟨165,[true,false,true,false],[.val 0 (BT0),.val 3 (BT40)]⟩,
 ⟨166,[],[]⟩,
 ⟨166,[true,false,true,false],[.val 0 (BT36),.val 1 (BT0),.val 5 (BT40)]⟩,
 ⟨167,[],[]⟩,
 ⟨167,[true,true,true,false,true,false],[.val 0 (BT54),.val 1 (BT40),.val 2 (BT40),.val 7 (BT40),.val 8 (BT40)]⟩,
 ⟨168,[],[]⟩,
 ⟨169,[],[]⟩,
 ⟨170,[],[]⟩,
 ⟨170,[true,true,true,true,true,false,true,false],[.ptr 1 16,.own 3 48 (BT60),.val 4 (BT40),.slot 16 (BT21) true none]⟩,
 ⟨171,[],[]⟩,
 ⟨171,[true,true,true,false,false],[.val 0 (BT40),.own 3 48 (BT60)]⟩,
 ⟨172,[],[]⟩,
 ⟨173,[],[]⟩,
 ⟨173,[true,true],[.ptr 4 64,.ptr 6 96,.slot 64 (BT20) true none,.slot 96 (BT3) true none]⟩,
 ⟨174,[],[]⟩,
 ⟨175,[],[]⟩,
 ⟨175,[true,false,true,false],[.clo 1 175 [16,17],.val 0 (BT64),.val 7 (BT40),.val 8 (BT40),.slot 16 (BT38) true none,.slot 17 (BT38) true none]⟩,
 ⟨176,[],[]⟩,
 ⟨176,[true,false,true,false],[.val 0 (BT36),.val 5 (BT36),.val 6 (BT40),.val 7 (BT40)]⟩,
 ⟨177,[],[]⟩,
 ⟨178,[],[]⟩,
 ⟨179,[],[]⟩,
 ⟨180,[],[]⟩,
 ⟨181,[],[]⟩,
 ⟨182,[],[]⟩,
 ⟨182,[true,false,true,false],[.clo 1 242 [],.val 0 (BT64),.val 7 (BT40),.val 8 (BT40)]⟩,
 ⟨183,[],[]⟩,
 ⟨184,[],[]⟩,
 ⟨185,[],[]⟩,
 ⟨186,[],[]⟩,
 ⟨187,[],[]⟩,
 ⟨187,[true,true,true,true,false,true,false],[.ptr 4 64,.ptr 8 128,.ptr 10 160,.val 1 (BT40),.val 31 (BT55),.val 32 (BT40),.val 33 (BT40),.slot 64 (BT18) true none,.slot 128 (BT4) true none,.slot 160 (BT4) true none]⟩,
 ⟨188,[],[]⟩,
 ⟨189,[],[]⟩,
 ⟨189,[true,true,true,false,false],[.val 0 (BT40),.own 3 48 (BT60)]⟩,
 ⟨190,[],[]⟩,
 ⟨191,[],[]⟩,
 ⟨191,[true,true,false,true,false],[.val 3 (BT40),.val 4 (BT40),.val 7 (BT62),.val 8 (BT40),.val 9 (BT40)]⟩,
 ⟨192,[],[]⟩,
 ⟨193,[],[]⟩,
 ⟨194,[],[]⟩,
 ⟨195,[],[]⟩,
 ⟨196,[],[]⟩,
 ⟨197,[],[]⟩,
 ⟨198,[],[]⟩,
 ⟨199,[],[]⟩,
 ⟨199,[true,false,true,false],[.val 0 (BT0),.val 3 (BT40)]⟩,
 ⟨200,[],[]⟩,
 ⟨201,[],[]⟩,
 ⟨202,[],[]⟩,
 ⟨202,[true,false,true,false,true,true,true,true,true],[.ptr 4 64,.val 1 (BT40),.val 2 (BT40),.val 3 (BT40),.val 12 (BT40),.val 28 (BT1),.slot 64 (BT5) true none]⟩,
 ⟨202,[true,false,true,false,true,true,true,true,true,true,true],[.ptr 4 64,.val 1 (BT40),.val 3 (BT40),.val 12 (BT40),.val 46 (BT1),.slot 64 (BT5) true none]⟩,
 ⟨202,[true,false,true,false,true,true,true,true,true,true,true,true,true],[.ptr 4 64,.val 1 (BT40),.val 12 (BT40),.val 65 (BT1),.slot 64 (BT5) true none]⟩,
 ⟨202,[true,false,true,false,true,true,true,true,true,true,true,true,true,true,true,true,true],[.ptr 4 64,.val 1 (BT40),.val 12 (BT40),.val 91 (BT1),.slot 64 (BT5) true none]⟩,
 ⟨203,[],[]⟩,
 ⟨204,[],[]⟩,
 ⟨204,[true,true,true,false,false],[.val 0 (BT0),.val 4 (BT40),.val 5 (BT40)]⟩,
 ⟨205,[],[]⟩,
 ⟨206,[],[]⟩,
 ⟨206,[true,true,false,true,false],[.val 0 (BT62),.val 3 (BT40),.val 4 (BT40),.val 5 (BT40)]⟩,
 ⟨207,[],[]⟩,
 ⟨207,[true,true,true,true,false,true,false],[.ptr 4 64,.ptr 8 128,.ptr 10 160,.val 1 (BT40),.val 3 (BT55),.val 11 (BT40),.slot 64 (BT18) true none,.slot 128 (BT4) true none,.slot 160 (BT4) true none]⟩,
 ⟨208,[],[]⟩,
 ⟨209,[],[]⟩,
 ⟨210,[],[]⟩,
 ⟨211,[],[]⟩,
 ⟨212,[],[]⟩,
 ⟨213,[],[]⟩,
 ⟨214,[],[]⟩,
 ⟨214,[true,false,true,false],[.clo 1 165 [16],.val 0 (BT36),.val 7 (BT40),.val 8 (BT40),.slot 16 (BT16) true none]⟩,
 ⟨215,[],[]⟩,
 ⟨216,[],[]⟩,
 ⟨216,[true,false,true,false],[.clo 1 283 [],.val 0 (BT59),.val 7 (BT40),.val 8 (BT40)]⟩,
 ⟨217,[],[]⟩,
 ⟨218,[],[]⟩,
 ⟨219,[],[]⟩,
 ⟨220,[],[]⟩,
 ⟨221,[],[]⟩,
 ⟨222,[],[]⟩,
 ⟨223,[],[]⟩,
 ⟨223,[true,true,true,false,true,false],[.ptr 2 32,.ptr 4 64,.ptr 6 176,.ptr 7 112,.val 1 (BT62),.val 14 (BT40),.val 15 (BT40),.slot 32 (BT16) true none,.slot 64 (BT6) true none,.slot 112 (BT6) true none,.slot 176 (BT22) true none]⟩,
 ⟨223,[true,true,true,true,false,true,false],[.ptr 2 32,.ptr 4 64,.ptr 6 176,.ptr 7 112,.val 1 (BT62),.val 28 (BT40),.val 29 (BT40),.slot 32 (BT16) true none,.slot 64 (BT6) true none,.slot 112 (BT6) true none,.slot 176 (BT22) true none]⟩,
 ⟨223,[true,true,true,true,true,true,true,false,true,false],[.ptr 2 32,.ptr 4 64,.ptr 6 176,.ptr 7 112,.val 1 (BT62),.val 57 (BT40),.slot 32 (BT16) true none,.slot 64 (BT6) true none,.slot 112 (BT6) true none,.slot 176 (BT22) true none]⟩,
 ⟨224,[],[]⟩,
 ⟨225,[],[]⟩,
 ⟨226,[],[]⟩,
 ⟨227,[],[]⟩,
 ⟨228,[],[]⟩,
 ⟨229,[],[]⟩,
 ⟨229,[true,true,false,false],[.val 0 (BT0),.val 4 (BT40)]⟩,
 ⟨229,[true,true,true,true,true],[.val 0 (BT0),.val 4 (BT40),.val 5 (BT1)]⟩,
 ⟨229,[true,true,true,true,true,true,false,false],[.val 0 (BT0),.val 4 (BT40),.val 5 (BT1),.val 6 (BT40),.val 7 (BT40)]⟩,
 ⟨229,[true,true,true,true,true,true,true,false,true,false,true,true,false],[.val 0 (BT0),.val 4 (BT40),.val 5 (BT1),.val 6 (BT40),.val 7 (BT40),.val 8 (BT40)]⟩,
 ⟨229,[true,true,true,true,true,true,true,true],[.val 4 (BT40),.val 5 (BT1),.val 6 (BT40),.val 7 (BT40)]⟩,
 ⟨230,[],[]⟩,
 ⟨230,[true,true,true,false,true,false],[.ptr 0 0,.ptr 2 32,.ptr 3 48,.val 4 (BT40),.val 5 (BT40),.slot 0 (BT23) true none,.slot 32 (BT6) true none,.slot 48 (BT6) true none]⟩,
 ⟨230,[true,true,true,true,true,false,true,false],[.ptr 0 0,.ptr 2 32,.ptr 3 48,.val 4 (BT40),.val 7 (BT40),.slot 0 (BT23) true none,.slot 32 (BT6) true none,.slot 48 (BT6) true none]⟩,
 ⟨230,[true,true,true,true,true,true,true,true,false,true,false],[.ptr 0 0,.ptr 2 32,.ptr 3 48,.val 9 (BT40),.slot 0 (BT23) true none,.slot 32 (BT6) true none,.slot 48 (BT6) true none]⟩,
 ⟨231,[],[]⟩,
 ⟨232,[],[]⟩,
 ⟨233,[],[]⟩,
 ⟨233,[true,true,false,false],[.val 0 (BT0),.val 1 (BT40),.val 5 (BT40)]⟩,
 ⟨234,[],[]⟩,
 ⟨234,[true,false,true,false,true],[.val 0 (BT0),.val 4 (BT1)]⟩,
 ⟨235,[],[]⟩,
 ⟨236,[],[]⟩,
 ⟨236,[true,false,true,false],[.clo 1 239 [16,17,18],.val 0 (BT54),.val 7 (BT40),.val 8 (BT40),.slot 16 (BT54) true none,.slot 17 (BT38) true none,.slot 18 (BT38) true none]⟩,
 ⟨237,[],[]⟩,
 ⟨238,[],[]⟩,
 ⟨238,[true,true,true,true],[.val 0 (BT0),.val 4 (BT40),.val 5 (BT1)]⟩,
 ⟨238,[true,true,true,true,true,true,true,true,true],[.val 4 (BT40),.val 5 (BT1),.val 7 (BT0),.val 8 (BT0)]⟩,
 ⟨239,[],[]⟩,
 ⟨240,[],[]⟩,
 ⟨241,[],[]⟩,
 ⟨242,[],[]⟩,
 ⟨243,[],[]⟩,
 ⟨244,[],[]⟩,
 ⟨245,[],[]⟩,
 ⟨245,[true,false,true,false],[.clo 1 244 [16],.val 0 (BT55),.val 7 (BT40),.val 8 (BT40),.slot 16 (BT38) true none]⟩,
 ⟨246,[],[]⟩,
 ⟨246,[true,true,false,false],[.ptr 0 0,.ptr 4 64,.val 1 (BT40),.own 5 80 (BT51),.slot 0 (BT7) true none,.slot 64 (BT8) true none]⟩,
 ⟨247,[],[]⟩,
 ⟨247,[true,true,false,true,false],[.ptr 1 16,.val 3 (BT40),.val 4 (BT40),.slot 16 (BT24) true none]⟩,
 ⟨248,[],[]⟩,
 ⟨249,[],[]⟩,
 ⟨250,[],[]⟩,
 ⟨251,[],[]⟩,
 ⟨252,[],[]⟩,
 ⟨253,[],[]⟩,
 ⟨254,[],[]⟩,
 ⟨255,[],[]⟩,
 ⟨256,[],[]⟩,
 ⟨257,[],[]⟩,
 ⟨258,[],[]⟩,
 ⟨258,[true,true,false,false],[.val 0 (BT0),.val 1 (BT40),.val 5 (BT40)]⟩,
 ⟨259,[],[]⟩,
 ⟨260,[],[]⟩,
 ⟨260,[true,false,false],[.val 0 (BT0),.val 1 (BT39)]⟩,
 ⟨261,[],[]⟩,
 ⟨261,[true,false,false],[.val 0 (BT0),.val 1 (BT39)]⟩,
 ⟨262,[],[]⟩,
 ⟨263,[],[]⟩,
 ⟨263,[true,true,true,false,true,false],[.val 0 (BT62),.val 1 (BT40),.val 7 (BT40),.val 8 (BT40)]⟩,
 ⟨264,[],[]⟩,
 ⟨264,[true,true,true,true],[.val 8 (BT40),.val 9 (BT1),.val 10 (BT40)]⟩,
 ⟨265,[],[]⟩,
 ⟨266,[],[]⟩,
 ⟨267,[],[]⟩,
 ⟨267,[true,true,false,false],[.ptr 0 0,.ptr 4 64,.val 1 (BT40),.own 5 80 (BT51),.slot 0 (BT7) true none,.slot 64 (BT8) true none]⟩,
 ⟨268,[],[]⟩,
 ⟨269,[],[]⟩,
 ⟨270,[],[]⟩,
 ⟨270,[true,true,false,true,false],[.val 0 (BT62),.val 1 (BT40),.val 7 (BT40),.val 8 (BT40)]⟩,
 ⟨271,[],[]⟩,
 ⟨272,[],[]⟩,
 ⟨273,[],[]⟩,
 ⟨274,[],[]⟩,
 ⟨274,[true,false,true,false],[.val 0 (BT36),.val 1 (BT0),.val 7 (BT40),.val 8 (BT40)]⟩,
 ⟨275,[],[]⟩,
 ⟨275,[true,true,true,false,true,false,true,true,true],[.ptr 4 64,.val 1 (BT40),.val 2 (BT40),.val 3 (BT40),.val 56 (BT40),.val 62 (BT1),.slot 64 (BT5) true none]⟩,
 ⟨275,[true,true,true,false,true,false,true,true,true,true,true],[.ptr 4 64,.val 1 (BT40),.val 3 (BT40),.val 56 (BT40),.val 75 (BT1),.slot 64 (BT5) true none]⟩,
 ⟨275,[true,true,true,false,true,false,true,true,true,true,true,true,true],[.ptr 4 64,.val 1 (BT40),.val 56 (BT40),.val 89 (BT1),.slot 64 (BT5) true none]⟩,
 ⟨275,[true,true,true,false,true,false,true,true,true,true,true,true,true,true,true,true,true],[.ptr 4 64,.val 1 (BT40),.val 56 (BT40),.val 106 (BT1),.slot 64 (BT5) true none]⟩,
 ⟨276,[],[]⟩,
 ⟨277,[],[]⟩,
 ⟨278,[],[]⟩,
 ⟨278,[true,true,false,false],[.ptr 0 0,.ptr 4 64,.ptr 5 80,.slot 0 (BT7) true none,.slot 64 (BT8) true none,.slot 80 (BT8) true none]⟩,
 ⟨278,[true,true,false,false,false,true,false,true,true],[.ptr 0 0,.ptr 4 64,.ptr 5 80,.val 6 (BT40),.slot 0 (BT7) true none,.slot 64 (BT8) true none,.slot 80 (BT8) true none]⟩,
 ⟨279,[],[]⟩,
 ⟨279,[true,true,true,true,true],[.val 8 (BT40),.val 10 (BT40)]⟩,
 ⟨280,[],[]⟩,
 ⟨281,[],[]⟩,
 ⟨281,[true,true,true,true,true],[.val 0 (BT40),.val 4 (BT36),.val 5 (BT0)]⟩,
 ⟨281,[true,true,true,true,false,true,false,true,true,true],[.val 0 (BT40),.val 4 (BT36),.val 5 (BT0),.val 13 (BT40),.val 16 (BT1)]⟩,
 ⟨281,[true,true,true,true,false,true,false,true,true,true,true,true,true,true],[.val 0 (BT40),.val 4 (BT36),.val 5 (BT0),.val 22 (BT1)]⟩,
 ⟨282,[],[]⟩,
 ⟨283,[],[]⟩,
 ⟨283,[true,true,false,true,false,true,true],[.val 0 (BT0),.val 5 (BT0)]⟩,
 ⟨283,[true,true,false,true,false,true,true,true,false,true,false],[.val 5 (BT0),.val 6 (BT40),.val 47 (BT62),.val 48 (BT40),.val 49 (BT40)]⟩,
 ⟨284,[],[]⟩,
 ⟨284,[true,true,true,true,true],[.ptr 4 64,.val 5 (BT39),.slot 0 (BT7) true none,.slot 64 (BT8) true none]⟩,
 ⟨285,[],[]⟩,
 ⟨286,[],[]⟩,
 ⟨287,[],[]⟩,
 ⟨287,[true,true,true,true],[.val 0 (BT0),.val 1 (BT40),.val 2 (BT40),.val 8 (BT1)]⟩,
 ⟨287,[true,true,true,true,true,true,true,true],[.val 2 (BT40),.val 8 (BT1),.val 9 (BT42)]⟩,
 ⟨288,[],[]⟩,
 ⟨288,[true,true,true],[.ptr 0 0,.ptr 2 32,.ptr 3 48,.slot 0 (BT7) true none,.slot 32 (BT8) true none,.slot 48 (BT8) true none]⟩,
 ⟨288,[true,true,true,true,true,false,false],[.ptr 0 0,.ptr 2 32,.ptr 3 48,.own 4 64 (BT37),.val 5 (BT40),.slot 0 (BT7) true none,.slot 32 (BT8) true none,.slot 48 (BT8) true none]⟩,
 ⟨288,[true,true,true,true,true,false,false,false,true,false,true,true,true,true],[.ptr 0 0,.ptr 2 32,.ptr 3 48,.own 4 64 (BT37),.val 5 (BT40),.val 6 (BT40),.val 7 (BT40),.slot 0 (BT7) true none,.slot 32 (BT8) true none,.slot 48 (BT8) true none]⟩,
 ⟨288,[true,true,true,true,true,true,true],[.ptr 0 0,.ptr 2 32,.ptr 3 48,.val 4 (BT41),.slot 0 (BT7) true none,.slot 32 (BT8) true none,.slot 48 (BT8) true none]⟩,
 ⟨288,[true,true,true,true,true,false,false,false,true,false,true,true,true,true,true],[.ptr 0 0,.ptr 2 32,.ptr 3 48,.own 4 64 (BT37),.val 5 (BT40),.val 6 (BT40),.val 7 (BT40),.slot 0 (BT7) true none,.slot 32 (BT8) true none,.slot 48 (BT8) true none]⟩,
 ⟨288,[true,true,true,true,true,true,true,true,true,false,true,false],[.ptr 2 32,.ptr 3 48,.val 4 (BT41),.own 9 144 (BT60),.val 10 (BT40),.slot 0 (BT7) true none,.slot 32 (BT8) true none,.slot 48 (BT8) true none]⟩,
 ⟨288,[true,true,true,true,true,false,false,false,true,false,true,true,true,true,true,false,true,false],[.ptr 0 0,.ptr 2 32,.ptr 3 48,.own 4 64 (BT37),.val 5 (BT40),.val 7 (BT40),.val 8 (BT40),.slot 0 (BT7) true none,.slot 32 (BT8) true none,.slot 48 (BT8) true none]⟩,
 ⟨289,[],[]⟩,
 ⟨289,[true,true,false,false],[.ptr 0 0,.ptr 2 32,.own 3 48 (BT51),.slot 0 (BT9) true none,.slot 32 (BT8) true none]⟩,
 ⟨290,[],[]⟩,
 ⟨290,[true,true,false,true,false],[.val 3 (BT40),.val 7 (.leaf false (.sl (.nm 36))),.val 8 (BT40),.val 9 (BT40)]⟩,
 ⟨291,[],[]⟩,
 ⟨291,[true,true,true,true,true],[.val 0 (BT0),.val 1 (BT40),.val 2 (BT40),.val 8 (BT1),.val 9 (BT0)]⟩,
 ⟨291,[true,true,true,true,true,true],[.val 0 (BT0),.val 1 (BT40),.val 2 (BT40),.val 8 (BT1),.val 9 (BT0)]⟩,
 ⟨291,[true,true,true,true,true,true,true,true],[.val 0 (BT0),.val 1 (BT40),.val 2 (BT40),.val 8 (BT1),.val 9 (BT0),.val 10 (BT42)]⟩,
 ⟨291,[true,true,true,true,true,true,true,true,true,true,true,false,true,false],[.val 1 (BT40),.val 8 (BT1),.val 9 (BT0),.val 10 (BT42),.val 11 (BT42),.val 12 (BT1),.val 13 (BT42),.val 99 (BT62),.val 100 (BT40),.val 101 (BT40)]⟩,
 ⟨291,[true,true,true,true,true,true,true,true,true,true,true,false,true,false,false,true,true,false,false,true,true,true],[.val 1 (BT40),.val 8 (BT1),.val 9 (BT0),.val 10 (BT42),.val 11 (BT42),.val 12 (BT1),.val 13 (BT42),.val 16 (BT39),.val 99 (BT62),.val 100 (BT40),.val 101 (BT40)]⟩,
 ⟨292,[],[]⟩,
 ⟨292,[true,true,false,false],[.ptr 0 0,.ptr 2 32,.own 3 48 (BT51),.slot 0 (BT9) true none,.slot 32 (BT8) true none]⟩,
 ⟨293,[],[]⟩,
 ⟨294,[],[]⟩,
 ⟨295,[],[]⟩,
 ⟨295,[true,true,true,true],[.val 0 (BT0),.val 3 (BT43),.val 4 (BT40)]⟩,
 ⟨295,[true,true,true,true,true,true],[.val 0 (BT0),.val 3 (BT43),.val 4 (BT40),.val 5 (BT1)]⟩,
 ⟨295,[true,true,true,true,true,true,false,false],[.val 0 (BT0),.val 3 (BT43),.val 4 (BT40),.val 5 (BT1)]⟩,
 ⟨296,[],[]⟩,
 ⟨297,[],[]⟩,
 ⟨297,[true,true,false],[.ptr 0 0,.ptr 2 32,.ptr 3 48,.slot 0 (BT9) true none,.slot 32 (BT8) true none,.slot 48 (BT8) true none]⟩,
 ⟨298,[],[]⟩,
 ⟨298,[true,true,true,false,true,false,true,true,true,true,true,true,true,true,true,true,true,true,true],[.ptr 0 0,.ptr 2 32,.val 3 (BT39),.val 70 (BT1),.slot 0 (BT9) true none,.slot 32 (BT8) true none]⟩,
 ⟨299,[],[]⟩,
 ⟨300,[],[]⟩,
 ⟨300,[true,true,true,true,true,true,true,false,true,false],[.ptr 0 0,.ptr 2 32,.ptr 3 48,.val 5 (BT0),.own 6 96 (BT37),.val 7 (BT40),.slot 0 (BT9) true none,.slot 32 (BT8) true none,.slot 48 (BT8) true none]⟩,
 ⟨300,[true,true,true,true,true,true,true,false,true,false,false,true,false,false,true,true],[.ptr 0 0,.ptr 2 32,.ptr 3 48,.val 5 (BT0),.own 6 96 (BT37),.val 7 (BT40),.val 8 (BT40),.val 9 (BT40),.slot 0 (BT9) true none,.slot 32 (BT8) true none,.slot 48 (BT8) true none]⟩,
 ⟨300,[true,true,true,true,true,true,true,true,true,false,true,false],[.ptr 2 32,.ptr 3 48,.own 11 176 (BT60),.val 100 (BT41),.val 101 (BT40),.val 102 (BT40),.slot 0 (BT9) true none,.slot 32 (BT8) true none,.slot 48 (BT8) true none]⟩,
 ⟨300,[true,true,true,true,true,true,true,false,true,false,false,true,false,false,true,true,true,false],[.ptr 0 0,.ptr 2 32,.ptr 3 48,.val 5 (BT0),.own 6 96 (BT37),.val 7 (BT40),.val 9 (BT40),.val 10 (BT40),.slot 0 (BT9) true none,.slot 32 (BT8) true none,.slot 48 (BT8) true none]⟩,
 ⟨301,[],[]⟩]
def entR:List EntI:=[
 ⟨9,.skip,[],[.val (BT10),.val (BT11),.val (BT40)],[BT1],[],[(31,1),(33,1),(35,1),(60,1),(65,1),(100,1),(102,1),(104,1)],0,[],false⟩,
 ⟨15,.skip,[],[.val (BT10),.val (BT40)],[BT40],[],[],0,[],false⟩,
 ⟨16,.skip,[],[.val (BT11),.val (BT40)],[BT40],[],[],0,[],false⟩,
 ⟨19,.skip,[],[.val (BT10)],[.leaf true (.nm 15)],[],[],0,[],false⟩,
 ⟨20,.skip,[],[.val (BT11)],[BT2],[],[],0,[],false⟩,
 ⟨48,.skip,[],[.val (BT16),.val (BT15),.val (BT40)],[BT15,BT1],[],[(29,1),(33,1),(34,1),(43,1),(83,1),(91,1)],0,[(4090,6)],false⟩,
 ⟨49,.skip,[],[.val (BT16),.val (BT15),.val (BT40)],[BT2,BT1],[],[(43,1),(85,1)],0,[(4090,8)],false⟩,
 ⟨23,.skip,[],[.val (BT15),.val (BT15)],[BT1],[],[],0,[],false⟩,
 ⟨24,.skip,[],[.val (BT16),.val (BT16)],[BT1],[],[],0,[],false⟩,
 ⟨25,.skip,[],[.own (.leaf true (.nm 15)),.val (BT40)],[BT40],[],[],0,[],false⟩,
 ⟨26,.skip,[],[.io (BT2),.val (BT40)],[BT40],[(32,.orig 0)],[],0,[],false⟩,
 ⟨27,.skip,[],[.val (BT15),.val (BT40)],[BT40],[],[],0,[],false⟩,
 ⟨83,.skip,[],[.val (BT36),.val (BT40)],[BT40],[],[],0,[(122,15)],false⟩,
 ⟨84,.skip,[],[.val (BT44),.val (BT40)],[BT40],[],[],0,[(122,17)],false⟩,
 ⟨30,.skip,[],[.val (.leaf false (.nm 5)),.val (BT40)],[BT40],[],[],0,[],false⟩,
 ⟨85,.skip,[],[.val (BT41),.val (BT40)],[BT40],[],[],0,[],false⟩,
 ⟨53,.skip,[],[.val (BT64),.val (BT40)],[BT40],[],[],0,[],false⟩,
 ⟨86,.skip,[],[.val (.leaf false (.nm 9)),.val (BT40)],[BT40],[],[],0,[],false⟩,
 ⟨87,.skip,[],[.val (.leaf false (.nm 13)),.val (BT40)],[BT40],[],[],0,[],false⟩,
 ⟨51,.skip,[],[.val (BT52),.val (BT40)],[BT40],[],[],0,[(122,24)],false⟩,
 ⟨90,.skip,[],[.val (BT36)],[BT35],[],[],0,[(58,26)],false⟩,
 ⟨91,.skip,[],[.val (BT44)],[BT45],[],[],0,[(58,28)],false⟩,
 ⟨32,.skip,[],[.val (.leaf false (.nm 5))],[BT3],[],[],0,[],false⟩,
 ⟨92,.skip,[],[.val (BT41)],[BT37],[],[],0,[(58,31)],false⟩,
 ⟨65,.skip,[],[.val (BT64)],[BT61],[],[],0,[(58,33)],false⟩,
 ⟨93,.skip,[],[.val (.leaf false (.nm 9))],[BT6],[],[],0,[],false⟩,
 ⟨94,.skip,[],[.val (.leaf false (.nm 13))],[BT12],[],[],0,[],false⟩,
 ⟨63,.skip,[],[.val (BT52)],[BT46],[],[],0,[(58,37)],false⟩,
 ⟨59,.skip,[],[.val (BT16),.val (BT15),.val (BT40)],[BT1],[],[],0,[(122,39),(250,40)],false⟩,
 ⟨88,.skip,[],[.val (BT15)],[BT2],[],[],0,[],false⟩,
 ⟨148,.skip,[],[.ptr (BT25) (BT25),.val (BT21)],[],[(0,.box)],[(21,1)],0,[],false⟩,
 ⟨89,.skip,[],[.val (BT18)],[BT40,BT40],[],[],0,[],false⟩,
 ⟨116,.skip,[],[.ptr (BT25) (BT25),.val (BT26)],[],[(0,.box)],[(30,1)],0,[],false⟩,
 ⟨149,.skip,[],[.val (BT40)],[BT40],[],[],0,[],false⟩,
 ⟨150,.skip,[],[.ptr (BT25) (BT25)],[],[(0,.box)],[(9,1),(31,1),(55,1),(56,1)],0,[],false⟩,
 ⟨70,.skip,[],[.val (BT16),.val (BT15),.val (BT40)],[BT1],[],[],0,[],false⟩,
 ⟨95,.skip,[],[.val (BT15)],[BT2],[],[],0,[],false⟩,
 ⟨151,.skip,[],[.ptr (BT67) (BT67),.val (BT21)],[],[(0,.box)],[],0,[],false⟩,
 ⟨130,.skip,[],[.val (BT18)],[BT40,BT40],[],[],0,[],false⟩,
 ⟨120,.skip,[],[.ptr (BT67) (BT67),.val (BT40),.val (BT26)],[],[(0,.box)],[],0,[],false⟩,
 ⟨152,.skip,[],[.val (BT40)],[BT40],[],[],0,[],false⟩,
 ⟨153,.skip,[],[.ptr (BT67) (BT67)],[],[(0,.box)],[(39,1),(66,1)],0,[],false⟩,
 ⟨98,.skip,[],[.ptr (BT67) (.pr (BT16) (.pr (.hole 26) (BT65))),.val (BT15)],[BT2,BT1],[(0,.box)],[],0,[],false⟩,
 ⟨35,.skip,[],[.val (BT20),.val (BT20)],[BT1],[],[],0,[],false⟩,
 ⟨99,.skip,[],[.val (BT41),.val (BT41)],[BT1],[],[],0,[(58,57)],false⟩,
 ⟨81,.skip,[],[.val (BT64),.val (BT64)],[BT1],[],[],0,[(58,59)],false⟩,
 ⟨100,.skip,[],[.val (BT17),.val (BT17)],[BT1],[],[],0,[],false⟩,
 ⟨101,.skip,[],[.val (BT27),.val (BT27)],[BT1],[],[],0,[],false⟩,
 ⟨79,.skip,[],[.val (BT53),.val (BT53)],[BT1],[],[],0,[(58,63)],false⟩,
 ⟨102,.skip,[],[.val (BT36),.val (BT36)],[BT1],[],[],0,[(58,65)],false⟩,
 ⟨103,.skip,[],[.val (BT54),.val (BT54)],[BT1],[],[],0,[(58,67)],false⟩,
 ⟨104,.skip,[],[.own (BT35),.val (BT40)],[BT40],[],[],0,[(26,69)],false⟩,
 ⟨105,.skip,[],[.own (BT45),.val (BT40)],[BT40],[],[],0,[(26,71)],false⟩,
 ⟨36,.skip,[],[.io (BT3),.val (BT40)],[BT40],[(32,.orig 0)],[],0,[],false⟩,
 ⟨106,.skip,[],[.io (BT37),.val (BT40)],[BT40],[(0,.reg)],[],0,[(26,74)],false⟩,
 ⟨107,.skip,[],[.io (BT61),.val (BT40)],[BT40],[(0,.reg)],[],0,[(26,76)],false⟩,
 ⟨108,.skip,[],[.io (BT6),.val (BT40)],[BT40],[(32,.orig 0)],[],0,[],false⟩,
 ⟨109,.skip,[],[.io (BT12),.val (BT40)],[BT40],[(32,.orig 0)],[],0,[],false⟩,
 ⟨110,.skip,[],[.io (BT46),.val (BT40)],[BT40],[(0,.reg)],[],0,[(26,80)],false⟩,
 ⟨45,.skip,[],[.val (BT20),.val (BT40)],[BT40],[],[],0,[],false⟩,
 ⟨111,.skip,[],[.val (BT41),.val (BT40)],[BT40],[],[],0,[(26,83)],false⟩,
 ⟨112,.skip,[],[.val (BT64),.val (BT40)],[BT40],[],[],0,[(26,85)],false⟩,
 ⟨113,.skip,[],[.val (BT17),.val (BT40)],[BT40],[],[],0,[],false⟩,
 ⟨114,.skip,[],[.val (BT27),.val (BT40)],[BT40],[],[],0,[],false⟩,
 ⟨115,.skip,[],[.val (BT53),.val (BT40)],[BT40],[],[],0,[(26,89)],false⟩,
 ⟨180,.skip,[],[.val (.leaf false (.nm 1)),.val (BT40)],[BT40],[],[],0,[],false⟩,
 ⟨124,.skip,[],[.val (.leaf false (.nm 6)),.val (BT40)],[BT40],[],[],0,[],false⟩,
 ⟨181,.skip,[],[.val (.leaf false (.nm 10)),.val (BT40)],[BT40],[],[],0,[],false⟩,
 ⟨182,.skip,[],[.val (BT62),.val (BT40)],[BT40],[],[],0,[],false⟩,
 ⟨154,.skip,[],[.val (.leaf false (.nm 14)),.val (BT40)],[BT40],[],[],0,[],false⟩,
 ⟨186,.skip,[],[.val (.leaf false (.nm 1))],[BT28],[],[],0,[],false⟩,
 ⟨127,.skip,[],[.val (.leaf false (.nm 6))],[BT4],[],[],0,[],false⟩,
 ⟨187,.skip,[],[.val (.leaf false (.nm 10))],[BT13],[],[],0,[],false⟩,
 ⟨188,.skip,[],[.val (BT62)],[BT60],[],[],0,[(58,99)],false⟩,
 ⟨162,.skip,[],[.val (.leaf false (.nm 14))],[BT14],[],[],0,[],false⟩,
 ⟨56,.skip,[],[.val (BT40),.val (BT40),.val (BT40)],[BT1],[],[],0,[],false⟩,
 ⟨125,.skip,[],[.val (BT16),.val (BT20)],[BT1],[],[],0,[],false⟩,
 ⟨60,.skip,[],[.val (BT26),.val (BT40)],[BT1],[],[],0,[],false⟩,
 ⟨158,.skip,[],[.val (BT16),.val (BT17)],[BT1],[],[],0,[(26,105)],false⟩,
 ⟨159,.skip,[],[.val (BT27)],[BT1],[],[],0,[],false⟩,
 ⟨135,.skip,[],[.val (BT20)],[BT3],[],[],0,[],false⟩,
 ⟨183,.skip,[],[.val (BT17)],[BT6],[],[],0,[],false⟩,
 ⟨184,.skip,[],[.val (BT27)],[BT12],[],[],0,[],false⟩,
 ⟨185,.skip,[],[.val (BT53)],[BT46],[],[],0,[(58,111)],false⟩,
 ⟨46,.skip,[],[.val (BT16),.val (BT15),.val (BT21)],[BT15,BT1],[],[(12,1),(17,1),(18,1),(25,1),(46,1)],0,[],false⟩,
 ⟨201,.skip,[],[.val (BT15),.val (BT26)],[BT15,BT1],[],[],0,[],false⟩,
 ⟨229,.skip,[],[.val (BT40),.val (BT40)],[BT64],[],[(15,1)],0,[(58,115)],false⟩,
 ⟨68,.skip,[],[.val (BT40),.val (BT40),.val (BT40)],[BT1],[],[],0,[],false⟩,
 ⟨128,.skip,[],[.val (BT16),.val (BT20)],[BT1],[],[],0,[],false⟩,
 ⟨74,.skip,[],[.val (BT64),.val (BT40),.val (BT40),.val (BT40)],[BT1],[],[],0,[],false⟩,
 ⟨169,.skip,[],[.val (BT16),.val (BT17)],[BT1],[],[],0,[],false⟩,
 ⟨170,.skip,[],[.val (BT27)],[BT1],[],[],0,[],false⟩,
 ⟨71,.skip,[],[.val (BT53),.clo 171 [BT40,BT15]],[BT1],[(16,.box),(17,.box)],[],0,[],false⟩,
 ⟨138,.skip,[],[.val (BT20)],[BT3],[],[],0,[],false⟩,
 ⟨189,.skip,[],[.val (BT17)],[BT6],[],[],0,[],false⟩,
 ⟨190,.skip,[],[.val (BT27)],[BT12],[],[],0,[],false⟩,
 ⟨191,.skip,[],[.val (BT53)],[BT46],[],[],0,[(58,126)],false⟩,
 ⟨192,.skip,[],[.val (BT41)],[BT37],[],[],0,[],false⟩,
 ⟨193,.skip,[],[.val (BT64)],[BT61],[],[],0,[],false⟩,
 ⟨47,.skip,[],[.val (BT16),.val (BT15),.val (BT21)],[BT2,BT1],[],[(23,1)],0,[],false⟩,
 ⟨206,.skip,[],[.val (BT15),.val (BT26)],[BT2,BT1],[],[],0,[],false⟩,
 ⟨230,.skip,[],[.val (BT64),.val (BT40)],[BT61],[],[(41,2)],0,[(7,132),(31,133),(508,134)],false⟩,
 ⟨96,.skip,[],[.ptr (BT67) (BT67),.val (BT55)],[],[(0,.box)],[(20,1)],0,[],false⟩,
 ⟨131,.skip,[],[.val (BT18),.val (BT18)],[BT1],[],[],0,[],false⟩,
 ⟨195,.skip,[],[.val (BT19),.val (BT19)],[BT1],[],[],0,[],false⟩,
 ⟨34,.skip,[],[.val (BT62),.val (BT62)],[BT1],[],[],0,[(58,139)],false⟩,
 ⟨178,.skip,[],[.val (BT26),.val (BT26)],[BT1],[],[],0,[],false⟩,
 ⟨196,.skip,[],[.val (BT28),.val (BT28)],[BT1],[],[],0,[],false⟩,
 ⟨197,.skip,[],[.val (BT40)],[BT0],[],[(12,1)],0,[(60,143)],false⟩,
 ⟨132,.skip,[],[.io (BT4),.val (BT40)],[BT40],[(32,.orig 0)],[],0,[],false⟩,
 ⟨198,.skip,[],[.io (BT13),.val (BT40)],[BT40],[(32,.orig 0)],[],0,[],false⟩,
 ⟨37,.skip,[],[.io (BT60),.val (BT40)],[BT40],[(0,.reg)],[],0,[(26,147)],false⟩,
 ⟨143,.skip,[],[.io (BT47),.val (BT40)],[BT40],[(0,.reg)],[],0,[(26,149)],false⟩,
 ⟨144,.skip,[],[.val (BT18),.val (BT40)],[BT40],[],[],0,[],false⟩,
 ⟨199,.skip,[],[.val (BT19),.val (BT40)],[BT40],[],[],0,[],false⟩,
 ⟨38,.skip,[],[.val (BT62),.val (BT40)],[BT40],[],[],0,[(26,153)],false⟩,
 ⟨200,.skip,[],[.val (BT55),.val (BT40)],[BT40],[],[],0,[(26,155)],false⟩,
 ⟨133,.skip,[],[.val (BT48),.val (BT40)],[BT40],[],[],0,[(122,157)],false⟩,
 ⟨247,.skip,[],[.val (BT56),.val (BT40)],[BT40],[],[],0,[(122,159)],false⟩,
 ⟨248,.skip,[],[.val (BT57),.val (BT40)],[BT40],[],[],0,[(122,161)],false⟩,
 ⟨137,.skip,[],[.val (BT48)],[BT47],[],[],0,[(58,163)],false⟩,
 ⟨251,.skip,[],[.val (BT56)],[BT49],[],[],0,[(58,165)],false⟩,
 ⟨252,.skip,[],[.val (BT57)],[BT50],[],[],0,[(58,167)],false⟩,
 ⟨212,.skip,[],[.val (BT18)],[BT1],[],[],0,[(122,169)],false⟩,
 ⟨160,.skip,[],[.val (BT55),.val (BT40)],[BT1],[],[],0,[(26,171)],false⟩,
 ⟨55,.skip,[],[.val (BT16)],[BT1],[],[],0,[(26,173),(58,174)],false⟩,
 ⟨234,.skip,[],[.val (BT19),.val (BT40),.val (BT40)],[BT1],[],[],0,[(26,176),(58,177)],false⟩,
 ⟨218,.skip,[],[.val (BT18)],[BT4],[],[],0,[],false⟩,
 ⟨249,.skip,[],[.val (BT19)],[BT13],[],[],0,[],false⟩,
 ⟨250,.skip,[],[.val (BT26)],[BT14],[],[],0,[],false⟩,
 ⟨146,.skip,[],[.val (BT21)],[BT62],[],[(8,1),(10,1),(18,1)],0,[],false⟩,
 ⟨145,.skip,[],[.val (BT27),.val (BT62)],[BT27,BT1],[],[],0,[],false⟩,
 ⟨40,.skip,[],[.val (BT16),.val (BT20),.val (BT21)],[BT20],[],[(18,1),(21,1),(23,1),(29,1)],0,[],false⟩,
 ⟨134,.skip,[],[.val (BT21)],[BT1],[],[],0,[],false⟩,
 ⟨168,.skip,[],[.val (BT40)],[BT1],[],[],0,[],false⟩,
 ⟨214,.skip,[],[.val (BT40)],[BT1],[],[],0,[],false⟩,
 ⟨215,.skip,[],[.val (BT18)],[BT1],[],[],0,[(122,188)],false⟩,
 ⟨174,.skip,[],[.val (BT64),.clo 175 [BT40,BT40]],[BT1],[(16,.box),(17,.box)],[],0,[],false⟩,
 ⟨67,.skip,[],[.val (BT16)],[BT1],[],[],0,[],false⟩,
 ⟨241,.skip,[],[.val (BT19),.val (BT40),.val (BT40)],[BT1],[],[],0,[(58,192)],false⟩,
 ⟨174,.skip,[],[.val (BT64),.clo 242 []],[BT1],[],[],0,[],false⟩,
 ⟨172,.skip,[],[.val (BT53),.clo 171 [BT40,BT15]],[BT40],[(16,.box),(17,.box)],[],0,[(26,195)],false⟩,
 ⟨223,.skip,[],[.val (BT18)],[BT4],[],[],0,[],false⟩,
 ⟨253,.skip,[],[.val (BT19)],[BT13],[],[],0,[],false⟩,
 ⟨254,.skip,[],[.val (BT62)],[BT60],[],[],0,[],false⟩,
 ⟨255,.skip,[],[.val (BT26)],[BT14],[],[],0,[],false⟩,
 ⟨42,.skip,[],[.val (BT16),.val (BT20),.val (BT21)],[BT3],[],[],0,[(31,201)],false⟩,
 ⟨129,.skip,[],[.val (BT21)],[BT62],[],[(28,1),(36,1),(55,1),(63,1),(70,1),(76,1),(97,1)],0,[(122,203),(250,204),(128202,205)],false⟩,
 ⟨147,.skip,[],[.val (BT27),.val (BT62)],[BT12,BT1],[],[],0,[],false⟩,
 ⟨139,.skip,[],[.val (BT21)],[BT1],[],[],0,[],false⟩,
 ⟨269,.skip,[],[.val (BT42),.val (BT42)],[BT42,BT42],[],[],0,[],false⟩,
 ⟨142,.skip,[],[.val (BT55),.val (BT55)],[BT1],[],[],0,[(58,210)],false⟩,
 ⟨256,.skip,[],[.val (BT59),.val (BT59)],[BT1],[],[],0,[(58,212)],false⟩,
 ⟨257,.skip,[],[.val (BT58),.val (BT58)],[BT1],[],[],0,[(58,214)],false⟩,
 ⟨258,.skip,[],[.io (BT49),.val (BT40)],[BT40],[(0,.reg)],[],0,[(26,216)],false⟩,
 ⟨259,.skip,[],[.io (BT50),.val (BT40)],[BT40],[(0,.reg)],[],0,[(26,218)],false⟩,
 ⟨260,.skip,[],[.val (BT59),.val (BT40)],[BT40],[],[],0,[(26,220)],false⟩,
 ⟨261,.skip,[],[.val (BT58),.val (BT40)],[BT40],[],[],0,[(26,222)],false⟩,
 ⟨217,.skip,[],[.val (.leaf false (.nm 7)),.val (BT40)],[BT40],[],[],0,[],false⟩,
 ⟨288,.skip,[],[.val (.leaf false (.nm 11)),.val (BT40)],[BT40],[],[],0,[],false⟩,
 ⟨289,.skip,[],[.val (.leaf false (.nm 12)),.val (BT40)],[BT40],[],[],0,[],false⟩,
 ⟨222,.skip,[],[.val (.leaf false (.nm 7))],[BT29],[],[],0,[],false⟩,
 ⟨290,.skip,[],[.val (.leaf false (.nm 11))],[BT30],[],[],0,[],false⟩,
 ⟨291,.skip,[],[.val (.leaf false (.nm 12))],[BT31],[],[],0,[],false⟩,
 ⟨61,.skip,[],[.val (BT32)],[BT1],[],[],0,[],false⟩,
 ⟨155,.skip,[],[.val (BT0)],[BT1],[],[],0,[(26,231)],false⟩,
 ⟨156,.skip,[],[.val (BT36),.val (BT0)],[BT1],[],[],0,[(26,233)],false⟩,
 ⟨157,.skip,[],[.val (BT54),.val (BT40),.val (BT40)],[BT1],[],[],0,[(122,235)],false⟩,
 ⟨273,.skip,[],[.val (BT30)],[BT1],[],[],0,[],false⟩,
 ⟨274,.skip,[],[.val (BT31),.val (BT40),.val (BT0)],[BT1],[],[],0,[],false⟩,
 ⟨227,.skip,[],[.val (BT21)],[BT62],[],[(11,1),(17,1),(22,1),(28,1),(45,1),(52,1),(58,1),(64,1),(69,1)],0,[(506,239)],false⟩,
 ⟨202,.skip,[],[.val (BT40)],[BT60],[],[(16,1),(23,1)],0,[(60,241)],false⟩,
 ⟨228,.skip,[],[.val (BT62)],[BT62],[],[(17,1)],0,[],false⟩,
 ⟨136,.skip,[],[.val (BT16),.val (BT20),.val (BT21)],[BT20],[],[(32,1),(45,1),(71,1),(77,1)],0,[(7,244)],false⟩,
 ⟨77,.skip,[],[.val (BT32)],[BT1],[],[],0,[],false⟩,
 ⟨245,.skip,[],[.val (BT64),.clo 175 [BT40,BT40]],[BT40],[(16,.box),(17,.box)],[],0,[(26,247)],false⟩,
 ⟨163,.skip,[],[.val (BT36)],[BT1],[],[],0,[(26,249)],false⟩,
 ⟨164,.skip,[],[.val (BT36),.clo 165 [BT16]],[BT1],[(16,.box)],[],0,[],false⟩,
 ⟨167,.skip,[],[.val (BT54),.val (BT40),.val (BT40)],[BT1],[],[],0,[],false⟩,
 ⟨282,.skip,[],[.val (BT59),.clo 283 []],[BT1],[],[],0,[],false⟩,
 ⟨284,.skip,[],[.val (BT30)],[BT1],[],[],0,[],false⟩,
 ⟨285,.skip,[],[.val (BT31),.val (BT31)],[BT40],[],[],0,[],false⟩,
 ⟨245,.skip,[],[.val (BT64),.clo 242 []],[BT40],[],[],0,[(26,256)],false⟩,
 ⟨171,.skip,[],[.val (BT26),.ptr (BT40) (BT40),.ptr (BT15) (BT15)],[BT1],[(16,.box),(32,.box)],[],0,[],false⟩,
 ⟨211,.skip,[],[.val (BT55)],[BT47],[],[],0,[],false⟩,
 ⟨292,.skip,[],[.val (BT59)],[BT49],[],[],0,[],false⟩,
 ⟨293,.skip,[],[.val (BT58)],[BT50],[],[],0,[],false⟩,
 ⟨140,.skip,[],[.val (BT18),.val (BT40),.val (BT40),.val (BT55)],[BT4,BT1],[],[(66,1)],0,[(250,262)],false⟩,
 ⟨141,.skip,[],[.val (BT16),.own (BT3),.val (BT21)],[BT3],[],[],0,[],false⟩,
 ⟨207,.skip,[],[.val (BT40)],[BT60],[],[(15,1),(22,1)],0,[(60,265)],false⟩,
 ⟨209,.skip,[],[.val (BT0)],[BT62],[],[],0,[],false⟩,
 ⟨216,.skip,[],[.val (BT62)],[BT40],[],[],0,[(58,268)],false⟩,
 ⟨173,.skip,[],[.val (BT55),.val (BT40)],[BT1],[],[],0,[],false⟩,
 ⟨303,.skip,[],[.val (BT42),.val (BT42)],[BT42,BT42],[],[],0,[],false⟩,
 ⟨226,.skip,[],[.val (BT29),.val (BT29)],[BT1],[],[],0,[],false⟩,
 ⟨294,.skip,[],[.val (BT30),.val (BT30)],[BT1],[],[],0,[],false⟩,
 ⟨295,.skip,[],[.val (BT31),.val (BT31)],[BT1],[],[],0,[],false⟩,
 ⟨17,.skip,[],[.val (.leaf false (.nm 8)),.val (BT40)],[BT40],[],[],0,[],false⟩,
 ⟨21,.skip,[],[.val (.leaf false (.nm 8))],[BT32],[],[],0,[],false⟩,
 ⟨161,.skip,[],[.val (BT0)],[BT1],[],[],0,[(26,277)],false⟩,
 ⟨231,.skip,[],[.val (BT39)],[BT1],[],[],0,[],false⟩,
 ⟨232,.skip,[],[.val (BT0)],[BT1],[],[(3,1),(7,1)],0,[],false⟩,
 ⟨233,.skip,[],[.val (BT28),.val (BT40),.val (BT40),.val (BT40)],[BT1],[],[(71,1),(86,1)],0,[(863,281),(3455,282),(13823,283),(221183,284)],false⟩,
 ⟨271,.skip,[],[.val (BT40)],[BT1],[],[],0,[],false⟩,
 ⟨306,.skip,[],[.val (BT0)],[BT40,BT1],[],[],0,[(60,287)],false⟩,
 ⟨204,.skip,[],[.val (BT0)],[BT62],[],[],0,[],false⟩,
 ⟨268,.skip,[],[.val (BT62)],[BT40],[],[],0,[(58,290)],false⟩,
 ⟨219,.skip,[],[.val (BT18),.val (BT40),.val (BT40),.val (BT55)],[BT18,BT1],[],[(16,1),(71,1),(78,1)],0,[(250,292)],false⟩,
 ⟨220,.skip,[],[.val (BT16),.val (BT62)],[BT17,BT1],[],[(9,1),(12,1),(33,1)],0,[],false⟩,
 ⟨119,.skip,[],[.val (BT18),.val (BT40)],[BT40],[],[],0,[],false⟩,
 ⟨221,.skip,[],[.val (BT18),.val (BT40)],[BT18],[],[(8,1),(29,1)],0,[],false⟩,
 ⟨177,.skip,[],[.val (BT0)],[BT1],[],[],0,[],false⟩,
 ⟨175,.skip,[],[.val (BT40),.ptr (BT40) (BT40),.ptr (BT40) (BT40)],[BT1],[(16,.box),(32,.box)],[],0,[],false⟩,
 ⟨235,.skip,[],[.val (BT0)],[BT1],[],[],0,[],false⟩,
 ⟨236,.skip,[],[.val (BT36),.clo 165 [BT16]],[BT40],[(16,.box)],[],0,[(26,300)],false⟩,
 ⟨238,.skip,[],[.val (BT54),.clo 239 [BT54,BT40,BT40]],[BT1],[(16,.box),(17,.box),(18,.box)],[],0,[],false⟩,
 ⟨309,.skip,[],[.val (BT59),.clo 283 []],[BT40],[],[],0,[(26,303)],false⟩,
 ⟨279,.skip,[],[.val (BT40)],[BT1],[],[],0,[],false⟩,
 ⟨310,.skip,[],[.val (BT0)],[BT40,BT1],[],[],0,[],false⟩,
 ⟨311,.skip,[],[.val (BT0),.val (BT0)],[BT40],[],[],0,[],false⟩,
 ⟨242,.skip,[],[.val (BT40)],[BT1],[],[],0,[],false⟩,
 ⟨73,.skip,[],[.val (BT26),.val (BT40)],[BT1],[],[],0,[],false⟩,
 ⟨123,.skip,[],[.val (BT18),.val (BT40)],[BT40],[],[(7,1)],0,[],false⟩,
 ⟨224,.skip,[],[.val (BT16),.val (BT62)],[BT6,BT1],[],[(10,1),(22,1),(44,1),(63,1)],0,[(122,311),(250,312),(2042,313)],false⟩,
 ⟨225,.skip,[],[.val (BT18),.val (BT40)],[BT4],[],[(7,1)],0,[],false⟩,
 ⟨243,.skip,[],[.val (BT55),.clo 244 [BT40]],[BT1],[(16,.box)],[],0,[],false⟩,
 ⟨179,.skip,[],[.val (BT32),.val (BT32)],[BT1],[],[],0,[],false⟩,
 ⟨270,.skip,[],[],[BT36],[],[(1,1)],0,[],false⟩,
 ⟨272,.skip,[],[.val (BT0)],[BT24,BT1],[],[(9,1),(14,1),(33,1)],0,[],false⟩,
 ⟨319,.skip,[],[.val (BT0)],[BT40,BT40],[],[],0,[(28,320),(63,321),(508,322),(16342,323),(511,324)],false⟩,
 ⟨264,.skip,[],[.ptr (BT23) (BT23)],[BT17],[(0,.box)],[(31,1),(62,1),(83,1)],0,[(122,326),(506,327),(4090,328)],false⟩,
 ⟨205,.skip,[],[.val (BT18),.val (BT40)],[BT40],[],[],0,[],false⟩,
 ⟨246,.skip,[],[.val (BT0),.val (BT0)],[BT1],[],[],0,[],false⟩,
 ⟨275,.skip,[],[.val (BT0),.val (BT40)],[BT40],[],[],0,[(28,332)],false⟩,
 ⟨276,.skip,[],[.val (BT0)],[BT1],[],[(14,1)],0,[(53,334)],false⟩,
 ⟨165,.skip,[],[.val (BT0),.ptr (BT16) (BT16)],[BT1],[(16,.box)],[],0,[],false⟩,
 ⟨277,.skip,[],[.val (BT54),.clo 239 [BT54,BT40,BT40]],[BT40],[(16,.box),(17,.box),(18,.box)],[],0,[(26,337)],false⟩,
 ⟨283,.skip,[],[.val (BT30)],[BT1],[],[],0,[],false⟩,
 ⟨322,.skip,[],[.val (BT0)],[BT40,BT40],[],[],0,[(31,340),(1023,341)],false⟩,
 ⟨323,.skip,[],[.val (BT0),.val (BT0)],[BT0],[],[],0,[],false⟩,
 ⟨324,.skip,[],[.val (BT0),.val (BT0)],[BT40],[],[],0,[],false⟩,
 ⟨210,.skip,[],[.val (BT18)],[BT55],[],[],0,[],false⟩,
 ⟨265,.skip,[],[.ptr (BT22) (BT22),.val (BT40)],[BT40],[(0,.box)],[],0,[],false⟩,
 ⟨266,.skip,[],[.ptr (BT22) (BT22)],[BT30],[(0,.box)],[],0,[],false⟩,
 ⟨267,.skip,[],[.ptr (BT22) (BT22)],[BT0],[(0,.box)],[],0,[],false⟩,
 ⟨286,.skip,[],[.val (BT55),.clo 244 [BT40]],[BT40],[(16,.box)],[],0,[(26,349)],false⟩,
 ⟨304,.skip,[],[.ptr (BT33) (BT33),.val (BT40)],[BT8],[(0,.box)],[],0,[(28,351)],false⟩,
 ⟨305,.skip,[],[.val (BT24)],[BT40],[],[],0,[(58,353)],false⟩,
 ⟨331,.skip,[],[.val (BT39)],[BT1],[],[],0,[],false⟩,
 ⟨296,.skip,[],[.ptr (BT23) (BT23)],[BT40],[(0,.box)],[],0,[],false⟩,
 ⟨297,.skip,[],[.ptr (BT23) (BT23)],[BT30],[(0,.box)],[],0,[],false⟩,
 ⟨298,.skip,[],[.ptr (BT23) (BT23)],[BT0],[(0,.box)],[],0,[],false⟩,
 ⟨287,.skip,[],[.val (BT0),.val (BT0)],[BT40],[],[],0,[],false⟩,
 ⟨307,.skip,[],[.val (BT39)],[BT1],[],[],0,[],false⟩,
 ⟨281,.skip,[],[],[BT36],[],[(1,1)],0,[],false⟩,
 ⟨166,.skip,[],[.val (BT36),.val (BT0)],[BT1],[],[],0,[],false⟩,
 ⟨239,.skip,[],[.val (BT28),.ptr (BT54) (BT54),.ptr (BT40) (BT40),.ptr (BT40) (BT40)],[BT1],[(16,.box),(32,.box),(48,.box)],[],0,[],false⟩,
 ⟨334,.skip,[],[.val (BT0),.val (BT0)],[BT0],[],[],0,[],false⟩,
 ⟨335,.skip,[],[.val (BT0),.val (BT40)],[BT40],[],[],0,[(28,365)],false⟩,
 ⟨336,.skip,[],[.val (BT0),.val (BT0)],[BT40,BT1],[],[],0,[],false⟩,
 ⟨338,.skip,[],[.val (BT0),.val (BT39)],[BT0],[],[],0,[(12,368)],false⟩,
 ⟨337,.skip,[],[.val (BT0),.val (BT39)],[BT0],[],[],0,[(12,370)],false⟩,
 ⟨344,.skip,[],[.val (BT0),.val (BT0)],[BT40],[],[],0,[],true⟩,
 ⟨299,.skip,[],[.val (BT62),.val (BT40)],[BT40,BT40,BT1],[],[],0,[(122,373)],false⟩,
 ⟨300,.skip,[],[.val (BT62),.val (BT40)],[BT40,BT40,BT1],[],[],0,[(31,375)],false⟩,
 ⟨301,.skip,[],[.val (BT62),.val (BT40)],[BT0,BT40,BT1],[],[],0,[],false⟩,
 ⟨244,.skip,[],[.val (BT29),.ptr (BT40) (BT40)],[BT1],[(16,.box)],[],0,[],false⟩,
 ⟨316,.skip,[],[.ptr (BT33) (BT33),.val (BT40)],[BT8],[(0,.box)],[],0,[(28,379)],false⟩,
 ⟨317,.skip,[],[.ptr (BT33) (BT33),.val (BT39)],[BT1],[(0,.box)],[],0,[],false⟩,
 ⟨318,.skip,[],[.val (BT40),.val (BT40)],[BT40],[],[],0,[],false⟩,
 ⟨313,.skip,[],[.val (BT62),.val (BT40)],[BT40,BT40,BT1],[],[],0,[(58,383)],false⟩,
 ⟨314,.skip,[],[.ptr (BT23) (BT23)],[BT40],[(0,.box)],[],0,[],false⟩,
 ⟨315,.skip,[],[.val (BT62),.val (BT40)],[BT0,BT40,BT1],[],[],0,[],false⟩,
 ⟨312,.skip,[],[.val (BT0),.val (BT0)],[BT40],[],[],0,[],false⟩,
 ⟨237,.skip,[],[.val (BT36),.val (BT0)],[BT40],[],[],0,[(26,388)],false⟩,
 ⟨240,.skip,[],[.val (BT28),.val (BT40),.val (BT40),.val (BT40)],[BT1],[],[(101,1)],0,[(983,390),(3935,391),(15743,392),(251903,393)],false⟩,
 ⟨350,.skip,[],[.val (BT0)],[BT40,.hole 1],[],[(16,1)],0,[],false⟩,
 ⟨351,.skip,[],[.val (BT40)],[BT40,BT1],[],[],0,[],false⟩,
 ⟨330,.skip,[],[.ptr (BT33) (BT33),.val (BT40)],[BT8],[(0,.box)],[],0,[(28,397),(907,398)],false⟩,
 ⟨329,.skip,[],[.val (BT62),.val (BT40)],[BT40,BT40,BT1],[],[],0,[(63,400)],false⟩,
 ⟨325,.skip,[],[.val (BT0),.val (BT39)],[BT40],[],[],0,[],false⟩,
 ⟨278,.skip,[],[.val (BT40)],[BT0,BT0],[],[(6,1)],0,[(63,403),(2007,404),(32127,405)],false⟩,
 ⟨280,.skip,[],[.val (BT0)],[BT1],[],[(7,1)],0,[],false⟩,
 ⟨359,.skip,[],[.val (BT0)],[BT40,.hole 1],[],[],0,[(235,408),(3770,409)],false⟩,
 ⟨347,.skip,[],[.ptr (BT33) (BT33),.val (BT40)],[BT8],[(0,.box)],[],0,[(63,411)],false⟩,
 ⟨345,.skip,[],[.val (BT0),.val (BT39)],[BT40],[],[],0,[],true⟩,
 ⟨308,.skip,[],[.val (BT0)],[BT24,BT1],[],[(9,1),(14,1),(31,1)],0,[],false⟩,
 ⟨365,.skip,[],[.val (BT0),.val (BT40),.val (BT40)],[BT40,.hole 1],[],[],0,[(31,415),(511,416)],false⟩,
 ⟨356,.skip,[],[.ptr (BT33) (BT33)],[BT8],[(0,.box)],[(171,1)],0,[(15,418),(252,419),(32303,420),(255,421),(64607,422),(8186,423),(516858,424)],false⟩,
 ⟨320,.skip,[],[.ptr (BT34) (BT34)],[BT8],[(0,.box)],[],0,[(28,426)],false⟩,
 ⟨321,.skip,[],[.val (BT24)],[BT40],[],[],0,[(58,428)],false⟩,
 ⟨372,.skip,[],[.val (BT0),.val (BT40),.val (BT40)],[BT42,.hole 1],[],[],0,[(63,430),(127,431),(511,432),(32762,433),(8387175,434)],false⟩,
 ⟨332,.skip,[],[.ptr (BT34) (BT34)],[BT8],[(0,.box)],[],0,[(28,436)],false⟩,
 ⟨333,.skip,[],[.ptr (BT34) (BT34),.val (BT39)],[BT1],[(0,.box)],[],0,[],false⟩,
 ⟨376,.skip,[],[.val (BT39)],[BT39],[],[],0,[],false⟩,
 ⟨377,.skip,[],[.val (BT0)],[BT1],[],[],0,[(31,440),(127,441),(508,442)],false⟩,
 ⟨348,.skip,[],[.ptr (BT34) (BT34)],[BT39,BT1],[(0,.box)],[],0,[],false⟩,
 ⟨349,.skip,[],[.ptr (BT34) (BT34)],[BT8],[(0,.box)],[],0,[(14,445)],false⟩,
 ⟨357,.skip,[],[.ptr (BT34) (BT34)],[BT8],[(0,.box)],[],0,[(1007615,447)],false⟩,
 ⟨358,.skip,[],[.val (BT39)],[BT40],[],[],0,[],false⟩,
 ⟨364,.skip,[],[.ptr (BT34) (BT34)],[BT8],[(0,.box)],[(111,1)],0,[(2042,450),(130707,451),(8186,452),(522830,453)],false⟩,
 ⟨370,.skip,[],[.val (BT0),.val (BT39)],[BT40],[],[],0,[],false⟩]
def callX:CallL:=[((344,[]),371),((345,[]),412)]
def callR:CallL:=[((9,[]),0),((15,[]),1),((16,[]),2),((19,[]),3),((20,[]),4),((48,[]),5),((49,[]),7),((23,[]),9),((24,[]),10),((25,[]),11),((26,[]),12),((27,[]),13),((83,[]),14),((84,[]),16),((30,[]),18),((85,[]),19),((53,[]),20),((86,[]),21),((87,[]),22),((51,[]),23),((90,[]),25),((91,[]),27),((32,[]),29),((92,[]),30),((65,[]),32),((93,[]),34),((94,[]),35),((63,[]),36),((59,[]),38),((88,[]),41),((148,[]),42),((89,[]),43),((116,[]),44),((149,[]),45),((150,[]),46),((70,[]),47),((95,[]),48),((151,[]),49),((130,[]),50),((120,[]),51),((152,[]),52),((153,[]),53),((98,[]),54),((35,[]),55),((99,[]),56),((81,[]),58),((100,[]),60),((101,[]),61),((79,[]),62),((102,[]),64),((103,[]),66),((104,[]),68),((105,[]),70),((36,[]),72),((106,[]),73),((107,[]),75),((108,[]),77),((109,[]),78),((110,[]),79),((45,[]),81),((111,[]),82),((112,[]),84),((113,[]),86),((114,[]),87),((115,[]),88),((180,[]),90),((124,[]),91),((181,[]),92),((182,[]),93),((154,[]),94),((186,[]),95),((127,[]),96),((187,[]),97),((188,[]),98),((162,[]),100),((56,[]),101),((125,[]),102),((60,[]),103),((158,[]),104),((159,[]),106),((135,[]),107),((183,[]),108),((184,[]),109),((185,[]),110),((46,[]),112),((201,[]),113),((229,[]),114),((68,[]),116),((128,[]),117),((74,[]),118),((169,[]),119),((170,[]),120),((71,[171]),121),((138,[]),122),((189,[]),123),((190,[]),124),((191,[]),125),((192,[]),127),((193,[]),128),((47,[]),129),((206,[]),130),((230,[]),131),((96,[]),135),((131,[]),136),((195,[]),137),((34,[]),138),((178,[]),140),((196,[]),141),((197,[]),142),((132,[]),144),((198,[]),145),((37,[]),146),((143,[]),148),((144,[]),150),((199,[]),151),((38,[]),152),((200,[]),154),((133,[]),156),((247,[]),158),((248,[]),160),((137,[]),162),((251,[]),164),((252,[]),166),((212,[]),168),((160,[]),170),((55,[]),172),((234,[]),175),((218,[]),178),((249,[]),179),((250,[]),180),((146,[]),181),((145,[]),182),((40,[]),183),((134,[]),184),((168,[]),185),((214,[]),186),((215,[]),187),((174,[175]),189),((67,[]),190),((241,[]),191),((174,[242]),193),((172,[171]),194),((223,[]),196),((253,[]),197),((254,[]),198),((255,[]),199),((42,[]),200),((129,[]),202),((147,[]),206),((139,[]),207),((269,[]),208),((142,[]),209),((256,[]),211),((257,[]),213),((258,[]),215),((259,[]),217),((260,[]),219),((261,[]),221),((217,[]),223),((288,[]),224),((289,[]),225),((222,[]),226),((290,[]),227),((291,[]),228),((61,[]),229),((155,[]),230),((156,[]),232),((157,[]),234),((273,[]),236),((274,[]),237),((227,[]),238),((202,[]),240),((228,[]),242),((136,[]),243),((77,[]),245),((245,[175]),246),((163,[]),248),((164,[165]),250),((167,[]),251),((282,[283]),252),((284,[]),253),((285,[]),254),((245,[242]),255),((171,[]),257),((211,[]),258),((292,[]),259),((293,[]),260),((140,[]),261),((141,[]),263),((207,[]),264),((209,[]),266),((216,[]),267),((173,[]),269),((303,[]),270),((226,[]),271),((294,[]),272),((295,[]),273),((17,[]),274),((21,[]),275),((161,[]),276),((231,[]),278),((232,[]),279),((233,[]),280),((271,[]),285),((306,[]),286),((204,[]),288),((268,[]),289),((219,[]),291),((220,[]),293),((119,[]),294),((221,[]),295),((177,[]),296),((175,[]),297),((235,[]),298),((236,[165]),299),((238,[239]),301),((309,[283]),302),((279,[]),304),((310,[]),305),((311,[]),306),((242,[]),307),((73,[]),308),((123,[]),309),((224,[]),310),((225,[]),314),((243,[244]),315),((179,[]),316),((270,[]),317),((272,[]),318),((319,[]),319),((264,[]),325),((205,[]),329),((246,[]),330),((275,[]),331),((276,[]),333),((165,[]),335),((277,[239]),336),((283,[]),338),((322,[]),339),((323,[]),342),((324,[]),343),((210,[]),344),((265,[]),345),((266,[]),346),((267,[]),347),((286,[244]),348),((304,[]),350),((305,[]),352),((331,[]),354),((296,[]),355),((297,[]),356),((298,[]),357),((287,[]),358),((307,[]),359),((281,[]),360),((166,[]),361),((239,[]),362),((334,[]),363),((335,[]),364),((336,[]),366),((338,[]),367),((337,[]),369),((299,[]),372),((300,[]),374),((301,[]),376),((244,[]),377),((316,[]),378),((317,[]),380),((318,[]),381),((313,[]),382),((314,[]),384),((315,[]),385),((312,[]),386),((237,[]),387),((240,[]),389),((350,[]),394),((351,[]),395),((330,[]),396),((329,[]),399),((325,[]),401),((278,[]),402),((280,[]),406),((359,[]),407),((347,[]),410),((308,[]),413),((365,[]),414),((356,[]),417),((320,[]),425),((321,[]),427),((372,[]),429),((332,[]),435),((333,[]),437),((376,[]),438),((377,[]),439),((348,[]),443),((349,[]),444),((357,[]),446),((358,[]),448),((364,[]),449),((370,[]),454)]
def rent (e:Nat):EntI:=entR.getD e ⟨0,.skip,[],[],[],[],[],0,[],true⟩
def rkey (k:Nat):KeyI:=keyL.getD k ⟨0,[false],[]⟩
noncomputable def tab:Tab where
 G:=gam
 ty:=lookT tyL
 ifc:=memN ifcL
 key k:=keyFill rent (rkey k)
 ent k:=fill Tryz.prog (rent k)
 call:=lookC (callX ++ callR)
 tabs:=[]
 ext k:=match k with
  | 371=>fun x=>some (cmpI x.1 x.2.1,())
  | 412=>fun x=>some (idxI x.1 x.2.1,())
  | _=>fun _=>none
end Go.Proofs.YtcngnpahpbaagaaGreatDoor.E.TH
