/- The table of H: structs,types,entries,keys. No condition. -/
import Derived.Test.YtcngnpahpbaagaaGreatDoorEG4
import Derived.Test.YtcngnpahpbaagaaGreatDoorProg
import Derived.KernelRfl
namespace Go.Proofs.YtcngnpahpbaagaaGreatDoor.E.TH
open Go.Proofs.YtcngnpahpbaagaaGreatDoor.E
set_option linter.unusedVariables false
set_option maxRecDepth 100000
structure laws_Op where
 Code:Int
 N:Int
 S:(_root_.List Int)
def z_laws_Op:laws_Op:=⟨0,0,[]⟩
structure laws_Prog where
 Vars:(_root_.List (_root_.List Int))
 Cells:(_root_.List (_root_.List Int))
 Start:(_root_.List laws_Op)
 Main:(_root_.List laws_Op)
def z_laws_Prog:laws_Prog:=⟨[],[],[],[]⟩
structure laws_Sink where
 Epoch:Int
 Text:(_root_.List Int)
def z_laws_Sink:laws_Sink:=⟨0,[]⟩
structure laws_Cmd where
 Who:Int
 Seq:Int
 Line:(_root_.List Int)
def z_laws_Cmd:laws_Cmd:=⟨0,0,[]⟩
structure laws_Entry where
 Term:Int
 C:laws_Cmd
def z_laws_Entry:laws_Entry:=⟨0,z_laws_Cmd⟩
structure laws_Log where
 Base:Int
 BaseTerm:Int
 List:(_root_.List laws_Entry)
def z_laws_Log:laws_Log:=⟨0,0,[]⟩
structure laws_Val where
 Kind:Int
 N:Int
 S:(_root_.List Int)
def z_laws_Val:laws_Val:=⟨0,0,[]⟩
structure laws_Cell where
 Name:Int
 Key:(_root_.List Int)
 Val:laws_Val
def z_laws_Cell:laws_Cell:=⟨0,[],z_laws_Val⟩
structure laws_State where
 Vars:(_root_.List laws_Val)
 Cells:(_root_.List laws_Cell)
 Nr:Int
 Err:Int
def z_laws_State:laws_State:=⟨[],[],0,0⟩
structure laws_Mach where
 State:laws_State
 Done:(_root_.List Int)
 Out:(_root_.List Int)
def z_laws_Mach:laws_Mach:=⟨z_laws_State,[],[]⟩
structure laws_Hard where
 Term:Int
 Vote:Int
 Log:laws_Log
 Snap:laws_Mach
def z_laws_Hard:laws_Hard:=⟨0,0,z_laws_Log,z_laws_Mach⟩
structure laws_Disk where
 Bytes:(_root_.List Int)
 Sure:Int
def z_laws_Disk:laws_Disk:=⟨[],0⟩
structure laws_Rpc where
 Kind:Int
 From:Int
 To:Int
 Term:Int
 Index:Int
 IndexTerm:Int
 Commit:Int
 List:(_root_.List laws_Entry)
 Ok:Bool
 Snap:(_root_.List Int)
def z_laws_Rpc:laws_Rpc:=⟨0,0,0,0,0,0,0,[],false,[]⟩
structure laws_Peer where
 Id:Int
 Hard:laws_Hard
 Role:Int
 Votes:(_root_.List Bool)
 Next:(_root_.List Int)
 Match:(_root_.List Int)
 Commit:Int
 Now:laws_Mach
 Disk:laws_Disk
 Held:(_root_.List laws_Rpc)
def z_laws_Peer:laws_Peer:=⟨0,z_laws_Hard,0,[],[],[],0,z_laws_Mach,z_laws_Disk,[]⟩
structure laws_World where
 Prog:laws_Prog
 Size:Int
 Nodes:(_root_.List laws_Peer)
 Net:(_root_.List laws_Rpc)
 Sink:laws_Sink
 Sent:(_root_.List Int)
 Acked:(_root_.List Int)
 Done:(_root_.List laws_Cmd)
def z_laws_World:laws_World:=⟨z_laws_Prog,0,[],[],z_laws_Sink,[],[],[]⟩
structure impl_Op where
 Code:Int
 N:Int
 S:(_root_.List Int)
def z_impl_Op:impl_Op:=⟨0,0,[]⟩
structure impl_Prog where
 Vars:(_root_.List (_root_.List Int))
 Cells:(_root_.List (_root_.List Int))
 Start:(_root_.List impl_Op)
 Main:(_root_.List impl_Op)
def z_impl_Prog:impl_Prog:=⟨[],[],[],[]⟩
structure impl_Sink where
 Epoch:Int
 Text:(_root_.List Int)
def z_impl_Sink:impl_Sink:=⟨0,[]⟩
structure impl_Cmd where
 Who:Int
 Seq:Int
 Line:(_root_.List Int)
def z_impl_Cmd:impl_Cmd:=⟨0,0,[]⟩
structure impl_Entry where
 Term:Int
 C:impl_Cmd
def z_impl_Entry:impl_Entry:=⟨0,z_impl_Cmd⟩
structure impl_Log where
 Base:Int
 BaseTerm:Int
 List:(_root_.List impl_Entry)
def z_impl_Log:impl_Log:=⟨0,0,[]⟩
structure impl_Val where
 Kind:Int
 N:Int
 S:(_root_.List Int)
def z_impl_Val:impl_Val:=⟨0,0,[]⟩
structure impl_Cell where
 Name:Int
 Key:(_root_.List Int)
 Val:impl_Val
def z_impl_Cell:impl_Cell:=⟨0,[],z_impl_Val⟩
structure impl_State where
 Vars:(_root_.List impl_Val)
 Cells:(_root_.List impl_Cell)
 Nr:Int
 Err:Int
def z_impl_State:impl_State:=⟨[],[],0,0⟩
structure impl_Mach where
 State:impl_State
 Done:(_root_.List Int)
 Out:(_root_.List Int)
def z_impl_Mach:impl_Mach:=⟨z_impl_State,[],[]⟩
structure impl_Hard where
 Term:Int
 Vote:Int
 Log:impl_Log
 Snap:impl_Mach
def z_impl_Hard:impl_Hard:=⟨0,0,z_impl_Log,z_impl_Mach⟩
structure impl_Disk where
 Bytes:(_root_.List Int)
 Sure:Int
def z_impl_Disk:impl_Disk:=⟨[],0⟩
structure impl_Rpc where
 Kind:Int
 From:Int
 To:Int
 Term:Int
 Index:Int
 IndexTerm:Int
 Commit:Int
 List:(_root_.List impl_Entry)
 Ok:Bool
 Snap:(_root_.List Int)
def z_impl_Rpc:impl_Rpc:=⟨0,0,0,0,0,0,0,[],false,[]⟩
structure impl_Peer where
 Id:Int
 Hard:impl_Hard
 Role:Int
 Votes:(_root_.List Bool)
 Next:(_root_.List Int)
 Match:(_root_.List Int)
 Commit:Int
 Now:impl_Mach
 Disk:impl_Disk
 Held:(_root_.List impl_Rpc)
def z_impl_Peer:impl_Peer:=⟨0,z_impl_Hard,0,[],[],[],0,z_impl_Mach,z_impl_Disk,[]⟩
structure impl_World where
 Prog:impl_Prog
 Size:Int
 Nodes:(_root_.List impl_Peer)
 Net:(_root_.List impl_Rpc)
 Sink:impl_Sink
 Sent:(_root_.List Int)
 Acked:(_root_.List Int)
 Done:(_root_.List impl_Cmd)
def z_impl_World:impl_World:=⟨z_impl_Prog,0,[],[],z_impl_Sink,[],[],[]⟩
structure laws_Rec where
 Kind:Int
 Term:Int
 Vote:Int
 Prev:Int
 List:(_root_.List laws_Entry)
 Snap:(_root_.List Int)
def z_laws_Rec:laws_Rec:=⟨0,0,0,0,[],[]⟩
structure impl_Rec where
 Kind:Int
 Term:Int
 Vote:Int
 Prev:Int
 List:(_root_.List impl_Entry)
 Snap:(_root_.List Int)
def z_impl_Rec:impl_Rec:=⟨0,0,0,0,[],[]⟩
structure impl_act where
 p:impl_Prog
 n:impl_Peer
 size:Int
 no:Bool
def z_impl_act:impl_act:=⟨z_impl_Prog,z_impl_Peer,0,false⟩
structure spec_l23Work where
 p:impl_Prog
 size:Int
 n:impl_Peer
 ok:Bool
def z_spec_l23Work:spec_l23Work:=⟨z_impl_Prog,0,z_impl_Peer,false⟩
structure spec_l17Cur where
 b:(_root_.List Int)
 at_:Int
 ok:Bool
def z_spec_l17Cur:spec_l17Cur:=⟨[],0,false⟩
structure impl_source where
 b:(_root_.List Int)
 at_:Int
 bad:Bool
def z_impl_source:impl_source:=⟨[],0,false⟩
structure impl_Rex where
 Op:Int
 C:Int
 Set:(_root_.List Int)
 Not:Bool
 Kids:(_root_.List impl_Rex)
def z_impl_Rex:impl_Rex:=⟨0,0,[],false,[]⟩
structure spec_l3Cur where
 s:(_root_.List Int)
 at_:Int
 bad:Bool
def z_spec_l3Cur:spec_l3Cur:=⟨[],0,false⟩
structure impl_rexReader where
 s:(_root_.List Int)
 bad:Bool
def z_impl_rexReader:impl_rexReader:=⟨[],false⟩
def gT:Nat→Type
 | 0=>laws_Prog
 | 1=>laws_Op
 | 2=>laws_Sink
 | 3=>laws_World
 | 4=>laws_Peer
 | 5=>laws_Hard
 | 6=>laws_Log
 | 7=>laws_Entry
 | 8=>laws_Cmd
 | 9=>laws_Mach
 | 10=>laws_State
 | 11=>laws_Val
 | 12=>laws_Cell
 | 13=>laws_Disk
 | 14=>laws_Rpc
 | 15=>impl_Prog
 | 16=>impl_Op
 | 17=>impl_Sink
 | 18=>impl_World
 | 19=>impl_Peer
 | 20=>impl_Hard
 | 21=>impl_Log
 | 22=>impl_Entry
 | 23=>impl_Cmd
 | 24=>impl_Mach
 | 25=>impl_State
 | 26=>impl_Val
 | 27=>impl_Cell
 | 28=>impl_Disk
 | 29=>impl_Rpc
 | 30=>laws_Rec
 | 31=>impl_Rec
 | 32=>impl_act
 | 33=>spec_l23Work
 | 34=>spec_l17Cur
 | 35=>impl_source
 | 36=>impl_Rex
 | 37=>spec_l3Cur
 | 38=>impl_rexReader
 | _=>Unit
def gfs:Nat→List FT
 | 0=>[(.sl .str),(.sl .str),(.sl (.nm 1)),(.sl (.nm 1))]
 | 1=>[(.int .i64),(.int .i64),.str]
 | 2=>[(.int .i64),.str]
 | 3=>[(.nm 0),(.int .i64),(.sl (.nm 4)),(.sl (.nm 14)),(.nm 2),(.sl (.int .i64)),(.sl (.int .i64)),(.sl (.nm 8))]
 | 4=>[(.int .i64),(.nm 5),(.int .i64),(.sl .bool),(.sl (.int .i64)),(.sl (.int .i64)),(.int .i64),(.nm 9),(.nm 13),(.sl (.nm 14))]
 | 5=>[(.int .i64),(.int .i64),(.nm 6),(.nm 9)]
 | 6=>[(.int .i64),(.int .i64),(.sl (.nm 7))]
 | 7=>[(.int .i64),(.nm 8)]
 | 8=>[(.int .i64),(.int .i64),.str]
 | 9=>[(.nm 10),(.sl (.int .i64)),.str]
 | 10=>[(.sl (.nm 11)),(.sl (.nm 12)),(.int .i64),(.int .i64)]
 | 11=>[(.int .i64),(.int .i64),.str]
 | 12=>[(.int .i64),.str,(.nm 11)]
 | 13=>[(.sl (.int .u8)),(.int .i64)]
 | 14=>[(.int .i64),(.int .i64),(.int .i64),(.int .i64),(.int .i64),(.int .i64),(.int .i64),(.sl (.nm 7)),.bool,.str]
 | 15=>[(.sl .str),(.sl .str),(.sl (.nm 16)),(.sl (.nm 16))]
 | 16=>[(.int .i64),(.int .i64),.str]
 | 17=>[(.int .i64),.str]
 | 18=>[(.nm 15),(.int .i64),(.sl (.nm 19)),(.sl (.nm 29)),(.nm 17),(.sl (.int .i64)),(.sl (.int .i64)),(.sl (.nm 23))]
 | 19=>[(.int .i64),(.nm 20),(.int .i64),(.sl .bool),(.sl (.int .i64)),(.sl (.int .i64)),(.int .i64),(.nm 24),(.nm 28),(.sl (.nm 29))]
 | 20=>[(.int .i64),(.int .i64),(.nm 21),(.nm 24)]
 | 21=>[(.int .i64),(.int .i64),(.sl (.nm 22))]
 | 22=>[(.int .i64),(.nm 23)]
 | 23=>[(.int .i64),(.int .i64),.str]
 | 24=>[(.nm 25),(.sl (.int .i64)),.str]
 | 25=>[(.sl (.nm 26)),(.sl (.nm 27)),(.int .i64),(.int .i64)]
 | 26=>[(.int .i64),(.int .i64),.str]
 | 27=>[(.int .i64),.str,(.nm 26)]
 | 28=>[(.sl (.int .u8)),(.int .i64)]
 | 29=>[(.int .i64),(.int .i64),(.int .i64),(.int .i64),(.int .i64),(.int .i64),(.int .i64),(.sl (.nm 22)),.bool,.str]
 | 30=>[(.int .i64),(.int .i64),(.int .i64),(.int .i64),(.sl (.nm 7)),.str]
 | 31=>[(.int .i64),(.int .i64),(.int .i64),(.int .i64),(.sl (.nm 22)),.str]
 | 32=>[(.nm 15),(.nm 19),(.int .i64),.bool]
 | 33=>[(.nm 15),(.int .i64),(.nm 19),.bool]
 | 34=>[(.sl (.int .u8)),(.int .i64),.bool]
 | 35=>[(.sl (.int .u8)),(.int .i64),.bool]
 | 36=>[(.int .i64),(.int .i64),.str,.bool,(.sl (.nm 36))]
 | 37=>[.str,(.int .i64),.bool]
 | 38=>[.str,.bool]
 | _=>[]
def gun:∀ n,gT n→Js gT (gfs n)
 | 0,x=>(x.Vars,(x.Cells,(x.Start,(x.Main,()))))
 | 1,x=>(x.Code,(x.N,(x.S,())))
 | 2,x=>(x.Epoch,(x.Text,()))
 | 3,x=>(x.Prog,(x.Size,(x.Nodes,(x.Net,(x.Sink,(x.Sent,(x.Acked,(x.Done,()))))))))
 | 4,x=>(x.Id,(x.Hard,(x.Role,(x.Votes,(x.Next,(x.Match,(x.Commit,(x.Now,(x.Disk,(x.Held,()))))))))))
 | 5,x=>(x.Term,(x.Vote,(x.Log,(x.Snap,()))))
 | 6,x=>(x.Base,(x.BaseTerm,(x.List,())))
 | 7,x=>(x.Term,(x.C,()))
 | 8,x=>(x.Who,(x.Seq,(x.Line,())))
 | 9,x=>(x.State,(x.Done,(x.Out,())))
 | 10,x=>(x.Vars,(x.Cells,(x.Nr,(x.Err,()))))
 | 11,x=>(x.Kind,(x.N,(x.S,())))
 | 12,x=>(x.Name,(x.Key,(x.Val,())))
 | 13,x=>(x.Bytes,(x.Sure,()))
 | 14,x=>(x.Kind,(x.From,(x.To,(x.Term,(x.Index,(x.IndexTerm,(x.Commit,(x.List,(x.Ok,(x.Snap,()))))))))))
 | 15,x=>(x.Vars,(x.Cells,(x.Start,(x.Main,()))))
 | 16,x=>(x.Code,(x.N,(x.S,())))
 | 17,x=>(x.Epoch,(x.Text,()))
 | 18,x=>(x.Prog,(x.Size,(x.Nodes,(x.Net,(x.Sink,(x.Sent,(x.Acked,(x.Done,()))))))))
 | 19,x=>(x.Id,(x.Hard,(x.Role,(x.Votes,(x.Next,(x.Match,(x.Commit,(x.Now,(x.Disk,(x.Held,()))))))))))
 | 20,x=>(x.Term,(x.Vote,(x.Log,(x.Snap,()))))
 | 21,x=>(x.Base,(x.BaseTerm,(x.List,())))
 | 22,x=>(x.Term,(x.C,()))
 | 23,x=>(x.Who,(x.Seq,(x.Line,())))
 | 24,x=>(x.State,(x.Done,(x.Out,())))
 | 25,x=>(x.Vars,(x.Cells,(x.Nr,(x.Err,()))))
 | 26,x=>(x.Kind,(x.N,(x.S,())))
 | 27,x=>(x.Name,(x.Key,(x.Val,())))
 | 28,x=>(x.Bytes,(x.Sure,()))
 | 29,x=>(x.Kind,(x.From,(x.To,(x.Term,(x.Index,(x.IndexTerm,(x.Commit,(x.List,(x.Ok,(x.Snap,()))))))))))
 | 30,x=>(x.Kind,(x.Term,(x.Vote,(x.Prev,(x.List,(x.Snap,()))))))
 | 31,x=>(x.Kind,(x.Term,(x.Vote,(x.Prev,(x.List,(x.Snap,()))))))
 | 32,x=>(x.p,(x.n,(x.size,(x.no,()))))
 | 33,x=>(x.p,(x.size,(x.n,(x.ok,()))))
 | 34,x=>(x.b,(x.at_,(x.ok,())))
 | 35,x=>(x.b,(x.at_,(x.bad,())))
 | 36,x=>(x.Op,(x.C,(x.Set,(x.Not,(x.Kids,())))))
 | 37,x=>(x.s,(x.at_,(x.bad,())))
 | 38,x=>(x.s,(x.bad,()))
 | (n+39),_=>()
def gpk:∀ n,Js gT (gfs n)→gT n
 | 0,y=>⟨y.1,y.2.1,y.2.2.1,y.2.2.2.1⟩
 | 1,y=>⟨y.1,y.2.1,y.2.2.1⟩
 | 2,y=>⟨y.1,y.2.1⟩
 | 3,y=>⟨y.1,y.2.1,y.2.2.1,y.2.2.2.1,y.2.2.2.2.1,y.2.2.2.2.2.1,y.2.2.2.2.2.2.1,y.2.2.2.2.2.2.2.1⟩
 | 4,y=>⟨y.1,y.2.1,y.2.2.1,y.2.2.2.1,y.2.2.2.2.1,y.2.2.2.2.2.1,y.2.2.2.2.2.2.1,y.2.2.2.2.2.2.2.1,y.2.2.2.2.2.2.2.2.1,y.2.2.2.2.2.2.2.2.2.1⟩
 | 5,y=>⟨y.1,y.2.1,y.2.2.1,y.2.2.2.1⟩
 | 6,y=>⟨y.1,y.2.1,y.2.2.1⟩
 | 7,y=>⟨y.1,y.2.1⟩
 | 8,y=>⟨y.1,y.2.1,y.2.2.1⟩
 | 9,y=>⟨y.1,y.2.1,y.2.2.1⟩
 | 10,y=>⟨y.1,y.2.1,y.2.2.1,y.2.2.2.1⟩
 | 11,y=>⟨y.1,y.2.1,y.2.2.1⟩
 | 12,y=>⟨y.1,y.2.1,y.2.2.1⟩
 | 13,y=>⟨y.1,y.2.1⟩
 | 14,y=>⟨y.1,y.2.1,y.2.2.1,y.2.2.2.1,y.2.2.2.2.1,y.2.2.2.2.2.1,y.2.2.2.2.2.2.1,y.2.2.2.2.2.2.2.1,y.2.2.2.2.2.2.2.2.1,y.2.2.2.2.2.2.2.2.2.1⟩
 | 15,y=>⟨y.1,y.2.1,y.2.2.1,y.2.2.2.1⟩
 | 16,y=>⟨y.1,y.2.1,y.2.2.1⟩
 | 17,y=>⟨y.1,y.2.1⟩
 | 18,y=>⟨y.1,y.2.1,y.2.2.1,y.2.2.2.1,y.2.2.2.2.1,y.2.2.2.2.2.1,y.2.2.2.2.2.2.1,y.2.2.2.2.2.2.2.1⟩
 | 19,y=>⟨y.1,y.2.1,y.2.2.1,y.2.2.2.1,y.2.2.2.2.1,y.2.2.2.2.2.1,y.2.2.2.2.2.2.1,y.2.2.2.2.2.2.2.1,y.2.2.2.2.2.2.2.2.1,y.2.2.2.2.2.2.2.2.2.1⟩
 | 20,y=>⟨y.1,y.2.1,y.2.2.1,y.2.2.2.1⟩
 | 21,y=>⟨y.1,y.2.1,y.2.2.1⟩
 | 22,y=>⟨y.1,y.2.1⟩
 | 23,y=>⟨y.1,y.2.1,y.2.2.1⟩
 | 24,y=>⟨y.1,y.2.1,y.2.2.1⟩
 | 25,y=>⟨y.1,y.2.1,y.2.2.1,y.2.2.2.1⟩
 | 26,y=>⟨y.1,y.2.1,y.2.2.1⟩
 | 27,y=>⟨y.1,y.2.1,y.2.2.1⟩
 | 28,y=>⟨y.1,y.2.1⟩
 | 29,y=>⟨y.1,y.2.1,y.2.2.1,y.2.2.2.1,y.2.2.2.2.1,y.2.2.2.2.2.1,y.2.2.2.2.2.2.1,y.2.2.2.2.2.2.2.1,y.2.2.2.2.2.2.2.2.1,y.2.2.2.2.2.2.2.2.2.1⟩
 | 30,y=>⟨y.1,y.2.1,y.2.2.1,y.2.2.2.1,y.2.2.2.2.1,y.2.2.2.2.2.1⟩
 | 31,y=>⟨y.1,y.2.1,y.2.2.1,y.2.2.2.1,y.2.2.2.2.1,y.2.2.2.2.2.1⟩
 | 32,y=>⟨y.1,y.2.1,y.2.2.1,y.2.2.2.1⟩
 | 33,y=>⟨y.1,y.2.1,y.2.2.1,y.2.2.2.1⟩
 | 34,y=>⟨y.1,y.2.1,y.2.2.1⟩
 | 35,y=>⟨y.1,y.2.1,y.2.2.1⟩
 | 36,y=>⟨y.1,y.2.1,y.2.2.1,y.2.2.2.1,y.2.2.2.2.1⟩
 | 37,y=>⟨y.1,y.2.1,y.2.2.1⟩
 | 38,y=>⟨y.1,y.2.1⟩
 | (n+39),_=>()
theorem gun_pk:∀ n y,gun n (gpk n y)=y
 | 0,_=>rfl
 | 1,_=>rfl
 | 2,_=>rfl
 | 3,_=>rfl
 | 4,_=>rfl
 | 5,_=>rfl
 | 6,_=>rfl
 | 7,_=>rfl
 | 8,_=>rfl
 | 9,_=>rfl
 | 10,_=>rfl
 | 11,_=>rfl
 | 12,_=>rfl
 | 13,_=>rfl
 | 14,_=>rfl
 | 15,_=>rfl
 | 16,_=>rfl
 | 17,_=>rfl
 | 18,_=>rfl
 | 19,_=>rfl
 | 20,_=>rfl
 | 21,_=>rfl
 | 22,_=>rfl
 | 23,_=>rfl
 | 24,_=>rfl
 | 25,_=>rfl
 | 26,_=>rfl
 | 27,_=>rfl
 | 28,_=>rfl
 | 29,_=>rfl
 | 30,_=>rfl
 | 31,_=>rfl
 | 32,_=>rfl
 | 33,_=>rfl
 | 34,_=>rfl
 | 35,_=>rfl
 | 36,_=>rfl
 | 37,_=>rfl
 | 38,_=>rfl
 | (n+39),_=>rfl
theorem gpk_un:∀ n x,gpk n (gun n x)=x
 | 0,x=>by cases x; rfl
 | 1,x=>by cases x; rfl
 | 2,x=>by cases x; rfl
 | 3,x=>by cases x; rfl
 | 4,x=>by cases x; rfl
 | 5,x=>by cases x; rfl
 | 6,x=>by cases x; rfl
 | 7,x=>by cases x; rfl
 | 8,x=>by cases x; rfl
 | 9,x=>by cases x; rfl
 | 10,x=>by cases x; rfl
 | 11,x=>by cases x; rfl
 | 12,x=>by cases x; rfl
 | 13,x=>by cases x; rfl
 | 14,x=>by cases x; rfl
 | 15,x=>by cases x; rfl
 | 16,x=>by cases x; rfl
 | 17,x=>by cases x; rfl
 | 18,x=>by cases x; rfl
 | 19,x=>by cases x; rfl
 | 20,x=>by cases x; rfl
 | 21,x=>by cases x; rfl
 | 22,x=>by cases x; rfl
 | 23,x=>by cases x; rfl
 | 24,x=>by cases x; rfl
 | 25,x=>by cases x; rfl
 | 26,x=>by cases x; rfl
 | 27,x=>by cases x; rfl
 | 28,x=>by cases x; rfl
 | 29,x=>by cases x; rfl
 | 30,x=>by cases x; rfl
 | 31,x=>by cases x; rfl
 | 32,x=>by cases x; rfl
 | 33,x=>by cases x; rfl
 | 34,x=>by cases x; rfl
 | 35,x=>by cases x; rfl
 | 36,x=>by cases x; rfl
 | 37,x=>by cases x; rfl
 | 38,x=>by cases x; rfl
 | (n+39),_=>rfl
def gz:∀ n,gT n
 | 0=>z_laws_Prog
 | 1=>z_laws_Op
 | 2=>z_laws_Sink
 | 3=>z_laws_World
 | 4=>z_laws_Peer
 | 5=>z_laws_Hard
 | 6=>z_laws_Log
 | 7=>z_laws_Entry
 | 8=>z_laws_Cmd
 | 9=>z_laws_Mach
 | 10=>z_laws_State
 | 11=>z_laws_Val
 | 12=>z_laws_Cell
 | 13=>z_laws_Disk
 | 14=>z_laws_Rpc
 | 15=>z_impl_Prog
 | 16=>z_impl_Op
 | 17=>z_impl_Sink
 | 18=>z_impl_World
 | 19=>z_impl_Peer
 | 20=>z_impl_Hard
 | 21=>z_impl_Log
 | 22=>z_impl_Entry
 | 23=>z_impl_Cmd
 | 24=>z_impl_Mach
 | 25=>z_impl_State
 | 26=>z_impl_Val
 | 27=>z_impl_Cell
 | 28=>z_impl_Disk
 | 29=>z_impl_Rpc
 | 30=>z_laws_Rec
 | 31=>z_impl_Rec
 | 32=>z_impl_act
 | 33=>z_spec_l23Work
 | 34=>z_spec_l17Cur
 | 35=>z_impl_source
 | 36=>z_impl_Rex
 | 37=>z_spec_l3Cur
 | 38=>z_impl_rexReader
 | (n+39)=>()
theorem gun_z:∀ n,gun n (gz n)=zeroJs gz (gfs n)
 | 0=>rfl
 | 1=>rfl
 | 2=>rfl
 | 3=>rfl
 | 4=>rfl
 | 5=>rfl
 | 6=>rfl
 | 7=>rfl
 | 8=>rfl
 | 9=>rfl
 | 10=>rfl
 | 11=>rfl
 | 12=>rfl
 | 13=>rfl
 | 14=>rfl
 | 15=>rfl
 | 16=>rfl
 | 17=>rfl
 | 18=>rfl
 | 19=>rfl
 | 20=>rfl
 | 21=>rfl
 | 22=>rfl
 | 23=>rfl
 | 24=>rfl
 | 25=>rfl
 | 26=>rfl
 | 27=>rfl
 | 28=>rfl
 | 29=>rfl
 | 30=>rfl
 | 31=>rfl
 | 32=>rfl
 | 33=>rfl
 | 34=>rfl
 | 35=>rfl
 | 36=>rfl
 | 37=>rfl
 | 38=>rfl
 | (n+39)=>rfl
def gsz:Nat→Nat
 | 0=>4
 | 1=>3
 | 2=>2
 | 3=>12
 | 4=>26
 | 5=>11
 | 6=>3
 | 7=>4
 | 8=>3
 | 9=>6
 | 10=>4
 | 11=>3
 | 12=>5
 | 13=>2
 | 14=>10
 | 15=>4
 | 16=>3
 | 17=>2
 | 18=>12
 | 19=>26
 | 20=>11
 | 21=>3
 | 22=>4
 | 23=>3
 | 24=>6
 | 25=>4
 | 26=>3
 | 27=>5
 | 28=>2
 | 29=>10
 | 30=>6
 | 31=>6
 | 32=>32
 | 33=>32
 | 34=>3
 | 35=>3
 | 36=>5
 | 37=>3
 | 38=>2
 | _=>0
theorem gsz_eq:∀ n,gsz n=FT.szs gsz (gfs n)
 | 0=>rfl
 | 1=>rfl
 | 2=>rfl
 | 3=>rfl
 | 4=>rfl
 | 5=>rfl
 | 6=>rfl
 | 7=>rfl
 | 8=>rfl
 | 9=>rfl
 | 10=>rfl
 | 11=>rfl
 | 12=>rfl
 | 13=>rfl
 | 14=>rfl
 | 15=>rfl
 | 16=>rfl
 | 17=>rfl
 | 18=>rfl
 | 19=>rfl
 | 20=>rfl
 | 21=>rfl
 | 22=>rfl
 | 23=>rfl
 | 24=>rfl
 | 25=>rfl
 | 26=>rfl
 | 27=>rfl
 | 28=>rfl
 | 29=>rfl
 | 30=>rfl
 | 31=>rfl
 | 32=>rfl
 | 33=>rfl
 | 34=>rfl
 | 35=>rfl
 | 36=>rfl
 | 37=>rfl
 | 38=>rfl
 | (n+39)=>rfl
def gfl:Nat→Bool
 | 0=>false
 | 1=>true
 | 2=>true
 | 3=>false
 | 4=>false
 | 5=>false
 | 6=>false
 | 7=>true
 | 8=>true
 | 9=>false
 | 10=>false
 | 11=>true
 | 12=>true
 | 13=>false
 | 14=>false
 | 15=>false
 | 16=>true
 | 17=>true
 | 18=>false
 | 19=>false
 | 20=>false
 | 21=>false
 | 22=>true
 | 23=>true
 | 24=>false
 | 25=>false
 | 26=>true
 | 27=>true
 | 28=>false
 | 29=>false
 | 30=>false
 | 31=>false
 | 32=>false
 | 33=>false
 | 34=>false
 | 35=>false
 | 36=>false
 | 37=>true
 | 38=>true
 | _=>true
theorem gfl_eq:∀ n,gfl n=true→FT.flats gfl (gfs n)=true
 | 0,h=>by cases h
 | 1,h=>rfl
 | 2,h=>rfl
 | 3,h=>by cases h
 | 4,h=>by cases h
 | 5,h=>by cases h
 | 6,h=>by cases h
 | 7,h=>rfl
 | 8,h=>rfl
 | 9,h=>by cases h
 | 10,h=>by cases h
 | 11,h=>rfl
 | 12,h=>rfl
 | 13,h=>by cases h
 | 14,h=>by cases h
 | 15,h=>by cases h
 | 16,h=>rfl
 | 17,h=>rfl
 | 18,h=>by cases h
 | 19,h=>by cases h
 | 20,h=>by cases h
 | 21,h=>by cases h
 | 22,h=>rfl
 | 23,h=>rfl
 | 24,h=>by cases h
 | 25,h=>by cases h
 | 26,h=>rfl
 | 27,h=>rfl
 | 28,h=>by cases h
 | 29,h=>by cases h
 | 30,h=>by cases h
 | 31,h=>by cases h
 | 32,h=>by cases h
 | 33,h=>by cases h
 | 34,h=>by cases h
 | 35,h=>by cases h
 | 36,h=>by cases h
 | 37,h=>rfl
 | 38,h=>rfl
 | (n+39),_=>rfl
def gam:Gam:=⟨gT,gfs,gun,gpk,gun_pk,gpk_un,gz,gun_z,gsz,gsz_eq,gfl,gfl_eq⟩
def tyL:List (Nat × FT):=[(2,(.int .i64)),(3,(.int .i64)),(4,.bool),(5,(.int .u8)),(6,(.int .u8)),(9,.str),(21,(.int .i32)),(22,(.sl .str)),(23,(.sl (.nm 1))),(25,(.nm 0)),(27,(.sl (.nm 14))),(30,(.sl (.int .i64))),(36,(.sl (.nm 16))),(38,(.nm 15)),(40,(.sl (.nm 29))),(48,(.sl (.nm 7))),(50,(.nm 6)),(51,(.sl (.nm 11))),(52,(.sl (.nm 12))),(54,(.nm 10)),(56,(.nm 9)),(58,(.nm 5)),(59,(.sl .bool)),(60,(.sl (.int .u8))),(62,(.nm 13)),(64,(.nm 4)),(66,(.nm 8)),(70,(.sl (.nm 22))),(72,(.nm 21)),(73,(.sl (.nm 26))),(74,(.sl (.nm 27))),(76,(.nm 25)),(78,(.nm 24)),(80,(.nm 20)),(81,(.nm 28)),(83,(.nm 19)),(88,(.nm 23)),(131,(.nm 29)),(156,(.nm 22)),(164,(.nm 32)),(179,(.nm 33)),(207,(.nm 14)),(225,(.nm 1)),(230,(.nm 16)),(242,(.nm 26)),(244,(.nm 27)),(252,(.int .u64)),(255,(.nm 7)),(297,(.sl (.nm 36))),(299,(.nm 36)),(313,(.nm 11)),(316,(.nm 12)),(333,(.int .u64)),(338,(.nm 37)),(348,(.nm 38)),(375,(.int .i64))]
def ifcL:List Nat:=[364]
abbrev BT0:BT:=.leaf false .str
abbrev BT1:BT:=.leaf false .bool
abbrev BT2:BT:=.leaf true (.nm 19)
abbrev BT3:BT:=.leaf true (.nm 16)
abbrev BT4:BT:=.leaf true (.nm 37)
abbrev BT5:BT:=.leaf true (.nm 36)
abbrev BT6:BT:=.leaf true (.nm 38)
abbrev BT7:BT:=.leaf false (.nm 0)
abbrev BT8:BT:=.leaf false (.nm 4)
abbrev BT9:BT:=.leaf true (.nm 20)
abbrev BT10:BT:=.leaf true (.nm 24)
abbrev BT11:BT:=.leaf true (.nm 28)
abbrev BT12:BT:=.leaf true (.nm 21)
abbrev BT13:BT:=.leaf true (.nm 25)
abbrev BT14:BT:=.leaf true (.nm 29)
abbrev BT15:BT:=.leaf false (.nm 19)
abbrev BT16:BT:=.leaf false (.nm 33)
abbrev BT17:BT:=.leaf false (.nm 15)
abbrev BT18:BT:=.leaf false (.nm 24)
abbrev BT19:BT:=.leaf false (.nm 25)
abbrev BT20:BT:=.leaf false (.nm 21)
abbrev BT21:BT:=.leaf false (.nm 36)
abbrev BT22:BT:=.leaf false (.nm 29)
abbrev BT23:BT:=.leaf false (.nm 20)
abbrev BT24:BT:=.leaf false (.nm 28)
abbrev BT25:BT:=.leaf false (.nm 16)
abbrev BT26:BT:=.leaf false (.nm 26)
abbrev BT27:BT:=.leaf false (.nm 22)
abbrev BT28:BT:=.leaf false (.nm 27)
abbrev BT29:BT:=.leaf false (.nm 23)
abbrev BT30:BT:=.leaf false (.nm 37)
abbrev BT31:BT:=.leaf false (.nm 38)
abbrev BT32:BT:=.leaf true (.sl .str)
abbrev BT33:BT:=.leaf false (.sl .str)
abbrev BT34:BT:=.leaf true (.sl .bool)
abbrev BT35:BT:=.leaf true (.int .i64)
abbrev BT36:BT:=.leaf false (.int .u8)
abbrev BT37:BT:=.leaf false (.int .i64)
abbrev BT38:BT:=.leaf false (.sl .bool)
abbrev BT39:BT:=.leaf false (.int .u64)
abbrev BT40:BT:=.leaf false (.int .i32)
abbrev BT41:BT:=.leaf false (.sl (.nm 1))
abbrev BT42:BT:=.leaf true (.sl (.nm 16))
abbrev BT43:BT:=.leaf true (.sl (.nm 29))
abbrev BT44:BT:=.leaf true (.sl (.nm 22))
abbrev BT45:BT:=.leaf false (.sl (.nm 7))
abbrev BT46:BT:=.leaf true (.sl (.nm 26))
abbrev BT47:BT:=.leaf true (.sl (.nm 27))
abbrev BT48:BT:=.leaf true (.sl (.nm 36))
abbrev BT49:BT:=.leaf false (.sl (.nm 14))
abbrev BT50:BT:=.leaf false (.sl (.nm 26))
abbrev BT51:BT:=.leaf false (.sl (.nm 27))
abbrev BT52:BT:=.leaf false (.sl (.nm 29))
abbrev BT53:BT:=.leaf false (.sl (.nm 16))
abbrev BT54:BT:=.leaf false (.sl (.nm 22))
abbrev BT55:BT:=.leaf false (.sl (.nm 11))
abbrev BT56:BT:=.leaf false (.sl (.nm 12))
abbrev BT57:BT:=.leaf true (.sl (.int .u8))
abbrev BT58:BT:=.leaf true (.sl (.int .i64))
abbrev BT59:BT:=.leaf false (.sl (.int .u8))
abbrev BT60:BT:=.leaf false (.sl (.int .i64))
abbrev BT62:BT:=.pr (.leaf false (.int .i64)) (.pr (.leaf false .bool) (.un))
abbrev BT64:BT:=.pr (.leaf false (.nm 15)) (.pr (.leaf true (.nm 19)) (.pr (.leaf false (.int .i64)) (.pr (.leaf false .bool) (.un))))
def keyL:List KeyI:=[
 ⟨0,[],[]⟩,
 ⟨1,[],[]⟩,
 ⟨2,[],[]⟩,
 ⟨3,[],[]⟩,
 ⟨4,[],[]⟩,
 ⟨5,[],[]⟩,
 ⟨5,[true,true,true,true,true,true],[.ptr 5 80,.ptr 8 128,.ptr 10 704,.slot 80 (BT15) true none,.slot 128 (BT2) true none,.slot 704 (BT16) true none]⟩,
 ⟨6,[],[]⟩,
 ⟨7,[],[]⟩,
 ⟨8,[],[]⟩,
 ⟨9,[],[]⟩,
 ⟨10,[],[]⟩,
 ⟨11,[],[]⟩,
 ⟨12,[],[]⟩,
 ⟨12,[true,true,true,false,true,false],[.val 0 (BT33),.val 1 (BT37),.val 5 (BT37)]⟩,
 ⟨13,[],[]⟩,
 ⟨13,[true,true,true,false,true,false],[.val 0 (BT41),.val 1 (BT37),.val 5 (BT37)]⟩,
 ⟨14,[],[]⟩,
 ⟨15,[],[]⟩,
 ⟨16,[],[]⟩,
 ⟨17,[],[]⟩,
 ⟨18,[],[]⟩,
 ⟨19,[],[]⟩,
 ⟨19,[true,true,true,false,true,false],[.val 0 (BT49),.val 1 (BT37),.val 5 (BT37)]⟩,
 ⟨20,[],[]⟩,
 ⟨20,[true,true,false,true,false],[.val 0 (BT33),.own 3 48 (BT32),.val 4 (BT37)]⟩,
 ⟨21,[],[]⟩,
 ⟨21,[true,true,false,true,false],[.val 0 (BT41),.own 3 48 (BT42),.val 4 (BT37)]⟩,
 ⟨22,[],[]⟩,
 ⟨23,[],[]⟩,
 ⟨23,[true,true,false,true,false],[.val 0 (BT38),.own 3 48 (BT34),.val 4 (BT37)]⟩,
 ⟨24,[],[]⟩,
 ⟨24,[true,true,false,true,false],[.val 0 (BT60),.own 3 48 (BT58),.val 4 (BT37)]⟩,
 ⟨25,[],[]⟩,
 ⟨26,[],[]⟩,
 ⟨27,[],[]⟩,
 ⟨27,[true,true,false,true,false],[.val 0 (BT49),.own 3 48 (BT43),.val 4 (BT37)]⟩,
 ⟨28,[],[]⟩,
 ⟨28,[true,true,true,false,true,false],[.ptr 3 48,.ptr 4 64,.val 2 (BT37),.val 7 (BT37),.val 9 (BT37),.slot 48 (BT17) true none,.slot 64 (BT15) true none]⟩,
 ⟨28,[true,true,true,true,false,true,false],[.ptr 3 48,.ptr 4 64,.val 2 (BT37),.val 7 (BT37),.val 10 (BT37),.slot 48 (BT17) true none,.slot 64 (BT15) true none]⟩,
 ⟨29,[],[]⟩,
 ⟨30,[],[]⟩,
 ⟨31,[],[]⟩,
 ⟨31,[true,true,true,false,true,false],[.ptr 1 16,.ptr 3 48,.own 4 64 (BT57),.val 5 (BT37),.slot 16 (BT18) true none,.slot 48 (BT19) true none]⟩,
 ⟨31,[true,true,true,true,true,false,true,false],[.ptr 1 16,.ptr 3 48,.own 4 64 (BT57),.val 6 (BT37),.slot 16 (BT18) true none,.slot 48 (BT19) true none]⟩,
 ⟨31,[true,true,true,true,true,true,true,true,false,true,false],[.ptr 1 16,.own 4 64 (BT57),.val 7 (BT37),.slot 16 (BT18) true none]⟩,
 ⟨32,[],[]⟩,
 ⟨33,[],[]⟩,
 ⟨34,[],[]⟩,
 ⟨35,[],[]⟩,
 ⟨36,[],[]⟩,
 ⟨37,[],[]⟩,
 ⟨38,[],[]⟩,
 ⟨38,[true,true,true,false,true,false],[.ptr 3 48,.own 5 80 (BT57),.val 23 (BT50),.val 24 (BT37),.val 25 (BT37),.slot 48 (BT18) true none]⟩,
 ⟨38,[true,true,true,true,true,false,true,false],[.ptr 3 48,.own 5 80 (BT57),.val 42 (BT51),.val 43 (BT37),.val 44 (BT37),.slot 48 (BT18) true none]⟩,
 ⟨38,[true,true,true,true,true,true,true,true,false,true,false],[.ptr 3 48,.own 5 80 (BT57),.val 76 (BT60),.val 77 (BT37),.val 78 (BT37),.slot 48 (BT18) true none]⟩,
 ⟨39,[],[]⟩,
 ⟨40,[],[]⟩,
 ⟨41,[],[]⟩,
 ⟨42,[],[]⟩,
 ⟨43,[],[]⟩,
 ⟨44,[],[]⟩,
 ⟨44,[true,true,false,true,false],[.val 0 (BT38),.val 1 (BT38),.val 5 (BT37)]⟩,
 ⟨45,[],[]⟩,
 ⟨45,[true,true,false,true,false],[.val 0 (BT60),.val 1 (BT60),.val 5 (BT37)]⟩,
 ⟨46,[],[]⟩,
 ⟨47,[],[]⟩,
 ⟨48,[],[]⟩,
 ⟨48,[true,true,false,true,false],[.val 0 (BT52),.val 1 (BT52),.val 5 (BT37)]⟩,
 ⟨49,[],[]⟩,
 ⟨49,[true,true,false,true,false],[.val 0 (BT33),.val 1 (BT33),.val 5 (BT37)]⟩,
 ⟨50,[],[]⟩,
 ⟨50,[true,true,false,true,false],[.val 0 (BT53),.val 1 (BT53),.val 5 (BT37)]⟩,
 ⟨51,[],[]⟩,
 ⟨51,[true,false,true,false],[.own 0 0 (BT32),.val 1 (BT37),.val 5 (BT37)]⟩,
 ⟨52,[],[]⟩,
 ⟨52,[true,false,true,false],[.own 0 0 (BT42),.val 1 (BT37),.val 5 (BT37)]⟩,
 ⟨53,[],[]⟩,
 ⟨54,[],[]⟩,
 ⟨54,[true,false,true,false],[.own 0 0 (BT34),.val 1 (BT37),.val 5 (BT37)]⟩,
 ⟨55,[],[]⟩,
 ⟨55,[true,false,true,false],[.own 0 0 (BT58),.val 1 (BT37),.val 5 (BT37)]⟩,
 ⟨56,[],[]⟩,
 ⟨57,[],[]⟩,
 ⟨58,[],[]⟩,
 ⟨58,[true,false,true,false],[.own 0 0 (BT43),.val 1 (BT37),.val 5 (BT37)]⟩,
 ⟨59,[],[]⟩,
 ⟨60,[],[]⟩,
 ⟨60,[true,false,true,false],[.val 0 (BT38),.val 1 (BT37),.val 5 (BT37)]⟩,
 ⟨61,[],[]⟩,
 ⟨61,[true,false,true,false],[.val 0 (BT60),.val 1 (BT37),.val 5 (BT37)]⟩,
 ⟨62,[],[]⟩,
 ⟨63,[],[]⟩,
 ⟨64,[],[]⟩,
 ⟨64,[true,false,true,false],[.val 0 (BT52),.val 1 (BT37),.val 5 (BT37)]⟩,
 ⟨65,[],[]⟩,
 ⟨66,[],[]⟩,
 ⟨67,[],[]⟩,
 ⟨68,[],[]⟩,
 ⟨69,[],[]⟩,
 ⟨70,[],[]⟩,
 ⟨71,[],[]⟩,
 ⟨72,[],[]⟩,
 ⟨73,[],[]⟩,
 ⟨73,[true,true,false,true,false],[.val 0 (BT59),.own 3 48 (BT57),.val 4 (BT37)]⟩,
 ⟨74,[],[]⟩,
 ⟨75,[],[]⟩,
 ⟨76,[],[]⟩,
 ⟨77,[],[]⟩,
 ⟨78,[],[]⟩,
 ⟨78,[true,false,true,false],[.ptr 2 32,.ptr 3 48,.val 5 (BT37),.slot 32 (BT17) true none,.slot 48 (BT18) true none]⟩,
 ⟨79,[],[]⟩,
 ⟨80,[],[]⟩,
 ⟨81,[],[]⟩,
 ⟨82,[],[]⟩,
 ⟨83,[],[]⟩,
 ⟨83,[true,true,false,true,false],[.val 0 (BT52),.own 3 48 (BT43),.val 4 (BT37)]⟩,
 ⟨84,[],[]⟩,
 ⟨84,[true,true,true,false,false],[.val 0 (BT37),.own 3 48 (BT57)]⟩,
 ⟨85,[],[]⟩,
 ⟨86,[],[]⟩,
 ⟨87,[],[]⟩,
 ⟨88,[],[]⟩,
 ⟨89,[],[]⟩,
 ⟨90,[],[]⟩,
 ⟨91,[],[]⟩,
 ⟨92,[],[]⟩,
 ⟨93,[],[]⟩,
 ⟨94,[],[]⟩,
 ⟨95,[],[]⟩,
 ⟨96,[],[]⟩,
 ⟨97,[],[]⟩,
 ⟨98,[],[]⟩,
 ⟨98,[true,true,false,true,false],[.own 3 48 (BT43),.val 6 (BT52),.val 7 (BT37),.val 8 (BT37)]⟩,
 ⟨99,[],[]⟩,
 ⟨100,[],[]⟩,
 ⟨101,[],[]⟩,
 ⟨101,[true,true,true,false,false],[.val 0 (BT37),.own 3 48 (BT57)]⟩,
 ⟨102,[],[]⟩,
 ⟨103,[],[]⟩,
 ⟨104,[],[]⟩,
 ⟨105,[],[]⟩,
 ⟨106,[],[]⟩,
 ⟨107,[],[]⟩,
 ⟨108,[],[]⟩,
 ⟨109,[],[]⟩,
 ⟨109,[true,true,false,true,false],[.val 0 (BT59),.val 1 (BT59),.val 5 (BT37)]⟩,
 ⟨110,[],[]⟩,
 ⟨111,[],[]⟩,
 ⟨112,[],[]⟩,
 ⟨112,[true,true,true,false,false],[.val 0 (BT37),.val 3 (BT0)]⟩,
 ⟨113,[],[]⟩,
 ⟨114,[],[]⟩,
 ⟨115,[],[]⟩,
 ⟨115,[true,false,true,false],[.own 0 0 (BT57),.val 1 (BT37),.val 5 (BT37)]⟩,
 ⟨116,[],[]⟩,
 ⟨116,[true,false,true,false],[.own 0 0 (BT44),.val 1 (BT37),.val 5 (BT37)]⟩,
 ⟨117,[],[]⟩,
 ⟨118,[],[]⟩,
 ⟨119,[],[]⟩,
 ⟨119,[true,false,true,false],[.val 0 (BT59),.val 1 (BT37),.val 5 (BT37)]⟩,
 ⟨120,[],[]⟩,
 ⟨120,[true,false,true,false],[.val 0 (BT54),.val 1 (BT37),.val 5 (BT37)]⟩,
 ⟨121,[],[]⟩,
 ⟨121,[true,true,true,false,true,false],[.val 0 (BT45),.val 1 (BT37),.val 5 (BT37)]⟩,
 ⟨122,[],[]⟩,
 ⟨122,[true,true,true,false,true,false],[.val 0 (BT55),.val 1 (BT37),.val 5 (BT37)]⟩,
 ⟨123,[],[]⟩,
 ⟨123,[true,true,true,false,true,false],[.val 0 (BT56),.val 1 (BT37),.val 5 (BT37)]⟩,
 ⟨124,[],[]⟩,
 ⟨124,[true,true,false,true,false],[.val 0 (BT45),.own 3 48 (BT44),.val 4 (BT37)]⟩,
 ⟨125,[],[]⟩,
 ⟨125,[true,true,false,true,false],[.val 0 (BT55),.own 3 48 (BT46),.val 4 (BT37)]⟩,
 ⟨126,[],[]⟩,
 ⟨126,[true,true,false,true,false],[.val 0 (BT56),.own 3 48 (BT47),.val 4 (BT37)]⟩,
 ⟨127,[],[]⟩,
 ⟨127,[true,true,true,false,true,false],[.ptr 1 16,.val 3 (BT37),.val 4 (BT37),.slot 16 (BT20) true none]⟩,
 ⟨128,[],[]⟩,
 ⟨128,[true,false,true,false],[.val 0 (BT54),.val 1 (BT37),.val 5 (BT37)]⟩,
 ⟨129,[],[]⟩,
 ⟨129,[true,false,true,false],[.ptr 1 16,.val 3 (BT37),.slot 16 (BT17) true none]⟩,
 ⟨129,[true,true,false,true,false],[.ptr 1 16,.val 4 (BT37),.slot 16 (BT17) true none]⟩,
 ⟨130,[],[]⟩,
 ⟨130,[true,false,true,false],[.ptr 3 48,.val 1 (BT37),.val 2 (BT37),.val 7 (BT37),.slot 48 (BT19) true none]⟩,
 ⟨130,[true,true,false,true,false],[.ptr 3 48,.val 1 (BT37),.val 2 (BT37),.val 8 (BT37),.slot 48 (BT19) true none]⟩,
 ⟨131,[],[]⟩,
 ⟨132,[],[]⟩,
 ⟨133,[],[]⟩,
 ⟨134,[],[]⟩,
 ⟨135,[],[]⟩,
 ⟨136,[],[]⟩,
 ⟨137,[],[]⟩,
 ⟨137,[true,true,true,false,true,false],[.val 3 (BT37),.val 28 (BT54),.val 29 (BT37),.val 30 (BT37)]⟩,
 ⟨138,[],[]⟩,
 ⟨139,[],[]⟩,
 ⟨140,[],[]⟩,
 ⟨140,[true,true,false,true,false],[.ptr 3 48,.val 2 (BT37),.val 38 (BT51),.val 39 (BT37),.val 40 (BT37),.slot 48 (BT19) true none]⟩,
 ⟨141,[],[]⟩,
 ⟨142,[],[]⟩,
 ⟨142,[true,false,true,false],[.clo 1 171 [16,17],.val 0 (BT52),.val 7 (BT37),.val 8 (BT37),.slot 16 (BT35) true none,.slot 17 (BT15) true none]⟩,
 ⟨143,[],[]⟩,
 ⟨144,[],[]⟩,
 ⟨145,[],[]⟩,
 ⟨146,[],[]⟩,
 ⟨147,[],[]⟩,
 ⟨148,[],[]⟩,
 ⟨148,[true,true,false,true,false],[.val 0 (BT54),.val 1 (BT54),.val 5 (BT37)]⟩,
 ⟨149,[],[]⟩,
 ⟨149,[true,true,false,true,false],[.val 0 (BT50),.val 1 (BT50),.val 5 (BT37)]⟩,
 ⟨150,[],[]⟩,
 ⟨150,[true,true,false,true,false],[.val 0 (BT51),.val 1 (BT51),.val 5 (BT37)]⟩,
 ⟨151,[],[]⟩,
 ⟨151,[true,false,true,false],[.own 0 0 (BT46),.val 1 (BT37),.val 5 (BT37)]⟩,
 ⟨152,[],[]⟩,
 ⟨152,[true,false,true,false],[.own 0 0 (BT47),.val 1 (BT37),.val 5 (BT37)]⟩,
 ⟨153,[],[]⟩,
 ⟨153,[true,false,true,false],[.val 0 (BT50),.val 1 (BT37),.val 5 (BT37)]⟩,
 ⟨154,[],[]⟩,
 ⟨154,[true,false,true,false],[.val 0 (BT51),.val 1 (BT37),.val 5 (BT37)]⟩,
 ⟨155,[],[]⟩,
 ⟨156,[],[]⟩,
 ⟨157,[],[]⟩,
 ⟨158,[],[]⟩,
 ⟨159,[],[]⟩,
 ⟨160,[],[]⟩,
 ⟨161,[],[]⟩,
 ⟨162,[],[]⟩,
 ⟨162,[true,false,true,false],[.val 0 (BT0),.val 3 (BT37)]⟩,
 ⟨163,[],[]⟩,
 ⟨163,[true,false,true,false],[.val 0 (BT33),.val 1 (BT0),.val 5 (BT37)]⟩,
 ⟨164,[],[]⟩,
 ⟨164,[true,true,true,false,true,false],[.val 0 (BT53),.val 1 (BT37),.val 2 (BT37),.val 7 (BT37),.val 8 (BT37)]⟩,
 ⟨165,[],[]⟩,
 ⟨166,[],[]⟩,
 ⟨167,[],[]⟩,
 ⟨168,[],[]⟩,
 ⟨168,[true,false,true,false],[.clo 1 175 [16,17],.val 0 (BT60),.val 7 (BT37),.val 8 (BT37),.slot 16 (BT35) true none,.slot 17 (BT35) true none]⟩,
 ⟨169,[],[]⟩,
 ⟨169,[true,false,true,false],[.val 0 (BT33),.val 5 (BT33),.val 6 (BT37),.val 7 (BT37)]⟩,
 ⟨170,[],[]⟩,
 ⟨171,[],[]⟩,
 ⟨172,[],[]⟩,
 ⟨173,[],[]⟩,
 ⟨174,[],[]⟩,
 ⟨175,[],[]⟩,
 ⟨175,[true,false,true,false],[.clo 1 242 [],.val 0 (BT60),.val 7 (BT37),.val 8 (BT37)]⟩,
 ⟨176,[],[]⟩,
 ⟨177,[],[]⟩,
 ⟨178,[],[]⟩,
 ⟨179,[],[]⟩,
 ⟨180,[],[]⟩,
 ⟨181,[],[]⟩,
 ⟨182,[],[]⟩,
 ⟨183,[],[]⟩,
 ⟨184,[],[]⟩,
 ⟨184,[true,false,true,false],[.val 0 (BT0),.val 3 (BT37)]⟩,
 ⟨185,[],[]⟩,
 ⟨186,[],[]⟩,
 ⟨187,[],[]⟩,
 ⟨187,[true,false,true,false,true,true,true,true,true],[.ptr 4 64,.val 1 (BT37),.val 2 (BT37),.val 3 (BT37),.val 12 (BT37),.val 28 (BT1),.slot 64 (BT3) true none]⟩,
 ⟨187,[true,false,true,false,true,true,true,true,true,true,true],[.ptr 4 64,.val 1 (BT37),.val 3 (BT37),.val 12 (BT37),.val 46 (BT1),.slot 64 (BT3) true none]⟩,
 ⟨187,[true,false,true,false,true,true,true,true,true,true,true,true,true],[.ptr 4 64,.val 1 (BT37),.val 12 (BT37),.val 65 (BT1),.slot 64 (BT3) true none]⟩,
 ⟨187,[true,false,true,false,true,true,true,true,true,true,true,true,true,true,true,true,true],[.ptr 4 64,.val 1 (BT37),.val 12 (BT37),.val 91 (BT1),.slot 64 (BT3) true none]⟩,
 ⟨188,[],[]⟩,
 ⟨189,[],[]⟩,
 ⟨189,[true,true,true,false,false],[.val 0 (BT0),.val 4 (BT37),.val 5 (BT37)]⟩,
 ⟨190,[],[]⟩,
 ⟨191,[],[]⟩,
 ⟨192,[],[]⟩,
 ⟨193,[],[]⟩,
 ⟨193,[true,false,true,false],[.clo 1 165 [16],.val 0 (BT33),.val 7 (BT37),.val 8 (BT37),.slot 16 (BT17) true none]⟩,
 ⟨194,[],[]⟩,
 ⟨195,[],[]⟩,
 ⟨195,[true,false,true,false],[.clo 1 283 [],.val 0 (BT50),.val 7 (BT37),.val 8 (BT37)]⟩,
 ⟨196,[],[]⟩,
 ⟨197,[],[]⟩,
 ⟨198,[],[]⟩,
 ⟨199,[],[]⟩,
 ⟨200,[],[]⟩,
 ⟨201,[],[]⟩,
 ⟨202,[],[]⟩,
 ⟨203,[],[]⟩,
 ⟨204,[],[]⟩,
 ⟨204,[true,true,false,false],[.val 0 (BT0),.val 4 (BT37)]⟩,
 ⟨204,[true,true,true,true,true],[.val 0 (BT0),.val 4 (BT37),.val 5 (BT1)]⟩,
 ⟨204,[true,true,true,true,true,true,false,false],[.val 0 (BT0),.val 4 (BT37),.val 5 (BT1),.val 6 (BT37),.val 7 (BT37)]⟩,
 ⟨204,[true,true,true,true,true,true,true,false,true,false,true,true,false],[.val 0 (BT0),.val 4 (BT37),.val 5 (BT1),.val 6 (BT37),.val 7 (BT37),.val 8 (BT37)]⟩,
 ⟨204,[true,true,true,true,true,true,true,true],[.val 4 (BT37),.val 5 (BT1),.val 6 (BT37),.val 7 (BT37)]⟩,
 ⟨205,[],[]⟩,
 ⟨206,[],[]⟩,
 ⟨206,[true,true,false,false],[.val 0 (BT0),.val 1 (BT37),.val 5 (BT37)]⟩,
 ⟨207,[],[]⟩,
 ⟨207,[true,false,true,false,true],[.val 0 (BT0),.val 4 (BT1)]⟩,
 ⟨208,[],[]⟩,
 ⟨209,[],[]⟩,
 ⟨209,[true,false,true,false],[.clo 1 239 [16,17,18],.val 0 (BT53),.val 7 (BT37),.val 8 (BT37),.slot 16 (BT53) true none,.slot 17 (BT35) true none,.slot 18 (BT35) true none]⟩,
 ⟨210,[],[]⟩,
 ⟨211,[],[]⟩,
 ⟨211,[true,true,true,true],[.val 0 (BT0),.val 4 (BT37),.val 5 (BT1)]⟩,
 ⟨211,[true,true,true,true,true,true,true,true,true],[.val 4 (BT37),.val 5 (BT1),.val 7 (BT0),.val 8 (BT0)]⟩,
 ⟨212,[],[]⟩,
 ⟨213,[],[]⟩,
 ⟨214,[],[]⟩,
 ⟨215,[],[]⟩,
 ⟨215,[true,true,false,false],[.ptr 0 0,.ptr 4 64,.val 1 (BT37),.own 5 80 (BT48),.slot 0 (BT4) true none,.slot 64 (BT5) true none]⟩,
 ⟨216,[],[]⟩,
 ⟨216,[true,true,false,true,false],[.ptr 1 16,.val 3 (BT37),.val 4 (BT37),.slot 16 (BT21) true none]⟩,
 ⟨217,[],[]⟩,
 ⟨218,[],[]⟩,
 ⟨219,[],[]⟩,
 ⟨220,[],[]⟩,
 ⟨221,[],[]⟩,
 ⟨222,[],[]⟩,
 ⟨223,[],[]⟩,
 ⟨224,[],[]⟩,
 ⟨224,[true,true,false,false],[.val 0 (BT0),.val 1 (BT37),.val 5 (BT37)]⟩,
 ⟨225,[],[]⟩,
 ⟨226,[],[]⟩,
 ⟨226,[true,false,false],[.val 0 (BT0),.val 1 (BT36)]⟩,
 ⟨227,[],[]⟩,
 ⟨227,[true,false,false],[.val 0 (BT0),.val 1 (BT36)]⟩,
 ⟨228,[],[]⟩,
 ⟨229,[],[]⟩,
 ⟨230,[],[]⟩,
 ⟨230,[true,true,false,false],[.ptr 0 0,.ptr 4 64,.val 1 (BT37),.own 5 80 (BT48),.slot 0 (BT4) true none,.slot 64 (BT5) true none]⟩,
 ⟨231,[],[]⟩,
 ⟨232,[],[]⟩,
 ⟨233,[],[]⟩,
 ⟨234,[],[]⟩,
 ⟨234,[true,false,true,false],[.val 0 (BT33),.val 1 (BT0),.val 7 (BT37),.val 8 (BT37)]⟩,
 ⟨235,[],[]⟩,
 ⟨235,[true,true,true,false,true,false,true,true,true],[.ptr 4 64,.val 1 (BT37),.val 2 (BT37),.val 3 (BT37),.val 56 (BT37),.val 62 (BT1),.slot 64 (BT3) true none]⟩,
 ⟨235,[true,true,true,false,true,false,true,true,true,true,true],[.ptr 4 64,.val 1 (BT37),.val 3 (BT37),.val 56 (BT37),.val 75 (BT1),.slot 64 (BT3) true none]⟩,
 ⟨235,[true,true,true,false,true,false,true,true,true,true,true,true,true],[.ptr 4 64,.val 1 (BT37),.val 56 (BT37),.val 89 (BT1),.slot 64 (BT3) true none]⟩,
 ⟨235,[true,true,true,false,true,false,true,true,true,true,true,true,true,true,true,true,true],[.ptr 4 64,.val 1 (BT37),.val 56 (BT37),.val 106 (BT1),.slot 64 (BT3) true none]⟩,
 ⟨236,[],[]⟩,
 ⟨237,[],[]⟩,
 ⟨238,[],[]⟩,
 ⟨238,[true,false,true,false],[.clo 1 244 [16],.val 0 (BT54),.val 7 (BT37),.val 8 (BT37),.slot 16 (BT35) true none]⟩,
 ⟨239,[],[]⟩,
 ⟨239,[true,true,false,false],[.ptr 0 0,.ptr 4 64,.ptr 5 80,.slot 0 (BT4) true none,.slot 64 (BT5) true none,.slot 80 (BT5) true none]⟩,
 ⟨239,[true,true,false,false,false,true,false,true,true],[.ptr 0 0,.ptr 4 64,.ptr 5 80,.val 6 (BT37),.slot 0 (BT4) true none,.slot 64 (BT5) true none,.slot 80 (BT5) true none]⟩,
 ⟨240,[],[]⟩,
 ⟨241,[],[]⟩,
 ⟨241,[true,true,true,true,true],[.val 0 (BT37),.val 4 (BT33),.val 5 (BT0)]⟩,
 ⟨241,[true,true,true,true,false,true,false,true,true,true],[.val 0 (BT37),.val 4 (BT33),.val 5 (BT0),.val 13 (BT37),.val 16 (BT1)]⟩,
 ⟨241,[true,true,true,true,false,true,false,true,true,true,true,true,true,true],[.val 0 (BT37),.val 4 (BT33),.val 5 (BT0),.val 22 (BT1)]⟩,
 ⟨242,[],[]⟩,
 ⟨243,[],[]⟩,
 ⟨243,[true,true,false,true,false,true,true],[.val 0 (BT0),.val 5 (BT0)]⟩,
 ⟨243,[true,true,false,true,false,true,true,true,false,true,false],[.val 5 (BT0),.val 6 (BT37),.val 47 (BT59),.val 48 (BT37),.val 49 (BT37)]⟩,
 ⟨244,[],[]⟩,
 ⟨245,[],[]⟩,
 ⟨245,[true,true,true,true,true],[.ptr 4 64,.val 5 (BT36),.slot 0 (BT4) true none,.slot 64 (BT5) true none]⟩,
 ⟨246,[],[]⟩,
 ⟨247,[],[]⟩,
 ⟨248,[],[]⟩,
 ⟨248,[true,true,true,true],[.val 0 (BT0),.val 1 (BT37),.val 2 (BT37),.val 8 (BT1)]⟩,
 ⟨248,[true,true,true,true,true,true,true,true],[.val 2 (BT37),.val 8 (BT1),.val 9 (BT39)]⟩,
 ⟨249,[],[]⟩,
 ⟨249,[true,true,true],[.ptr 0 0,.ptr 2 32,.ptr 3 48,.slot 0 (BT4) true none,.slot 32 (BT5) true none,.slot 48 (BT5) true none]⟩,
 ⟨249,[true,true,true,true,true,false,false],[.ptr 0 0,.ptr 2 32,.ptr 3 48,.own 4 64 (BT34),.val 5 (BT37),.slot 0 (BT4) true none,.slot 32 (BT5) true none,.slot 48 (BT5) true none]⟩,
 ⟨249,[true,true,true,true,true,false,false,false,true,false,true,true,true,true],[.ptr 0 0,.ptr 2 32,.ptr 3 48,.own 4 64 (BT34),.val 5 (BT37),.val 6 (BT37),.val 7 (BT37),.slot 0 (BT4) true none,.slot 32 (BT5) true none,.slot 48 (BT5) true none]⟩,
 ⟨249,[true,true,true,true,true,true,true],[.ptr 0 0,.ptr 2 32,.ptr 3 48,.val 4 (BT38),.slot 0 (BT4) true none,.slot 32 (BT5) true none,.slot 48 (BT5) true none]⟩,
 ⟨249,[true,true,true,true,true,false,false,false,true,false,true,true,true,true,true],[.ptr 0 0,.ptr 2 32,.ptr 3 48,.own 4 64 (BT34),.val 5 (BT37),.val 6 (BT37),.val 7 (BT37),.slot 0 (BT4) true none,.slot 32 (BT5) true none,.slot 48 (BT5) true none]⟩,
 ⟨249,[true,true,true,true,true,true,true,true,true,false,true,false],[.ptr 2 32,.ptr 3 48,.val 4 (BT38),.own 9 144 (BT57),.val 10 (BT37),.slot 0 (BT4) true none,.slot 32 (BT5) true none,.slot 48 (BT5) true none]⟩,
 ⟨249,[true,true,true,true,true,false,false,false,true,false,true,true,true,true,true,false,true,false],[.ptr 0 0,.ptr 2 32,.ptr 3 48,.own 4 64 (BT34),.val 5 (BT37),.val 7 (BT37),.val 8 (BT37),.slot 0 (BT4) true none,.slot 32 (BT5) true none,.slot 48 (BT5) true none]⟩,
 ⟨250,[],[]⟩,
 ⟨250,[true,true,false,false],[.ptr 0 0,.ptr 2 32,.own 3 48 (BT48),.slot 0 (BT6) true none,.slot 32 (BT5) true none]⟩,
 ⟨251,[],[]⟩,
 ⟨251,[true,true,false,true,false],[.val 3 (BT37),.val 7 (.leaf false (.sl (.nm 36))),.val 8 (BT37),.val 9 (BT37)]⟩,
 ⟨252,[],[]⟩,
 ⟨252,[true,true,true,true,true],[.val 0 (BT0),.val 1 (BT37),.val 2 (BT37),.val 8 (BT1),.val 9 (BT0)]⟩,
 ⟨252,[true,true,true,true,true,true],[.val 0 (BT0),.val 1 (BT37),.val 2 (BT37),.val 8 (BT1),.val 9 (BT0)]⟩,
 ⟨252,[true,true,true,true,true,true,true,true],[.val 0 (BT0),.val 1 (BT37),.val 2 (BT37),.val 8 (BT1),.val 9 (BT0),.val 10 (BT39)]⟩,
 ⟨252,[true,true,true,true,true,true,true,true,true,true,true,false,true,false],[.val 1 (BT37),.val 8 (BT1),.val 9 (BT0),.val 10 (BT39),.val 11 (BT39),.val 12 (BT1),.val 13 (BT39),.val 99 (BT59),.val 100 (BT37),.val 101 (BT37)]⟩,
 ⟨252,[true,true,true,true,true,true,true,true,true,true,true,false,true,false,false,true,true,false,false,true,true,true],[.val 1 (BT37),.val 8 (BT1),.val 9 (BT0),.val 10 (BT39),.val 11 (BT39),.val 12 (BT1),.val 13 (BT39),.val 16 (BT36),.val 99 (BT59),.val 100 (BT37),.val 101 (BT37)]⟩,
 ⟨253,[],[]⟩,
 ⟨253,[true,true,false,false],[.ptr 0 0,.ptr 2 32,.own 3 48 (BT48),.slot 0 (BT6) true none,.slot 32 (BT5) true none]⟩,
 ⟨254,[],[]⟩,
 ⟨255,[],[]⟩,
 ⟨256,[],[]⟩,
 ⟨256,[true,true,true,true],[.val 0 (BT0),.val 3 (BT40),.val 4 (BT37)]⟩,
 ⟨256,[true,true,true,true,true,true],[.val 0 (BT0),.val 3 (BT40),.val 4 (BT37),.val 5 (BT1)]⟩,
 ⟨256,[true,true,true,true,true,true,false,false],[.val 0 (BT0),.val 3 (BT40),.val 4 (BT37),.val 5 (BT1)]⟩,
 ⟨257,[],[]⟩,
 ⟨258,[],[]⟩,
 ⟨258,[true,true,false],[.ptr 0 0,.ptr 2 32,.ptr 3 48,.slot 0 (BT6) true none,.slot 32 (BT5) true none,.slot 48 (BT5) true none]⟩,
 ⟨259,[],[]⟩,
 ⟨259,[true,true,true,false,true,false,true,true,true,true,true,true,true,true,true,true,true,true,true],[.ptr 0 0,.ptr 2 32,.val 3 (BT36),.val 70 (BT1),.slot 0 (BT6) true none,.slot 32 (BT5) true none]⟩,
 ⟨260,[],[]⟩,
 ⟨261,[],[]⟩,
 ⟨261,[true,true,true,true,true,true,true,false,true,false],[.ptr 0 0,.ptr 2 32,.ptr 3 48,.val 5 (BT0),.own 6 96 (BT34),.val 7 (BT37),.slot 0 (BT6) true none,.slot 32 (BT5) true none,.slot 48 (BT5) true none]⟩,
 ⟨261,[true,true,true,true,true,true,true,false,true,false,false,true,false,false,true,true],[.ptr 0 0,.ptr 2 32,.ptr 3 48,.val 5 (BT0),.own 6 96 (BT34),.val 7 (BT37),.val 8 (BT37),.val 9 (BT37),.slot 0 (BT6) true none,.slot 32 (BT5) true none,.slot 48 (BT5) true none]⟩,
 ⟨261,[true,true,true,true,true,true,true,true,true,false,true,false],[.ptr 2 32,.ptr 3 48,.own 11 176 (BT57),.val 100 (BT38),.val 101 (BT37),.val 102 (BT37),.slot 0 (BT6) true none,.slot 32 (BT5) true none,.slot 48 (BT5) true none]⟩,
 ⟨261,[true,true,true,true,true,true,true,false,true,false,false,true,false,false,true,true,true,false],[.ptr 0 0,.ptr 2 32,.ptr 3 48,.val 5 (BT0),.own 6 96 (BT34),.val 7 (BT37),.val 9 (BT37),.val 10 (BT37),.slot 0 (BT6) true none,.slot 32 (BT5) true none,.slot 48 (BT5) true none]⟩,
 ⟨262,[],[]⟩]
def entR:List EntI:=[
 ⟨5,.skip,[],[.val (BT7),.val (BT8),.val (BT37),.val (BT37)],[BT1],[],[(33,1),(35,1),(38,1),(64,1),(69,1),(104,1),(106,1),(109,1)],0,[],false⟩,
 ⟨15,.skip,[],[.val (BT7),.val (BT37)],[BT37],[],[],0,[],false⟩,
 ⟨16,.skip,[],[.val (BT8),.val (BT37)],[BT37],[],[],0,[],false⟩,
 ⟨19,.skip,[],[.val (BT7)],[.leaf true (.nm 15)],[],[],0,[],false⟩,
 ⟨20,.skip,[],[.val (BT8)],[BT2],[],[],0,[],false⟩,
 ⟨28,.skip,[],[.val (BT17),.val (BT15),.val (BT37),.val (BT37)],[BT15,BT1],[],[(38,1),(42,1),(43,1),(66,1),(68,1),(72,1),(89,1),(97,1)],0,[(127,6)],false⟩,
 ⟨29,.skip,[],[.val (BT17),.val (BT15),.val (BT37),.val (BT37)],[BT2,BT1],[],[(66,1),(68,1),(84,1),(98,1)],0,[],false⟩,
 ⟨23,.skip,[],[.val (BT15),.val (BT15)],[BT1],[],[],0,[],false⟩,
 ⟨24,.skip,[],[.val (BT17),.val (BT17)],[BT1],[],[],0,[],false⟩,
 ⟨25,.skip,[],[.own (.leaf true (.nm 15)),.val (BT37)],[BT37],[],[],0,[],false⟩,
 ⟨26,.skip,[],[.io (BT2),.val (BT37)],[BT37],[(32,.orig 0)],[],0,[],false⟩,
 ⟨27,.skip,[],[.val (BT15),.val (BT37)],[BT37],[],[],0,[],false⟩,
 ⟨83,.skip,[],[.val (BT33),.val (BT37)],[BT37],[],[],0,[(122,14)],false⟩,
 ⟨84,.skip,[],[.val (BT41),.val (BT37)],[BT37],[],[],0,[(122,16)],false⟩,
 ⟨30,.skip,[],[.val (.leaf false (.nm 5)),.val (BT37)],[BT37],[],[],0,[],false⟩,
 ⟨85,.skip,[],[.val (BT38),.val (BT37)],[BT37],[],[],0,[],false⟩,
 ⟨53,.skip,[],[.val (BT60),.val (BT37)],[BT37],[],[],0,[],false⟩,
 ⟨86,.skip,[],[.val (.leaf false (.nm 9)),.val (BT37)],[BT37],[],[],0,[],false⟩,
 ⟨87,.skip,[],[.val (.leaf false (.nm 13)),.val (BT37)],[BT37],[],[],0,[],false⟩,
 ⟨51,.skip,[],[.val (BT49),.val (BT37)],[BT37],[],[],0,[(122,23)],false⟩,
 ⟨90,.skip,[],[.val (BT33)],[BT32],[],[],0,[(58,25)],false⟩,
 ⟨91,.skip,[],[.val (BT41)],[BT42],[],[],0,[(58,27)],false⟩,
 ⟨32,.skip,[],[.val (.leaf false (.nm 5))],[BT9],[],[],0,[],false⟩,
 ⟨92,.skip,[],[.val (BT38)],[BT34],[],[],0,[(58,30)],false⟩,
 ⟨65,.skip,[],[.val (BT60)],[BT58],[],[],0,[(58,32)],false⟩,
 ⟨93,.skip,[],[.val (.leaf false (.nm 9))],[BT10],[],[],0,[],false⟩,
 ⟨94,.skip,[],[.val (.leaf false (.nm 13))],[BT11],[],[],0,[],false⟩,
 ⟨63,.skip,[],[.val (BT49)],[BT43],[],[],0,[(58,36)],false⟩,
 ⟨59,.skip,[],[.val (BT17),.val (BT15),.val (BT37)],[BT1],[],[],0,[(122,38),(250,39)],false⟩,
 ⟨88,.skip,[],[.val (BT15)],[BT2],[],[],0,[],false⟩,
 ⟨56,.skip,[],[.val (BT37),.val (BT37),.val (BT37)],[BT1],[],[],0,[],false⟩,
 ⟨117,.skip,[],[.val (BT18)],[BT59],[],[(27,1),(33,1),(49,1),(58,1),(67,1),(72,1),(77,1),(92,1),(97,1)],0,[(122,43),(506,44),(4090,45)],false⟩,
 ⟨116,.skip,[],[.ptr (BT16) (BT16),.val (BT22)],[],[(0,.box)],[(30,1)],0,[],false⟩,
 ⟨118,.skip,[],[.val (BT20),.val (BT37)],[BT54],[],[(11,1)],0,[],false⟩,
 ⟨119,.skip,[],[.val (BT20),.val (BT37)],[BT37],[],[],0,[],false⟩,
 ⟨70,.skip,[],[.val (BT17),.val (BT15),.val (BT37)],[BT1],[],[],0,[],false⟩,
 ⟨95,.skip,[],[.val (BT15)],[BT2],[],[],0,[],false⟩,
 ⟨68,.skip,[],[.val (BT37),.val (BT37),.val (BT37)],[BT1],[],[],0,[],false⟩,
 ⟨121,.skip,[],[.val (BT17),.val (BT18)],[BT59],[],[(38,1),(51,1),(56,1),(67,1),(73,1),(84,1),(90,1)],0,[(122,53),(506,54),(4090,55)],false⟩,
 ⟨120,.skip,[],[.ptr (BT64) (BT64),.val (BT37),.val (BT22)],[],[(0,.box)],[],0,[],false⟩,
 ⟨98,.skip,[],[.ptr (BT64) (.pr (BT17) (.pr (.hole 26) (BT62))),.val (BT15)],[BT2,BT1],[(0,.box)],[],0,[],false⟩,
 ⟨122,.skip,[],[.val (BT20),.val (BT37)],[BT54],[],[(7,1),(33,1)],0,[],false⟩,
 ⟨123,.skip,[],[.val (BT20),.val (BT37)],[BT37],[],[(7,1)],0,[],false⟩,
 ⟨35,.skip,[],[.val (BT23),.val (BT23)],[BT1],[],[],0,[],false⟩,
 ⟨99,.skip,[],[.val (BT38),.val (BT38)],[BT1],[],[],0,[(58,62)],false⟩,
 ⟨81,.skip,[],[.val (BT60),.val (BT60)],[BT1],[],[],0,[(58,64)],false⟩,
 ⟨100,.skip,[],[.val (BT18),.val (BT18)],[BT1],[],[],0,[],false⟩,
 ⟨101,.skip,[],[.val (BT24),.val (BT24)],[BT1],[],[],0,[],false⟩,
 ⟨79,.skip,[],[.val (BT52),.val (BT52)],[BT1],[],[],0,[(58,68)],false⟩,
 ⟨102,.skip,[],[.val (BT33),.val (BT33)],[BT1],[],[],0,[(58,70)],false⟩,
 ⟨103,.skip,[],[.val (BT53),.val (BT53)],[BT1],[],[],0,[(58,72)],false⟩,
 ⟨104,.skip,[],[.own (BT32),.val (BT37)],[BT37],[],[],0,[(26,74)],false⟩,
 ⟨105,.skip,[],[.own (BT42),.val (BT37)],[BT37],[],[],0,[(26,76)],false⟩,
 ⟨36,.skip,[],[.io (BT9),.val (BT37)],[BT37],[(32,.orig 0)],[],0,[],false⟩,
 ⟨106,.skip,[],[.io (BT34),.val (BT37)],[BT37],[(0,.reg)],[],0,[(26,79)],false⟩,
 ⟨107,.skip,[],[.io (BT58),.val (BT37)],[BT37],[(0,.reg)],[],0,[(26,81)],false⟩,
 ⟨108,.skip,[],[.io (BT10),.val (BT37)],[BT37],[(32,.orig 0)],[],0,[],false⟩,
 ⟨109,.skip,[],[.io (BT11),.val (BT37)],[BT37],[(32,.orig 0)],[],0,[],false⟩,
 ⟨110,.skip,[],[.io (BT43),.val (BT37)],[BT37],[(0,.reg)],[],0,[(26,85)],false⟩,
 ⟨45,.skip,[],[.val (BT23),.val (BT37)],[BT37],[],[],0,[],false⟩,
 ⟨111,.skip,[],[.val (BT38),.val (BT37)],[BT37],[],[],0,[(26,88)],false⟩,
 ⟨112,.skip,[],[.val (BT60),.val (BT37)],[BT37],[],[],0,[(26,90)],false⟩,
 ⟨113,.skip,[],[.val (BT18),.val (BT37)],[BT37],[],[],0,[],false⟩,
 ⟨114,.skip,[],[.val (BT24),.val (BT37)],[BT37],[],[],0,[],false⟩,
 ⟨115,.skip,[],[.val (BT52),.val (BT37)],[BT37],[],[],0,[(26,94)],false⟩,
 ⟨180,.skip,[],[.val (.leaf false (.nm 1)),.val (BT37)],[BT37],[],[],0,[],false⟩,
 ⟨124,.skip,[],[.val (.leaf false (.nm 6)),.val (BT37)],[BT37],[],[],0,[],false⟩,
 ⟨181,.skip,[],[.val (.leaf false (.nm 10)),.val (BT37)],[BT37],[],[],0,[],false⟩,
 ⟨182,.skip,[],[.val (BT59),.val (BT37)],[BT37],[],[],0,[],false⟩,
 ⟨154,.skip,[],[.val (.leaf false (.nm 14)),.val (BT37)],[BT37],[],[],0,[],false⟩,
 ⟨186,.skip,[],[.val (.leaf false (.nm 1))],[BT25],[],[],0,[],false⟩,
 ⟨127,.skip,[],[.val (.leaf false (.nm 6))],[BT12],[],[],0,[],false⟩,
 ⟨187,.skip,[],[.val (.leaf false (.nm 10))],[BT13],[],[],0,[],false⟩,
 ⟨188,.skip,[],[.val (BT59)],[BT57],[],[],0,[(58,104)],false⟩,
 ⟨162,.skip,[],[.val (.leaf false (.nm 14))],[BT14],[],[],0,[],false⟩,
 ⟨125,.skip,[],[.val (BT17),.val (BT23)],[BT1],[],[],0,[],false⟩,
 ⟨89,.skip,[],[.val (BT20)],[BT37,BT37],[],[],0,[],false⟩,
 ⟨60,.skip,[],[.val (BT22),.val (BT37)],[BT1],[],[],0,[],false⟩,
 ⟨158,.skip,[],[.val (BT17),.val (BT18)],[BT1],[],[],0,[(26,110)],false⟩,
 ⟨159,.skip,[],[.val (BT24)],[BT1],[],[],0,[],false⟩,
 ⟨135,.skip,[],[.val (BT23)],[BT9],[],[],0,[],false⟩,
 ⟨183,.skip,[],[.val (BT18)],[BT10],[],[],0,[],false⟩,
 ⟨184,.skip,[],[.val (BT24)],[BT11],[],[],0,[],false⟩,
 ⟨185,.skip,[],[.val (BT52)],[BT43],[],[],0,[(58,116)],false⟩,
 ⟨202,.skip,[],[.val (BT37)],[BT57],[],[(16,1),(23,1)],0,[(60,118)],false⟩,
 ⟨203,.skip,[],[.val (BT26)],[BT59],[],[(9,1),(14,1)],0,[],false⟩,
 ⟨204,.skip,[],[.val (BT0)],[BT59],[],[],0,[],false⟩,
 ⟨201,.skip,[],[.val (BT15),.val (BT22)],[BT15,BT1],[],[],0,[],false⟩,
 ⟨205,.skip,[],[.val (BT20),.val (BT37)],[BT37],[],[],0,[],false⟩,
 ⟨128,.skip,[],[.val (BT17),.val (BT23)],[BT1],[],[],0,[],false⟩,
 ⟨130,.skip,[],[.val (BT20)],[BT37,BT37],[],[],0,[],false⟩,
 ⟨74,.skip,[],[.val (BT60),.val (BT37),.val (BT37),.val (BT37)],[BT1],[],[],0,[],false⟩,
 ⟨169,.skip,[],[.val (BT17),.val (BT18)],[BT1],[],[],0,[],false⟩,
 ⟨170,.skip,[],[.val (BT24)],[BT1],[],[],0,[],false⟩,
 ⟨71,.skip,[],[.val (BT52),.clo 171 [BT37,BT15]],[BT1],[(16,.box),(17,.box)],[],0,[],false⟩,
 ⟨138,.skip,[],[.val (BT23)],[BT9],[],[],0,[],false⟩,
 ⟨189,.skip,[],[.val (BT18)],[BT10],[],[],0,[],false⟩,
 ⟨190,.skip,[],[.val (BT24)],[BT11],[],[],0,[],false⟩,
 ⟨191,.skip,[],[.val (BT52)],[BT43],[],[],0,[(58,133)],false⟩,
 ⟨192,.skip,[],[.val (BT38)],[BT34],[],[],0,[],false⟩,
 ⟨193,.skip,[],[.val (BT60)],[BT58],[],[],0,[],false⟩,
 ⟨207,.skip,[],[.val (BT37)],[BT57],[],[(15,1),(22,1)],0,[(60,137)],false⟩,
 ⟨208,.skip,[],[.own (BT57),.val (BT26)],[BT57],[],[(8,1),(13,1),(18,1)],0,[],false⟩,
 ⟨209,.skip,[],[.val (BT0)],[BT59],[],[],0,[],false⟩,
 ⟨206,.skip,[],[.val (BT15),.val (BT22)],[BT2,BT1],[],[],0,[],false⟩,
 ⟨210,.skip,[],[.val (BT20)],[BT54],[],[],0,[],false⟩,
 ⟨211,.skip,[],[.val (BT54)],[BT44],[],[],0,[],false⟩,
 ⟨131,.skip,[],[.val (BT20),.val (BT20)],[BT1],[],[],0,[],false⟩,
 ⟨195,.skip,[],[.val (BT19),.val (BT19)],[BT1],[],[],0,[],false⟩,
 ⟨34,.skip,[],[.val (BT59),.val (BT59)],[BT1],[],[],0,[(58,146)],false⟩,
 ⟨178,.skip,[],[.val (BT22),.val (BT22)],[BT1],[],[],0,[],false⟩,
 ⟨196,.skip,[],[.val (BT25),.val (BT25)],[BT1],[],[],0,[],false⟩,
 ⟨197,.skip,[],[.val (BT37)],[BT0],[],[(12,1)],0,[(60,150)],false⟩,
 ⟨132,.skip,[],[.io (BT12),.val (BT37)],[BT37],[(32,.orig 0)],[],0,[],false⟩,
 ⟨198,.skip,[],[.io (BT13),.val (BT37)],[BT37],[(32,.orig 0)],[],0,[],false⟩,
 ⟨37,.skip,[],[.io (BT57),.val (BT37)],[BT37],[(0,.reg)],[],0,[(26,154)],false⟩,
 ⟨143,.skip,[],[.io (BT44),.val (BT37)],[BT37],[(0,.reg)],[],0,[(26,156)],false⟩,
 ⟨144,.skip,[],[.val (BT20),.val (BT37)],[BT37],[],[],0,[],false⟩,
 ⟨199,.skip,[],[.val (BT19),.val (BT37)],[BT37],[],[],0,[],false⟩,
 ⟨38,.skip,[],[.val (BT59),.val (BT37)],[BT37],[],[],0,[(26,160)],false⟩,
 ⟨200,.skip,[],[.val (BT54),.val (BT37)],[BT37],[],[],0,[(26,162)],false⟩,
 ⟨133,.skip,[],[.val (BT45),.val (BT37)],[BT37],[],[],0,[(122,164)],false⟩,
 ⟨247,.skip,[],[.val (BT55),.val (BT37)],[BT37],[],[],0,[(122,166)],false⟩,
 ⟨248,.skip,[],[.val (BT56),.val (BT37)],[BT37],[],[],0,[(122,168)],false⟩,
 ⟨137,.skip,[],[.val (BT45)],[BT44],[],[],0,[(58,170)],false⟩,
 ⟨251,.skip,[],[.val (BT55)],[BT46],[],[],0,[(58,172)],false⟩,
 ⟨252,.skip,[],[.val (BT56)],[BT47],[],[],0,[(58,174)],false⟩,
 ⟨212,.skip,[],[.val (BT20)],[BT1],[],[],0,[(122,176)],false⟩,
 ⟨160,.skip,[],[.val (BT54),.val (BT37)],[BT1],[],[],0,[(26,178)],false⟩,
 ⟨55,.skip,[],[.val (BT17)],[BT1],[],[],0,[(26,180),(58,181)],false⟩,
 ⟨234,.skip,[],[.val (BT19),.val (BT37),.val (BT37)],[BT1],[],[],0,[(26,183),(58,184)],false⟩,
 ⟨218,.skip,[],[.val (BT20)],[BT12],[],[],0,[],false⟩,
 ⟨249,.skip,[],[.val (BT19)],[BT13],[],[],0,[],false⟩,
 ⟨250,.skip,[],[.val (BT22)],[BT14],[],[],0,[],false⟩,
 ⟨262,.skip,[],[.val (BT37)],[BT59],[],[(10,1),(16,1),(19,1)],0,[],false⟩,
 ⟨168,.skip,[],[.val (BT37)],[BT1],[],[],0,[],false⟩,
 ⟨214,.skip,[],[.val (BT37)],[BT1],[],[],0,[],false⟩,
 ⟨215,.skip,[],[.val (BT20)],[BT1],[],[],0,[(122,192)],false⟩,
 ⟨174,.skip,[],[.val (BT60),.clo 175 [BT37,BT37]],[BT1],[(16,.box),(17,.box)],[],0,[],false⟩,
 ⟨67,.skip,[],[.val (BT17)],[BT1],[],[],0,[],false⟩,
 ⟨241,.skip,[],[.val (BT19),.val (BT37),.val (BT37)],[BT1],[],[],0,[(58,196)],false⟩,
 ⟨174,.skip,[],[.val (BT60),.clo 242 []],[BT1],[],[],0,[],false⟩,
 ⟨172,.skip,[],[.val (BT52),.clo 171 [BT37,BT15]],[BT37],[(16,.box),(17,.box)],[],0,[(26,199)],false⟩,
 ⟨223,.skip,[],[.val (BT20)],[BT12],[],[],0,[],false⟩,
 ⟨253,.skip,[],[.val (BT19)],[BT13],[],[],0,[],false⟩,
 ⟨254,.skip,[],[.val (BT59)],[BT57],[],[],0,[],false⟩,
 ⟨255,.skip,[],[.val (BT22)],[BT14],[],[],0,[],false⟩,
 ⟨263,.skip,[],[.val (BT37)],[BT59],[],[(13,1),(16,1)],0,[],false⟩,
 ⟨142,.skip,[],[.val (BT54),.val (BT54)],[BT1],[],[],0,[(58,206)],false⟩,
 ⟨256,.skip,[],[.val (BT50),.val (BT50)],[BT1],[],[],0,[(58,208)],false⟩,
 ⟨257,.skip,[],[.val (BT51),.val (BT51)],[BT1],[],[],0,[(58,210)],false⟩,
 ⟨258,.skip,[],[.io (BT46),.val (BT37)],[BT37],[(0,.reg)],[],0,[(26,212)],false⟩,
 ⟨259,.skip,[],[.io (BT47),.val (BT37)],[BT37],[(0,.reg)],[],0,[(26,214)],false⟩,
 ⟨260,.skip,[],[.val (BT50),.val (BT37)],[BT37],[],[],0,[(26,216)],false⟩,
 ⟨261,.skip,[],[.val (BT51),.val (BT37)],[BT37],[],[],0,[(26,218)],false⟩,
 ⟨217,.skip,[],[.val (.leaf false (.nm 7)),.val (BT37)],[BT37],[],[],0,[],false⟩,
 ⟨288,.skip,[],[.val (.leaf false (.nm 11)),.val (BT37)],[BT37],[],[],0,[],false⟩,
 ⟨289,.skip,[],[.val (.leaf false (.nm 12)),.val (BT37)],[BT37],[],[],0,[],false⟩,
 ⟨222,.skip,[],[.val (.leaf false (.nm 7))],[BT27],[],[],0,[],false⟩,
 ⟨290,.skip,[],[.val (.leaf false (.nm 11))],[BT26],[],[],0,[],false⟩,
 ⟨291,.skip,[],[.val (.leaf false (.nm 12))],[BT28],[],[],0,[],false⟩,
 ⟨61,.skip,[],[.val (BT29)],[BT1],[],[],0,[],false⟩,
 ⟨155,.skip,[],[.val (BT0)],[BT1],[],[],0,[(26,227)],false⟩,
 ⟨156,.skip,[],[.val (BT33),.val (BT0)],[BT1],[],[],0,[(26,229)],false⟩,
 ⟨157,.skip,[],[.val (BT53),.val (BT37),.val (BT37)],[BT1],[],[],0,[(122,231)],false⟩,
 ⟨273,.skip,[],[.val (BT26)],[BT1],[],[],0,[],false⟩,
 ⟨274,.skip,[],[.val (BT28),.val (BT37),.val (BT0)],[BT1],[],[],0,[],false⟩,
 ⟨77,.skip,[],[.val (BT29)],[BT1],[],[],0,[],false⟩,
 ⟨245,.skip,[],[.val (BT60),.clo 175 [BT37,BT37]],[BT37],[(16,.box),(17,.box)],[],0,[(26,236)],false⟩,
 ⟨163,.skip,[],[.val (BT33)],[BT1],[],[],0,[(26,238)],false⟩,
 ⟨164,.skip,[],[.val (BT33),.clo 165 [BT17]],[BT1],[(16,.box)],[],0,[],false⟩,
 ⟨167,.skip,[],[.val (BT53),.val (BT37),.val (BT37)],[BT1],[],[],0,[],false⟩,
 ⟨282,.skip,[],[.val (BT50),.clo 283 []],[BT1],[],[],0,[],false⟩,
 ⟨284,.skip,[],[.val (BT26)],[BT1],[],[],0,[],false⟩,
 ⟨285,.skip,[],[.val (BT28),.val (BT28)],[BT37],[],[],0,[],false⟩,
 ⟨245,.skip,[],[.val (BT60),.clo 242 []],[BT37],[],[],0,[(26,245)],false⟩,
 ⟨171,.skip,[],[.val (BT22),.ptr (BT37) (BT37),.ptr (BT15) (BT15)],[BT1],[(16,.box),(32,.box)],[],0,[],false⟩,
 ⟨292,.skip,[],[.val (BT50)],[BT46],[],[],0,[],false⟩,
 ⟨293,.skip,[],[.val (BT51)],[BT47],[],[],0,[],false⟩,
 ⟨226,.skip,[],[.val (BT27),.val (BT27)],[BT1],[],[],0,[],false⟩,
 ⟨294,.skip,[],[.val (BT26),.val (BT26)],[BT1],[],[],0,[],false⟩,
 ⟨295,.skip,[],[.val (BT28),.val (BT28)],[BT1],[],[],0,[],false⟩,
 ⟨17,.skip,[],[.val (.leaf false (.nm 8)),.val (BT37)],[BT37],[],[],0,[],false⟩,
 ⟨21,.skip,[],[.val (.leaf false (.nm 8))],[BT29],[],[],0,[],false⟩,
 ⟨161,.skip,[],[.val (BT0)],[BT1],[],[],0,[(26,255)],false⟩,
 ⟨231,.skip,[],[.val (BT36)],[BT1],[],[],0,[],false⟩,
 ⟨232,.skip,[],[.val (BT0)],[BT1],[],[(3,1),(7,1)],0,[],false⟩,
 ⟨233,.skip,[],[.val (BT25),.val (BT37),.val (BT37),.val (BT37)],[BT1],[],[(71,1),(86,1)],0,[(863,259),(3455,260),(13823,261),(221183,262)],false⟩,
 ⟨271,.skip,[],[.val (BT37)],[BT1],[],[],0,[],false⟩,
 ⟨306,.skip,[],[.val (BT0)],[BT37,BT1],[],[],0,[(60,265)],false⟩,
 ⟨177,.skip,[],[.val (BT0)],[BT1],[],[],0,[],false⟩,
 ⟨175,.skip,[],[.val (BT37),.ptr (BT37) (BT37),.ptr (BT37) (BT37)],[BT1],[(16,.box),(32,.box)],[],0,[],false⟩,
 ⟨235,.skip,[],[.val (BT0)],[BT1],[],[],0,[],false⟩,
 ⟨236,.skip,[],[.val (BT33),.clo 165 [BT17]],[BT37],[(16,.box)],[],0,[(26,270)],false⟩,
 ⟨238,.skip,[],[.val (BT53),.clo 239 [BT53,BT37,BT37]],[BT1],[(16,.box),(17,.box),(18,.box)],[],0,[],false⟩,
 ⟨309,.skip,[],[.val (BT50),.clo 283 []],[BT37],[],[],0,[(26,273)],false⟩,
 ⟨279,.skip,[],[.val (BT37)],[BT1],[],[],0,[],false⟩,
 ⟨310,.skip,[],[.val (BT0)],[BT37,BT1],[],[],0,[],false⟩,
 ⟨311,.skip,[],[.val (BT0),.val (BT0)],[BT37],[],[],0,[],false⟩,
 ⟨242,.skip,[],[.val (BT37)],[BT1],[],[],0,[],false⟩,
 ⟨73,.skip,[],[.val (BT22),.val (BT37)],[BT1],[],[],0,[],false⟩,
 ⟨179,.skip,[],[.val (BT29),.val (BT29)],[BT1],[],[],0,[],false⟩,
 ⟨270,.skip,[],[],[BT33],[],[(1,1)],0,[],false⟩,
 ⟨272,.skip,[],[.val (BT0)],[BT21,BT1],[],[(9,1),(14,1),(33,1)],0,[],false⟩,
 ⟨319,.skip,[],[.val (BT0)],[BT37,BT37],[],[],0,[(28,283),(63,284),(508,285),(16342,286),(511,287)],false⟩,
 ⟨246,.skip,[],[.val (BT0),.val (BT0)],[BT1],[],[],0,[],false⟩,
 ⟨275,.skip,[],[.val (BT0),.val (BT37)],[BT37],[],[],0,[(28,290)],false⟩,
 ⟨276,.skip,[],[.val (BT0)],[BT1],[],[(14,1)],0,[(53,292)],false⟩,
 ⟨165,.skip,[],[.val (BT0),.ptr (BT17) (BT17)],[BT1],[(16,.box)],[],0,[],false⟩,
 ⟨277,.skip,[],[.val (BT53),.clo 239 [BT53,BT37,BT37]],[BT37],[(16,.box),(17,.box),(18,.box)],[],0,[(26,295)],false⟩,
 ⟨283,.skip,[],[.val (BT26)],[BT1],[],[],0,[],false⟩,
 ⟨322,.skip,[],[.val (BT0)],[BT37,BT37],[],[],0,[(31,298),(1023,299)],false⟩,
 ⟨323,.skip,[],[.val (BT0),.val (BT0)],[BT0],[],[],0,[],false⟩,
 ⟨324,.skip,[],[.val (BT0),.val (BT0)],[BT37],[],[],0,[],false⟩,
 ⟨173,.skip,[],[.val (BT54),.val (BT37)],[BT1],[],[],0,[],false⟩,
 ⟨304,.skip,[],[.ptr (BT30) (BT30),.val (BT37)],[BT5],[(0,.box)],[],0,[(28,304)],false⟩,
 ⟨305,.skip,[],[.val (BT21)],[BT37],[],[],0,[(58,306)],false⟩,
 ⟨331,.skip,[],[.val (BT36)],[BT1],[],[],0,[],false⟩,
 ⟨287,.skip,[],[.val (BT0),.val (BT0)],[BT37],[],[],0,[],false⟩,
 ⟨307,.skip,[],[.val (BT36)],[BT1],[],[],0,[],false⟩,
 ⟨281,.skip,[],[],[BT33],[],[(1,1)],0,[],false⟩,
 ⟨166,.skip,[],[.val (BT33),.val (BT0)],[BT1],[],[],0,[],false⟩,
 ⟨239,.skip,[],[.val (BT25),.ptr (BT53) (BT53),.ptr (BT37) (BT37),.ptr (BT37) (BT37)],[BT1],[(16,.box),(32,.box),(48,.box)],[],0,[],false⟩,
 ⟨334,.skip,[],[.val (BT0),.val (BT0)],[BT0],[],[],0,[],false⟩,
 ⟨335,.skip,[],[.val (BT0),.val (BT37)],[BT37],[],[],0,[(28,315)],false⟩,
 ⟨336,.skip,[],[.val (BT0),.val (BT0)],[BT37,BT1],[],[],0,[],false⟩,
 ⟨338,.skip,[],[.val (BT0),.val (BT36)],[BT0],[],[],0,[(12,318)],false⟩,
 ⟨337,.skip,[],[.val (BT0),.val (BT36)],[BT0],[],[],0,[(12,320)],false⟩,
 ⟨344,.skip,[],[.val (BT0),.val (BT0)],[BT37],[],[],0,[],true⟩,
 ⟨243,.skip,[],[.val (BT54),.clo 244 [BT37]],[BT1],[(16,.box)],[],0,[],false⟩,
 ⟨316,.skip,[],[.ptr (BT30) (BT30),.val (BT37)],[BT5],[(0,.box)],[],0,[(28,324)],false⟩,
 ⟨317,.skip,[],[.ptr (BT30) (BT30),.val (BT36)],[BT1],[(0,.box)],[],0,[],false⟩,
 ⟨318,.skip,[],[.val (BT37),.val (BT37)],[BT37],[],[],0,[],false⟩,
 ⟨312,.skip,[],[.val (BT0),.val (BT0)],[BT37],[],[],0,[],false⟩,
 ⟨237,.skip,[],[.val (BT33),.val (BT0)],[BT37],[],[],0,[(26,329)],false⟩,
 ⟨240,.skip,[],[.val (BT25),.val (BT37),.val (BT37),.val (BT37)],[BT1],[],[(101,1)],0,[(983,331),(3935,332),(15743,333),(251903,334)],false⟩,
 ⟨350,.skip,[],[.val (BT0)],[BT37,.hole 1],[],[(16,1)],0,[],false⟩,
 ⟨351,.skip,[],[.val (BT37)],[BT37,BT1],[],[],0,[],false⟩,
 ⟨286,.skip,[],[.val (BT54),.clo 244 [BT37]],[BT37],[(16,.box)],[],0,[(26,338)],false⟩,
 ⟨330,.skip,[],[.ptr (BT30) (BT30),.val (BT37)],[BT5],[(0,.box)],[],0,[(28,340),(907,341)],false⟩,
 ⟨325,.skip,[],[.val (BT0),.val (BT36)],[BT37],[],[],0,[],false⟩,
 ⟨278,.skip,[],[.val (BT37)],[BT0,BT0],[],[(6,1)],0,[(63,344),(2007,345),(32127,346)],false⟩,
 ⟨280,.skip,[],[.val (BT0)],[BT1],[],[(7,1)],0,[],false⟩,
 ⟨359,.skip,[],[.val (BT0)],[BT37,.hole 1],[],[],0,[(235,349),(3770,350)],false⟩,
 ⟨244,.skip,[],[.val (BT27),.ptr (BT37) (BT37)],[BT1],[(16,.box)],[],0,[],false⟩,
 ⟨347,.skip,[],[.ptr (BT30) (BT30),.val (BT37)],[BT5],[(0,.box)],[],0,[(63,353)],false⟩,
 ⟨345,.skip,[],[.val (BT0),.val (BT36)],[BT37],[],[],0,[],true⟩,
 ⟨308,.skip,[],[.val (BT0)],[BT21,BT1],[],[(9,1),(14,1),(31,1)],0,[],false⟩,
 ⟨365,.skip,[],[.val (BT0),.val (BT37),.val (BT37)],[BT37,.hole 1],[],[],0,[(31,357),(511,358)],false⟩,
 ⟨356,.skip,[],[.ptr (BT30) (BT30)],[BT5],[(0,.box)],[(171,1)],0,[(15,360),(252,361),(32303,362),(255,363),(64607,364),(8186,365),(516858,366)],false⟩,
 ⟨320,.skip,[],[.ptr (BT31) (BT31)],[BT5],[(0,.box)],[],0,[(28,368)],false⟩,
 ⟨321,.skip,[],[.val (BT21)],[BT37],[],[],0,[(58,370)],false⟩,
 ⟨372,.skip,[],[.val (BT0),.val (BT37),.val (BT37)],[BT39,.hole 1],[],[],0,[(63,372),(127,373),(511,374),(32762,375),(8387175,376)],false⟩,
 ⟨332,.skip,[],[.ptr (BT31) (BT31)],[BT5],[(0,.box)],[],0,[(28,378)],false⟩,
 ⟨333,.skip,[],[.ptr (BT31) (BT31),.val (BT36)],[BT1],[(0,.box)],[],0,[],false⟩,
 ⟨376,.skip,[],[.val (BT36)],[BT36],[],[],0,[],false⟩,
 ⟨377,.skip,[],[.val (BT0)],[BT1],[],[],0,[(31,382),(127,383),(508,384)],false⟩,
 ⟨348,.skip,[],[.ptr (BT31) (BT31)],[BT36,BT1],[(0,.box)],[],0,[],false⟩,
 ⟨349,.skip,[],[.ptr (BT31) (BT31)],[BT5],[(0,.box)],[],0,[(14,387)],false⟩,
 ⟨357,.skip,[],[.ptr (BT31) (BT31)],[BT5],[(0,.box)],[],0,[(1007615,389)],false⟩,
 ⟨358,.skip,[],[.val (BT36)],[BT37],[],[],0,[],false⟩,
 ⟨364,.skip,[],[.ptr (BT31) (BT31)],[BT5],[(0,.box)],[(111,1)],0,[(2042,392),(130707,393),(8186,394),(522830,395)],false⟩,
 ⟨370,.skip,[],[.val (BT0),.val (BT36)],[BT37],[],[],0,[],false⟩]
def callX:CallL:=[((344,[]),321),((345,[]),354)]
def callR:CallL:=[((5,[]),0),((15,[]),1),((16,[]),2),((19,[]),3),((20,[]),4),((28,[]),5),((29,[]),7),((23,[]),8),((24,[]),9),((25,[]),10),((26,[]),11),((27,[]),12),((83,[]),13),((84,[]),15),((30,[]),17),((85,[]),18),((53,[]),19),((86,[]),20),((87,[]),21),((51,[]),22),((90,[]),24),((91,[]),26),((32,[]),28),((92,[]),29),((65,[]),31),((93,[]),33),((94,[]),34),((63,[]),35),((59,[]),37),((88,[]),40),((56,[]),41),((117,[]),42),((116,[]),46),((118,[]),47),((119,[]),48),((70,[]),49),((95,[]),50),((68,[]),51),((121,[]),52),((120,[]),56),((98,[]),57),((122,[]),58),((123,[]),59),((35,[]),60),((99,[]),61),((81,[]),63),((100,[]),65),((101,[]),66),((79,[]),67),((102,[]),69),((103,[]),71),((104,[]),73),((105,[]),75),((36,[]),77),((106,[]),78),((107,[]),80),((108,[]),82),((109,[]),83),((110,[]),84),((45,[]),86),((111,[]),87),((112,[]),89),((113,[]),91),((114,[]),92),((115,[]),93),((180,[]),95),((124,[]),96),((181,[]),97),((182,[]),98),((154,[]),99),((186,[]),100),((127,[]),101),((187,[]),102),((188,[]),103),((162,[]),105),((125,[]),106),((89,[]),107),((60,[]),108),((158,[]),109),((159,[]),111),((135,[]),112),((183,[]),113),((184,[]),114),((185,[]),115),((202,[]),117),((203,[]),119),((204,[]),120),((201,[]),121),((205,[]),122),((128,[]),123),((130,[]),124),((74,[]),125),((169,[]),126),((170,[]),127),((71,[171]),128),((138,[]),129),((189,[]),130),((190,[]),131),((191,[]),132),((192,[]),134),((193,[]),135),((207,[]),136),((208,[]),138),((209,[]),139),((206,[]),140),((210,[]),141),((211,[]),142),((131,[]),143),((195,[]),144),((34,[]),145),((178,[]),147),((196,[]),148),((197,[]),149),((132,[]),151),((198,[]),152),((37,[]),153),((143,[]),155),((144,[]),157),((199,[]),158),((38,[]),159),((200,[]),161),((133,[]),163),((247,[]),165),((248,[]),167),((137,[]),169),((251,[]),171),((252,[]),173),((212,[]),175),((160,[]),177),((55,[]),179),((234,[]),182),((218,[]),185),((249,[]),186),((250,[]),187),((262,[]),188),((168,[]),189),((214,[]),190),((215,[]),191),((174,[175]),193),((67,[]),194),((241,[]),195),((174,[242]),197),((172,[171]),198),((223,[]),200),((253,[]),201),((254,[]),202),((255,[]),203),((263,[]),204),((142,[]),205),((256,[]),207),((257,[]),209),((258,[]),211),((259,[]),213),((260,[]),215),((261,[]),217),((217,[]),219),((288,[]),220),((289,[]),221),((222,[]),222),((290,[]),223),((291,[]),224),((61,[]),225),((155,[]),226),((156,[]),228),((157,[]),230),((273,[]),232),((274,[]),233),((77,[]),234),((245,[175]),235),((163,[]),237),((164,[165]),239),((167,[]),240),((282,[283]),241),((284,[]),242),((285,[]),243),((245,[242]),244),((171,[]),246),((292,[]),247),((293,[]),248),((226,[]),249),((294,[]),250),((295,[]),251),((17,[]),252),((21,[]),253),((161,[]),254),((231,[]),256),((232,[]),257),((233,[]),258),((271,[]),263),((306,[]),264),((177,[]),266),((175,[]),267),((235,[]),268),((236,[165]),269),((238,[239]),271),((309,[283]),272),((279,[]),274),((310,[]),275),((311,[]),276),((242,[]),277),((73,[]),278),((179,[]),279),((270,[]),280),((272,[]),281),((319,[]),282),((246,[]),288),((275,[]),289),((276,[]),291),((165,[]),293),((277,[239]),294),((283,[]),296),((322,[]),297),((323,[]),300),((324,[]),301),((173,[]),302),((304,[]),303),((305,[]),305),((331,[]),307),((287,[]),308),((307,[]),309),((281,[]),310),((166,[]),311),((239,[]),312),((334,[]),313),((335,[]),314),((336,[]),316),((338,[]),317),((337,[]),319),((243,[244]),322),((316,[]),323),((317,[]),325),((318,[]),326),((312,[]),327),((237,[]),328),((240,[]),330),((350,[]),335),((351,[]),336),((286,[244]),337),((330,[]),339),((325,[]),342),((278,[]),343),((280,[]),347),((359,[]),348),((244,[]),351),((347,[]),352),((308,[]),355),((365,[]),356),((356,[]),359),((320,[]),367),((321,[]),369),((372,[]),371),((332,[]),377),((333,[]),379),((376,[]),380),((377,[]),381),((348,[]),385),((349,[]),386),((357,[]),388),((358,[]),390),((364,[]),391),((370,[]),396)]
def rent (e:Nat):EntI:=entR.getD e ⟨0,.skip,[],[],[],[],[],0,[],true⟩
def rkey (k:Nat):KeyI:=keyL.getD k ⟨0,[false],[]⟩
noncomputable def tab:Tab where
 G:=gam
 ty:=lookT tyL
 ifc:=memN ifcL
 key k:=keyFill rent (rkey k)
 ent k:=fill Tryz.prog (rent k)
 call:=lookC (callX ++ callR)
 tabs:=[]
 ext k:=match k with
  | 321=>fun x=>some (cmpI x.1 x.2.1,())
  | 354=>fun x=>some (idxI x.1 x.2.1,())
  | _=>fun _=>none
end Go.Proofs.YtcngnpahpbaagaaGreatDoor.E.TH
