/- The table of H: structs,types,entries,keys. No condition. -/
import Derived.Test.YtcngnpahpbaagaaGreatDoorEG4
import Derived.Test.YtcngnpahpbaagaaGreatDoorProg
import Derived.KernelRfl
namespace Go.Proofs.YtcngnpahpbaagaaGreatDoor.E.TH
open Go.Proofs.YtcngnpahpbaagaaGreatDoor.E
set_option linter.unusedVariables false
set_option maxRecDepth 100000
structure laws_Op where
 Code:Int
 N:Int
 S:(_root_.List Int)
def z_laws_Op:laws_Op:=⟨0,0,[]⟩
structure laws_Prog where
 Vars:(_root_.List (_root_.List Int))
 Cells:(_root_.List (_root_.List Int))
 Start:(_root_.List laws_Op)
 Main:(_root_.List laws_Op)
def z_laws_Prog:laws_Prog:=⟨[],[],[],[]⟩
structure laws_Sink where
 Epoch:Int
 Text:(_root_.List Int)
def z_laws_Sink:laws_Sink:=⟨0,[]⟩
structure laws_Cmd where
 Who:Int
 Seq:Int
 Line:(_root_.List Int)
def z_laws_Cmd:laws_Cmd:=⟨0,0,[]⟩
structure laws_Entry where
 Term:Int
 C:laws_Cmd
def z_laws_Entry:laws_Entry:=⟨0,z_laws_Cmd⟩
structure laws_Log where
 Base:Int
 BaseTerm:Int
 List:(_root_.List laws_Entry)
def z_laws_Log:laws_Log:=⟨0,0,[]⟩
structure laws_Val where
 Kind:Int
 N:Int
 S:(_root_.List Int)
def z_laws_Val:laws_Val:=⟨0,0,[]⟩
structure laws_Cell where
 Name:Int
 Key:(_root_.List Int)
 Val:laws_Val
def z_laws_Cell:laws_Cell:=⟨0,[],z_laws_Val⟩
structure laws_State where
 Vars:(_root_.List laws_Val)
 Cells:(_root_.List laws_Cell)
 Nr:Int
 Err:Int
def z_laws_State:laws_State:=⟨[],[],0,0⟩
structure laws_Mach where
 State:laws_State
 Done:(_root_.List Int)
 Out:(_root_.List Int)
def z_laws_Mach:laws_Mach:=⟨z_laws_State,[],[]⟩
structure laws_Hard where
 Term:Int
 Vote:Int
 Log:laws_Log
 Snap:laws_Mach
def z_laws_Hard:laws_Hard:=⟨0,0,z_laws_Log,z_laws_Mach⟩
structure laws_Disk where
 Bytes:(_root_.List Int)
 Sure:Int
def z_laws_Disk:laws_Disk:=⟨[],0⟩
structure laws_Rpc where
 Kind:Int
 From:Int
 To:Int
 Term:Int
 Index:Int
 IndexTerm:Int
 Commit:Int
 List:(_root_.List laws_Entry)
 Ok:Bool
 Snap:(_root_.List Int)
def z_laws_Rpc:laws_Rpc:=⟨0,0,0,0,0,0,0,[],false,[]⟩
structure laws_Peer where
 Id:Int
 Hard:laws_Hard
 Role:Int
 Votes:(_root_.List Bool)
 Next:(_root_.List Int)
 Match:(_root_.List Int)
 Commit:Int
 Now:laws_Mach
 Disk:laws_Disk
 Held:(_root_.List laws_Rpc)
def z_laws_Peer:laws_Peer:=⟨0,z_laws_Hard,0,[],[],[],0,z_laws_Mach,z_laws_Disk,[]⟩
structure laws_World where
 Prog:laws_Prog
 Size:Int
 Nodes:(_root_.List laws_Peer)
 Net:(_root_.List laws_Rpc)
 Sink:laws_Sink
 Sent:(_root_.List Int)
 Acked:(_root_.List Int)
 Done:(_root_.List laws_Cmd)
def z_laws_World:laws_World:=⟨z_laws_Prog,0,[],[],z_laws_Sink,[],[],[]⟩
structure impl_Op where
 Code:Int
 N:Int
 S:(_root_.List Int)
def z_impl_Op:impl_Op:=⟨0,0,[]⟩
structure impl_Prog where
 Vars:(_root_.List (_root_.List Int))
 Cells:(_root_.List (_root_.List Int))
 Start:(_root_.List impl_Op)
 Main:(_root_.List impl_Op)
def z_impl_Prog:impl_Prog:=⟨[],[],[],[]⟩
structure impl_Sink where
 Epoch:Int
 Text:(_root_.List Int)
def z_impl_Sink:impl_Sink:=⟨0,[]⟩
structure impl_Cmd where
 Who:Int
 Seq:Int
 Line:(_root_.List Int)
def z_impl_Cmd:impl_Cmd:=⟨0,0,[]⟩
structure impl_Entry where
 Term:Int
 C:impl_Cmd
def z_impl_Entry:impl_Entry:=⟨0,z_impl_Cmd⟩
structure impl_Log where
 Base:Int
 BaseTerm:Int
 List:(_root_.List impl_Entry)
def z_impl_Log:impl_Log:=⟨0,0,[]⟩
structure impl_Val where
 Kind:Int
 N:Int
 S:(_root_.List Int)
def z_impl_Val:impl_Val:=⟨0,0,[]⟩
structure impl_Cell where
 Name:Int
 Key:(_root_.List Int)
 Val:impl_Val
def z_impl_Cell:impl_Cell:=⟨0,[],z_impl_Val⟩
structure impl_State where
 Vars:(_root_.List impl_Val)
 Cells:(_root_.List impl_Cell)
 Nr:Int
 Err:Int
def z_impl_State:impl_State:=⟨[],[],0,0⟩
structure impl_Mach where
 State:impl_State
 Done:(_root_.List Int)
 Out:(_root_.List Int)
def z_impl_Mach:impl_Mach:=⟨z_impl_State,[],[]⟩
structure impl_Hard where
 Term:Int
 Vote:Int
 Log:impl_Log
 Snap:impl_Mach
def z_impl_Hard:impl_Hard:=⟨0,0,z_impl_Log,z_impl_Mach⟩
structure impl_Disk where
 Bytes:(_root_.List Int)
 Sure:Int
def z_impl_Disk:impl_Disk:=⟨[],0⟩
structure impl_Rpc where
 Kind:Int
 From:Int
 To:Int
 Term:Int
 Index:Int
 IndexTerm:Int
 Commit:Int
 List:(_root_.List impl_Entry)
 Ok:Bool
 Snap:(_root_.List Int)
def z_impl_Rpc:impl_Rpc:=⟨0,0,0,0,0,0,0,[],false,[]⟩
structure impl_Peer where
 Id:Int
 Hard:impl_Hard
 Role:Int
 Votes:(_root_.List Bool)
 Next:(_root_.List Int)
 Match:(_root_.List Int)
 Commit:Int
 Now:impl_Mach
 Disk:impl_Disk
 Held:(_root_.List impl_Rpc)
def z_impl_Peer:impl_Peer:=⟨0,z_impl_Hard,0,[],[],[],0,z_impl_Mach,z_impl_Disk,[]⟩
structure impl_World where
 Prog:impl_Prog
 Size:Int
 Nodes:(_root_.List impl_Peer)
 Net:(_root_.List impl_Rpc)
 Sink:impl_Sink
 Sent:(_root_.List Int)
 Acked:(_root_.List Int)
 Done:(_root_.List impl_Cmd)
def z_impl_World:impl_World:=⟨z_impl_Prog,0,[],[],z_impl_Sink,[],[],[]⟩
structure laws_Rec where
 Kind:Int
 Term:Int
 Vote:Int
 Prev:Int
 List:(_root_.List laws_Entry)
 Snap:(_root_.List Int)
def z_laws_Rec:laws_Rec:=⟨0,0,0,0,[],[]⟩
structure impl_Rec where
 Kind:Int
 Term:Int
 Vote:Int
 Prev:Int
 List:(_root_.List impl_Entry)
 Snap:(_root_.List Int)
def z_impl_Rec:impl_Rec:=⟨0,0,0,0,[],[]⟩
structure impl_act where
 p:impl_Prog
 n:impl_Peer
 size:Int
 no:Bool
def z_impl_act:impl_act:=⟨z_impl_Prog,z_impl_Peer,0,false⟩
structure spec_l23Work where
 p:impl_Prog
 size:Int
 n:impl_Peer
 ok:Bool
def z_spec_l23Work:spec_l23Work:=⟨z_impl_Prog,0,z_impl_Peer,false⟩
structure spec_l17Cur where
 b:(_root_.List Int)
 at_:Int
 ok:Bool
def z_spec_l17Cur:spec_l17Cur:=⟨[],0,false⟩
structure impl_source where
 b:(_root_.List Int)
 at_:Int
 bad:Bool
def z_impl_source:impl_source:=⟨[],0,false⟩
structure impl_Rex where
 Op:Int
 C:Int
 Set:(_root_.List Int)
 Not:Bool
 Kids:(_root_.List impl_Rex)
def z_impl_Rex:impl_Rex:=⟨0,0,[],false,[]⟩
structure spec_l3Cur where
 s:(_root_.List Int)
 at_:Int
 bad:Bool
def z_spec_l3Cur:spec_l3Cur:=⟨[],0,false⟩
structure impl_rexReader where
 s:(_root_.List Int)
 bad:Bool
def z_impl_rexReader:impl_rexReader:=⟨[],false⟩
def gT:Nat→Type
 | 0=>laws_Prog
 | 1=>laws_Op
 | 2=>laws_Sink
 | 3=>laws_World
 | 4=>laws_Peer
 | 5=>laws_Hard
 | 6=>laws_Log
 | 7=>laws_Entry
 | 8=>laws_Cmd
 | 9=>laws_Mach
 | 10=>laws_State
 | 11=>laws_Val
 | 12=>laws_Cell
 | 13=>laws_Disk
 | 14=>laws_Rpc
 | 15=>impl_Prog
 | 16=>impl_Op
 | 17=>impl_Sink
 | 18=>impl_World
 | 19=>impl_Peer
 | 20=>impl_Hard
 | 21=>impl_Log
 | 22=>impl_Entry
 | 23=>impl_Cmd
 | 24=>impl_Mach
 | 25=>impl_State
 | 26=>impl_Val
 | 27=>impl_Cell
 | 28=>impl_Disk
 | 29=>impl_Rpc
 | 30=>laws_Rec
 | 31=>impl_Rec
 | 32=>impl_act
 | 33=>spec_l23Work
 | 34=>spec_l17Cur
 | 35=>impl_source
 | 36=>impl_Rex
 | 37=>spec_l3Cur
 | 38=>impl_rexReader
 | _=>Unit
def gfs:Nat→List FT
 | 0=>[(.sl .str),(.sl .str),(.sl (.nm 1)),(.sl (.nm 1))]
 | 1=>[(.int .i64),(.int .i64),.str]
 | 2=>[(.int .i64),.str]
 | 3=>[(.nm 0),(.int .i64),(.sl (.nm 4)),(.sl (.nm 14)),(.nm 2),(.sl (.int .i64)),(.sl (.int .i64)),(.sl (.nm 8))]
 | 4=>[(.int .i64),(.nm 5),(.int .i64),(.sl .bool),(.sl (.int .i64)),(.sl (.int .i64)),(.int .i64),(.nm 9),(.nm 13),(.sl (.nm 14))]
 | 5=>[(.int .i64),(.int .i64),(.nm 6),(.nm 9)]
 | 6=>[(.int .i64),(.int .i64),(.sl (.nm 7))]
 | 7=>[(.int .i64),(.nm 8)]
 | 8=>[(.int .i64),(.int .i64),.str]
 | 9=>[(.nm 10),(.sl (.int .i64)),.str]
 | 10=>[(.sl (.nm 11)),(.sl (.nm 12)),(.int .i64),(.int .i64)]
 | 11=>[(.int .i64),(.int .i64),.str]
 | 12=>[(.int .i64),.str,(.nm 11)]
 | 13=>[(.sl (.int .u8)),(.int .i64)]
 | 14=>[(.int .i64),(.int .i64),(.int .i64),(.int .i64),(.int .i64),(.int .i64),(.int .i64),(.sl (.nm 7)),.bool,.str]
 | 15=>[(.sl .str),(.sl .str),(.sl (.nm 16)),(.sl (.nm 16))]
 | 16=>[(.int .i64),(.int .i64),.str]
 | 17=>[(.int .i64),.str]
 | 18=>[(.nm 15),(.int .i64),(.sl (.nm 19)),(.sl (.nm 29)),(.nm 17),(.sl (.int .i64)),(.sl (.int .i64)),(.sl (.nm 23))]
 | 19=>[(.int .i64),(.nm 20),(.int .i64),(.sl .bool),(.sl (.int .i64)),(.sl (.int .i64)),(.int .i64),(.nm 24),(.nm 28),(.sl (.nm 29))]
 | 20=>[(.int .i64),(.int .i64),(.nm 21),(.nm 24)]
 | 21=>[(.int .i64),(.int .i64),(.sl (.nm 22))]
 | 22=>[(.int .i64),(.nm 23)]
 | 23=>[(.int .i64),(.int .i64),.str]
 | 24=>[(.nm 25),(.sl (.int .i64)),.str]
 | 25=>[(.sl (.nm 26)),(.sl (.nm 27)),(.int .i64),(.int .i64)]
 | 26=>[(.int .i64),(.int .i64),.str]
 | 27=>[(.int .i64),.str,(.nm 26)]
 | 28=>[(.sl (.int .u8)),(.int .i64)]
 | 29=>[(.int .i64),(.int .i64),(.int .i64),(.int .i64),(.int .i64),(.int .i64),(.int .i64),(.sl (.nm 22)),.bool,.str]
 | 30=>[(.int .i64),(.int .i64),(.int .i64),(.int .i64),(.sl (.nm 7)),.str]
 | 31=>[(.int .i64),(.int .i64),(.int .i64),(.int .i64),(.sl (.nm 22)),.str]
 | 32=>[(.nm 15),(.nm 19),(.int .i64),.bool]
 | 33=>[(.nm 15),(.int .i64),(.nm 19),.bool]
 | 34=>[(.sl (.int .u8)),(.int .i64),.bool]
 | 35=>[(.sl (.int .u8)),(.int .i64),.bool]
 | 36=>[(.int .i64),(.int .i64),.str,.bool,(.sl (.nm 36))]
 | 37=>[.str,(.int .i64),.bool]
 | 38=>[.str,.bool]
 | _=>[]
def gun:∀ n,gT n→Js gT (gfs n)
 | 0,x=>(x.Vars,(x.Cells,(x.Start,(x.Main,()))))
 | 1,x=>(x.Code,(x.N,(x.S,())))
 | 2,x=>(x.Epoch,(x.Text,()))
 | 3,x=>(x.Prog,(x.Size,(x.Nodes,(x.Net,(x.Sink,(x.Sent,(x.Acked,(x.Done,()))))))))
 | 4,x=>(x.Id,(x.Hard,(x.Role,(x.Votes,(x.Next,(x.Match,(x.Commit,(x.Now,(x.Disk,(x.Held,()))))))))))
 | 5,x=>(x.Term,(x.Vote,(x.Log,(x.Snap,()))))
 | 6,x=>(x.Base,(x.BaseTerm,(x.List,())))
 | 7,x=>(x.Term,(x.C,()))
 | 8,x=>(x.Who,(x.Seq,(x.Line,())))
 | 9,x=>(x.State,(x.Done,(x.Out,())))
 | 10,x=>(x.Vars,(x.Cells,(x.Nr,(x.Err,()))))
 | 11,x=>(x.Kind,(x.N,(x.S,())))
 | 12,x=>(x.Name,(x.Key,(x.Val,())))
 | 13,x=>(x.Bytes,(x.Sure,()))
 | 14,x=>(x.Kind,(x.From,(x.To,(x.Term,(x.Index,(x.IndexTerm,(x.Commit,(x.List,(x.Ok,(x.Snap,()))))))))))
 | 15,x=>(x.Vars,(x.Cells,(x.Start,(x.Main,()))))
 | 16,x=>(x.Code,(x.N,(x.S,())))
 | 17,x=>(x.Epoch,(x.Text,()))
 | 18,x=>(x.Prog,(x.Size,(x.Nodes,(x.Net,(x.Sink,(x.Sent,(x.Acked,(x.Done,()))))))))
 | 19,x=>(x.Id,(x.Hard,(x.Role,(x.Votes,(x.Next,(x.Match,(x.Commit,(x.Now,(x.Disk,(x.Held,()))))))))))
 | 20,x=>(x.Term,(x.Vote,(x.Log,(x.Snap,()))))
 | 21,x=>(x.Base,(x.BaseTerm,(x.List,())))
 | 22,x=>(x.Term,(x.C,()))
 | 23,x=>(x.Who,(x.Seq,(x.Line,())))
 | 24,x=>(x.State,(x.Done,(x.Out,())))
 | 25,x=>(x.Vars,(x.Cells,(x.Nr,(x.Err,()))))
 | 26,x=>(x.Kind,(x.N,(x.S,())))
 | 27,x=>(x.Name,(x.Key,(x.Val,())))
 | 28,x=>(x.Bytes,(x.Sure,()))
 | 29,x=>(x.Kind,(x.From,(x.To,(x.Term,(x.Index,(x.IndexTerm,(x.Commit,(x.List,(x.Ok,(x.Snap,()))))))))))
 | 30,x=>(x.Kind,(x.Term,(x.Vote,(x.Prev,(x.List,(x.Snap,()))))))
 | 31,x=>(x.Kind,(x.Term,(x.Vote,(x.Prev,(x.List,(x.Snap,()))))))
 | 32,x=>(x.p,(x.n,(x.size,(x.no,()))))
 | 33,x=>(x.p,(x.size,(x.n,(x.ok,()))))
 | 34,x=>(x.b,(x.at_,(x.ok,())))
 | 35,x=>(x.b,(x.at_,(x.bad,())))
 | 36,x=>(x.Op,(x.C,(x.Set,(x.Not,(x.Kids,())))))
 | 37,x=>(x.s,(x.at_,(x.bad,())))
 | 38,x=>(x.s,(x.bad,()))
 | (n+39),_=>()
def gpk:∀ n,Js gT (gfs n)→gT n
 | 0,y=>⟨y.1,y.2.1,y.2.2.1,y.2.2.2.1⟩
 | 1,y=>⟨y.1,y.2.1,y.2.2.1⟩
 | 2,y=>⟨y.1,y.2.1⟩
 | 3,y=>⟨y.1,y.2.1,y.2.2.1,y.2.2.2.1,y.2.2.2.2.1,y.2.2.2.2.2.1,y.2.2.2.2.2.2.1,y.2.2.2.2.2.2.2.1⟩
 | 4,y=>⟨y.1,y.2.1,y.2.2.1,y.2.2.2.1,y.2.2.2.2.1,y.2.2.2.2.2.1,y.2.2.2.2.2.2.1,y.2.2.2.2.2.2.2.1,y.2.2.2.2.2.2.2.2.1,y.2.2.2.2.2.2.2.2.2.1⟩
 | 5,y=>⟨y.1,y.2.1,y.2.2.1,y.2.2.2.1⟩
 | 6,y=>⟨y.1,y.2.1,y.2.2.1⟩
 | 7,y=>⟨y.1,y.2.1⟩
 | 8,y=>⟨y.1,y.2.1,y.2.2.1⟩
 | 9,y=>⟨y.1,y.2.1,y.2.2.1⟩
 | 10,y=>⟨y.1,y.2.1,y.2.2.1,y.2.2.2.1⟩
 | 11,y=>⟨y.1,y.2.1,y.2.2.1⟩
 | 12,y=>⟨y.1,y.2.1,y.2.2.1⟩
 | 13,y=>⟨y.1,y.2.1⟩
 | 14,y=>⟨y.1,y.2.1,y.2.2.1,y.2.2.2.1,y.2.2.2.2.1,y.2.2.2.2.2.1,y.2.2.2.2.2.2.1,y.2.2.2.2.2.2.2.1,y.2.2.2.2.2.2.2.2.1,y.2.2.2.2.2.2.2.2.2.1⟩
 | 15,y=>⟨y.1,y.2.1,y.2.2.1,y.2.2.2.1⟩
 | 16,y=>⟨y.1,y.2.1,y.2.2.1⟩
 | 17,y=>⟨y.1,y.2.1⟩
 | 18,y=>⟨y.1,y.2.1,y.2.2.1,y.2.2.2.1,y.2.2.2.2.1,y.2.2.2.2.2.1,y.2.2.2.2.2.2.1,y.2.2.2.2.2.2.2.1⟩
 | 19,y=>⟨y.1,y.2.1,y.2.2.1,y.2.2.2.1,y.2.2.2.2.1,y.2.2.2.2.2.1,y.2.2.2.2.2.2.1,y.2.2.2.2.2.2.2.1,y.2.2.2.2.2.2.2.2.1,y.2.2.2.2.2.2.2.2.2.1⟩
 | 20,y=>⟨y.1,y.2.1,y.2.2.1,y.2.2.2.1⟩
 | 21,y=>⟨y.1,y.2.1,y.2.2.1⟩
 | 22,y=>⟨y.1,y.2.1⟩
 | 23,y=>⟨y.1,y.2.1,y.2.2.1⟩
 | 24,y=>⟨y.1,y.2.1,y.2.2.1⟩
 | 25,y=>⟨y.1,y.2.1,y.2.2.1,y.2.2.2.1⟩
 | 26,y=>⟨y.1,y.2.1,y.2.2.1⟩
 | 27,y=>⟨y.1,y.2.1,y.2.2.1⟩
 | 28,y=>⟨y.1,y.2.1⟩
 | 29,y=>⟨y.1,y.2.1,y.2.2.1,y.2.2.2.1,y.2.2.2.2.1,y.2.2.2.2.2.1,y.2.2.2.2.2.2.1,y.2.2.2.2.2.2.2.1,y.2.2.2.2.2.2.2.2.1,y.2.2.2.2.2.2.2.2.2.1⟩
 | 30,y=>⟨y.1,y.2.1,y.2.2.1,y.2.2.2.1,y.2.2.2.2.1,y.2.2.2.2.2.1⟩
 | 31,y=>⟨y.1,y.2.1,y.2.2.1,y.2.2.2.1,y.2.2.2.2.1,y.2.2.2.2.2.1⟩
 | 32,y=>⟨y.1,y.2.1,y.2.2.1,y.2.2.2.1⟩
 | 33,y=>⟨y.1,y.2.1,y.2.2.1,y.2.2.2.1⟩
 | 34,y=>⟨y.1,y.2.1,y.2.2.1⟩
 | 35,y=>⟨y.1,y.2.1,y.2.2.1⟩
 | 36,y=>⟨y.1,y.2.1,y.2.2.1,y.2.2.2.1,y.2.2.2.2.1⟩
 | 37,y=>⟨y.1,y.2.1,y.2.2.1⟩
 | 38,y=>⟨y.1,y.2.1⟩
 | (n+39),_=>()
theorem gun_pk:∀ n y,gun n (gpk n y)=y
 | 0,_=>rfl
 | 1,_=>rfl
 | 2,_=>rfl
 | 3,_=>rfl
 | 4,_=>rfl
 | 5,_=>rfl
 | 6,_=>rfl
 | 7,_=>rfl
 | 8,_=>rfl
 | 9,_=>rfl
 | 10,_=>rfl
 | 11,_=>rfl
 | 12,_=>rfl
 | 13,_=>rfl
 | 14,_=>rfl
 | 15,_=>rfl
 | 16,_=>rfl
 | 17,_=>rfl
 | 18,_=>rfl
 | 19,_=>rfl
 | 20,_=>rfl
 | 21,_=>rfl
 | 22,_=>rfl
 | 23,_=>rfl
 | 24,_=>rfl
 | 25,_=>rfl
 | 26,_=>rfl
 | 27,_=>rfl
 | 28,_=>rfl
 | 29,_=>rfl
 | 30,_=>rfl
 | 31,_=>rfl
 | 32,_=>rfl
 | 33,_=>rfl
 | 34,_=>rfl
 | 35,_=>rfl
 | 36,_=>rfl
 | 37,_=>rfl
 | 38,_=>rfl
 | (n+39),_=>rfl
theorem gpk_un:∀ n x,gpk n (gun n x)=x
 | 0,x=>by cases x; rfl
 | 1,x=>by cases x; rfl
 | 2,x=>by cases x; rfl
 | 3,x=>by cases x; rfl
 | 4,x=>by cases x; rfl
 | 5,x=>by cases x; rfl
 | 6,x=>by cases x; rfl
 | 7,x=>by cases x; rfl
 | 8,x=>by cases x; rfl
 | 9,x=>by cases x; rfl
 | 10,x=>by cases x; rfl
 | 11,x=>by cases x; rfl
 | 12,x=>by cases x; rfl
 | 13,x=>by cases x; rfl
 | 14,x=>by cases x; rfl
 | 15,x=>by cases x; rfl
 | 16,x=>by cases x; rfl
 | 17,x=>by cases x; rfl
 | 18,x=>by cases x; rfl
 | 19,x=>by cases x; rfl
 | 20,x=>by cases x; rfl
 | 21,x=>by cases x; rfl
 | 22,x=>by cases x; rfl
 | 23,x=>by cases x; rfl
 | 24,x=>by cases x; rfl
 | 25,x=>by cases x; rfl
 | 26,x=>by cases x; rfl
 | 27,x=>by cases x; rfl
 | 28,x=>by cases x; rfl
 | 29,x=>by cases x; rfl
 | 30,x=>by cases x; rfl
 | 31,x=>by cases x; rfl
 | 32,x=>by cases x; rfl
 | 33,x=>by cases x; rfl
 | 34,x=>by cases x; rfl
 | 35,x=>by cases x; rfl
 | 36,x=>by cases x; rfl
 | 37,x=>by cases x; rfl
 | 38,x=>by cases x; rfl
 | (n+39),_=>rfl
def gz:∀ n,gT n
 | 0=>z_laws_Prog
 | 1=>z_laws_Op
 | 2=>z_laws_Sink
 | 3=>z_laws_World
 | 4=>z_laws_Peer
 | 5=>z_laws_Hard
 | 6=>z_laws_Log
 | 7=>z_laws_Entry
 | 8=>z_laws_Cmd
 | 9=>z_laws_Mach
 | 10=>z_laws_State
 | 11=>z_laws_Val
 | 12=>z_laws_Cell
 | 13=>z_laws_Disk
 | 14=>z_laws_Rpc
 | 15=>z_impl_Prog
 | 16=>z_impl_Op
 | 17=>z_impl_Sink
 | 18=>z_impl_World
 | 19=>z_impl_Peer
 | 20=>z_impl_Hard
 | 21=>z_impl_Log
 | 22=>z_impl_Entry
 | 23=>z_impl_Cmd
 | 24=>z_impl_Mach
 | 25=>z_impl_State
 | 26=>z_impl_Val
 | 27=>z_impl_Cell
 | 28=>z_impl_Disk
 | 29=>z_impl_Rpc
 | 30=>z_laws_Rec
 | 31=>z_impl_Rec
 | 32=>z_impl_act
 | 33=>z_spec_l23Work
 | 34=>z_spec_l17Cur
 | 35=>z_impl_source
 | 36=>z_impl_Rex
 | 37=>z_spec_l3Cur
 | 38=>z_impl_rexReader
 | (n+39)=>()
theorem gun_z:∀ n,gun n (gz n)=zeroJs gz (gfs n)
 | 0=>rfl
 | 1=>rfl
 | 2=>rfl
 | 3=>rfl
 | 4=>rfl
 | 5=>rfl
 | 6=>rfl
 | 7=>rfl
 | 8=>rfl
 | 9=>rfl
 | 10=>rfl
 | 11=>rfl
 | 12=>rfl
 | 13=>rfl
 | 14=>rfl
 | 15=>rfl
 | 16=>rfl
 | 17=>rfl
 | 18=>rfl
 | 19=>rfl
 | 20=>rfl
 | 21=>rfl
 | 22=>rfl
 | 23=>rfl
 | 24=>rfl
 | 25=>rfl
 | 26=>rfl
 | 27=>rfl
 | 28=>rfl
 | 29=>rfl
 | 30=>rfl
 | 31=>rfl
 | 32=>rfl
 | 33=>rfl
 | 34=>rfl
 | 35=>rfl
 | 36=>rfl
 | 37=>rfl
 | 38=>rfl
 | (n+39)=>rfl
def gsz:Nat→Nat
 | 0=>4
 | 1=>3
 | 2=>2
 | 3=>12
 | 4=>26
 | 5=>11
 | 6=>3
 | 7=>4
 | 8=>3
 | 9=>6
 | 10=>4
 | 11=>3
 | 12=>5
 | 13=>2
 | 14=>10
 | 15=>4
 | 16=>3
 | 17=>2
 | 18=>12
 | 19=>26
 | 20=>11
 | 21=>3
 | 22=>4
 | 23=>3
 | 24=>6
 | 25=>4
 | 26=>3
 | 27=>5
 | 28=>2
 | 29=>10
 | 30=>6
 | 31=>6
 | 32=>32
 | 33=>32
 | 34=>3
 | 35=>3
 | 36=>5
 | 37=>3
 | 38=>2
 | _=>0
theorem gsz_eq:∀ n,gsz n=FT.szs gsz (gfs n)
 | 0=>rfl
 | 1=>rfl
 | 2=>rfl
 | 3=>rfl
 | 4=>rfl
 | 5=>rfl
 | 6=>rfl
 | 7=>rfl
 | 8=>rfl
 | 9=>rfl
 | 10=>rfl
 | 11=>rfl
 | 12=>rfl
 | 13=>rfl
 | 14=>rfl
 | 15=>rfl
 | 16=>rfl
 | 17=>rfl
 | 18=>rfl
 | 19=>rfl
 | 20=>rfl
 | 21=>rfl
 | 22=>rfl
 | 23=>rfl
 | 24=>rfl
 | 25=>rfl
 | 26=>rfl
 | 27=>rfl
 | 28=>rfl
 | 29=>rfl
 | 30=>rfl
 | 31=>rfl
 | 32=>rfl
 | 33=>rfl
 | 34=>rfl
 | 35=>rfl
 | 36=>rfl
 | 37=>rfl
 | 38=>rfl
 | (n+39)=>rfl
def gfl:Nat→Bool
 | 0=>false
 | 1=>true
 | 2=>true
 | 3=>false
 | 4=>false
 | 5=>false
 | 6=>false
 | 7=>true
 | 8=>true
 | 9=>false
 | 10=>false
 | 11=>true
 | 12=>true
 | 13=>false
 | 14=>false
 | 15=>false
 | 16=>true
 | 17=>true
 | 18=>false
 | 19=>false
 | 20=>false
 | 21=>false
 | 22=>true
 | 23=>true
 | 24=>false
 | 25=>false
 | 26=>true
 | 27=>true
 | 28=>false
 | 29=>false
 | 30=>false
 | 31=>false
 | 32=>false
 | 33=>false
 | 34=>false
 | 35=>false
 | 36=>false
 | 37=>true
 | 38=>true
 | _=>true
theorem gfl_eq:∀ n,gfl n=true→FT.flats gfl (gfs n)=true
 | 0,h=>by cases h
 | 1,h=>rfl
 | 2,h=>rfl
 | 3,h=>by cases h
 | 4,h=>by cases h
 | 5,h=>by cases h
 | 6,h=>by cases h
 | 7,h=>rfl
 | 8,h=>rfl
 | 9,h=>by cases h
 | 10,h=>by cases h
 | 11,h=>rfl
 | 12,h=>rfl
 | 13,h=>by cases h
 | 14,h=>by cases h
 | 15,h=>by cases h
 | 16,h=>rfl
 | 17,h=>rfl
 | 18,h=>by cases h
 | 19,h=>by cases h
 | 20,h=>by cases h
 | 21,h=>by cases h
 | 22,h=>rfl
 | 23,h=>rfl
 | 24,h=>by cases h
 | 25,h=>by cases h
 | 26,h=>rfl
 | 27,h=>rfl
 | 28,h=>by cases h
 | 29,h=>by cases h
 | 30,h=>by cases h
 | 31,h=>by cases h
 | 32,h=>by cases h
 | 33,h=>by cases h
 | 34,h=>by cases h
 | 35,h=>by cases h
 | 36,h=>by cases h
 | 37,h=>rfl
 | 38,h=>rfl
 | (n+39),_=>rfl
def gam:Gam:=⟨gT,gfs,gun,gpk,gun_pk,gpk_un,gz,gun_z,gsz,gsz_eq,gfl,gfl_eq⟩
def tyL:List (Nat × FT):=[(2,(.int .i64)),(3,(.int .i64)),(4,.bool),(5,(.int .u8)),(6,(.int .u8)),(9,.str),(21,(.int .i32)),(22,(.sl .str)),(23,(.sl (.nm 1))),(25,(.nm 0)),(30,(.sl (.int .i64))),(36,(.sl (.nm 16))),(38,(.nm 15)),(48,(.sl (.nm 7))),(50,(.nm 6)),(51,(.sl (.nm 11))),(52,(.sl (.nm 12))),(54,(.nm 10)),(56,(.nm 9)),(58,(.nm 5)),(59,(.sl .bool)),(60,(.sl (.int .u8))),(66,(.nm 8)),(70,(.sl (.nm 22))),(72,(.nm 21)),(73,(.sl (.nm 26))),(74,(.sl (.nm 27))),(76,(.nm 25)),(78,(.nm 24)),(80,(.nm 20)),(88,(.nm 23)),(106,(.nm 30)),(110,(.nm 31)),(156,(.nm 22)),(225,(.nm 1)),(230,(.nm 16)),(242,(.nm 26)),(244,(.nm 27)),(252,(.int .u64)),(255,(.nm 7)),(287,(.nm 34)),(291,(.nm 35)),(297,(.sl (.nm 36))),(299,(.nm 36)),(313,(.nm 11)),(316,(.nm 12)),(333,(.int .u64)),(338,(.nm 37)),(348,(.nm 38)),(375,(.int .i64))]
def ifcL:List Nat:=[364]
abbrev BT0:BT:=.leaf false .str
abbrev BT1:BT:=.leaf false .bool
abbrev BT2:BT:=.leaf true (.nm 20)
abbrev BT3:BT:=.leaf true (.nm 21)
abbrev BT4:BT:=.leaf true (.nm 24)
abbrev BT5:BT:=.leaf true (.nm 16)
abbrev BT6:BT:=.leaf true (.nm 37)
abbrev BT7:BT:=.leaf true (.nm 36)
abbrev BT8:BT:=.leaf true (.nm 38)
abbrev BT9:BT:=.leaf false (.nm 0)
abbrev BT10:BT:=.leaf false (.nm 5)
abbrev BT11:BT:=.leaf true (.nm 25)
abbrev BT12:BT:=.leaf false (.nm 20)
abbrev BT13:BT:=.leaf false (.nm 15)
abbrev BT14:BT:=.leaf false (.nm 31)
abbrev BT15:BT:=.leaf false (.nm 24)
abbrev BT16:BT:=.leaf false (.nm 21)
abbrev BT17:BT:=.leaf false (.nm 25)
abbrev BT18:BT:=.leaf false (.nm 35)
abbrev BT19:BT:=.leaf false (.nm 34)
abbrev BT20:BT:=.leaf false (.nm 36)
abbrev BT21:BT:=.leaf false (.nm 30)
abbrev BT22:BT:=.leaf false (.nm 16)
abbrev BT23:BT:=.leaf false (.nm 26)
abbrev BT24:BT:=.leaf false (.nm 22)
abbrev BT25:BT:=.leaf false (.nm 23)
abbrev BT26:BT:=.leaf false (.nm 27)
abbrev BT27:BT:=.leaf false (.nm 37)
abbrev BT28:BT:=.leaf false (.nm 38)
abbrev BT29:BT:=.leaf true (.sl .str)
abbrev BT30:BT:=.leaf false (.sl .str)
abbrev BT31:BT:=.leaf true (.int .i64)
abbrev BT32:BT:=.leaf false (.int .u8)
abbrev BT33:BT:=.leaf true (.sl .bool)
abbrev BT34:BT:=.leaf false (.int .i64)
abbrev BT35:BT:=.leaf false (.int .u64)
abbrev BT36:BT:=.leaf false (.sl .bool)
abbrev BT37:BT:=.leaf false (.int .i32)
abbrev BT38:BT:=.leaf false (.sl (.nm 1))
abbrev BT39:BT:=.leaf true (.sl (.nm 16))
abbrev BT40:BT:=.leaf false (.sl (.nm 7))
abbrev BT41:BT:=.leaf true (.sl (.nm 22))
abbrev BT42:BT:=.leaf true (.sl (.nm 26))
abbrev BT43:BT:=.leaf true (.sl (.nm 27))
abbrev BT44:BT:=.leaf true (.sl (.nm 36))
abbrev BT45:BT:=.leaf false (.sl (.nm 22))
abbrev BT46:BT:=.leaf false (.sl (.nm 26))
abbrev BT47:BT:=.leaf false (.sl (.nm 27))
abbrev BT48:BT:=.leaf false (.sl (.nm 16))
abbrev BT49:BT:=.leaf false (.sl (.nm 11))
abbrev BT50:BT:=.leaf false (.sl (.nm 12))
abbrev BT51:BT:=.leaf true (.sl (.int .u8))
abbrev BT52:BT:=.leaf false (.sl (.int .u8))
abbrev BT53:BT:=.leaf true (.sl (.int .i64))
abbrev BT54:BT:=.leaf false (.sl (.int .i64))
def keyL:List KeyI:=[
 ⟨0,[],[]⟩,
 ⟨1,[],[]⟩,
 ⟨2,[],[]⟩,
 ⟨3,[],[]⟩,
 ⟨4,[],[]⟩,
 ⟨5,[],[]⟩,
 ⟨6,[],[]⟩,
 ⟨7,[],[]⟩,
 ⟨7,[true,true,true,true],[.ptr 3 48,.own 5 80 (BT51),.slot 48 (BT12) true none]⟩,
 ⟨7,[true,true,true,true,true,false,true,false],[.ptr 3 48,.own 5 80 (BT51),.val 7 (BT34),.val 9 (BT34),.slot 48 (BT12) true none]⟩,
 ⟨8,[],[]⟩,
 ⟨8,[true,true,false,true,false],[.val 0 (BT52),.val 1 (BT52),.val 5 (BT34)]⟩,
 ⟨9,[],[]⟩,
 ⟨10,[],[]⟩,
 ⟨11,[],[]⟩,
 ⟨12,[],[]⟩,
 ⟨13,[],[]⟩,
 ⟨13,[true,false,true,false],[.own 0 0 (BT51),.val 1 (BT34),.val 5 (BT34)]⟩,
 ⟨14,[],[]⟩,
 ⟨14,[true,false,true,false],[.val 0 (BT52),.val 1 (BT34),.val 5 (BT34)]⟩,
 ⟨15,[],[]⟩,
 ⟨16,[],[]⟩,
 ⟨17,[],[]⟩,
 ⟨18,[],[]⟩,
 ⟨18,[true,true,true,true],[.ptr 3 48,.ptr 4 64,.ptr 6 96,.ptr 7 112,.slot 48 (BT13) true none,.slot 64 (BT12) true none,.slot 96 (BT2) true none,.slot 112 (BT2) true none]⟩,
 ⟨19,[],[]⟩,
 ⟨20,[],[]⟩,
 ⟨21,[],[]⟩,
 ⟨22,[],[]⟩,
 ⟨22,[true,true,true,false,true,false],[.val 0 (BT30),.val 1 (BT34),.val 5 (BT34)]⟩,
 ⟨23,[],[]⟩,
 ⟨23,[true,true,true,false,true,false],[.val 0 (BT38),.val 1 (BT34),.val 5 (BT34)]⟩,
 ⟨24,[],[]⟩,
 ⟨25,[],[]⟩,
 ⟨26,[],[]⟩,
 ⟨26,[true,true,false,true,false],[.val 0 (BT30),.own 3 48 (BT29),.val 4 (BT34)]⟩,
 ⟨27,[],[]⟩,
 ⟨27,[true,true,false,true,false],[.val 0 (BT38),.own 3 48 (BT39),.val 4 (BT34)]⟩,
 ⟨28,[],[]⟩,
 ⟨29,[],[]⟩,
 ⟨30,[],[]⟩,
 ⟨31,[],[]⟩,
 ⟨31,[true,true,true],[.ptr 1 16,.own 3 48 (BT51),.slot 16 (BT12) true none]⟩,
 ⟨31,[true,true,true,true,false,true,false],[.ptr 1 16,.own 3 48 (BT51),.val 4 (BT34),.val 5 (BT34),.slot 16 (BT12) true none]⟩,
 ⟨32,[],[]⟩,
 ⟨33,[],[]⟩,
 ⟨33,[true,true,true,false,true,false],[.ptr 1 16,.own 3 48 (BT51),.val 28 (BT54),.val 29 (BT34),.val 30 (BT34),.slot 16 (BT14) true none]⟩,
 ⟨33,[true,true,true,true,false,true,false],[.ptr 1 16,.own 3 48 (BT51),.val 40 (BT45),.val 41 (BT34),.val 42 (BT34),.slot 16 (BT14) true none]⟩,
 ⟨33,[true,true,true,true,false,true,false,false,true,true,false,false,true,false,true,false],[.ptr 1 16,.ptr 7 112,.own 3 48 (BT51),.val 40 (BT45),.val 41 (BT34),.val 42 (BT34),.val 55 (BT54),.val 56 (BT34),.val 57 (BT34),.slot 16 (BT14) true none,.slot 112 (.leaf true (.nm 22)) true none]⟩,
 ⟨34,[],[]⟩,
 ⟨34,[true,true,true,false,true,false],[.ptr 3 48,.own 5 80 (BT51),.val 23 (BT46),.val 24 (BT34),.val 25 (BT34),.slot 48 (BT15) true none]⟩,
 ⟨34,[true,true,true,true,true,false,true,false],[.ptr 3 48,.own 5 80 (BT51),.val 42 (BT47),.val 43 (BT34),.val 44 (BT34),.slot 48 (BT15) true none]⟩,
 ⟨34,[true,true,true,true,true,true,true,true,false,true,false],[.ptr 3 48,.own 5 80 (BT51),.val 76 (BT54),.val 77 (BT34),.val 78 (BT34),.slot 48 (BT15) true none]⟩,
 ⟨35,[],[]⟩,
 ⟨36,[],[]⟩,
 ⟨37,[],[]⟩,
 ⟨38,[],[]⟩,
 ⟨38,[true,true,false,true,false],[.val 0 (BT30),.val 1 (BT30),.val 5 (BT34)]⟩,
 ⟨39,[],[]⟩,
 ⟨39,[true,true,false,true,false],[.val 0 (BT48),.val 1 (BT48),.val 5 (BT34)]⟩,
 ⟨40,[],[]⟩,
 ⟨41,[],[]⟩,
 ⟨42,[],[]⟩,
 ⟨42,[true,false,true,false],[.own 0 0 (BT29),.val 1 (BT34),.val 5 (BT34)]⟩,
 ⟨43,[],[]⟩,
 ⟨43,[true,false,true,false],[.own 0 0 (BT39),.val 1 (BT34),.val 5 (BT34)]⟩,
 ⟨44,[],[]⟩,
 ⟨45,[],[]⟩,
 ⟨46,[],[]⟩,
 ⟨46,[true,true,true,false,true,false],[.val 0 (BT40),.val 1 (BT34),.val 5 (BT34)]⟩,
 ⟨47,[],[]⟩,
 ⟨47,[true,true,false,true,false],[.val 0 (BT40),.own 3 48 (BT41),.val 4 (BT34)]⟩,
 ⟨48,[],[]⟩,
 ⟨49,[],[]⟩,
 ⟨50,[],[]⟩,
 ⟨50,[true,true],[.ptr 4 64,.ptr 6 96,.slot 64 (BT12) true none,.slot 96 (BT2) true none]⟩,
 ⟨51,[],[]⟩,
 ⟨52,[],[]⟩,
 ⟨53,[],[]⟩,
 ⟨53,[true,true,true,true,false,true,false],[.ptr 4 64,.ptr 8 128,.ptr 10 160,.val 1 (BT34),.val 31 (BT45),.val 32 (BT34),.val 33 (BT34),.slot 64 (BT16) true none,.slot 128 (BT3) true none,.slot 160 (BT3) true none]⟩,
 ⟨54,[],[]⟩,
 ⟨55,[],[]⟩,
 ⟨55,[true,true,false,true,false],[.val 0 (BT45),.val 1 (BT45),.val 5 (BT34)]⟩,
 ⟨56,[],[]⟩,
 ⟨56,[true,false,true,false],[.own 0 0 (BT41),.val 1 (BT34),.val 5 (BT34)]⟩,
 ⟨57,[],[]⟩,
 ⟨58,[],[]⟩,
 ⟨59,[],[]⟩,
 ⟨60,[],[]⟩,
 ⟨61,[],[]⟩,
 ⟨62,[],[]⟩,
 ⟨63,[],[]⟩,
 ⟨64,[],[]⟩,
 ⟨64,[true,true,false,true,false],[.val 0 (BT54),.own 3 48 (BT53),.val 4 (BT34)]⟩,
 ⟨65,[],[]⟩,
 ⟨66,[],[]⟩,
 ⟨67,[],[]⟩,
 ⟨67,[true,true,true,false,true,false],[.ptr 1 16,.val 3 (BT34),.val 4 (BT34),.slot 16 (BT16) true none]⟩,
 ⟨68,[],[]⟩,
 ⟨68,[true,false,true,false],[.ptr 2 32,.ptr 3 48,.val 5 (BT34),.slot 32 (BT13) true none,.slot 48 (BT15) true none]⟩,
 ⟨69,[],[]⟩,
 ⟨70,[],[]⟩,
 ⟨70,[true,true,true,false,true,false],[.ptr 1 16,.ptr 3 48,.own 4 64 (BT51),.val 5 (BT34),.slot 16 (BT15) true none,.slot 48 (BT17) true none]⟩,
 ⟨70,[true,true,true,true,true,false,true,false],[.ptr 1 16,.ptr 3 48,.own 4 64 (BT51),.val 6 (BT34),.slot 16 (BT15) true none,.slot 48 (BT17) true none]⟩,
 ⟨70,[true,true,true,true,true,true,true,true,false,true,false],[.ptr 1 16,.own 4 64 (BT51),.val 7 (BT34),.slot 16 (BT15) true none]⟩,
 ⟨71,[],[]⟩,
 ⟨72,[],[]⟩,
 ⟨73,[],[]⟩,
 ⟨74,[],[]⟩,
 ⟨74,[true,true,true,false,true,false],[.val 3 (BT34),.val 28 (BT45),.val 29 (BT34),.val 30 (BT34)]⟩,
 ⟨75,[],[]⟩,
 ⟨76,[],[]⟩,
 ⟨76,[true,true,true,false,false],[.val 0 (BT34),.own 3 48 (BT51)]⟩,
 ⟨77,[],[]⟩,
 ⟨78,[],[]⟩,
 ⟨78,[true,true,false,true,false],[.val 3 (BT34),.val 4 (BT34),.val 7 (BT52),.val 8 (BT34),.val 9 (BT34)]⟩,
 ⟨79,[],[]⟩,
 ⟨80,[],[]⟩,
 ⟨81,[],[]⟩,
 ⟨82,[],[]⟩,
 ⟨83,[],[]⟩,
 ⟨84,[],[]⟩,
 ⟨84,[true,true,false,true,false],[.val 0 (BT54),.val 1 (BT54),.val 5 (BT34)]⟩,
 ⟨85,[],[]⟩,
 ⟨85,[true,true,true,false,false],[.val 0 (BT34),.val 3 (BT0)]⟩,
 ⟨86,[],[]⟩,
 ⟨87,[],[]⟩,
 ⟨87,[true,false,true,false],[.own 0 0 (BT53),.val 1 (BT34),.val 5 (BT34)]⟩,
 ⟨88,[],[]⟩,
 ⟨89,[],[]⟩,
 ⟨90,[],[]⟩,
 ⟨91,[],[]⟩,
 ⟨92,[],[]⟩,
 ⟨92,[true,false,true,false],[.val 0 (BT45),.val 1 (BT34),.val 5 (BT34)]⟩,
 ⟨93,[],[]⟩,
 ⟨93,[true,true,true,true,false,true,false],[.ptr 4 64,.ptr 8 128,.ptr 10 160,.val 1 (BT34),.val 3 (BT45),.val 11 (BT34),.slot 64 (BT16) true none,.slot 128 (BT3) true none,.slot 160 (BT3) true none]⟩,
 ⟨94,[],[]⟩,
 ⟨95,[],[]⟩,
 ⟨96,[],[]⟩,
 ⟨97,[],[]⟩,
 ⟨98,[],[]⟩,
 ⟨99,[],[]⟩,
 ⟨100,[],[]⟩,
 ⟨100,[true,true,true,false,true,false],[.ptr 2 32,.ptr 4 64,.ptr 6 176,.ptr 7 112,.val 1 (BT52),.val 14 (BT34),.val 15 (BT34),.slot 32 (BT13) true none,.slot 64 (BT4) true none,.slot 112 (BT4) true none,.slot 176 (BT18) true none]⟩,
 ⟨100,[true,true,true,true,false,true,false],[.ptr 2 32,.ptr 4 64,.ptr 6 176,.ptr 7 112,.val 1 (BT52),.val 28 (BT34),.val 29 (BT34),.slot 32 (BT13) true none,.slot 64 (BT4) true none,.slot 112 (BT4) true none,.slot 176 (BT18) true none]⟩,
 ⟨100,[true,true,true,true,true,true,true,false,true,false],[.ptr 2 32,.ptr 4 64,.ptr 6 176,.ptr 7 112,.val 1 (BT52),.val 57 (BT34),.slot 32 (BT13) true none,.slot 64 (BT4) true none,.slot 112 (BT4) true none,.slot 176 (BT18) true none]⟩,
 ⟨101,[],[]⟩,
 ⟨102,[],[]⟩,
 ⟨103,[],[]⟩,
 ⟨103,[true,false,true,false],[.val 0 (BT45),.val 1 (BT34),.val 5 (BT34)]⟩,
 ⟨104,[],[]⟩,
 ⟨105,[],[]⟩,
 ⟨105,[true,false,true,false],[.val 0 (BT54),.val 1 (BT34),.val 5 (BT34)]⟩,
 ⟨106,[],[]⟩,
 ⟨106,[true,true,true,false,true,false],[.val 0 (BT49),.val 1 (BT34),.val 5 (BT34)]⟩,
 ⟨107,[],[]⟩,
 ⟨107,[true,true,true,false,true,false],[.val 0 (BT50),.val 1 (BT34),.val 5 (BT34)]⟩,
 ⟨108,[],[]⟩,
 ⟨108,[true,true,false,true,false],[.val 0 (BT49),.own 3 48 (BT42),.val 4 (BT34)]⟩,
 ⟨109,[],[]⟩,
 ⟨109,[true,true,false,true,false],[.val 0 (BT50),.own 3 48 (BT43),.val 4 (BT34)]⟩,
 ⟨110,[],[]⟩,
 ⟨111,[],[]⟩,
 ⟨111,[true,false,true,false],[.ptr 1 16,.val 3 (BT34),.slot 16 (BT13) true none]⟩,
 ⟨111,[true,true,false,true,false],[.ptr 1 16,.val 4 (BT34),.slot 16 (BT13) true none]⟩,
 ⟨112,[],[]⟩,
 ⟨112,[true,false,true,false],[.ptr 3 48,.val 1 (BT34),.val 2 (BT34),.val 7 (BT34),.slot 48 (BT17) true none]⟩,
 ⟨112,[true,true,false,true,false],[.ptr 3 48,.val 1 (BT34),.val 2 (BT34),.val 8 (BT34),.slot 48 (BT17) true none]⟩,
 ⟨113,[],[]⟩,
 ⟨113,[true,true,true,true,true,false,true,false],[.ptr 1 16,.own 3 48 (BT51),.val 4 (BT34),.slot 16 (BT14) true none]⟩,
 ⟨114,[],[]⟩,
 ⟨114,[true,true,true,false,false],[.val 0 (BT34),.own 3 48 (BT51)]⟩,
 ⟨115,[],[]⟩,
 ⟨116,[],[]⟩,
 ⟨117,[],[]⟩,
 ⟨118,[],[]⟩,
 ⟨119,[],[]⟩,
 ⟨120,[],[]⟩,
 ⟨121,[],[]⟩,
 ⟨121,[true,true,false,true,false],[.ptr 3 48,.val 2 (BT34),.val 38 (BT47),.val 39 (BT34),.val 40 (BT34),.slot 48 (BT17) true none]⟩,
 ⟨122,[],[]⟩,
 ⟨123,[],[]⟩,
 ⟨124,[],[]⟩,
 ⟨124,[true,true,false,true,false],[.val 0 (BT46),.val 1 (BT46),.val 5 (BT34)]⟩,
 ⟨125,[],[]⟩,
 ⟨125,[true,true,false,true,false],[.val 0 (BT47),.val 1 (BT47),.val 5 (BT34)]⟩,
 ⟨126,[],[]⟩,
 ⟨126,[true,false,true,false],[.own 0 0 (BT42),.val 1 (BT34),.val 5 (BT34)]⟩,
 ⟨127,[],[]⟩,
 ⟨127,[true,false,true,false],[.own 0 0 (BT43),.val 1 (BT34),.val 5 (BT34)]⟩,
 ⟨128,[],[]⟩,
 ⟨129,[],[]⟩,
 ⟨130,[],[]⟩,
 ⟨131,[],[]⟩,
 ⟨131,[true,true,true,false,true,false],[.ptr 0 0,.ptr 2 32,.ptr 3 48,.val 4 (BT34),.val 5 (BT34),.slot 0 (BT19) true none,.slot 32 (BT4) true none,.slot 48 (BT4) true none]⟩,
 ⟨131,[true,true,true,true,true,false,true,false],[.ptr 0 0,.ptr 2 32,.ptr 3 48,.val 4 (BT34),.val 7 (BT34),.slot 0 (BT19) true none,.slot 32 (BT4) true none,.slot 48 (BT4) true none]⟩,
 ⟨131,[true,true,true,true,true,true,true,true,false,true,false],[.ptr 0 0,.ptr 2 32,.ptr 3 48,.val 9 (BT34),.slot 0 (BT19) true none,.slot 32 (BT4) true none,.slot 48 (BT4) true none]⟩,
 ⟨132,[],[]⟩,
 ⟨133,[],[]⟩,
 ⟨134,[],[]⟩,
 ⟨135,[],[]⟩,
 ⟨136,[],[]⟩,
 ⟨137,[],[]⟩,
 ⟨138,[],[]⟩,
 ⟨139,[],[]⟩,
 ⟨140,[],[]⟩,
 ⟨140,[true,false,true,false],[.val 0 (BT46),.val 1 (BT34),.val 5 (BT34)]⟩,
 ⟨141,[],[]⟩,
 ⟨141,[true,false,true,false],[.val 0 (BT47),.val 1 (BT34),.val 5 (BT34)]⟩,
 ⟨142,[],[]⟩,
 ⟨143,[],[]⟩,
 ⟨144,[],[]⟩,
 ⟨145,[],[]⟩,
 ⟨146,[],[]⟩,
 ⟨146,[true,false,true,false],[.val 0 (BT0),.val 3 (BT34)]⟩,
 ⟨147,[],[]⟩,
 ⟨147,[true,false,true,false],[.val 0 (BT0),.val 3 (BT34)]⟩,
 ⟨148,[],[]⟩,
 ⟨148,[true,false,true,false],[.val 0 (BT30),.val 1 (BT0),.val 5 (BT34)]⟩,
 ⟨149,[],[]⟩,
 ⟨149,[true,true,true,false,true,false],[.val 0 (BT48),.val 1 (BT34),.val 2 (BT34),.val 7 (BT34),.val 8 (BT34)]⟩,
 ⟨150,[],[]⟩,
 ⟨151,[],[]⟩,
 ⟨152,[],[]⟩,
 ⟨152,[true,true,false,true,false],[.val 0 (BT52),.val 3 (BT34),.val 4 (BT34),.val 5 (BT34)]⟩,
 ⟨153,[],[]⟩,
 ⟨154,[],[]⟩,
 ⟨155,[],[]⟩,
 ⟨155,[true,false,true,false],[.val 0 (BT30),.val 5 (BT30),.val 6 (BT34),.val 7 (BT34)]⟩,
 ⟨156,[],[]⟩,
 ⟨157,[],[]⟩,
 ⟨158,[],[]⟩,
 ⟨159,[],[]⟩,
 ⟨160,[],[]⟩,
 ⟨161,[],[]⟩,
 ⟨161,[true,false,true,false],[.clo 1 242 [],.val 0 (BT54),.val 7 (BT34),.val 8 (BT34)]⟩,
 ⟨162,[],[]⟩,
 ⟨163,[],[]⟩,
 ⟨164,[],[]⟩,
 ⟨165,[],[]⟩,
 ⟨166,[],[]⟩,
 ⟨167,[],[]⟩,
 ⟨168,[],[]⟩,
 ⟨169,[],[]⟩,
 ⟨169,[true,false,true,false],[.clo 1 244 [16],.val 0 (BT45),.val 7 (BT34),.val 8 (BT34),.slot 16 (BT31) true none]⟩,
 ⟨170,[],[]⟩,
 ⟨170,[true,true,true,false,true,false],[.val 0 (BT52),.val 1 (BT34),.val 7 (BT34),.val 8 (BT34)]⟩,
 ⟨171,[],[]⟩,
 ⟨171,[true,true,true,true],[.val 8 (BT34),.val 9 (BT1),.val 10 (BT34)]⟩,
 ⟨172,[],[]⟩,
 ⟨173,[],[]⟩,
 ⟨174,[],[]⟩,
 ⟨175,[],[]⟩,
 ⟨175,[true,false,true,false,true,true,true,true,true],[.ptr 4 64,.val 1 (BT34),.val 2 (BT34),.val 3 (BT34),.val 12 (BT34),.val 28 (BT1),.slot 64 (BT5) true none]⟩,
 ⟨175,[true,false,true,false,true,true,true,true,true,true,true],[.ptr 4 64,.val 1 (BT34),.val 3 (BT34),.val 12 (BT34),.val 46 (BT1),.slot 64 (BT5) true none]⟩,
 ⟨175,[true,false,true,false,true,true,true,true,true,true,true,true,true],[.ptr 4 64,.val 1 (BT34),.val 12 (BT34),.val 65 (BT1),.slot 64 (BT5) true none]⟩,
 ⟨175,[true,false,true,false,true,true,true,true,true,true,true,true,true,true,true,true,true],[.ptr 4 64,.val 1 (BT34),.val 12 (BT34),.val 91 (BT1),.slot 64 (BT5) true none]⟩,
 ⟨176,[],[]⟩,
 ⟨177,[],[]⟩,
 ⟨177,[true,true,true,false,false],[.val 0 (BT0),.val 4 (BT34),.val 5 (BT34)]⟩,
 ⟨178,[],[]⟩,
 ⟨179,[],[]⟩,
 ⟨180,[],[]⟩,
 ⟨180,[true,false,true,false],[.clo 1 165 [16],.val 0 (BT30),.val 7 (BT34),.val 8 (BT34),.slot 16 (BT13) true none]⟩,
 ⟨181,[],[]⟩,
 ⟨182,[],[]⟩,
 ⟨182,[true,false,true,false],[.clo 1 283 [],.val 0 (BT46),.val 7 (BT34),.val 8 (BT34)]⟩,
 ⟨183,[],[]⟩,
 ⟨184,[],[]⟩,
 ⟨185,[],[]⟩,
 ⟨186,[],[]⟩,
 ⟨187,[],[]⟩,
 ⟨187,[true,true,false,true,false],[.val 0 (BT52),.val 1 (BT34),.val 7 (BT34),.val 8 (BT34)]⟩,
 ⟨188,[],[]⟩,
 ⟨189,[],[]⟩,
 ⟨190,[],[]⟩,
 ⟨191,[],[]⟩,
 ⟨192,[],[]⟩,
 ⟨193,[],[]⟩,
 ⟨193,[true,true,false,false],[.val 0 (BT0),.val 4 (BT34)]⟩,
 ⟨193,[true,true,true,true,true],[.val 0 (BT0),.val 4 (BT34),.val 5 (BT1)]⟩,
 ⟨193,[true,true,true,true,true,true,false,false],[.val 0 (BT0),.val 4 (BT34),.val 5 (BT1),.val 6 (BT34),.val 7 (BT34)]⟩,
 ⟨193,[true,true,true,true,true,true,true,false,true,false,true,true,false],[.val 0 (BT0),.val 4 (BT34),.val 5 (BT1),.val 6 (BT34),.val 7 (BT34),.val 8 (BT34)]⟩,
 ⟨193,[true,true,true,true,true,true,true,true],[.val 4 (BT34),.val 5 (BT1),.val 6 (BT34),.val 7 (BT34)]⟩,
 ⟨194,[],[]⟩,
 ⟨195,[],[]⟩,
 ⟨195,[true,true,false,false],[.val 0 (BT0),.val 1 (BT34),.val 5 (BT34)]⟩,
 ⟨196,[],[]⟩,
 ⟨196,[true,false,true,false,true],[.val 0 (BT0),.val 4 (BT1)]⟩,
 ⟨197,[],[]⟩,
 ⟨198,[],[]⟩,
 ⟨198,[true,false,true,false],[.clo 1 239 [16,17,18],.val 0 (BT48),.val 7 (BT34),.val 8 (BT34),.slot 16 (BT48) true none,.slot 17 (BT31) true none,.slot 18 (BT31) true none]⟩,
 ⟨199,[],[]⟩,
 ⟨200,[],[]⟩,
 ⟨200,[true,true,true,true],[.val 0 (BT0),.val 4 (BT34),.val 5 (BT1)]⟩,
 ⟨200,[true,true,true,true,true,true,true,true,true],[.val 4 (BT34),.val 5 (BT1),.val 7 (BT0),.val 8 (BT0)]⟩,
 ⟨201,[],[]⟩,
 ⟨202,[],[]⟩,
 ⟨203,[],[]⟩,
 ⟨203,[true,true,true,true,true],[.val 8 (BT34),.val 10 (BT34)]⟩,
 ⟨204,[],[]⟩,
 ⟨204,[true,true,false,false],[.ptr 0 0,.ptr 4 64,.val 1 (BT34),.own 5 80 (BT44),.slot 0 (BT6) true none,.slot 64 (BT7) true none]⟩,
 ⟨205,[],[]⟩,
 ⟨205,[true,true,false,true,false],[.ptr 1 16,.val 3 (BT34),.val 4 (BT34),.slot 16 (BT20) true none]⟩,
 ⟨206,[],[]⟩,
 ⟨207,[],[]⟩,
 ⟨208,[],[]⟩,
 ⟨209,[],[]⟩,
 ⟨210,[],[]⟩,
 ⟨211,[],[]⟩,
 ⟨212,[],[]⟩,
 ⟨213,[],[]⟩,
 ⟨213,[true,true,false,false],[.val 0 (BT0),.val 1 (BT34),.val 5 (BT34)]⟩,
 ⟨214,[],[]⟩,
 ⟨215,[],[]⟩,
 ⟨215,[true,false,false],[.val 0 (BT0),.val 1 (BT32)]⟩,
 ⟨216,[],[]⟩,
 ⟨216,[true,false,false],[.val 0 (BT0),.val 1 (BT32)]⟩,
 ⟨217,[],[]⟩,
 ⟨218,[],[]⟩,
 ⟨218,[true,true,false,false],[.ptr 0 0,.ptr 4 64,.val 1 (BT34),.own 5 80 (BT44),.slot 0 (BT6) true none,.slot 64 (BT7) true none]⟩,
 ⟨219,[],[]⟩,
 ⟨220,[],[]⟩,
 ⟨221,[],[]⟩,
 ⟨222,[],[]⟩,
 ⟨222,[true,false,true,false],[.val 0 (BT30),.val 1 (BT0),.val 7 (BT34),.val 8 (BT34)]⟩,
 ⟨223,[],[]⟩,
 ⟨223,[true,true,true,false,true,false,true,true,true],[.ptr 4 64,.val 1 (BT34),.val 2 (BT34),.val 3 (BT34),.val 56 (BT34),.val 62 (BT1),.slot 64 (BT5) true none]⟩,
 ⟨223,[true,true,true,false,true,false,true,true,true,true,true],[.ptr 4 64,.val 1 (BT34),.val 3 (BT34),.val 56 (BT34),.val 75 (BT1),.slot 64 (BT5) true none]⟩,
 ⟨223,[true,true,true,false,true,false,true,true,true,true,true,true,true],[.ptr 4 64,.val 1 (BT34),.val 56 (BT34),.val 89 (BT1),.slot 64 (BT5) true none]⟩,
 ⟨223,[true,true,true,false,true,false,true,true,true,true,true,true,true,true,true,true,true],[.ptr 4 64,.val 1 (BT34),.val 56 (BT34),.val 106 (BT1),.slot 64 (BT5) true none]⟩,
 ⟨224,[],[]⟩,
 ⟨225,[],[]⟩,
 ⟨226,[],[]⟩,
 ⟨226,[true,true,false,false],[.ptr 0 0,.ptr 4 64,.ptr 5 80,.slot 0 (BT6) true none,.slot 64 (BT7) true none,.slot 80 (BT7) true none]⟩,
 ⟨226,[true,true,false,false,false,true,false,true,true],[.ptr 0 0,.ptr 4 64,.ptr 5 80,.val 6 (BT34),.slot 0 (BT6) true none,.slot 64 (BT7) true none,.slot 80 (BT7) true none]⟩,
 ⟨227,[],[]⟩,
 ⟨228,[],[]⟩,
 ⟨228,[true,true,true,true,true],[.val 0 (BT34),.val 4 (BT30),.val 5 (BT0)]⟩,
 ⟨228,[true,true,true,true,false,true,false,true,true,true],[.val 0 (BT34),.val 4 (BT30),.val 5 (BT0),.val 13 (BT34),.val 16 (BT1)]⟩,
 ⟨228,[true,true,true,true,false,true,false,true,true,true,true,true,true,true],[.val 0 (BT34),.val 4 (BT30),.val 5 (BT0),.val 22 (BT1)]⟩,
 ⟨229,[],[]⟩,
 ⟨230,[],[]⟩,
 ⟨230,[true,true,false,true,false,true,true],[.val 0 (BT0),.val 5 (BT0)]⟩,
 ⟨230,[true,true,false,true,false,true,true,true,false,true,false],[.val 5 (BT0),.val 6 (BT34),.val 47 (BT52),.val 48 (BT34),.val 49 (BT34)]⟩,
 ⟨231,[],[]⟩,
 ⟨231,[true,true,true,true,true],[.ptr 4 64,.val 5 (BT32),.slot 0 (BT6) true none,.slot 64 (BT7) true none]⟩,
 ⟨232,[],[]⟩,
 ⟨233,[],[]⟩,
 ⟨233,[true,true,true,true],[.val 0 (BT0),.val 1 (BT34),.val 2 (BT34),.val 8 (BT1)]⟩,
 ⟨233,[true,true,true,true,true,true,true,true],[.val 2 (BT34),.val 8 (BT1),.val 9 (BT35)]⟩,
 ⟨234,[],[]⟩,
 ⟨234,[true,true,true],[.ptr 0 0,.ptr 2 32,.ptr 3 48,.slot 0 (BT6) true none,.slot 32 (BT7) true none,.slot 48 (BT7) true none]⟩,
 ⟨234,[true,true,true,true,true,false,false],[.ptr 0 0,.ptr 2 32,.ptr 3 48,.own 4 64 (BT33),.val 5 (BT34),.slot 0 (BT6) true none,.slot 32 (BT7) true none,.slot 48 (BT7) true none]⟩,
 ⟨234,[true,true,true,true,true,false,false,false,true,false,true,true,true,true],[.ptr 0 0,.ptr 2 32,.ptr 3 48,.own 4 64 (BT33),.val 5 (BT34),.val 6 (BT34),.val 7 (BT34),.slot 0 (BT6) true none,.slot 32 (BT7) true none,.slot 48 (BT7) true none]⟩,
 ⟨234,[true,true,true,true,true,true,true],[.ptr 0 0,.ptr 2 32,.ptr 3 48,.val 4 (BT36),.slot 0 (BT6) true none,.slot 32 (BT7) true none,.slot 48 (BT7) true none]⟩,
 ⟨234,[true,true,true,true,true,false,false,false,true,false,true,true,true,true,true],[.ptr 0 0,.ptr 2 32,.ptr 3 48,.own 4 64 (BT33),.val 5 (BT34),.val 6 (BT34),.val 7 (BT34),.slot 0 (BT6) true none,.slot 32 (BT7) true none,.slot 48 (BT7) true none]⟩,
 ⟨234,[true,true,true,true,true,true,true,true,true,false,true,false],[.ptr 2 32,.ptr 3 48,.val 4 (BT36),.own 9 144 (BT51),.val 10 (BT34),.slot 0 (BT6) true none,.slot 32 (BT7) true none,.slot 48 (BT7) true none]⟩,
 ⟨234,[true,true,true,true,true,false,false,false,true,false,true,true,true,true,true,false,true,false],[.ptr 0 0,.ptr 2 32,.ptr 3 48,.own 4 64 (BT33),.val 5 (BT34),.val 7 (BT34),.val 8 (BT34),.slot 0 (BT6) true none,.slot 32 (BT7) true none,.slot 48 (BT7) true none]⟩,
 ⟨235,[],[]⟩,
 ⟨235,[true,true,false,false],[.ptr 0 0,.ptr 2 32,.own 3 48 (BT44),.slot 0 (BT8) true none,.slot 32 (BT7) true none]⟩,
 ⟨236,[],[]⟩,
 ⟨236,[true,true,false,true,false],[.val 3 (BT34),.val 7 (.leaf false (.sl (.nm 36))),.val 8 (BT34),.val 9 (BT34)]⟩,
 ⟨237,[],[]⟩,
 ⟨237,[true,true,true,true,true],[.val 0 (BT0),.val 1 (BT34),.val 2 (BT34),.val 8 (BT1),.val 9 (BT0)]⟩,
 ⟨237,[true,true,true,true,true,true],[.val 0 (BT0),.val 1 (BT34),.val 2 (BT34),.val 8 (BT1),.val 9 (BT0)]⟩,
 ⟨237,[true,true,true,true,true,true,true,true],[.val 0 (BT0),.val 1 (BT34),.val 2 (BT34),.val 8 (BT1),.val 9 (BT0),.val 10 (BT35)]⟩,
 ⟨237,[true,true,true,true,true,true,true,true,true,true,true,false,true,false],[.val 1 (BT34),.val 8 (BT1),.val 9 (BT0),.val 10 (BT35),.val 11 (BT35),.val 12 (BT1),.val 13 (BT35),.val 99 (BT52),.val 100 (BT34),.val 101 (BT34)]⟩,
 ⟨237,[true,true,true,true,true,true,true,true,true,true,true,false,true,false,false,true,true,false,false,true,true,true],[.val 1 (BT34),.val 8 (BT1),.val 9 (BT0),.val 10 (BT35),.val 11 (BT35),.val 12 (BT1),.val 13 (BT35),.val 16 (BT32),.val 99 (BT52),.val 100 (BT34),.val 101 (BT34)]⟩,
 ⟨238,[],[]⟩,
 ⟨238,[true,true,false,false],[.ptr 0 0,.ptr 2 32,.own 3 48 (BT44),.slot 0 (BT8) true none,.slot 32 (BT7) true none]⟩,
 ⟨239,[],[]⟩,
 ⟨240,[],[]⟩,
 ⟨241,[],[]⟩,
 ⟨241,[true,true,true,true],[.val 0 (BT0),.val 3 (BT37),.val 4 (BT34)]⟩,
 ⟨241,[true,true,true,true,true,true],[.val 0 (BT0),.val 3 (BT37),.val 4 (BT34),.val 5 (BT1)]⟩,
 ⟨241,[true,true,true,true,true,true,false,false],[.val 0 (BT0),.val 3 (BT37),.val 4 (BT34),.val 5 (BT1)]⟩,
 ⟨242,[],[]⟩,
 ⟨243,[],[]⟩,
 ⟨243,[true,true,false],[.ptr 0 0,.ptr 2 32,.ptr 3 48,.slot 0 (BT8) true none,.slot 32 (BT7) true none,.slot 48 (BT7) true none]⟩,
 ⟨244,[],[]⟩,
 ⟨244,[true,true,true,false,true,false,true,true,true,true,true,true,true,true,true,true,true,true,true],[.ptr 0 0,.ptr 2 32,.val 3 (BT32),.val 70 (BT1),.slot 0 (BT8) true none,.slot 32 (BT7) true none]⟩,
 ⟨245,[],[]⟩,
 ⟨246,[],[]⟩,
 ⟨246,[true,true,true,true,true,true,true,false,true,false],[.ptr 0 0,.ptr 2 32,.ptr 3 48,.val 5 (BT0),.own 6 96 (BT33),.val 7 (BT34),.slot 0 (BT8) true none,.slot 32 (BT7) true none,.slot 48 (BT7) true none]⟩,
 ⟨246,[true,true,true,true,true,true,true,false,true,false,false,true,false,false,true,true],[.ptr 0 0,.ptr 2 32,.ptr 3 48,.val 5 (BT0),.own 6 96 (BT33),.val 7 (BT34),.val 8 (BT34),.val 9 (BT34),.slot 0 (BT8) true none,.slot 32 (BT7) true none,.slot 48 (BT7) true none]⟩,
 ⟨246,[true,true,true,true,true,true,true,true,true,false,true,false],[.ptr 2 32,.ptr 3 48,.own 11 176 (BT51),.val 100 (BT36),.val 101 (BT34),.val 102 (BT34),.slot 0 (BT8) true none,.slot 32 (BT7) true none,.slot 48 (BT7) true none]⟩,
 ⟨246,[true,true,true,true,true,true,true,false,true,false,false,true,false,false,true,true,true,false],[.ptr 0 0,.ptr 2 32,.ptr 3 48,.val 5 (BT0),.own 6 96 (BT33),.val 7 (BT34),.val 9 (BT34),.val 10 (BT34),.slot 0 (BT8) true none,.slot 32 (BT7) true none,.slot 48 (BT7) true none]⟩,
 ⟨247,[],[]⟩]
def entR:List EntI:=[
 ⟨6,.skip,[],[.val (BT9),.val (BT10)],[BT1],[],[(25,1),(27,1),(28,1),(42,1),(47,1),(76,1),(78,1),(79,1)],0,[],false⟩,
 ⟨7,.skip,[],[.val (BT9),.val (BT10),.val (BT21)],[BT1],[],[(33,1),(35,1),(37,1),(38,1),(55,1),(60,1),(65,1),(97,1),(99,1),(101,1),(102,1)],0,[],false⟩,
 ⟨15,.skip,[],[.val (BT9),.val (BT34)],[BT34],[],[],0,[],false⟩,
 ⟨30,.skip,[],[.val (BT10),.val (BT34)],[BT34],[],[],0,[],false⟩,
 ⟨19,.skip,[],[.val (BT9)],[.leaf true (.nm 15)],[],[],0,[],false⟩,
 ⟨32,.skip,[],[.val (BT10)],[BT2],[],[],0,[],false⟩,
 ⟨31,.skip,[],[.val (BT13),.val (BT12)],[BT52],[],[(9,1),(11,1)],0,[],false⟩,
 ⟨33,.skip,[],[.val (BT13),.val (BT12)],[BT51],[],[(19,1),(28,1),(38,1),(39,1),(59,1),(71,1),(72,1)],0,[(31,8),(506,9)],false⟩,
 ⟨34,.skip,[],[.val (BT52),.val (BT52)],[BT1],[],[],0,[(58,11)],false⟩,
 ⟨24,.skip,[],[.val (BT13),.val (BT13)],[BT1],[],[],0,[],false⟩,
 ⟨35,.skip,[],[.val (BT12),.val (BT12)],[BT1],[],[],0,[],false⟩,
 ⟨25,.skip,[],[.own (.leaf true (.nm 15)),.val (BT34)],[BT34],[],[],0,[],false⟩,
 ⟨36,.skip,[],[.io (BT2),.val (BT34)],[BT34],[(32,.orig 0)],[],0,[],false⟩,
 ⟨37,.skip,[],[.io (BT51),.val (BT34)],[BT34],[(0,.reg)],[],0,[(26,17)],false⟩,
 ⟨38,.skip,[],[.val (BT52),.val (BT34)],[BT34],[],[],0,[(26,19)],false⟩,
 ⟨39,.skip,[],[.val (BT21),.val (BT34)],[BT34],[],[],0,[],false⟩,
 ⟨41,.skip,[],[.val (BT21)],[.leaf true (.nm 31)],[],[],0,[],false⟩,
 ⟨40,.skip,[],[.val (BT13),.val (BT12),.val (BT14)],[BT12],[],[(18,1),(21,1),(23,1),(29,1)],0,[],false⟩,
 ⟨42,.skip,[],[.val (BT13),.val (BT12),.val (BT14)],[BT2],[],[],0,[(31,24)],false⟩,
 ⟨43,.skip,[],[.val (BT14),.val (BT14)],[BT1],[],[],0,[],false⟩,
 ⟨44,.skip,[],[.own (.leaf true (.nm 31)),.val (BT34)],[BT34],[],[],0,[],false⟩,
 ⟨45,.skip,[],[.val (BT12),.val (BT34)],[BT34],[],[],0,[],false⟩,
 ⟨83,.skip,[],[.val (BT30),.val (BT34)],[BT34],[],[],0,[(122,29)],false⟩,
 ⟨84,.skip,[],[.val (BT38),.val (BT34)],[BT34],[],[],0,[(122,31)],false⟩,
 ⟨124,.skip,[],[.val (.leaf false (.nm 6)),.val (BT34)],[BT34],[],[],0,[],false⟩,
 ⟨86,.skip,[],[.val (.leaf false (.nm 9)),.val (BT34)],[BT34],[],[],0,[],false⟩,
 ⟨90,.skip,[],[.val (BT30)],[BT29],[],[],0,[(58,35)],false⟩,
 ⟨91,.skip,[],[.val (BT38)],[BT39],[],[],0,[(58,37)],false⟩,
 ⟨127,.skip,[],[.val (.leaf false (.nm 6))],[BT3],[],[],0,[],false⟩,
 ⟨93,.skip,[],[.val (.leaf false (.nm 9))],[BT4],[],[],0,[],false⟩,
 ⟨125,.skip,[],[.val (BT13),.val (BT12)],[BT1],[],[],0,[],false⟩,
 ⟨126,.skip,[],[.val (BT12)],[BT52],[],[(11,1),(26,1),(28,1),(29,1),(62,1),(63,1)],0,[(15,42),(250,43)],false⟩,
 ⟨128,.skip,[],[.val (BT13),.val (BT12)],[BT1],[],[],0,[],false⟩,
 ⟨129,.skip,[],[.val (BT14)],[BT51],[],[(28,1),(36,1),(55,1),(63,1),(70,1),(76,1),(97,1)],0,[(122,46),(250,47),(128202,48)],false⟩,
 ⟨121,.skip,[],[.val (BT13),.val (BT15)],[BT52],[],[(38,1),(51,1),(56,1),(67,1),(73,1),(84,1),(90,1)],0,[(122,50),(506,51),(4090,52)],false⟩,
 ⟨130,.skip,[],[.val (BT16)],[BT34,BT34],[],[],0,[],false⟩,
 ⟨122,.skip,[],[.val (BT16),.val (BT34)],[BT45],[],[(7,1),(33,1)],0,[],false⟩,
 ⟨123,.skip,[],[.val (BT16),.val (BT34)],[BT34],[],[(7,1)],0,[],false⟩,
 ⟨102,.skip,[],[.val (BT30),.val (BT30)],[BT1],[],[],0,[(58,57)],false⟩,
 ⟨103,.skip,[],[.val (BT48),.val (BT48)],[BT1],[],[],0,[(58,59)],false⟩,
 ⟨131,.skip,[],[.val (BT16),.val (BT16)],[BT1],[],[],0,[],false⟩,
 ⟨100,.skip,[],[.val (BT15),.val (BT15)],[BT1],[],[],0,[],false⟩,
 ⟨104,.skip,[],[.own (BT29),.val (BT34)],[BT34],[],[],0,[(26,63)],false⟩,
 ⟨105,.skip,[],[.own (BT39),.val (BT34)],[BT34],[],[],0,[(26,65)],false⟩,
 ⟨132,.skip,[],[.io (BT3),.val (BT34)],[BT34],[(32,.orig 0)],[],0,[],false⟩,
 ⟨108,.skip,[],[.io (BT4),.val (BT34)],[BT34],[(32,.orig 0)],[],0,[],false⟩,
 ⟨133,.skip,[],[.val (BT40),.val (BT34)],[BT34],[],[],0,[(122,69)],false⟩,
 ⟨137,.skip,[],[.val (BT40)],[BT41],[],[],0,[(58,71)],false⟩,
 ⟨135,.skip,[],[.val (BT12)],[BT12],[],[(9,1),(12,1),(13,1)],0,[],false⟩,
 ⟨134,.skip,[],[.val (BT14)],[BT1],[],[],0,[],false⟩,
 ⟨136,.skip,[],[.val (BT13),.val (BT12),.val (BT14)],[BT12],[],[(32,1),(45,1),(71,1),(77,1)],0,[(7,75)],false⟩,
 ⟨138,.skip,[],[.val (BT12)],[BT2],[],[],0,[],false⟩,
 ⟨139,.skip,[],[.val (BT14)],[BT1],[],[],0,[],false⟩,
 ⟨140,.skip,[],[.val (BT16),.val (BT34),.val (BT34),.val (BT45)],[BT3,BT1],[],[(66,1)],0,[(250,79)],false⟩,
 ⟨141,.skip,[],[.val (BT13),.own (BT2),.val (BT14)],[BT2],[],[],0,[],false⟩,
 ⟨142,.skip,[],[.val (BT45),.val (BT45)],[BT1],[],[],0,[(58,82)],false⟩,
 ⟨143,.skip,[],[.io (BT41),.val (BT34)],[BT34],[(0,.reg)],[],0,[(26,84)],false⟩,
 ⟨144,.skip,[],[.val (BT16),.val (BT34)],[BT34],[],[],0,[],false⟩,
 ⟨113,.skip,[],[.val (BT15),.val (BT34)],[BT34],[],[],0,[],false⟩,
 ⟨180,.skip,[],[.val (.leaf false (.nm 1)),.val (BT34)],[BT34],[],[],0,[],false⟩,
 ⟨181,.skip,[],[.val (.leaf false (.nm 10)),.val (BT34)],[BT34],[],[],0,[],false⟩,
 ⟨53,.skip,[],[.val (BT54),.val (BT34)],[BT34],[],[],0,[],false⟩,
 ⟨186,.skip,[],[.val (.leaf false (.nm 1))],[BT22],[],[],0,[],false⟩,
 ⟨187,.skip,[],[.val (.leaf false (.nm 10))],[BT11],[],[],0,[],false⟩,
 ⟨65,.skip,[],[.val (BT54)],[BT53],[],[],0,[(58,93)],false⟩,
 ⟨89,.skip,[],[.val (BT16)],[BT34,BT34],[],[],0,[],false⟩,
 ⟨56,.skip,[],[.val (BT34),.val (BT34),.val (BT34)],[BT1],[],[],0,[],false⟩,
 ⟨212,.skip,[],[.val (BT16)],[BT1],[],[],0,[(122,97)],false⟩,
 ⟨158,.skip,[],[.val (BT13),.val (BT15)],[BT1],[],[],0,[(26,99)],false⟩,
 ⟨146,.skip,[],[.val (BT14)],[BT51],[],[(10,1),(18,1)],0,[],false⟩,
 ⟨117,.skip,[],[.val (BT15)],[BT52],[],[(27,1),(33,1),(49,1),(58,1),(67,1),(72,1),(77,1),(92,1),(97,1)],0,[(122,102),(506,103),(4090,104)],false⟩,
 ⟨213,.skip,[],[.val (BT34),.val (BT34)],[BT34],[],[],0,[],false⟩,
 ⟨168,.skip,[],[.val (BT34)],[BT1],[],[],0,[],false⟩,
 ⟨214,.skip,[],[.val (BT34)],[BT1],[],[],0,[],false⟩,
 ⟨215,.skip,[],[.val (BT16)],[BT1],[],[],0,[(122,109)],false⟩,
 ⟨169,.skip,[],[.val (BT13),.val (BT15)],[BT1],[],[],0,[],false⟩,
 ⟨207,.skip,[],[.val (BT34)],[BT51],[],[(15,1),(22,1)],0,[(60,112)],false⟩,
 ⟨209,.skip,[],[.val (BT0)],[BT52],[],[],0,[],false⟩,
 ⟨216,.skip,[],[.val (BT52)],[BT34],[],[],0,[(58,115)],false⟩,
 ⟨208,.skip,[],[.own (BT51),.val (BT23)],[BT51],[],[(8,1),(13,1),(18,1)],0,[],false⟩,
 ⟨210,.skip,[],[.val (BT16)],[BT45],[],[],0,[],false⟩,
 ⟨211,.skip,[],[.val (BT45)],[BT41],[],[],0,[],false⟩,
 ⟨196,.skip,[],[.val (BT22),.val (BT22)],[BT1],[],[],0,[],false⟩,
 ⟨195,.skip,[],[.val (BT17),.val (BT17)],[BT1],[],[],0,[],false⟩,
 ⟨81,.skip,[],[.val (BT54),.val (BT54)],[BT1],[],[],0,[(58,122)],false⟩,
 ⟨197,.skip,[],[.val (BT34)],[BT0],[],[(12,1)],0,[(60,124)],false⟩,
 ⟨198,.skip,[],[.io (BT11),.val (BT34)],[BT34],[(32,.orig 0)],[],0,[],false⟩,
 ⟨107,.skip,[],[.io (BT53),.val (BT34)],[BT34],[(0,.reg)],[],0,[(26,127)],false⟩,
 ⟨217,.skip,[],[.val (.leaf false (.nm 7)),.val (BT34)],[BT34],[],[],0,[],false⟩,
 ⟨222,.skip,[],[.val (.leaf false (.nm 7))],[BT24],[],[],0,[],false⟩,
 ⟨218,.skip,[],[.val (BT16)],[BT3],[],[],0,[],false⟩,
 ⟨183,.skip,[],[.val (BT15)],[BT15],[],[(5,1)],0,[],false⟩,
 ⟨160,.skip,[],[.val (BT45),.val (BT34)],[BT1],[],[],0,[(26,133)],false⟩,
 ⟨219,.skip,[],[.val (BT16),.val (BT34),.val (BT34),.val (BT45)],[BT16,BT1],[],[(16,1),(71,1),(78,1)],0,[(250,135)],false⟩,
 ⟨220,.skip,[],[.val (BT13),.val (BT52)],[BT15,BT1],[],[(9,1),(12,1),(33,1)],0,[],false⟩,
 ⟨119,.skip,[],[.val (BT16),.val (BT34)],[BT34],[],[],0,[],false⟩,
 ⟨221,.skip,[],[.val (BT16),.val (BT34)],[BT16],[],[(8,1),(29,1)],0,[],false⟩,
 ⟨223,.skip,[],[.val (BT16)],[BT3],[],[],0,[],false⟩,
 ⟨189,.skip,[],[.val (BT15)],[BT4],[],[],0,[],false⟩,
 ⟨173,.skip,[],[.val (BT45),.val (BT34)],[BT1],[],[],0,[],false⟩,
 ⟨224,.skip,[],[.val (BT13),.val (BT52)],[BT4,BT1],[],[(10,1),(22,1),(44,1),(63,1)],0,[(122,143),(250,144),(2042,145)],false⟩,
 ⟨225,.skip,[],[.val (BT16),.val (BT34)],[BT3],[],[(7,1)],0,[],false⟩,
 ⟨226,.skip,[],[.val (BT24),.val (BT24)],[BT1],[],[],0,[],false⟩,
 ⟨200,.skip,[],[.val (BT45),.val (BT34)],[BT34],[],[],0,[(26,149)],false⟩,
 ⟨199,.skip,[],[.val (BT17),.val (BT34)],[BT34],[],[],0,[],false⟩,
 ⟨112,.skip,[],[.val (BT54),.val (BT34)],[BT34],[],[],0,[(26,152)],false⟩,
 ⟨247,.skip,[],[.val (BT49),.val (BT34)],[BT34],[],[],0,[(122,154)],false⟩,
 ⟨248,.skip,[],[.val (BT50),.val (BT34)],[BT34],[],[],0,[(122,156)],false⟩,
 ⟨251,.skip,[],[.val (BT49)],[BT42],[],[],0,[(58,158)],false⟩,
 ⟨252,.skip,[],[.val (BT50)],[BT43],[],[],0,[(58,160)],false⟩,
 ⟨61,.skip,[],[.val (BT25)],[BT1],[],[],0,[],false⟩,
 ⟨55,.skip,[],[.val (BT13)],[BT1],[],[],0,[(26,163),(58,164)],false⟩,
 ⟨234,.skip,[],[.val (BT17),.val (BT34),.val (BT34)],[BT1],[],[],0,[(26,166),(58,167)],false⟩,
 ⟨227,.skip,[],[.val (BT14)],[BT52],[],[(11,1),(17,1),(22,1),(28,1),(45,1),(52,1),(58,1),(64,1),(69,1)],0,[(506,169)],false⟩,
 ⟨202,.skip,[],[.val (BT34)],[BT51],[],[(16,1),(23,1)],0,[(60,171)],false⟩,
 ⟨228,.skip,[],[.val (BT52)],[BT52],[],[(17,1)],0,[],false⟩,
 ⟨203,.skip,[],[.val (BT23)],[BT52],[],[(9,1),(14,1)],0,[],false⟩,
 ⟨204,.skip,[],[.val (BT0)],[BT52],[],[],0,[],false⟩,
 ⟨68,.skip,[],[.val (BT34),.val (BT34),.val (BT34)],[BT1],[],[],0,[],false⟩,
 ⟨77,.skip,[],[.val (BT25)],[BT1],[],[],0,[],false⟩,
 ⟨67,.skip,[],[.val (BT13)],[BT1],[],[],0,[],false⟩,
 ⟨241,.skip,[],[.val (BT17),.val (BT34),.val (BT34)],[BT1],[],[],0,[(58,179)],false⟩,
 ⟨174,.skip,[],[.val (BT54),.clo 242 []],[BT1],[],[],0,[],false⟩,
 ⟨263,.skip,[],[.val (BT34)],[BT52],[],[(13,1),(16,1)],0,[],false⟩,
 ⟨256,.skip,[],[.val (BT46),.val (BT46)],[BT1],[],[],0,[(58,183)],false⟩,
 ⟨257,.skip,[],[.val (BT47),.val (BT47)],[BT1],[],[],0,[(58,185)],false⟩,
 ⟨258,.skip,[],[.io (BT42),.val (BT34)],[BT34],[(0,.reg)],[],0,[(26,187)],false⟩,
 ⟨259,.skip,[],[.io (BT43),.val (BT34)],[BT34],[(0,.reg)],[],0,[(26,189)],false⟩,
 ⟨17,.skip,[],[.val (.leaf false (.nm 8)),.val (BT34)],[BT34],[],[],0,[],false⟩,
 ⟨21,.skip,[],[.val (.leaf false (.nm 8))],[BT25],[],[],0,[],false⟩,
 ⟨249,.skip,[],[.val (BT17)],[BT17],[],[(15,1)],0,[],false⟩,
 ⟨264,.skip,[],[.ptr (BT19) (BT19)],[BT15],[(0,.box)],[(31,1),(62,1),(83,1)],0,[(122,194),(506,195),(4090,196)],false⟩,
 ⟨205,.skip,[],[.val (BT16),.val (BT34)],[BT34],[],[],0,[],false⟩,
 ⟨253,.skip,[],[.val (BT17)],[BT11],[],[],0,[],false⟩,
 ⟨193,.skip,[],[.val (BT54)],[BT53],[],[],0,[],false⟩,
 ⟨243,.skip,[],[.val (BT45),.clo 244 [BT34]],[BT1],[(16,.box)],[],0,[],false⟩,
 ⟨265,.skip,[],[.ptr (BT18) (BT18),.val (BT34)],[BT34],[(0,.box)],[],0,[],false⟩,
 ⟨266,.skip,[],[.ptr (BT18) (BT18)],[BT23],[(0,.box)],[],0,[],false⟩,
 ⟨267,.skip,[],[.ptr (BT18) (BT18)],[BT0],[(0,.box)],[],0,[],false⟩,
 ⟨179,.skip,[],[.val (BT25),.val (BT25)],[BT1],[],[],0,[],false⟩,
 ⟨260,.skip,[],[.val (BT46),.val (BT34)],[BT34],[],[],0,[(26,206)],false⟩,
 ⟨261,.skip,[],[.val (BT47),.val (BT34)],[BT34],[],[],0,[(26,208)],false⟩,
 ⟨288,.skip,[],[.val (.leaf false (.nm 11)),.val (BT34)],[BT34],[],[],0,[],false⟩,
 ⟨289,.skip,[],[.val (.leaf false (.nm 12)),.val (BT34)],[BT34],[],[],0,[],false⟩,
 ⟨290,.skip,[],[.val (.leaf false (.nm 11))],[BT23],[],[],0,[],false⟩,
 ⟨291,.skip,[],[.val (.leaf false (.nm 12))],[BT26],[],[],0,[],false⟩,
 ⟨161,.skip,[],[.val (BT0)],[BT1],[],[],0,[(26,214)],false⟩,
 ⟨155,.skip,[],[.val (BT0)],[BT1],[],[],0,[(26,216)],false⟩,
 ⟨156,.skip,[],[.val (BT30),.val (BT0)],[BT1],[],[],0,[(26,218)],false⟩,
 ⟨157,.skip,[],[.val (BT48),.val (BT34),.val (BT34)],[BT1],[],[],0,[(122,220)],false⟩,
 ⟨273,.skip,[],[.val (BT23)],[BT1],[],[],0,[],false⟩,
 ⟨274,.skip,[],[.val (BT26),.val (BT34),.val (BT0)],[BT1],[],[],0,[],false⟩,
 ⟨268,.skip,[],[.val (BT52)],[BT34],[],[],0,[(58,224)],false⟩,
 ⟨262,.skip,[],[.val (BT34)],[BT52],[],[(10,1),(16,1),(19,1)],0,[],false⟩,
 ⟨177,.skip,[],[.val (BT0)],[BT1],[],[],0,[],false⟩,
 ⟨163,.skip,[],[.val (BT30)],[BT1],[],[],0,[(26,228)],false⟩,
 ⟨164,.skip,[],[.val (BT30),.clo 165 [BT13]],[BT1],[(16,.box)],[],0,[],false⟩,
 ⟨167,.skip,[],[.val (BT48),.val (BT34),.val (BT34)],[BT1],[],[],0,[],false⟩,
 ⟨282,.skip,[],[.val (BT46),.clo 283 []],[BT1],[],[],0,[],false⟩,
 ⟨284,.skip,[],[.val (BT23)],[BT1],[],[],0,[],false⟩,
 ⟨285,.skip,[],[.val (BT26),.val (BT26)],[BT34],[],[],0,[],false⟩,
 ⟨245,.skip,[],[.val (BT54),.clo 242 []],[BT34],[],[],0,[(26,235)],false⟩,
 ⟨294,.skip,[],[.val (BT23),.val (BT23)],[BT1],[],[],0,[],false⟩,
 ⟨295,.skip,[],[.val (BT26),.val (BT26)],[BT1],[],[],0,[],false⟩,
 ⟨296,.skip,[],[.ptr (BT19) (BT19)],[BT34],[(0,.box)],[],0,[],false⟩,
 ⟨297,.skip,[],[.ptr (BT19) (BT19)],[BT23],[(0,.box)],[],0,[],false⟩,
 ⟨298,.skip,[],[.ptr (BT19) (BT19)],[BT0],[(0,.box)],[],0,[],false⟩,
 ⟨292,.skip,[],[.val (BT46)],[BT42],[],[],0,[],false⟩,
 ⟨293,.skip,[],[.val (BT47)],[BT43],[],[],0,[],false⟩,
 ⟨286,.skip,[],[.val (BT45),.clo 244 [BT34]],[BT34],[(16,.box)],[],0,[(26,244)],false⟩,
 ⟨299,.skip,[],[.val (BT52),.val (BT34)],[BT34,BT34,BT1],[],[],0,[(122,246)],false⟩,
 ⟨300,.skip,[],[.val (BT52),.val (BT34)],[BT34,BT34,BT1],[],[],0,[(31,248)],false⟩,
 ⟨301,.skip,[],[.val (BT52),.val (BT34)],[BT0,BT34,BT1],[],[],0,[],false⟩,
 ⟨231,.skip,[],[.val (BT32)],[BT1],[],[],0,[],false⟩,
 ⟨232,.skip,[],[.val (BT0)],[BT1],[],[(3,1),(7,1)],0,[],false⟩,
 ⟨233,.skip,[],[.val (BT22),.val (BT34),.val (BT34),.val (BT34)],[BT1],[],[(71,1),(86,1)],0,[(863,253),(3455,254),(13823,255),(221183,256)],false⟩,
 ⟨271,.skip,[],[.val (BT34)],[BT1],[],[],0,[],false⟩,
 ⟨306,.skip,[],[.val (BT0)],[BT34,BT1],[],[],0,[(60,259)],false⟩,
 ⟨246,.skip,[],[.val (BT0),.val (BT0)],[BT1],[],[],0,[],false⟩,
 ⟨235,.skip,[],[.val (BT0)],[BT1],[],[],0,[],false⟩,
 ⟨236,.skip,[],[.val (BT30),.clo 165 [BT13]],[BT34],[(16,.box)],[],0,[(26,263)],false⟩,
 ⟨238,.skip,[],[.val (BT48),.clo 239 [BT48,BT34,BT34]],[BT1],[(16,.box),(17,.box),(18,.box)],[],0,[],false⟩,
 ⟨309,.skip,[],[.val (BT46),.clo 283 []],[BT34],[],[],0,[(26,266)],false⟩,
 ⟨279,.skip,[],[.val (BT34)],[BT1],[],[],0,[],false⟩,
 ⟨310,.skip,[],[.val (BT0)],[BT34,BT1],[],[],0,[],false⟩,
 ⟨311,.skip,[],[.val (BT0),.val (BT0)],[BT34],[],[],0,[],false⟩,
 ⟨242,.skip,[],[.val (BT34)],[BT1],[],[],0,[],false⟩,
 ⟨313,.skip,[],[.val (BT52),.val (BT34)],[BT34,BT34,BT1],[],[],0,[(58,272)],false⟩,
 ⟨314,.skip,[],[.ptr (BT19) (BT19)],[BT34],[(0,.box)],[],0,[],false⟩,
 ⟨315,.skip,[],[.val (BT52),.val (BT34)],[BT0,BT34,BT1],[],[],0,[],false⟩,
 ⟨244,.skip,[],[.val (BT24),.ptr (BT34) (BT34)],[BT1],[(16,.box)],[],0,[],false⟩,
 ⟨270,.skip,[],[],[BT30],[],[(1,1)],0,[],false⟩,
 ⟨272,.skip,[],[.val (BT0)],[BT20,BT1],[],[(9,1),(14,1),(33,1)],0,[],false⟩,
 ⟨319,.skip,[],[.val (BT0)],[BT34,BT34],[],[],0,[(28,279),(63,280),(508,281),(16342,282),(511,283)],false⟩,
 ⟨287,.skip,[],[.val (BT0),.val (BT0)],[BT34],[],[],0,[],false⟩,
 ⟨275,.skip,[],[.val (BT0),.val (BT34)],[BT34],[],[],0,[(28,286)],false⟩,
 ⟨276,.skip,[],[.val (BT0)],[BT1],[],[(14,1)],0,[(53,288)],false⟩,
 ⟨165,.skip,[],[.val (BT0),.ptr (BT13) (BT13)],[BT1],[(16,.box)],[],0,[],false⟩,
 ⟨277,.skip,[],[.val (BT48),.clo 239 [BT48,BT34,BT34]],[BT34],[(16,.box),(17,.box),(18,.box)],[],0,[(26,291)],false⟩,
 ⟨283,.skip,[],[.val (BT23)],[BT1],[],[],0,[],false⟩,
 ⟨322,.skip,[],[.val (BT0)],[BT34,BT34],[],[],0,[(31,294),(1023,295)],false⟩,
 ⟨323,.skip,[],[.val (BT0),.val (BT0)],[BT0],[],[],0,[],false⟩,
 ⟨324,.skip,[],[.val (BT0),.val (BT0)],[BT34],[],[],0,[],false⟩,
 ⟨329,.skip,[],[.val (BT52),.val (BT34)],[BT34,BT34,BT1],[],[],0,[(63,299)],false⟩,
 ⟨304,.skip,[],[.ptr (BT27) (BT27),.val (BT34)],[BT7],[(0,.box)],[],0,[(28,301)],false⟩,
 ⟨305,.skip,[],[.val (BT20)],[BT34],[],[],0,[(58,303)],false⟩,
 ⟨331,.skip,[],[.val (BT32)],[BT1],[],[],0,[],false⟩,
 ⟨312,.skip,[],[.val (BT0),.val (BT0)],[BT34],[],[],0,[],false⟩,
 ⟨307,.skip,[],[.val (BT32)],[BT1],[],[],0,[],false⟩,
 ⟨281,.skip,[],[],[BT30],[],[(1,1)],0,[],false⟩,
 ⟨166,.skip,[],[.val (BT30),.val (BT0)],[BT1],[],[],0,[],false⟩,
 ⟨239,.skip,[],[.val (BT22),.ptr (BT48) (BT48),.ptr (BT34) (BT34),.ptr (BT34) (BT34)],[BT1],[(16,.box),(32,.box),(48,.box)],[],0,[],false⟩,
 ⟨334,.skip,[],[.val (BT0),.val (BT0)],[BT0],[],[],0,[],false⟩,
 ⟨335,.skip,[],[.val (BT0),.val (BT34)],[BT34],[],[],0,[(28,312)],false⟩,
 ⟨336,.skip,[],[.val (BT0),.val (BT0)],[BT34,BT1],[],[],0,[],false⟩,
 ⟨338,.skip,[],[.val (BT0),.val (BT32)],[BT0],[],[],0,[(12,315)],false⟩,
 ⟨337,.skip,[],[.val (BT0),.val (BT32)],[BT0],[],[],0,[(12,317)],false⟩,
 ⟨344,.skip,[],[.val (BT0),.val (BT0)],[BT34],[],[],0,[],true⟩,
 ⟨316,.skip,[],[.ptr (BT27) (BT27),.val (BT34)],[BT7],[(0,.box)],[],0,[(28,320)],false⟩,
 ⟨317,.skip,[],[.ptr (BT27) (BT27),.val (BT32)],[BT1],[(0,.box)],[],0,[],false⟩,
 ⟨318,.skip,[],[.val (BT34),.val (BT34)],[BT34],[],[],0,[],false⟩,
 ⟨325,.skip,[],[.val (BT0),.val (BT32)],[BT34],[],[],0,[],false⟩,
 ⟨237,.skip,[],[.val (BT30),.val (BT0)],[BT34],[],[],0,[(26,325)],false⟩,
 ⟨240,.skip,[],[.val (BT22),.val (BT34),.val (BT34),.val (BT34)],[BT1],[],[(101,1)],0,[(983,327),(3935,328),(15743,329),(251903,330)],false⟩,
 ⟨350,.skip,[],[.val (BT0)],[BT34,.hole 1],[],[(16,1)],0,[],false⟩,
 ⟨351,.skip,[],[.val (BT34)],[BT34,BT1],[],[],0,[],false⟩,
 ⟨330,.skip,[],[.ptr (BT27) (BT27),.val (BT34)],[BT7],[(0,.box)],[],0,[(28,334),(907,335)],false⟩,
 ⟨345,.skip,[],[.val (BT0),.val (BT32)],[BT34],[],[],0,[],true⟩,
 ⟨278,.skip,[],[.val (BT34)],[BT0,BT0],[],[(6,1)],0,[(63,338),(2007,339),(32127,340)],false⟩,
 ⟨280,.skip,[],[.val (BT0)],[BT1],[],[(7,1)],0,[],false⟩,
 ⟨359,.skip,[],[.val (BT0)],[BT34,.hole 1],[],[],0,[(235,343),(3770,344)],false⟩,
 ⟨347,.skip,[],[.ptr (BT27) (BT27),.val (BT34)],[BT7],[(0,.box)],[],0,[(63,346)],false⟩,
 ⟨308,.skip,[],[.val (BT0)],[BT20,BT1],[],[(9,1),(14,1),(31,1)],0,[],false⟩,
 ⟨365,.skip,[],[.val (BT0),.val (BT34),.val (BT34)],[BT34,.hole 1],[],[],0,[(31,349),(511,350)],false⟩,
 ⟨356,.skip,[],[.ptr (BT27) (BT27)],[BT7],[(0,.box)],[(171,1)],0,[(15,352),(252,353),(32303,354),(255,355),(64607,356),(8186,357),(516858,358)],false⟩,
 ⟨320,.skip,[],[.ptr (BT28) (BT28)],[BT7],[(0,.box)],[],0,[(28,360)],false⟩,
 ⟨321,.skip,[],[.val (BT20)],[BT34],[],[],0,[(58,362)],false⟩,
 ⟨372,.skip,[],[.val (BT0),.val (BT34),.val (BT34)],[BT35,.hole 1],[],[],0,[(63,364),(127,365),(511,366),(32762,367),(8387175,368)],false⟩,
 ⟨332,.skip,[],[.ptr (BT28) (BT28)],[BT7],[(0,.box)],[],0,[(28,370)],false⟩,
 ⟨333,.skip,[],[.ptr (BT28) (BT28),.val (BT32)],[BT1],[(0,.box)],[],0,[],false⟩,
 ⟨376,.skip,[],[.val (BT32)],[BT32],[],[],0,[],false⟩,
 ⟨377,.skip,[],[.val (BT0)],[BT1],[],[],0,[(31,374),(127,375),(508,376)],false⟩,
 ⟨348,.skip,[],[.ptr (BT28) (BT28)],[BT32,BT1],[(0,.box)],[],0,[],false⟩,
 ⟨349,.skip,[],[.ptr (BT28) (BT28)],[BT7],[(0,.box)],[],0,[(14,379)],false⟩,
 ⟨357,.skip,[],[.ptr (BT28) (BT28)],[BT7],[(0,.box)],[],0,[(1007615,381)],false⟩,
 ⟨358,.skip,[],[.val (BT32)],[BT34],[],[],0,[],false⟩,
 ⟨364,.skip,[],[.ptr (BT28) (BT28)],[BT7],[(0,.box)],[(111,1)],0,[(2042,384),(130707,385),(8186,386),(522830,387)],false⟩,
 ⟨370,.skip,[],[.val (BT0),.val (BT32)],[BT34],[],[],0,[],false⟩]
def callX:CallL:=[((344,[]),318),((345,[]),336)]
def callR:CallL:=[((6,[]),0),((7,[]),1),((15,[]),2),((30,[]),3),((19,[]),4),((32,[]),5),((31,[]),6),((33,[]),7),((34,[]),10),((24,[]),12),((35,[]),13),((25,[]),14),((36,[]),15),((37,[]),16),((38,[]),18),((39,[]),20),((41,[]),21),((40,[]),22),((42,[]),23),((43,[]),25),((44,[]),26),((45,[]),27),((83,[]),28),((84,[]),30),((124,[]),32),((86,[]),33),((90,[]),34),((91,[]),36),((127,[]),38),((93,[]),39),((125,[]),40),((126,[]),41),((128,[]),44),((129,[]),45),((121,[]),49),((130,[]),53),((122,[]),54),((123,[]),55),((102,[]),56),((103,[]),58),((131,[]),60),((100,[]),61),((104,[]),62),((105,[]),64),((132,[]),66),((108,[]),67),((133,[]),68),((137,[]),70),((135,[]),72),((134,[]),73),((136,[]),74),((138,[]),76),((139,[]),77),((140,[]),78),((141,[]),80),((142,[]),81),((143,[]),83),((144,[]),85),((113,[]),86),((180,[]),87),((181,[]),88),((53,[]),89),((186,[]),90),((187,[]),91),((65,[]),92),((89,[]),94),((56,[]),95),((212,[]),96),((158,[]),98),((146,[]),100),((117,[]),101),((213,[]),105),((168,[]),106),((214,[]),107),((215,[]),108),((169,[]),110),((207,[]),111),((209,[]),113),((216,[]),114),((208,[]),116),((210,[]),117),((211,[]),118),((196,[]),119),((195,[]),120),((81,[]),121),((197,[]),123),((198,[]),125),((107,[]),126),((217,[]),128),((222,[]),129),((218,[]),130),((183,[]),131),((160,[]),132),((219,[]),134),((220,[]),136),((119,[]),137),((221,[]),138),((223,[]),139),((189,[]),140),((173,[]),141),((224,[]),142),((225,[]),146),((226,[]),147),((200,[]),148),((199,[]),150),((112,[]),151),((247,[]),153),((248,[]),155),((251,[]),157),((252,[]),159),((61,[]),161),((55,[]),162),((234,[]),165),((227,[]),168),((202,[]),170),((228,[]),172),((203,[]),173),((204,[]),174),((68,[]),175),((77,[]),176),((67,[]),177),((241,[]),178),((174,[242]),180),((263,[]),181),((256,[]),182),((257,[]),184),((258,[]),186),((259,[]),188),((17,[]),190),((21,[]),191),((249,[]),192),((264,[]),193),((205,[]),197),((253,[]),198),((193,[]),199),((243,[244]),200),((265,[]),201),((266,[]),202),((267,[]),203),((179,[]),204),((260,[]),205),((261,[]),207),((288,[]),209),((289,[]),210),((290,[]),211),((291,[]),212),((161,[]),213),((155,[]),215),((156,[]),217),((157,[]),219),((273,[]),221),((274,[]),222),((268,[]),223),((262,[]),225),((177,[]),226),((163,[]),227),((164,[165]),229),((167,[]),230),((282,[283]),231),((284,[]),232),((285,[]),233),((245,[242]),234),((294,[]),236),((295,[]),237),((296,[]),238),((297,[]),239),((298,[]),240),((292,[]),241),((293,[]),242),((286,[244]),243),((299,[]),245),((300,[]),247),((301,[]),249),((231,[]),250),((232,[]),251),((233,[]),252),((271,[]),257),((306,[]),258),((246,[]),260),((235,[]),261),((236,[165]),262),((238,[239]),264),((309,[283]),265),((279,[]),267),((310,[]),268),((311,[]),269),((242,[]),270),((313,[]),271),((314,[]),273),((315,[]),274),((244,[]),275),((270,[]),276),((272,[]),277),((319,[]),278),((287,[]),284),((275,[]),285),((276,[]),287),((165,[]),289),((277,[239]),290),((283,[]),292),((322,[]),293),((323,[]),296),((324,[]),297),((329,[]),298),((304,[]),300),((305,[]),302),((331,[]),304),((312,[]),305),((307,[]),306),((281,[]),307),((166,[]),308),((239,[]),309),((334,[]),310),((335,[]),311),((336,[]),313),((338,[]),314),((337,[]),316),((316,[]),319),((317,[]),321),((318,[]),322),((325,[]),323),((237,[]),324),((240,[]),326),((350,[]),331),((351,[]),332),((330,[]),333),((278,[]),337),((280,[]),341),((359,[]),342),((347,[]),345),((308,[]),347),((365,[]),348),((356,[]),351),((320,[]),359),((321,[]),361),((372,[]),363),((332,[]),369),((333,[]),371),((376,[]),372),((377,[]),373),((348,[]),377),((349,[]),378),((357,[]),380),((358,[]),382),((364,[]),383),((370,[]),388)]
def rent (e:Nat):EntI:=entR.getD e ⟨0,.skip,[],[],[],[],[],0,[],true⟩
def rkey (k:Nat):KeyI:=keyL.getD k ⟨0,[false],[]⟩
noncomputable def tab:Tab where
 G:=gam
 ty:=lookT tyL
 ifc:=memN ifcL
 key k:=keyFill rent (rkey k)
 ent k:=fill Tryz.prog (rent k)
 call:=lookC (callX ++ callR)
 tabs:=[]
 ext k:=match k with
  | 318=>fun x=>some (cmpI x.1 x.2.1,())
  | 336=>fun x=>some (idxI x.1 x.2.1,())
  | _=>fun _=>none
end Go.Proofs.YtcngnpahpbaagaaGreatDoor.E.TH
