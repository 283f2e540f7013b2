/- The table of H: structs,types,entries,keys. No condition. -/
import Derived.Test.YtcngnpahpbaagaaGreatDoorEG4
import Derived.Test.YtcngnpahpbaagaaGreatDoorProg
import Derived.KernelRfl
namespace Go.Proofs.YtcngnpahpbaagaaGreatDoor.E.TH
open Go.Proofs.YtcngnpahpbaagaaGreatDoor.E
set_option linter.unusedVariables false
set_option maxRecDepth 100000
structure laws_Op where
 Code:Int
 N:Int
 S:(_root_.List Int)
def z_laws_Op:laws_Op:=⟨0,0,[]⟩
structure laws_Prog where
 Vars:(_root_.List (_root_.List Int))
 Cells:(_root_.List (_root_.List Int))
 Start:(_root_.List laws_Op)
 Main:(_root_.List laws_Op)
def z_laws_Prog:laws_Prog:=⟨[],[],[],[]⟩
structure laws_Sink where
 Epoch:Int
 Text:(_root_.List Int)
def z_laws_Sink:laws_Sink:=⟨0,[]⟩
structure laws_Cmd where
 Who:Int
 Seq:Int
 Line:(_root_.List Int)
def z_laws_Cmd:laws_Cmd:=⟨0,0,[]⟩
structure laws_Entry where
 Term:Int
 C:laws_Cmd
def z_laws_Entry:laws_Entry:=⟨0,z_laws_Cmd⟩
structure laws_Log where
 Base:Int
 BaseTerm:Int
 List:(_root_.List laws_Entry)
def z_laws_Log:laws_Log:=⟨0,0,[]⟩
structure laws_Val where
 Kind:Int
 N:Int
 S:(_root_.List Int)
def z_laws_Val:laws_Val:=⟨0,0,[]⟩
structure laws_Cell where
 Name:Int
 Key:(_root_.List Int)
 Val:laws_Val
def z_laws_Cell:laws_Cell:=⟨0,[],z_laws_Val⟩
structure laws_State where
 Vars:(_root_.List laws_Val)
 Cells:(_root_.List laws_Cell)
 Nr:Int
 Err:Int
def z_laws_State:laws_State:=⟨[],[],0,0⟩
structure laws_Mach where
 State:laws_State
 Done:(_root_.List Int)
 Out:(_root_.List Int)
def z_laws_Mach:laws_Mach:=⟨z_laws_State,[],[]⟩
structure laws_Hard where
 Term:Int
 Vote:Int
 Log:laws_Log
 Snap:laws_Mach
def z_laws_Hard:laws_Hard:=⟨0,0,z_laws_Log,z_laws_Mach⟩
structure laws_Disk where
 Bytes:(_root_.List Int)
 Sure:Int
def z_laws_Disk:laws_Disk:=⟨[],0⟩
structure laws_Rpc where
 Kind:Int
 From:Int
 To:Int
 Term:Int
 Index:Int
 IndexTerm:Int
 Commit:Int
 List:(_root_.List laws_Entry)
 Ok:Bool
 Snap:(_root_.List Int)
def z_laws_Rpc:laws_Rpc:=⟨0,0,0,0,0,0,0,[],false,[]⟩
structure laws_Peer where
 Id:Int
 Hard:laws_Hard
 Role:Int
 Votes:(_root_.List Bool)
 Next:(_root_.List Int)
 Match:(_root_.List Int)
 Commit:Int
 Now:laws_Mach
 Disk:laws_Disk
 Held:(_root_.List laws_Rpc)
def z_laws_Peer:laws_Peer:=⟨0,z_laws_Hard,0,[],[],[],0,z_laws_Mach,z_laws_Disk,[]⟩
structure laws_World where
 Prog:laws_Prog
 Size:Int
 Nodes:(_root_.List laws_Peer)
 Net:(_root_.List laws_Rpc)
 Sink:laws_Sink
 Sent:(_root_.List Int)
 Acked:(_root_.List Int)
 Done:(_root_.List laws_Cmd)
def z_laws_World:laws_World:=⟨z_laws_Prog,0,[],[],z_laws_Sink,[],[],[]⟩
structure impl_Op where
 Code:Int
 N:Int
 S:(_root_.List Int)
def z_impl_Op:impl_Op:=⟨0,0,[]⟩
structure impl_Prog where
 Vars:(_root_.List (_root_.List Int))
 Cells:(_root_.List (_root_.List Int))
 Start:(_root_.List impl_Op)
 Main:(_root_.List impl_Op)
def z_impl_Prog:impl_Prog:=⟨[],[],[],[]⟩
structure impl_Sink where
 Epoch:Int
 Text:(_root_.List Int)
def z_impl_Sink:impl_Sink:=⟨0,[]⟩
structure impl_Cmd where
 Who:Int
 Seq:Int
 Line:(_root_.List Int)
def z_impl_Cmd:impl_Cmd:=⟨0,0,[]⟩
structure impl_Entry where
 Term:Int
 C:impl_Cmd
def z_impl_Entry:impl_Entry:=⟨0,z_impl_Cmd⟩
structure impl_Log where
 Base:Int
 BaseTerm:Int
 List:(_root_.List impl_Entry)
def z_impl_Log:impl_Log:=⟨0,0,[]⟩
structure impl_Val where
 Kind:Int
 N:Int
 S:(_root_.List Int)
def z_impl_Val:impl_Val:=⟨0,0,[]⟩
structure impl_Cell where
 Name:Int
 Key:(_root_.List Int)
 Val:impl_Val
def z_impl_Cell:impl_Cell:=⟨0,[],z_impl_Val⟩
structure impl_State where
 Vars:(_root_.List impl_Val)
 Cells:(_root_.List impl_Cell)
 Nr:Int
 Err:Int
def z_impl_State:impl_State:=⟨[],[],0,0⟩
structure impl_Mach where
 State:impl_State
 Done:(_root_.List Int)
 Out:(_root_.List Int)
def z_impl_Mach:impl_Mach:=⟨z_impl_State,[],[]⟩
structure impl_Hard where
 Term:Int
 Vote:Int
 Log:impl_Log
 Snap:impl_Mach
def z_impl_Hard:impl_Hard:=⟨0,0,z_impl_Log,z_impl_Mach⟩
structure impl_Disk where
 Bytes:(_root_.List Int)
 Sure:Int
def z_impl_Disk:impl_Disk:=⟨[],0⟩
structure impl_Rpc where
 Kind:Int
 From:Int
 To:Int
 Term:Int
 Index:Int
 IndexTerm:Int
 Commit:Int
 List:(_root_.List impl_Entry)
 Ok:Bool
 Snap:(_root_.List Int)
def z_impl_Rpc:impl_Rpc:=⟨0,0,0,0,0,0,0,[],false,[]⟩
structure impl_Peer where
 Id:Int
 Hard:impl_Hard
 Role:Int
 Votes:(_root_.List Bool)
 Next:(_root_.List Int)
 Match:(_root_.List Int)
 Commit:Int
 Now:impl_Mach
 Disk:impl_Disk
 Held:(_root_.List impl_Rpc)
def z_impl_Peer:impl_Peer:=⟨0,z_impl_Hard,0,[],[],[],0,z_impl_Mach,z_impl_Disk,[]⟩
structure impl_World where
 Prog:impl_Prog
 Size:Int
 Nodes:(_root_.List impl_Peer)
 Net:(_root_.List impl_Rpc)
 Sink:impl_Sink
 Sent:(_root_.List Int)
 Acked:(_root_.List Int)
 Done:(_root_.List impl_Cmd)
def z_impl_World:impl_World:=⟨z_impl_Prog,0,[],[],z_impl_Sink,[],[],[]⟩
structure laws_Rec where
 Kind:Int
 Term:Int
 Vote:Int
 Prev:Int
 List:(_root_.List laws_Entry)
 Snap:(_root_.List Int)
def z_laws_Rec:laws_Rec:=⟨0,0,0,0,[],[]⟩
structure impl_Rec where
 Kind:Int
 Term:Int
 Vote:Int
 Prev:Int
 List:(_root_.List impl_Entry)
 Snap:(_root_.List Int)
def z_impl_Rec:impl_Rec:=⟨0,0,0,0,[],[]⟩
structure impl_act where
 p:impl_Prog
 n:impl_Peer
 size:Int
 no:Bool
def z_impl_act:impl_act:=⟨z_impl_Prog,z_impl_Peer,0,false⟩
structure spec_l23Work where
 p:impl_Prog
 size:Int
 n:impl_Peer
 ok:Bool
def z_spec_l23Work:spec_l23Work:=⟨z_impl_Prog,0,z_impl_Peer,false⟩
structure spec_l17Cur where
 b:(_root_.List Int)
 at_:Int
 ok:Bool
def z_spec_l17Cur:spec_l17Cur:=⟨[],0,false⟩
structure impl_source where
 b:(_root_.List Int)
 at_:Int
 bad:Bool
def z_impl_source:impl_source:=⟨[],0,false⟩
structure impl_Rex where
 Op:Int
 C:Int
 Set:(_root_.List Int)
 Not:Bool
 Kids:(_root_.List impl_Rex)
def z_impl_Rex:impl_Rex:=⟨0,0,[],false,[]⟩
structure spec_l3Cur where
 s:(_root_.List Int)
 at_:Int
 bad:Bool
def z_spec_l3Cur:spec_l3Cur:=⟨[],0,false⟩
structure impl_rexReader where
 s:(_root_.List Int)
 bad:Bool
def z_impl_rexReader:impl_rexReader:=⟨[],false⟩
def gT:Nat→Type
 | 0=>laws_Prog
 | 1=>laws_Op
 | 2=>laws_Sink
 | 3=>laws_World
 | 4=>laws_Peer
 | 5=>laws_Hard
 | 6=>laws_Log
 | 7=>laws_Entry
 | 8=>laws_Cmd
 | 9=>laws_Mach
 | 10=>laws_State
 | 11=>laws_Val
 | 12=>laws_Cell
 | 13=>laws_Disk
 | 14=>laws_Rpc
 | 15=>impl_Prog
 | 16=>impl_Op
 | 17=>impl_Sink
 | 18=>impl_World
 | 19=>impl_Peer
 | 20=>impl_Hard
 | 21=>impl_Log
 | 22=>impl_Entry
 | 23=>impl_Cmd
 | 24=>impl_Mach
 | 25=>impl_State
 | 26=>impl_Val
 | 27=>impl_Cell
 | 28=>impl_Disk
 | 29=>impl_Rpc
 | 30=>laws_Rec
 | 31=>impl_Rec
 | 32=>impl_act
 | 33=>spec_l23Work
 | 34=>spec_l17Cur
 | 35=>impl_source
 | 36=>impl_Rex
 | 37=>spec_l3Cur
 | 38=>impl_rexReader
 | _=>Unit
def gfs:Nat→List FT
 | 0=>[(.sl .str),(.sl .str),(.sl (.nm 1)),(.sl (.nm 1))]
 | 1=>[(.int .i64),(.int .i64),.str]
 | 2=>[(.int .i64),.str]
 | 3=>[(.nm 0),(.int .i64),(.sl (.nm 4)),(.sl (.nm 14)),(.nm 2),(.sl (.int .i64)),(.sl (.int .i64)),(.sl (.nm 8))]
 | 4=>[(.int .i64),(.nm 5),(.int .i64),(.sl .bool),(.sl (.int .i64)),(.sl (.int .i64)),(.int .i64),(.nm 9),(.nm 13),(.sl (.nm 14))]
 | 5=>[(.int .i64),(.int .i64),(.nm 6),(.nm 9)]
 | 6=>[(.int .i64),(.int .i64),(.sl (.nm 7))]
 | 7=>[(.int .i64),(.nm 8)]
 | 8=>[(.int .i64),(.int .i64),.str]
 | 9=>[(.nm 10),(.sl (.int .i64)),.str]
 | 10=>[(.sl (.nm 11)),(.sl (.nm 12)),(.int .i64),(.int .i64)]
 | 11=>[(.int .i64),(.int .i64),.str]
 | 12=>[(.int .i64),.str,(.nm 11)]
 | 13=>[(.sl (.int .u8)),(.int .i64)]
 | 14=>[(.int .i64),(.int .i64),(.int .i64),(.int .i64),(.int .i64),(.int .i64),(.int .i64),(.sl (.nm 7)),.bool,.str]
 | 15=>[(.sl .str),(.sl .str),(.sl (.nm 16)),(.sl (.nm 16))]
 | 16=>[(.int .i64),(.int .i64),.str]
 | 17=>[(.int .i64),.str]
 | 18=>[(.nm 15),(.int .i64),(.sl (.nm 19)),(.sl (.nm 29)),(.nm 17),(.sl (.int .i64)),(.sl (.int .i64)),(.sl (.nm 23))]
 | 19=>[(.int .i64),(.nm 20),(.int .i64),(.sl .bool),(.sl (.int .i64)),(.sl (.int .i64)),(.int .i64),(.nm 24),(.nm 28),(.sl (.nm 29))]
 | 20=>[(.int .i64),(.int .i64),(.nm 21),(.nm 24)]
 | 21=>[(.int .i64),(.int .i64),(.sl (.nm 22))]
 | 22=>[(.int .i64),(.nm 23)]
 | 23=>[(.int .i64),(.int .i64),.str]
 | 24=>[(.nm 25),(.sl (.int .i64)),.str]
 | 25=>[(.sl (.nm 26)),(.sl (.nm 27)),(.int .i64),(.int .i64)]
 | 26=>[(.int .i64),(.int .i64),.str]
 | 27=>[(.int .i64),.str,(.nm 26)]
 | 28=>[(.sl (.int .u8)),(.int .i64)]
 | 29=>[(.int .i64),(.int .i64),(.int .i64),(.int .i64),(.int .i64),(.int .i64),(.int .i64),(.sl (.nm 22)),.bool,.str]
 | 30=>[(.int .i64),(.int .i64),(.int .i64),(.int .i64),(.sl (.nm 7)),.str]
 | 31=>[(.int .i64),(.int .i64),(.int .i64),(.int .i64),(.sl (.nm 22)),.str]
 | 32=>[(.nm 15),(.nm 19),(.int .i64),.bool]
 | 33=>[(.nm 15),(.int .i64),(.nm 19),.bool]
 | 34=>[(.sl (.int .u8)),(.int .i64),.bool]
 | 35=>[(.sl (.int .u8)),(.int .i64),.bool]
 | 36=>[(.int .i64),(.int .i64),.str,.bool,(.sl (.nm 36))]
 | 37=>[.str,(.int .i64),.bool]
 | 38=>[.str,.bool]
 | _=>[]
def gun:∀ n,gT n→Js gT (gfs n)
 | 0,x=>(x.Vars,(x.Cells,(x.Start,(x.Main,()))))
 | 1,x=>(x.Code,(x.N,(x.S,())))
 | 2,x=>(x.Epoch,(x.Text,()))
 | 3,x=>(x.Prog,(x.Size,(x.Nodes,(x.Net,(x.Sink,(x.Sent,(x.Acked,(x.Done,()))))))))
 | 4,x=>(x.Id,(x.Hard,(x.Role,(x.Votes,(x.Next,(x.Match,(x.Commit,(x.Now,(x.Disk,(x.Held,()))))))))))
 | 5,x=>(x.Term,(x.Vote,(x.Log,(x.Snap,()))))
 | 6,x=>(x.Base,(x.BaseTerm,(x.List,())))
 | 7,x=>(x.Term,(x.C,()))
 | 8,x=>(x.Who,(x.Seq,(x.Line,())))
 | 9,x=>(x.State,(x.Done,(x.Out,())))
 | 10,x=>(x.Vars,(x.Cells,(x.Nr,(x.Err,()))))
 | 11,x=>(x.Kind,(x.N,(x.S,())))
 | 12,x=>(x.Name,(x.Key,(x.Val,())))
 | 13,x=>(x.Bytes,(x.Sure,()))
 | 14,x=>(x.Kind,(x.From,(x.To,(x.Term,(x.Index,(x.IndexTerm,(x.Commit,(x.List,(x.Ok,(x.Snap,()))))))))))
 | 15,x=>(x.Vars,(x.Cells,(x.Start,(x.Main,()))))
 | 16,x=>(x.Code,(x.N,(x.S,())))
 | 17,x=>(x.Epoch,(x.Text,()))
 | 18,x=>(x.Prog,(x.Size,(x.Nodes,(x.Net,(x.Sink,(x.Sent,(x.Acked,(x.Done,()))))))))
 | 19,x=>(x.Id,(x.Hard,(x.Role,(x.Votes,(x.Next,(x.Match,(x.Commit,(x.Now,(x.Disk,(x.Held,()))))))))))
 | 20,x=>(x.Term,(x.Vote,(x.Log,(x.Snap,()))))
 | 21,x=>(x.Base,(x.BaseTerm,(x.List,())))
 | 22,x=>(x.Term,(x.C,()))
 | 23,x=>(x.Who,(x.Seq,(x.Line,())))
 | 24,x=>(x.State,(x.Done,(x.Out,())))
 | 25,x=>(x.Vars,(x.Cells,(x.Nr,(x.Err,()))))
 | 26,x=>(x.Kind,(x.N,(x.S,())))
 | 27,x=>(x.Name,(x.Key,(x.Val,())))
 | 28,x=>(x.Bytes,(x.Sure,()))
 | 29,x=>(x.Kind,(x.From,(x.To,(x.Term,(x.Index,(x.IndexTerm,(x.Commit,(x.List,(x.Ok,(x.Snap,()))))))))))
 | 30,x=>(x.Kind,(x.Term,(x.Vote,(x.Prev,(x.List,(x.Snap,()))))))
 | 31,x=>(x.Kind,(x.Term,(x.Vote,(x.Prev,(x.List,(x.Snap,()))))))
 | 32,x=>(x.p,(x.n,(x.size,(x.no,()))))
 | 33,x=>(x.p,(x.size,(x.n,(x.ok,()))))
 | 34,x=>(x.b,(x.at_,(x.ok,())))
 | 35,x=>(x.b,(x.at_,(x.bad,())))
 | 36,x=>(x.Op,(x.C,(x.Set,(x.Not,(x.Kids,())))))
 | 37,x=>(x.s,(x.at_,(x.bad,())))
 | 38,x=>(x.s,(x.bad,()))
 | (n+39),_=>()
def gpk:∀ n,Js gT (gfs n)→gT n
 | 0,y=>⟨y.1,y.2.1,y.2.2.1,y.2.2.2.1⟩
 | 1,y=>⟨y.1,y.2.1,y.2.2.1⟩
 | 2,y=>⟨y.1,y.2.1⟩
 | 3,y=>⟨y.1,y.2.1,y.2.2.1,y.2.2.2.1,y.2.2.2.2.1,y.2.2.2.2.2.1,y.2.2.2.2.2.2.1,y.2.2.2.2.2.2.2.1⟩
 | 4,y=>⟨y.1,y.2.1,y.2.2.1,y.2.2.2.1,y.2.2.2.2.1,y.2.2.2.2.2.1,y.2.2.2.2.2.2.1,y.2.2.2.2.2.2.2.1,y.2.2.2.2.2.2.2.2.1,y.2.2.2.2.2.2.2.2.2.1⟩
 | 5,y=>⟨y.1,y.2.1,y.2.2.1,y.2.2.2.1⟩
 | 6,y=>⟨y.1,y.2.1,y.2.2.1⟩
 | 7,y=>⟨y.1,y.2.1⟩
 | 8,y=>⟨y.1,y.2.1,y.2.2.1⟩
 | 9,y=>⟨y.1,y.2.1,y.2.2.1⟩
 | 10,y=>⟨y.1,y.2.1,y.2.2.1,y.2.2.2.1⟩
 | 11,y=>⟨y.1,y.2.1,y.2.2.1⟩
 | 12,y=>⟨y.1,y.2.1,y.2.2.1⟩
 | 13,y=>⟨y.1,y.2.1⟩
 | 14,y=>⟨y.1,y.2.1,y.2.2.1,y.2.2.2.1,y.2.2.2.2.1,y.2.2.2.2.2.1,y.2.2.2.2.2.2.1,y.2.2.2.2.2.2.2.1,y.2.2.2.2.2.2.2.2.1,y.2.2.2.2.2.2.2.2.2.1⟩
 | 15,y=>⟨y.1,y.2.1,y.2.2.1,y.2.2.2.1⟩
 | 16,y=>⟨y.1,y.2.1,y.2.2.1⟩
 | 17,y=>⟨y.1,y.2.1⟩
 | 18,y=>⟨y.1,y.2.1,y.2.2.1,y.2.2.2.1,y.2.2.2.2.1,y.2.2.2.2.2.1,y.2.2.2.2.2.2.1,y.2.2.2.2.2.2.2.1⟩
 | 19,y=>⟨y.1,y.2.1,y.2.2.1,y.2.2.2.1,y.2.2.2.2.1,y.2.2.2.2.2.1,y.2.2.2.2.2.2.1,y.2.2.2.2.2.2.2.1,y.2.2.2.2.2.2.2.2.1,y.2.2.2.2.2.2.2.2.2.1⟩
 | 20,y=>⟨y.1,y.2.1,y.2.2.1,y.2.2.2.1⟩
 | 21,y=>⟨y.1,y.2.1,y.2.2.1⟩
 | 22,y=>⟨y.1,y.2.1⟩
 | 23,y=>⟨y.1,y.2.1,y.2.2.1⟩
 | 24,y=>⟨y.1,y.2.1,y.2.2.1⟩
 | 25,y=>⟨y.1,y.2.1,y.2.2.1,y.2.2.2.1⟩
 | 26,y=>⟨y.1,y.2.1,y.2.2.1⟩
 | 27,y=>⟨y.1,y.2.1,y.2.2.1⟩
 | 28,y=>⟨y.1,y.2.1⟩
 | 29,y=>⟨y.1,y.2.1,y.2.2.1,y.2.2.2.1,y.2.2.2.2.1,y.2.2.2.2.2.1,y.2.2.2.2.2.2.1,y.2.2.2.2.2.2.2.1,y.2.2.2.2.2.2.2.2.1,y.2.2.2.2.2.2.2.2.2.1⟩
 | 30,y=>⟨y.1,y.2.1,y.2.2.1,y.2.2.2.1,y.2.2.2.2.1,y.2.2.2.2.2.1⟩
 | 31,y=>⟨y.1,y.2.1,y.2.2.1,y.2.2.2.1,y.2.2.2.2.1,y.2.2.2.2.2.1⟩
 | 32,y=>⟨y.1,y.2.1,y.2.2.1,y.2.2.2.1⟩
 | 33,y=>⟨y.1,y.2.1,y.2.2.1,y.2.2.2.1⟩
 | 34,y=>⟨y.1,y.2.1,y.2.2.1⟩
 | 35,y=>⟨y.1,y.2.1,y.2.2.1⟩
 | 36,y=>⟨y.1,y.2.1,y.2.2.1,y.2.2.2.1,y.2.2.2.2.1⟩
 | 37,y=>⟨y.1,y.2.1,y.2.2.1⟩
 | 38,y=>⟨y.1,y.2.1⟩
 | (n+39),_=>()
theorem gun_pk:∀ n y,gun n (gpk n y)=y
 | 0,_=>rfl
 | 1,_=>rfl
 | 2,_=>rfl
 | 3,_=>rfl
 | 4,_=>rfl
 | 5,_=>rfl
 | 6,_=>rfl
 | 7,_=>rfl
 | 8,_=>rfl
 | 9,_=>rfl
 | 10,_=>rfl
 | 11,_=>rfl
 | 12,_=>rfl
 | 13,_=>rfl
 | 14,_=>rfl
 | 15,_=>rfl
 | 16,_=>rfl
 | 17,_=>rfl
 | 18,_=>rfl
 | 19,_=>rfl
 | 20,_=>rfl
 | 21,_=>rfl
 | 22,_=>rfl
 | 23,_=>rfl
 | 24,_=>rfl
 | 25,_=>rfl
 | 26,_=>rfl
 | 27,_=>rfl
 | 28,_=>rfl
 | 29,_=>rfl
 | 30,_=>rfl
 | 31,_=>rfl
 | 32,_=>rfl
 | 33,_=>rfl
 | 34,_=>rfl
 | 35,_=>rfl
 | 36,_=>rfl
 | 37,_=>rfl
 | 38,_=>rfl
 | (n+39),_=>rfl
theorem gpk_un:∀ n x,gpk n (gun n x)=x
 | 0,x=>by cases x; rfl
 | 1,x=>by cases x; rfl
 | 2,x=>by cases x; rfl
 | 3,x=>by cases x; rfl
 | 4,x=>by cases x; rfl
 | 5,x=>by cases x; rfl
 | 6,x=>by cases x; rfl
 | 7,x=>by cases x; rfl
 | 8,x=>by cases x; rfl
 | 9,x=>by cases x; rfl
 | 10,x=>by cases x; rfl
 | 11,x=>by cases x; rfl
 | 12,x=>by cases x; rfl
 | 13,x=>by cases x; rfl
 | 14,x=>by cases x; rfl
 | 15,x=>by cases x; rfl
 | 16,x=>by cases x; rfl
 | 17,x=>by cases x; rfl
 | 18,x=>by cases x; rfl
 | 19,x=>by cases x; rfl
 | 20,x=>by cases x; rfl
 | 21,x=>by cases x; rfl
 | 22,x=>by cases x; rfl
 | 23,x=>by cases x; rfl
 | 24,x=>by cases x; rfl
 | 25,x=>by cases x; rfl
 | 26,x=>by cases x; rfl
 | 27,x=>by cases x; rfl
 | 28,x=>by cases x; rfl
 | 29,x=>by cases x; rfl
 | 30,x=>by cases x; rfl
 | 31,x=>by cases x; rfl
 | 32,x=>by cases x; rfl
 | 33,x=>by cases x; rfl
 | 34,x=>by cases x; rfl
 | 35,x=>by cases x; rfl
 | 36,x=>by cases x; rfl
 | 37,x=>by cases x; rfl
 | 38,x=>by cases x; rfl
 | (n+39),_=>rfl
def gz:∀ n,gT n
 | 0=>z_laws_Prog
 | 1=>z_laws_Op
 | 2=>z_laws_Sink
 | 3=>z_laws_World
 | 4=>z_laws_Peer
 | 5=>z_laws_Hard
 | 6=>z_laws_Log
 | 7=>z_laws_Entry
 | 8=>z_laws_Cmd
 | 9=>z_laws_Mach
 | 10=>z_laws_State
 | 11=>z_laws_Val
 | 12=>z_laws_Cell
 | 13=>z_laws_Disk
 | 14=>z_laws_Rpc
 | 15=>z_impl_Prog
 | 16=>z_impl_Op
 | 17=>z_impl_Sink
 | 18=>z_impl_World
 | 19=>z_impl_Peer
 | 20=>z_impl_Hard
 | 21=>z_impl_Log
 | 22=>z_impl_Entry
 | 23=>z_impl_Cmd
 | 24=>z_impl_Mach
 | 25=>z_impl_State
 | 26=>z_impl_Val
 | 27=>z_impl_Cell
 | 28=>z_impl_Disk
 | 29=>z_impl_Rpc
 | 30=>z_laws_Rec
 | 31=>z_impl_Rec
 | 32=>z_impl_act
 | 33=>z_spec_l23Work
 | 34=>z_spec_l17Cur
 | 35=>z_impl_source
 | 36=>z_impl_Rex
 | 37=>z_spec_l3Cur
 | 38=>z_impl_rexReader
 | (n+39)=>()
theorem gun_z:∀ n,gun n (gz n)=zeroJs gz (gfs n)
 | 0=>rfl
 | 1=>rfl
 | 2=>rfl
 | 3=>rfl
 | 4=>rfl
 | 5=>rfl
 | 6=>rfl
 | 7=>rfl
 | 8=>rfl
 | 9=>rfl
 | 10=>rfl
 | 11=>rfl
 | 12=>rfl
 | 13=>rfl
 | 14=>rfl
 | 15=>rfl
 | 16=>rfl
 | 17=>rfl
 | 18=>rfl
 | 19=>rfl
 | 20=>rfl
 | 21=>rfl
 | 22=>rfl
 | 23=>rfl
 | 24=>rfl
 | 25=>rfl
 | 26=>rfl
 | 27=>rfl
 | 28=>rfl
 | 29=>rfl
 | 30=>rfl
 | 31=>rfl
 | 32=>rfl
 | 33=>rfl
 | 34=>rfl
 | 35=>rfl
 | 36=>rfl
 | 37=>rfl
 | 38=>rfl
 | (n+39)=>rfl
def gsz:Nat→Nat
 | 0=>4
 | 1=>3
 | 2=>2
 | 3=>12
 | 4=>26
 | 5=>11
 | 6=>3
 | 7=>4
 | 8=>3
 | 9=>6
 | 10=>4
 | 11=>3
 | 12=>5
 | 13=>2
 | 14=>10
 | 15=>4
 | 16=>3
 | 17=>2
 | 18=>12
 | 19=>26
 | 20=>11
 | 21=>3
 | 22=>4
 | 23=>3
 | 24=>6
 | 25=>4
 | 26=>3
 | 27=>5
 | 28=>2
 | 29=>10
 | 30=>6
 | 31=>6
 | 32=>32
 | 33=>32
 | 34=>3
 | 35=>3
 | 36=>5
 | 37=>3
 | 38=>2
 | _=>0
theorem gsz_eq:∀ n,gsz n=FT.szs gsz (gfs n)
 | 0=>rfl
 | 1=>rfl
 | 2=>rfl
 | 3=>rfl
 | 4=>rfl
 | 5=>rfl
 | 6=>rfl
 | 7=>rfl
 | 8=>rfl
 | 9=>rfl
 | 10=>rfl
 | 11=>rfl
 | 12=>rfl
 | 13=>rfl
 | 14=>rfl
 | 15=>rfl
 | 16=>rfl
 | 17=>rfl
 | 18=>rfl
 | 19=>rfl
 | 20=>rfl
 | 21=>rfl
 | 22=>rfl
 | 23=>rfl
 | 24=>rfl
 | 25=>rfl
 | 26=>rfl
 | 27=>rfl
 | 28=>rfl
 | 29=>rfl
 | 30=>rfl
 | 31=>rfl
 | 32=>rfl
 | 33=>rfl
 | 34=>rfl
 | 35=>rfl
 | 36=>rfl
 | 37=>rfl
 | 38=>rfl
 | (n+39)=>rfl
def gfl:Nat→Bool
 | 0=>false
 | 1=>true
 | 2=>true
 | 3=>false
 | 4=>false
 | 5=>false
 | 6=>false
 | 7=>true
 | 8=>true
 | 9=>false
 | 10=>false
 | 11=>true
 | 12=>true
 | 13=>false
 | 14=>false
 | 15=>false
 | 16=>true
 | 17=>true
 | 18=>false
 | 19=>false
 | 20=>false
 | 21=>false
 | 22=>true
 | 23=>true
 | 24=>false
 | 25=>false
 | 26=>true
 | 27=>true
 | 28=>false
 | 29=>false
 | 30=>false
 | 31=>false
 | 32=>false
 | 33=>false
 | 34=>false
 | 35=>false
 | 36=>false
 | 37=>true
 | 38=>true
 | _=>true
theorem gfl_eq:∀ n,gfl n=true→FT.flats gfl (gfs n)=true
 | 0,h=>by cases h
 | 1,h=>rfl
 | 2,h=>rfl
 | 3,h=>by cases h
 | 4,h=>by cases h
 | 5,h=>by cases h
 | 6,h=>by cases h
 | 7,h=>rfl
 | 8,h=>rfl
 | 9,h=>by cases h
 | 10,h=>by cases h
 | 11,h=>rfl
 | 12,h=>rfl
 | 13,h=>by cases h
 | 14,h=>by cases h
 | 15,h=>by cases h
 | 16,h=>rfl
 | 17,h=>rfl
 | 18,h=>by cases h
 | 19,h=>by cases h
 | 20,h=>by cases h
 | 21,h=>by cases h
 | 22,h=>rfl
 | 23,h=>rfl
 | 24,h=>by cases h
 | 25,h=>by cases h
 | 26,h=>rfl
 | 27,h=>rfl
 | 28,h=>by cases h
 | 29,h=>by cases h
 | 30,h=>by cases h
 | 31,h=>by cases h
 | 32,h=>by cases h
 | 33,h=>by cases h
 | 34,h=>by cases h
 | 35,h=>by cases h
 | 36,h=>by cases h
 | 37,h=>rfl
 | 38,h=>rfl
 | (n+39),_=>rfl
def gam:Gam:=⟨gT,gfs,gun,gpk,gun_pk,gpk_un,gz,gun_z,gsz,gsz_eq,gfl,gfl_eq⟩
def tyL:List (Nat × FT):=[(2,(.int .i64)),(3,(.int .i64)),(4,.bool),(5,(.int .u8)),(6,(.int .u8)),(9,.str),(21,(.int .i32)),(22,(.sl .str)),(23,(.sl (.nm 1))),(25,(.nm 0)),(26,(.sl (.nm 4))),(27,(.sl (.nm 14))),(29,(.nm 2)),(30,(.sl (.int .i64))),(31,(.sl (.nm 8))),(33,(.nm 3)),(36,(.sl (.nm 16))),(38,(.nm 15)),(39,(.sl (.nm 19))),(40,(.sl (.nm 29))),(41,(.nm 17)),(42,(.sl (.nm 23))),(44,(.nm 18)),(48,(.sl (.nm 7))),(50,(.nm 6)),(51,(.sl (.nm 11))),(52,(.sl (.nm 12))),(54,(.nm 10)),(56,(.nm 9)),(58,(.nm 5)),(59,(.sl .bool)),(60,(.sl (.int .u8))),(62,(.nm 13)),(64,(.nm 4)),(66,(.nm 8)),(70,(.sl (.nm 22))),(72,(.nm 21)),(73,(.sl (.nm 26))),(74,(.sl (.nm 27))),(76,(.nm 25)),(78,(.nm 24)),(80,(.nm 20)),(81,(.nm 28)),(83,(.nm 19)),(88,(.nm 23)),(131,(.nm 29)),(156,(.nm 22)),(207,(.nm 14)),(225,(.nm 1)),(230,(.nm 16)),(242,(.nm 26)),(244,(.nm 27)),(252,(.int .u64)),(255,(.nm 7)),(297,(.sl (.nm 36))),(299,(.nm 36)),(313,(.nm 11)),(316,(.nm 12)),(333,(.int .u64)),(338,(.nm 37)),(348,(.nm 38)),(375,(.int .i64))]
def ifcL:List Nat:=[364]
abbrev BT0:BT:=.leaf false .str
abbrev BT1:BT:=.leaf false .bool
abbrev BT2:BT:=.leaf true (.nm 16)
abbrev BT3:BT:=.leaf true (.nm 37)
abbrev BT4:BT:=.leaf true (.nm 36)
abbrev BT5:BT:=.leaf true (.nm 38)
abbrev BT6:BT:=.leaf false (.nm 3)
abbrev BT7:BT:=.leaf false (.nm 18)
abbrev BT8:BT:=.leaf false (.nm 15)
abbrev BT9:BT:=.leaf false (.nm 19)
abbrev BT10:BT:=.leaf false (.nm 24)
abbrev BT11:BT:=.leaf false (.nm 21)
abbrev BT12:BT:=.leaf false (.nm 25)
abbrev BT13:BT:=.leaf false (.nm 36)
abbrev BT14:BT:=.leaf false (.nm 17)
abbrev BT15:BT:=.leaf false (.nm 29)
abbrev BT16:BT:=.leaf false (.nm 23)
abbrev BT17:BT:=.leaf false (.nm 20)
abbrev BT18:BT:=.leaf false (.nm 28)
abbrev BT19:BT:=.leaf false (.nm 16)
abbrev BT20:BT:=.leaf false (.nm 22)
abbrev BT21:BT:=.leaf false (.nm 26)
abbrev BT22:BT:=.leaf false (.nm 27)
abbrev BT23:BT:=.leaf false (.nm 37)
abbrev BT24:BT:=.leaf false (.nm 38)
abbrev BT25:BT:=.leaf false (.sl .str)
abbrev BT26:BT:=.leaf true (.sl .bool)
abbrev BT27:BT:=.leaf true (.int .i64)
abbrev BT28:BT:=.leaf false (.int .u8)
abbrev BT29:BT:=.leaf false (.int .i64)
abbrev BT30:BT:=.leaf false (.sl .bool)
abbrev BT31:BT:=.leaf false (.int .u64)
abbrev BT32:BT:=.leaf false (.int .i32)
abbrev BT33:BT:=.leaf false (.sl (.nm 4))
abbrev BT34:BT:=.leaf false (.sl (.nm 8))
abbrev BT35:BT:=.leaf false (.sl (.nm 1))
abbrev BT36:BT:=.leaf false (.sl (.nm 7))
abbrev BT37:BT:=.leaf true (.sl (.nm 36))
abbrev BT38:BT:=.leaf false (.sl (.nm 19))
abbrev BT39:BT:=.leaf false (.sl (.nm 14))
abbrev BT40:BT:=.leaf false (.sl (.nm 29))
abbrev BT41:BT:=.leaf false (.sl (.nm 23))
abbrev BT42:BT:=.leaf false (.sl (.nm 16))
abbrev BT43:BT:=.leaf false (.sl (.nm 22))
abbrev BT44:BT:=.leaf false (.sl (.nm 27))
abbrev BT45:BT:=.leaf false (.sl (.nm 11))
abbrev BT46:BT:=.leaf false (.sl (.nm 12))
abbrev BT47:BT:=.leaf false (.sl (.nm 26))
abbrev BT48:BT:=.leaf true (.sl (.int .u8))
abbrev BT49:BT:=.leaf false (.sl (.int .u8))
abbrev BT50:BT:=.leaf false (.sl (.int .i64))
def keyL:List KeyI:=[
 ⟨0,[],[]⟩,
 ⟨1,[],[]⟩,
 ⟨2,[],[]⟩,
 ⟨3,[],[]⟩,
 ⟨3,[true,true,false,true,false],[.ptr 1 16,.val 3 (BT29),.slot 16 (BT7) true none]⟩,
 ⟨3,[true,true,true,false,true,false],[.ptr 1 16,.val 4 (BT29),.slot 16 (BT7) true none]⟩,
 ⟨3,[true,true,true,true,false,true,false],[.ptr 1 16,.val 5 (BT29),.slot 16 (BT7) true none]⟩,
 ⟨4,[],[]⟩,
 ⟨4,[true,true,false,true,false],[.ptr 1 16,.val 36 (BT38),.val 37 (BT29),.val 38 (BT29),.slot 16 (BT7) true none]⟩,
 ⟨5,[],[]⟩,
 ⟨6,[],[]⟩,
 ⟨7,[],[]⟩,
 ⟨7,[true,true,true,false,true,false],[.val 0 (BT33),.val 1 (BT29),.val 5 (BT29)]⟩,
 ⟨8,[],[]⟩,
 ⟨8,[true,true,true,false,true,false],[.val 0 (BT39),.val 1 (BT29),.val 5 (BT29)]⟩,
 ⟨9,[],[]⟩,
 ⟨10,[],[]⟩,
 ⟨11,[],[]⟩,
 ⟨11,[true,true,true,false,true,false],[.val 0 (BT34),.val 1 (BT29),.val 5 (BT29)]⟩,
 ⟨12,[],[]⟩,
 ⟨13,[],[]⟩,
 ⟨13,[true,true,false,true,false],[.val 0 (BT33),.own 3 48 (.leaf true (.sl (.nm 19))),.val 4 (BT29)]⟩,
 ⟨14,[],[]⟩,
 ⟨14,[true,true,false,true,false],[.val 0 (BT39),.own 3 48 (.leaf true (.sl (.nm 29))),.val 4 (BT29)]⟩,
 ⟨15,[],[]⟩,
 ⟨16,[],[]⟩,
 ⟨16,[true,true,false,true,false],[.val 0 (BT50),.own 3 48 (.leaf true (.sl (.int .i64))),.val 4 (BT29)]⟩,
 ⟨17,[],[]⟩,
 ⟨17,[true,true,false,true,false],[.val 0 (BT34),.own 3 48 (.leaf true (.sl (.nm 23))),.val 4 (BT29)]⟩,
 ⟨18,[],[]⟩,
 ⟨18,[true,false,true,false],[.ptr 1 16,.val 3 (BT29),.slot 16 (BT8) true none]⟩,
 ⟨18,[true,true,false,true,false],[.ptr 1 16,.val 4 (BT29),.slot 16 (BT8) true none]⟩,
 ⟨19,[],[]⟩,
 ⟨20,[],[]⟩,
 ⟨21,[],[]⟩,
 ⟨21,[true,false,true,false],[.val 0 (BT50),.val 3 (BT29)]⟩,
 ⟨22,[],[]⟩,
 ⟨22,[true,true,true,false,true,false],[.ptr 3 48,.ptr 4 64,.val 2 (BT29),.val 7 (BT29),.val 9 (BT29),.slot 48 (BT8) true none,.slot 64 (BT9) true none]⟩,
 ⟨22,[true,true,true,true,false,true,false],[.ptr 3 48,.ptr 4 64,.val 2 (BT29),.val 7 (BT29),.val 10 (BT29),.slot 48 (BT8) true none,.slot 64 (BT9) true none]⟩,
 ⟨23,[],[]⟩,
 ⟨24,[],[]⟩,
 ⟨25,[],[]⟩,
 ⟨26,[],[]⟩,
 ⟨27,[],[]⟩,
 ⟨28,[],[]⟩,
 ⟨29,[],[]⟩,
 ⟨30,[],[]⟩,
 ⟨31,[],[]⟩,
 ⟨32,[],[]⟩,
 ⟨33,[],[]⟩,
 ⟨33,[true,true,false,true,false],[.val 0 (BT38),.val 1 (BT38),.val 5 (BT29)]⟩,
 ⟨34,[],[]⟩,
 ⟨34,[true,true,false,true,false],[.val 0 (BT40),.val 1 (BT40),.val 5 (BT29)]⟩,
 ⟨35,[],[]⟩,
 ⟨36,[],[]⟩,
 ⟨36,[true,true,false,true,false],[.val 0 (BT50),.val 1 (BT50),.val 5 (BT29)]⟩,
 ⟨37,[],[]⟩,
 ⟨37,[true,true,false,true,false],[.val 0 (BT41),.val 1 (BT41),.val 5 (BT29)]⟩,
 ⟨38,[],[]⟩,
 ⟨38,[true,true,true,false,true,false],[.val 0 (BT25),.val 1 (BT29),.val 5 (BT29)]⟩,
 ⟨39,[],[]⟩,
 ⟨39,[true,true,true,false,true,false],[.val 0 (BT35),.val 1 (BT29),.val 5 (BT29)]⟩,
 ⟨40,[],[]⟩,
 ⟨41,[],[]⟩,
 ⟨42,[],[]⟩,
 ⟨43,[],[]⟩,
 ⟨43,[true,true,false,true,false],[.val 0 (BT25),.own 3 48 (.leaf true (.sl .str)),.val 4 (BT29)]⟩,
 ⟨44,[],[]⟩,
 ⟨44,[true,true,false,true,false],[.val 0 (BT35),.own 3 48 (.leaf true (.sl (.nm 16))),.val 4 (BT29)]⟩,
 ⟨45,[],[]⟩,
 ⟨46,[],[]⟩,
 ⟨47,[],[]⟩,
 ⟨48,[],[]⟩,
 ⟨48,[true,false,true,false],[.val 0 (BT0),.val 3 (BT29)]⟩,
 ⟨49,[],[]⟩,
 ⟨49,[true,false,true,false],[.val 0 (BT25),.val 1 (BT0),.val 5 (BT29)]⟩,
 ⟨50,[],[]⟩,
 ⟨50,[true,true,true,false,true,false],[.val 0 (BT42),.val 1 (BT29),.val 2 (BT29),.val 7 (BT29),.val 8 (BT29)]⟩,
 ⟨51,[],[]⟩,
 ⟨52,[],[]⟩,
 ⟨53,[],[]⟩,
 ⟨53,[true,false,true,false],[.ptr 2 32,.ptr 3 48,.val 5 (BT29),.slot 32 (BT8) true none,.slot 48 (BT10) true none]⟩,
 ⟨54,[],[]⟩,
 ⟨55,[],[]⟩,
 ⟨55,[true,false,true,false],[.val 0 (BT43),.val 1 (BT29),.val 5 (BT29)]⟩,
 ⟨56,[],[]⟩,
 ⟨56,[true,false,true,false],[.val 0 (BT0),.val 3 (BT29)]⟩,
 ⟨57,[],[]⟩,
 ⟨57,[true,false,true,false],[.val 0 (BT25),.val 5 (BT25),.val 6 (BT29),.val 7 (BT29)]⟩,
 ⟨58,[],[]⟩,
 ⟨59,[],[]⟩,
 ⟨60,[],[]⟩,
 ⟨61,[],[]⟩,
 ⟨62,[],[]⟩,
 ⟨63,[],[]⟩,
 ⟨64,[],[]⟩,
 ⟨65,[],[]⟩,
 ⟨66,[],[]⟩,
 ⟨66,[true,false,true,false],[.clo 1 72 [16],.val 0 (BT40),.val 7 (BT29),.val 8 (BT29),.slot 16 (BT7) true none]⟩,
 ⟨67,[],[]⟩,
 ⟨68,[],[]⟩,
 ⟨68,[true,false,true,false],[.clo 1 76 [],.val 0 (BT41),.val 7 (BT29),.val 8 (BT29)]⟩,
 ⟨69,[],[]⟩,
 ⟨69,[true,true,false,true,false],[.val 0 (BT25),.val 1 (BT25),.val 5 (BT29)]⟩,
 ⟨70,[],[]⟩,
 ⟨70,[true,true,false,true,false],[.val 0 (BT42),.val 1 (BT42),.val 5 (BT29)]⟩,
 ⟨71,[],[]⟩,
 ⟨72,[],[]⟩,
 ⟨73,[],[]⟩,
 ⟨74,[],[]⟩,
 ⟨75,[],[]⟩,
 ⟨76,[],[]⟩,
 ⟨77,[],[]⟩,
 ⟨78,[],[]⟩,
 ⟨79,[],[]⟩,
 ⟨79,[true,true,true,false,true,false],[.val 0 (BT36),.val 1 (BT29),.val 5 (BT29)]⟩,
 ⟨80,[],[]⟩,
 ⟨81,[],[]⟩,
 ⟨82,[],[]⟩,
 ⟨82,[true,true,false,true,false],[.val 0 (BT30),.own 3 48 (BT26),.val 4 (BT29)]⟩,
 ⟨83,[],[]⟩,
 ⟨84,[],[]⟩,
 ⟨85,[],[]⟩,
 ⟨85,[true,true,false,true,false],[.val 0 (BT36),.own 3 48 (.leaf true (.sl (.nm 22))),.val 4 (BT29)]⟩,
 ⟨86,[],[]⟩,
 ⟨87,[],[]⟩,
 ⟨88,[],[]⟩,
 ⟨88,[true,false,true,false,true,true,true,true,true],[.ptr 4 64,.val 1 (BT29),.val 2 (BT29),.val 3 (BT29),.val 12 (BT29),.val 28 (BT1),.slot 64 (BT2) true none]⟩,
 ⟨88,[true,false,true,false,true,true,true,true,true,true,true],[.ptr 4 64,.val 1 (BT29),.val 3 (BT29),.val 12 (BT29),.val 46 (BT1),.slot 64 (BT2) true none]⟩,
 ⟨88,[true,false,true,false,true,true,true,true,true,true,true,true,true],[.ptr 4 64,.val 1 (BT29),.val 12 (BT29),.val 65 (BT1),.slot 64 (BT2) true none]⟩,
 ⟨88,[true,false,true,false,true,true,true,true,true,true,true,true,true,true,true,true,true],[.ptr 4 64,.val 1 (BT29),.val 12 (BT29),.val 91 (BT1),.slot 64 (BT2) true none]⟩,
 ⟨89,[],[]⟩,
 ⟨89,[true,true,true,false,true,false],[.ptr 1 16,.val 3 (BT29),.val 4 (BT29),.slot 16 (BT11) true none]⟩,
 ⟨90,[],[]⟩,
 ⟨90,[true,false,true,false],[.ptr 3 48,.val 1 (BT29),.val 2 (BT29),.val 7 (BT29),.slot 48 (BT12) true none]⟩,
 ⟨90,[true,true,false,true,false],[.ptr 3 48,.val 1 (BT29),.val 2 (BT29),.val 8 (BT29),.slot 48 (BT12) true none]⟩,
 ⟨91,[],[]⟩,
 ⟨92,[],[]⟩,
 ⟨92,[true,false,true,false],[.clo 1 165 [16],.val 0 (BT25),.val 7 (BT29),.val 8 (BT29),.slot 16 (BT8) true none]⟩,
 ⟨93,[],[]⟩,
 ⟨94,[],[]⟩,
 ⟨95,[],[]⟩,
 ⟨95,[true,true,true,false,true,false],[.val 3 (BT29),.val 28 (BT43),.val 29 (BT29),.val 30 (BT29)]⟩,
 ⟨96,[],[]⟩,
 ⟨96,[true,true,false,true,false],[.ptr 3 48,.val 2 (BT29),.val 38 (BT44),.val 39 (BT29),.val 40 (BT29),.slot 48 (BT12) true none]⟩,
 ⟨97,[],[]⟩,
 ⟨98,[],[]⟩,
 ⟨98,[true,false,true,false],[.clo 1 171 [16,17],.val 0 (BT40),.val 7 (BT29),.val 8 (BT29),.slot 16 (BT27) true none,.slot 17 (BT9) true none]⟩,
 ⟨99,[],[]⟩,
 ⟨100,[],[]⟩,
 ⟨100,[true,false,true,false],[.clo 1 175 [16,17],.val 0 (BT50),.val 7 (BT29),.val 8 (BT29),.slot 16 (BT27) true none,.slot 17 (BT27) true none]⟩,
 ⟨101,[],[]⟩,
 ⟨102,[],[]⟩,
 ⟨103,[],[]⟩,
 ⟨104,[],[]⟩,
 ⟨104,[true,true,false,true,false],[.val 0 (BT30),.val 1 (BT30),.val 5 (BT29)]⟩,
 ⟨105,[],[]⟩,
 ⟨106,[],[]⟩,
 ⟨107,[],[]⟩,
 ⟨107,[true,true,false,true,false],[.val 0 (BT43),.val 1 (BT43),.val 5 (BT29)]⟩,
 ⟨108,[],[]⟩,
 ⟨109,[],[]⟩,
 ⟨110,[],[]⟩,
 ⟨111,[],[]⟩,
 ⟨112,[],[]⟩,
 ⟨113,[],[]⟩,
 ⟨114,[],[]⟩,
 ⟨114,[true,true,false,true,false],[.val 0 (BT49),.own 3 48 (BT48),.val 4 (BT29)]⟩,
 ⟨115,[],[]⟩,
 ⟨116,[],[]⟩,
 ⟨117,[],[]⟩,
 ⟨118,[],[]⟩,
 ⟨119,[],[]⟩,
 ⟨120,[],[]⟩,
 ⟨121,[],[]⟩,
 ⟨121,[true,true,false,false],[.val 0 (BT0),.val 1 (BT29),.val 5 (BT29)]⟩,
 ⟨122,[],[]⟩,
 ⟨122,[true,false,true,false,true],[.val 0 (BT0),.val 4 (BT1)]⟩,
 ⟨123,[],[]⟩,
 ⟨124,[],[]⟩,
 ⟨124,[true,false,true,false],[.clo 1 239 [16,17,18],.val 0 (BT42),.val 7 (BT29),.val 8 (BT29),.slot 16 (BT42) true none,.slot 17 (BT27) true none,.slot 18 (BT27) true none]⟩,
 ⟨125,[],[]⟩,
 ⟨126,[],[]⟩,
 ⟨127,[],[]⟩,
 ⟨128,[],[]⟩,
 ⟨129,[],[]⟩,
 ⟨129,[true,false,true,false],[.clo 1 242 [],.val 0 (BT50),.val 7 (BT29),.val 8 (BT29)]⟩,
 ⟨130,[],[]⟩,
 ⟨131,[],[]⟩,
 ⟨132,[],[]⟩,
 ⟨133,[],[]⟩,
 ⟨134,[],[]⟩,
 ⟨135,[],[]⟩,
 ⟨135,[true,true,false,true,false],[.val 0 (BT49),.val 1 (BT49),.val 5 (BT29)]⟩,
 ⟨136,[],[]⟩,
 ⟨137,[],[]⟩,
 ⟨137,[true,true,true,false,true,false],[.val 0 (BT45),.val 1 (BT29),.val 5 (BT29)]⟩,
 ⟨138,[],[]⟩,
 ⟨138,[true,true,true,false,true,false],[.val 0 (BT46),.val 1 (BT29),.val 5 (BT29)]⟩,
 ⟨139,[],[]⟩,
 ⟨139,[true,true,false,true,false],[.val 0 (BT45),.own 3 48 (.leaf true (.sl (.nm 26))),.val 4 (BT29)]⟩,
 ⟨140,[],[]⟩,
 ⟨140,[true,true,false,true,false],[.val 0 (BT46),.own 3 48 (.leaf true (.sl (.nm 27))),.val 4 (BT29)]⟩,
 ⟨141,[],[]⟩,
 ⟨141,[true,true,false,false],[.ptr 0 0,.ptr 4 64,.val 1 (BT29),.own 5 80 (BT37),.slot 0 (BT3) true none,.slot 64 (BT4) true none]⟩,
 ⟨142,[],[]⟩,
 ⟨142,[true,true,false,true,false],[.ptr 1 16,.val 3 (BT29),.val 4 (BT29),.slot 16 (BT13) true none]⟩,
 ⟨143,[],[]⟩,
 ⟨143,[true,true,true,false,false],[.val 0 (BT0),.val 4 (BT29),.val 5 (BT29)]⟩,
 ⟨144,[],[]⟩,
 ⟨145,[],[]⟩,
 ⟨146,[],[]⟩,
 ⟨147,[],[]⟩,
 ⟨148,[],[]⟩,
 ⟨149,[],[]⟩,
 ⟨149,[true,false,true,false],[.clo 1 283 [],.val 0 (BT47),.val 7 (BT29),.val 8 (BT29)]⟩,
 ⟨150,[],[]⟩,
 ⟨151,[],[]⟩,
 ⟨152,[],[]⟩,
 ⟨153,[],[]⟩,
 ⟨154,[],[]⟩,
 ⟨155,[],[]⟩,
 ⟨155,[true,true,false,true,false],[.val 0 (BT47),.val 1 (BT47),.val 5 (BT29)]⟩,
 ⟨156,[],[]⟩,
 ⟨156,[true,true,false,true,false],[.val 0 (BT44),.val 1 (BT44),.val 5 (BT29)]⟩,
 ⟨157,[],[]⟩,
 ⟨158,[],[]⟩,
 ⟨159,[],[]⟩,
 ⟨160,[],[]⟩,
 ⟨161,[],[]⟩,
 ⟨161,[true,true,false,false],[.ptr 0 0,.ptr 4 64,.val 1 (BT29),.own 5 80 (BT37),.slot 0 (BT3) true none,.slot 64 (BT4) true none]⟩,
 ⟨162,[],[]⟩,
 ⟨163,[],[]⟩,
 ⟨164,[],[]⟩,
 ⟨164,[true,true,false,false],[.val 0 (BT0),.val 4 (BT29)]⟩,
 ⟨164,[true,true,true,true,true],[.val 0 (BT0),.val 4 (BT29),.val 5 (BT1)]⟩,
 ⟨164,[true,true,true,true,true,true,false,false],[.val 0 (BT0),.val 4 (BT29),.val 5 (BT1),.val 6 (BT29),.val 7 (BT29)]⟩,
 ⟨164,[true,true,true,true,true,true,true,false,true,false,true,true,false],[.val 0 (BT0),.val 4 (BT29),.val 5 (BT1),.val 6 (BT29),.val 7 (BT29),.val 8 (BT29)]⟩,
 ⟨164,[true,true,true,true,true,true,true,true],[.val 4 (BT29),.val 5 (BT1),.val 6 (BT29),.val 7 (BT29)]⟩,
 ⟨165,[],[]⟩,
 ⟨165,[true,false,true,false],[.val 0 (BT25),.val 1 (BT0),.val 7 (BT29),.val 8 (BT29)]⟩,
 ⟨166,[],[]⟩,
 ⟨166,[true,true,true,false,true,false,true,true,true],[.ptr 4 64,.val 1 (BT29),.val 2 (BT29),.val 3 (BT29),.val 56 (BT29),.val 62 (BT1),.slot 64 (BT2) true none]⟩,
 ⟨166,[true,true,true,false,true,false,true,true,true,true,true],[.ptr 4 64,.val 1 (BT29),.val 3 (BT29),.val 56 (BT29),.val 75 (BT1),.slot 64 (BT2) true none]⟩,
 ⟨166,[true,true,true,false,true,false,true,true,true,true,true,true,true],[.ptr 4 64,.val 1 (BT29),.val 56 (BT29),.val 89 (BT1),.slot 64 (BT2) true none]⟩,
 ⟨166,[true,true,true,false,true,false,true,true,true,true,true,true,true,true,true,true,true],[.ptr 4 64,.val 1 (BT29),.val 56 (BT29),.val 106 (BT1),.slot 64 (BT2) true none]⟩,
 ⟨167,[],[]⟩,
 ⟨168,[],[]⟩,
 ⟨169,[],[]⟩,
 ⟨169,[true,true,true,true],[.val 0 (BT0),.val 4 (BT29),.val 5 (BT1)]⟩,
 ⟨169,[true,true,true,true,true,true,true,true,true],[.val 4 (BT29),.val 5 (BT1),.val 7 (BT0),.val 8 (BT0)]⟩,
 ⟨170,[],[]⟩,
 ⟨171,[],[]⟩,
 ⟨172,[],[]⟩,
 ⟨173,[],[]⟩,
 ⟨174,[],[]⟩,
 ⟨175,[],[]⟩,
 ⟨175,[true,true,false,false],[.ptr 0 0,.ptr 4 64,.ptr 5 80,.slot 0 (BT3) true none,.slot 64 (BT4) true none,.slot 80 (BT4) true none]⟩,
 ⟨175,[true,true,false,false,false,true,false,true,true],[.ptr 0 0,.ptr 4 64,.ptr 5 80,.val 6 (BT29),.slot 0 (BT3) true none,.slot 64 (BT4) true none,.slot 80 (BT4) true none]⟩,
 ⟨176,[],[]⟩,
 ⟨177,[],[]⟩,
 ⟨177,[true,true,true,true,true],[.val 0 (BT29),.val 4 (BT25),.val 5 (BT0)]⟩,
 ⟨177,[true,true,true,true,false,true,false,true,true,true],[.val 0 (BT29),.val 4 (BT25),.val 5 (BT0),.val 13 (BT29),.val 16 (BT1)]⟩,
 ⟨177,[true,true,true,true,false,true,false,true,true,true,true,true,true,true],[.val 0 (BT29),.val 4 (BT25),.val 5 (BT0),.val 22 (BT1)]⟩,
 ⟨178,[],[]⟩,
 ⟨179,[],[]⟩,
 ⟨180,[],[]⟩,
 ⟨181,[],[]⟩,
 ⟨181,[true,true,false,false],[.val 0 (BT0),.val 1 (BT29),.val 5 (BT29)]⟩,
 ⟨182,[],[]⟩,
 ⟨183,[],[]⟩,
 ⟨183,[true,false,false],[.val 0 (BT0),.val 1 (BT28)]⟩,
 ⟨184,[],[]⟩,
 ⟨184,[true,false,false],[.val 0 (BT0),.val 1 (BT28)]⟩,
 ⟨185,[],[]⟩,
 ⟨186,[],[]⟩,
 ⟨186,[true,false,true,false],[.clo 1 244 [16],.val 0 (BT43),.val 7 (BT29),.val 8 (BT29),.slot 16 (BT27) true none]⟩,
 ⟨187,[],[]⟩,
 ⟨187,[true,true,true,true,true],[.ptr 4 64,.val 5 (BT28),.slot 0 (BT3) true none,.slot 64 (BT4) true none]⟩,
 ⟨188,[],[]⟩,
 ⟨189,[],[]⟩,
 ⟨190,[],[]⟩,
 ⟨191,[],[]⟩,
 ⟨192,[],[]⟩,
 ⟨193,[],[]⟩,
 ⟨193,[true,true,true],[.ptr 0 0,.ptr 2 32,.ptr 3 48,.slot 0 (BT3) true none,.slot 32 (BT4) true none,.slot 48 (BT4) true none]⟩,
 ⟨193,[true,true,true,true,true,false,false],[.ptr 0 0,.ptr 2 32,.ptr 3 48,.own 4 64 (BT26),.val 5 (BT29),.slot 0 (BT3) true none,.slot 32 (BT4) true none,.slot 48 (BT4) true none]⟩,
 ⟨193,[true,true,true,true,true,false,false,false,true,false,true,true,true,true],[.ptr 0 0,.ptr 2 32,.ptr 3 48,.own 4 64 (BT26),.val 5 (BT29),.val 6 (BT29),.val 7 (BT29),.slot 0 (BT3) true none,.slot 32 (BT4) true none,.slot 48 (BT4) true none]⟩,
 ⟨193,[true,true,true,true,true,true,true],[.ptr 0 0,.ptr 2 32,.ptr 3 48,.val 4 (BT30),.slot 0 (BT3) true none,.slot 32 (BT4) true none,.slot 48 (BT4) true none]⟩,
 ⟨193,[true,true,true,true,true,false,false,false,true,false,true,true,true,true,true],[.ptr 0 0,.ptr 2 32,.ptr 3 48,.own 4 64 (BT26),.val 5 (BT29),.val 6 (BT29),.val 7 (BT29),.slot 0 (BT3) true none,.slot 32 (BT4) true none,.slot 48 (BT4) true none]⟩,
 ⟨193,[true,true,true,true,true,true,true,true,true,false,true,false],[.ptr 2 32,.ptr 3 48,.val 4 (BT30),.own 9 144 (BT48),.val 10 (BT29),.slot 0 (BT3) true none,.slot 32 (BT4) true none,.slot 48 (BT4) true none]⟩,
 ⟨193,[true,true,true,true,true,false,false,false,true,false,true,true,true,true,true,false,true,false],[.ptr 0 0,.ptr 2 32,.ptr 3 48,.own 4 64 (BT26),.val 5 (BT29),.val 7 (BT29),.val 8 (BT29),.slot 0 (BT3) true none,.slot 32 (BT4) true none,.slot 48 (BT4) true none]⟩,
 ⟨194,[],[]⟩,
 ⟨194,[true,true,false,false],[.ptr 0 0,.ptr 2 32,.own 3 48 (BT37),.slot 0 (BT5) true none,.slot 32 (BT4) true none]⟩,
 ⟨195,[],[]⟩,
 ⟨195,[true,true,false,true,false],[.val 3 (BT29),.val 7 (.leaf false (.sl (.nm 36))),.val 8 (BT29),.val 9 (BT29)]⟩,
 ⟨196,[],[]⟩,
 ⟨197,[],[]⟩,
 ⟨197,[true,true,false,true,false,true,true],[.val 0 (BT0),.val 5 (BT0)]⟩,
 ⟨197,[true,true,false,true,false,true,true,true,false,true,false],[.val 5 (BT0),.val 6 (BT29),.val 47 (BT49),.val 48 (BT29),.val 49 (BT29)]⟩,
 ⟨198,[],[]⟩,
 ⟨198,[true,true,false,false],[.ptr 0 0,.ptr 2 32,.own 3 48 (BT37),.slot 0 (BT5) true none,.slot 32 (BT4) true none]⟩,
 ⟨199,[],[]⟩,
 ⟨200,[],[]⟩,
 ⟨201,[],[]⟩,
 ⟨201,[true,true,true,true],[.val 0 (BT0),.val 1 (BT29),.val 2 (BT29),.val 8 (BT1)]⟩,
 ⟨201,[true,true,true,true,true,true,true,true],[.val 2 (BT29),.val 8 (BT1),.val 9 (BT31)]⟩,
 ⟨202,[],[]⟩,
 ⟨203,[],[]⟩,
 ⟨203,[true,true,false],[.ptr 0 0,.ptr 2 32,.ptr 3 48,.slot 0 (BT5) true none,.slot 32 (BT4) true none,.slot 48 (BT4) true none]⟩,
 ⟨204,[],[]⟩,
 ⟨204,[true,true,true,true,true],[.val 0 (BT0),.val 1 (BT29),.val 2 (BT29),.val 8 (BT1),.val 9 (BT0)]⟩,
 ⟨204,[true,true,true,true,true,true],[.val 0 (BT0),.val 1 (BT29),.val 2 (BT29),.val 8 (BT1),.val 9 (BT0)]⟩,
 ⟨204,[true,true,true,true,true,true,true,true],[.val 0 (BT0),.val 1 (BT29),.val 2 (BT29),.val 8 (BT1),.val 9 (BT0),.val 10 (BT31)]⟩,
 ⟨204,[true,true,true,true,true,true,true,true,true,true,true,false,true,false],[.val 1 (BT29),.val 8 (BT1),.val 9 (BT0),.val 10 (BT31),.val 11 (BT31),.val 12 (BT1),.val 13 (BT31),.val 99 (BT49),.val 100 (BT29),.val 101 (BT29)]⟩,
 ⟨204,[true,true,true,true,true,true,true,true,true,true,true,false,true,false,false,true,true,false,false,true,true,true],[.val 1 (BT29),.val 8 (BT1),.val 9 (BT0),.val 10 (BT31),.val 11 (BT31),.val 12 (BT1),.val 13 (BT31),.val 16 (BT28),.val 99 (BT49),.val 100 (BT29),.val 101 (BT29)]⟩,
 ⟨205,[],[]⟩,
 ⟨205,[true,true,true,false,true,false,true,true,true,true,true,true,true,true,true,true,true,true,true],[.ptr 0 0,.ptr 2 32,.val 3 (BT28),.val 70 (BT1),.slot 0 (BT5) true none,.slot 32 (BT4) true none]⟩,
 ⟨206,[],[]⟩,
 ⟨207,[],[]⟩,
 ⟨208,[],[]⟩,
 ⟨208,[true,true,true,true],[.val 0 (BT0),.val 3 (BT32),.val 4 (BT29)]⟩,
 ⟨208,[true,true,true,true,true,true],[.val 0 (BT0),.val 3 (BT32),.val 4 (BT29),.val 5 (BT1)]⟩,
 ⟨208,[true,true,true,true,true,true,false,false],[.val 0 (BT0),.val 3 (BT32),.val 4 (BT29),.val 5 (BT1)]⟩,
 ⟨209,[],[]⟩,
 ⟨209,[true,true,true,true,true,true,true,false,true,false],[.ptr 0 0,.ptr 2 32,.ptr 3 48,.val 5 (BT0),.own 6 96 (BT26),.val 7 (BT29),.slot 0 (BT5) true none,.slot 32 (BT4) true none,.slot 48 (BT4) true none]⟩,
 ⟨209,[true,true,true,true,true,true,true,false,true,false,false,true,false,false,true,true],[.ptr 0 0,.ptr 2 32,.ptr 3 48,.val 5 (BT0),.own 6 96 (BT26),.val 7 (BT29),.val 8 (BT29),.val 9 (BT29),.slot 0 (BT5) true none,.slot 32 (BT4) true none,.slot 48 (BT4) true none]⟩,
 ⟨209,[true,true,true,true,true,true,true,true,true,false,true,false],[.ptr 2 32,.ptr 3 48,.own 11 176 (BT48),.val 100 (BT30),.val 101 (BT29),.val 102 (BT29),.slot 0 (BT5) true none,.slot 32 (BT4) true none,.slot 48 (BT4) true none]⟩,
 ⟨209,[true,true,true,true,true,true,true,false,true,false,false,true,false,false,true,true,true,false],[.ptr 0 0,.ptr 2 32,.ptr 3 48,.val 5 (BT0),.own 6 96 (BT26),.val 7 (BT29),.val 9 (BT29),.val 10 (BT29),.slot 0 (BT5) true none,.slot 32 (BT4) true none,.slot 48 (BT4) true none]⟩,
 ⟨210,[],[]⟩]
def entR:List EntI:=[
 ⟨3,.skip,[],[.val (BT6)],[BT1],[],[(13,1),(16,1),(24,1)],0,[],false⟩,
 ⟨10,.skip,[],[.val (BT6),.val (BT29)],[BT29],[],[],0,[],false⟩,
 ⟨12,.skip,[],[.val (BT6)],[BT7],[],[(6,1),(13,1),(17,1),(25,1),(29,1),(33,1)],0,[],false⟩,
 ⟨11,.skip,[],[.val (BT7)],[BT1],[],[],0,[(58,4),(122,5),(250,6)],false⟩,
 ⟨13,.skip,[],[.val (BT7)],[BT1],[],[],0,[(58,8)],false⟩,
 ⟨14,.skip,[],[.val (BT7),.val (BT7)],[BT1],[],[],0,[],false⟩,
 ⟨15,.skip,[],[.val (.leaf false (.nm 0)),.val (BT29)],[BT29],[],[],0,[],false⟩,
 ⟨50,.skip,[],[.val (BT33),.val (BT29)],[BT29],[],[],0,[(122,12)],false⟩,
 ⟨51,.skip,[],[.val (BT39),.val (BT29)],[BT29],[],[],0,[(122,14)],false⟩,
 ⟨52,.skip,[],[.val (.leaf false (.nm 2)),.val (BT29)],[BT29],[],[],0,[],false⟩,
 ⟨53,.skip,[],[.val (BT50),.val (BT29)],[BT29],[],[],0,[],false⟩,
 ⟨54,.skip,[],[.val (BT34),.val (BT29)],[BT29],[],[],0,[(122,18)],false⟩,
 ⟨19,.skip,[],[.val (.leaf false (.nm 0))],[BT8],[],[(6,1),(10,1),(14,1),(18,1)],0,[],false⟩,
 ⟨62,.skip,[],[.val (BT33)],[BT38],[],[],0,[(58,21)],false⟩,
 ⟨63,.skip,[],[.val (BT39)],[.leaf true (.sl (.nm 29))],[],[],0,[(58,23)],false⟩,
 ⟨64,.skip,[],[.val (.leaf false (.nm 2))],[BT14],[],[],0,[],false⟩,
 ⟨65,.skip,[],[.val (BT50)],[.leaf true (.sl (.int .i64))],[],[],0,[(58,26)],false⟩,
 ⟨66,.skip,[],[.val (BT34)],[BT41],[],[],0,[(58,28)],false⟩,
 ⟨55,.skip,[],[.val (BT8)],[BT1],[],[],0,[(26,30),(58,31)],false⟩,
 ⟨56,.skip,[],[.val (BT29),.val (BT29),.val (BT29)],[BT1],[],[],0,[],false⟩,
 ⟨57,.skip,[],[.val (BT14)],[BT1],[],[],0,[],false⟩,
 ⟨58,.skip,[],[.val (BT50)],[BT1],[],[],0,[(26,35)],false⟩,
 ⟨59,.skip,[],[.val (BT8),.val (BT9),.val (BT29)],[BT1],[],[],0,[(122,37),(250,38)],false⟩,
 ⟨60,.skip,[],[.val (BT15),.val (BT29)],[BT1],[],[],0,[],false⟩,
 ⟨61,.skip,[],[.val (BT16)],[BT1],[],[],0,[],false⟩,
 ⟨67,.skip,[],[.val (BT8)],[BT1],[],[],0,[],false⟩,
 ⟨68,.skip,[],[.val (BT29),.val (BT29),.val (BT29)],[BT1],[],[],0,[],false⟩,
 ⟨69,.skip,[],[.val (BT14)],[BT1],[],[],0,[],false⟩,
 ⟨70,.skip,[],[.val (BT8),.val (BT9),.val (BT29)],[BT1],[],[],0,[],false⟩,
 ⟨71,.skip,[],[.val (BT40),.clo 72 [BT7]],[BT1],[(16,.box)],[],0,[],false⟩,
 ⟨74,.skip,[],[.val (BT50),.val (BT29),.val (BT29),.val (BT29)],[BT1],[],[],0,[],false⟩,
 ⟨75,.skip,[],[.val (BT41),.clo 76 []],[BT1],[],[],0,[],false⟩,
 ⟨24,.skip,[],[.val (BT8),.val (BT8)],[BT1],[],[],0,[],false⟩,
 ⟨78,.skip,[],[.val (BT38),.val (BT38)],[BT1],[],[],0,[(58,50)],false⟩,
 ⟨79,.skip,[],[.val (BT40),.val (BT40)],[BT1],[],[],0,[(58,52)],false⟩,
 ⟨80,.skip,[],[.val (BT14),.val (BT14)],[BT1],[],[],0,[],false⟩,
 ⟨81,.skip,[],[.val (BT50),.val (BT50)],[BT1],[],[],0,[(58,55)],false⟩,
 ⟨82,.skip,[],[.val (BT41),.val (BT41)],[BT1],[],[],0,[(58,57)],false⟩,
 ⟨83,.skip,[],[.val (BT25),.val (BT29)],[BT29],[],[],0,[(122,59)],false⟩,
 ⟨84,.skip,[],[.val (BT35),.val (BT29)],[BT29],[],[],0,[(122,61)],false⟩,
 ⟨16,.skip,[],[.val (.leaf false (.nm 4)),.val (BT29)],[BT29],[],[],0,[],false⟩,
 ⟨154,.skip,[],[.val (.leaf false (.nm 14)),.val (BT29)],[BT29],[],[],0,[],false⟩,
 ⟨17,.skip,[],[.val (.leaf false (.nm 8)),.val (BT29)],[BT29],[],[],0,[],false⟩,
 ⟨90,.skip,[],[.val (BT25)],[BT25],[],[],0,[(58,66)],false⟩,
 ⟨91,.skip,[],[.val (BT35)],[BT42],[],[],0,[(58,68)],false⟩,
 ⟨20,.skip,[],[.val (.leaf false (.nm 4))],[.leaf true (.nm 19)],[],[],0,[],false⟩,
 ⟨162,.skip,[],[.val (.leaf false (.nm 14))],[.leaf true (.nm 29)],[],[],0,[],false⟩,
 ⟨21,.skip,[],[.val (.leaf false (.nm 8))],[BT16],[],[],0,[],false⟩,
 ⟨155,.skip,[],[.val (BT0)],[BT1],[],[],0,[(26,73)],false⟩,
 ⟨156,.skip,[],[.val (BT25),.val (BT0)],[BT1],[],[],0,[(26,75)],false⟩,
 ⟨157,.skip,[],[.val (BT42),.val (BT29),.val (BT29)],[BT1],[],[],0,[(122,77)],false⟩,
 ⟨125,.skip,[],[.val (BT8),.val (BT17)],[BT1],[],[],0,[],false⟩,
 ⟨89,.skip,[],[.val (BT11)],[BT29,BT29],[],[],0,[],false⟩,
 ⟨158,.skip,[],[.val (BT8),.val (BT10)],[BT1],[],[],0,[(26,81)],false⟩,
 ⟨159,.skip,[],[.val (BT18)],[BT1],[],[],0,[],false⟩,
 ⟨160,.skip,[],[.val (BT43),.val (BT29)],[BT1],[],[],0,[(26,84)],false⟩,
 ⟨161,.skip,[],[.val (BT0)],[BT1],[],[],0,[(26,86)],false⟩,
 ⟨163,.skip,[],[.val (BT25)],[BT1],[],[],0,[(26,88)],false⟩,
 ⟨164,.skip,[],[.val (BT25),.clo 165 [BT8]],[BT1],[(16,.box)],[],0,[],false⟩,
 ⟨167,.skip,[],[.val (BT42),.val (BT29),.val (BT29)],[BT1],[],[],0,[],false⟩,
 ⟨168,.skip,[],[.val (BT29)],[BT1],[],[],0,[],false⟩,
 ⟨128,.skip,[],[.val (BT8),.val (BT17)],[BT1],[],[],0,[],false⟩,
 ⟨130,.skip,[],[.val (BT11)],[BT29,BT29],[],[],0,[],false⟩,
 ⟨169,.skip,[],[.val (BT8),.val (BT10)],[BT1],[],[],0,[],false⟩,
 ⟨170,.skip,[],[.val (BT18)],[BT1],[],[],0,[],false⟩,
 ⟨71,.skip,[],[.val (BT40),.clo 171 [BT29,BT9]],[BT1],[(16,.box),(17,.box)],[],0,[],false⟩,
 ⟨172,.skip,[],[.val (BT40),.clo 72 [BT7]],[BT29],[(16,.box)],[],0,[(26,98)],false⟩,
 ⟨174,.skip,[],[.val (BT50),.clo 175 [BT29,BT29]],[BT1],[(16,.box),(17,.box)],[],0,[],false⟩,
 ⟨176,.skip,[],[.val (BT41),.clo 76 []],[BT29],[],[],0,[(26,101)],false⟩,
 ⟨102,.skip,[],[.val (BT25),.val (BT25)],[BT1],[],[],0,[(58,103)],false⟩,
 ⟨103,.skip,[],[.val (BT42),.val (BT42)],[BT1],[],[],0,[(58,105)],false⟩,
 ⟨23,.skip,[],[.val (BT9),.val (BT9)],[BT1],[],[],0,[],false⟩,
 ⟨178,.skip,[],[.val (BT15),.val (BT15)],[BT1],[],[],0,[],false⟩,
 ⟨179,.skip,[],[.val (BT16),.val (BT16)],[BT1],[],[],0,[],false⟩,
 ⟨180,.skip,[],[.val (.leaf false (.nm 1)),.val (BT29)],[BT29],[],[],0,[],false⟩,
 ⟨30,.skip,[],[.val (.leaf false (.nm 5)),.val (BT29)],[BT29],[],[],0,[],false⟩,
 ⟨85,.skip,[],[.val (BT30),.val (BT29)],[BT29],[],[],0,[],false⟩,
 ⟨86,.skip,[],[.val (.leaf false (.nm 9)),.val (BT29)],[BT29],[],[],0,[],false⟩,
 ⟨87,.skip,[],[.val (.leaf false (.nm 13)),.val (BT29)],[BT29],[],[],0,[],false⟩,
 ⟨133,.skip,[],[.val (BT36),.val (BT29)],[BT29],[],[],0,[(122,115)],false⟩,
 ⟨186,.skip,[],[.val (.leaf false (.nm 1))],[BT19],[],[],0,[],false⟩,
 ⟨32,.skip,[],[.val (.leaf false (.nm 5))],[.leaf true (.nm 20)],[],[],0,[],false⟩,
 ⟨92,.skip,[],[.val (BT30)],[BT26],[],[],0,[(58,119)],false⟩,
 ⟨93,.skip,[],[.val (.leaf false (.nm 9))],[.leaf true (.nm 24)],[],[],0,[],false⟩,
 ⟨94,.skip,[],[.val (.leaf false (.nm 13))],[.leaf true (.nm 28)],[],[],0,[],false⟩,
 ⟨137,.skip,[],[.val (BT36)],[.leaf true (.sl (.nm 22))],[],[],0,[(58,123)],false⟩,
 ⟨231,.skip,[],[.val (BT28)],[BT1],[],[],0,[],false⟩,
 ⟨232,.skip,[],[.val (BT0)],[BT1],[],[(3,1),(7,1)],0,[],false⟩,
 ⟨233,.skip,[],[.val (BT19),.val (BT29),.val (BT29),.val (BT29)],[BT1],[],[(71,1),(86,1)],0,[(863,127),(3455,128),(13823,129),(221183,130)],false⟩,
 ⟨212,.skip,[],[.val (BT11)],[BT1],[],[],0,[(122,132)],false⟩,
 ⟨234,.skip,[],[.val (BT12),.val (BT29),.val (BT29)],[BT1],[],[],0,[(26,134),(58,135)],false⟩,
 ⟨235,.skip,[],[.val (BT0)],[BT1],[],[],0,[],false⟩,
 ⟨236,.skip,[],[.val (BT25),.clo 165 [BT8]],[BT29],[(16,.box)],[],0,[(26,138)],false⟩,
 ⟨238,.skip,[],[.val (BT42),.clo 239 [BT42,BT29,BT29]],[BT1],[(16,.box),(17,.box),(18,.box)],[],0,[],false⟩,
 ⟨214,.skip,[],[.val (BT29)],[BT1],[],[],0,[],false⟩,
 ⟨215,.skip,[],[.val (BT11)],[BT1],[],[],0,[(122,142)],false⟩,
 ⟨241,.skip,[],[.val (BT12),.val (BT29),.val (BT29)],[BT1],[],[],0,[(58,144)],false⟩,
 ⟨174,.skip,[],[.val (BT50),.clo 242 []],[BT1],[],[],0,[],false⟩,
 ⟨172,.skip,[],[.val (BT40),.clo 171 [BT29,BT9]],[BT29],[(16,.box),(17,.box)],[],0,[(26,147)],false⟩,
 ⟨72,.skip,[],[.val (BT15),.ptr (BT7) (BT7)],[BT1],[(16,.box)],[],0,[],false⟩,
 ⟨245,.skip,[],[.val (BT50),.clo 175 [BT29,BT29]],[BT29],[(16,.box),(17,.box)],[],0,[(26,150)],false⟩,
 ⟨76,.skip,[],[.val (BT16)],[BT1],[],[],0,[],false⟩,
 ⟨196,.skip,[],[.val (BT19),.val (BT19)],[BT1],[],[],0,[],false⟩,
 ⟨35,.skip,[],[.val (BT17),.val (BT17)],[BT1],[],[],0,[],false⟩,
 ⟨99,.skip,[],[.val (BT30),.val (BT30)],[BT1],[],[],0,[(58,155)],false⟩,
 ⟨100,.skip,[],[.val (BT10),.val (BT10)],[BT1],[],[],0,[],false⟩,
 ⟨101,.skip,[],[.val (BT18),.val (BT18)],[BT1],[],[],0,[],false⟩,
 ⟨142,.skip,[],[.val (BT43),.val (BT43)],[BT1],[],[],0,[(58,159)],false⟩,
 ⟨124,.skip,[],[.val (.leaf false (.nm 6)),.val (BT29)],[BT29],[],[],0,[],false⟩,
 ⟨181,.skip,[],[.val (.leaf false (.nm 10)),.val (BT29)],[BT29],[],[],0,[],false⟩,
 ⟨182,.skip,[],[.val (BT49),.val (BT29)],[BT29],[],[],0,[],false⟩,
 ⟨217,.skip,[],[.val (.leaf false (.nm 7)),.val (BT29)],[BT29],[],[],0,[],false⟩,
 ⟨127,.skip,[],[.val (.leaf false (.nm 6))],[.leaf true (.nm 21)],[],[],0,[],false⟩,
 ⟨187,.skip,[],[.val (.leaf false (.nm 10))],[.leaf true (.nm 25)],[],[],0,[],false⟩,
 ⟨188,.skip,[],[.val (BT49)],[BT48],[],[],0,[(58,167)],false⟩,
 ⟨222,.skip,[],[.val (.leaf false (.nm 7))],[BT20],[],[],0,[],false⟩,
 ⟨270,.skip,[],[],[BT25],[],[(1,1)],0,[],false⟩,
 ⟨271,.skip,[],[.val (BT29)],[BT1],[],[],0,[],false⟩,
 ⟨272,.skip,[],[.val (BT0)],[BT13,BT1],[],[(9,1),(14,1),(33,1)],0,[],false⟩,
 ⟨273,.skip,[],[.val (BT21)],[BT1],[],[],0,[],false⟩,
 ⟨274,.skip,[],[.val (BT22),.val (BT29),.val (BT0)],[BT1],[],[],0,[],false⟩,
 ⟨275,.skip,[],[.val (BT0),.val (BT29)],[BT29],[],[],0,[(28,175)],false⟩,
 ⟨276,.skip,[],[.val (BT0)],[BT1],[],[(14,1)],0,[(53,177)],false⟩,
 ⟨165,.skip,[],[.val (BT0),.ptr (BT8) (BT8)],[BT1],[(16,.box)],[],0,[],false⟩,
 ⟨277,.skip,[],[.val (BT42),.clo 239 [BT42,BT29,BT29]],[BT29],[(16,.box),(17,.box),(18,.box)],[],0,[(26,180)],false⟩,
 ⟨77,.skip,[],[.val (BT16)],[BT1],[],[],0,[],false⟩,
 ⟨282,.skip,[],[.val (BT47),.clo 283 []],[BT1],[],[],0,[],false⟩,
 ⟨284,.skip,[],[.val (BT21)],[BT1],[],[],0,[],false⟩,
 ⟨285,.skip,[],[.val (BT22),.val (BT22)],[BT29],[],[],0,[],false⟩,
 ⟨245,.skip,[],[.val (BT50),.clo 242 []],[BT29],[],[],0,[(26,186)],false⟩,
 ⟨171,.skip,[],[.val (BT15),.ptr (BT29) (BT29),.ptr (BT9) (BT9)],[BT1],[(16,.box),(32,.box)],[],0,[],false⟩,
 ⟨73,.skip,[],[.val (BT15),.val (BT29)],[BT1],[],[],0,[],false⟩,
 ⟨175,.skip,[],[.val (BT29),.ptr (BT29) (BT29),.ptr (BT29) (BT29)],[BT1],[(16,.box),(32,.box)],[],0,[],false⟩,
 ⟨131,.skip,[],[.val (BT11),.val (BT11)],[BT1],[],[],0,[],false⟩,
 ⟨195,.skip,[],[.val (BT12),.val (BT12)],[BT1],[],[],0,[],false⟩,
 ⟨34,.skip,[],[.val (BT49),.val (BT49)],[BT1],[],[],0,[(58,193)],false⟩,
 ⟨226,.skip,[],[.val (BT20),.val (BT20)],[BT1],[],[],0,[],false⟩,
 ⟨247,.skip,[],[.val (BT45),.val (BT29)],[BT29],[],[],0,[(122,196)],false⟩,
 ⟨248,.skip,[],[.val (BT46),.val (BT29)],[BT29],[],[],0,[(122,198)],false⟩,
 ⟨251,.skip,[],[.val (BT45)],[.leaf true (.sl (.nm 26))],[],[],0,[(58,200)],false⟩,
 ⟨252,.skip,[],[.val (BT46)],[.leaf true (.sl (.nm 27))],[],[],0,[(58,202)],false⟩,
 ⟨304,.skip,[],[.ptr (BT23) (BT23),.val (BT29)],[BT4],[(0,.box)],[],0,[(28,204)],false⟩,
 ⟨305,.skip,[],[.val (BT13)],[BT29],[],[],0,[(58,206)],false⟩,
 ⟨306,.skip,[],[.val (BT0)],[BT29,BT1],[],[],0,[(60,208)],false⟩,
 ⟨307,.skip,[],[.val (BT28)],[BT1],[],[],0,[],false⟩,
 ⟨281,.skip,[],[],[BT25],[],[(1,1)],0,[],false⟩,
 ⟨166,.skip,[],[.val (BT25),.val (BT0)],[BT1],[],[],0,[],false⟩,
 ⟨239,.skip,[],[.val (BT19),.ptr (BT42) (BT42),.ptr (BT29) (BT29),.ptr (BT29) (BT29)],[BT1],[(16,.box),(32,.box),(48,.box)],[],0,[],false⟩,
 ⟨177,.skip,[],[.val (BT0)],[BT1],[],[],0,[],false⟩,
 ⟨309,.skip,[],[.val (BT47),.clo 283 []],[BT29],[],[],0,[(26,215)],false⟩,
 ⟨279,.skip,[],[.val (BT29)],[BT1],[],[],0,[],false⟩,
 ⟨310,.skip,[],[.val (BT0)],[BT29,BT1],[],[],0,[],false⟩,
 ⟨311,.skip,[],[.val (BT0),.val (BT0)],[BT29],[],[],0,[],false⟩,
 ⟨242,.skip,[],[.val (BT29)],[BT1],[],[],0,[],false⟩,
 ⟨173,.skip,[],[.val (BT43),.val (BT29)],[BT1],[],[],0,[],false⟩,
 ⟨256,.skip,[],[.val (BT47),.val (BT47)],[BT1],[],[],0,[(58,222)],false⟩,
 ⟨257,.skip,[],[.val (BT44),.val (BT44)],[BT1],[],[],0,[(58,224)],false⟩,
 ⟨288,.skip,[],[.val (.leaf false (.nm 11)),.val (BT29)],[BT29],[],[],0,[],false⟩,
 ⟨289,.skip,[],[.val (.leaf false (.nm 12)),.val (BT29)],[BT29],[],[],0,[],false⟩,
 ⟨290,.skip,[],[.val (.leaf false (.nm 11))],[BT21],[],[],0,[],false⟩,
 ⟨291,.skip,[],[.val (.leaf false (.nm 12))],[BT22],[],[],0,[],false⟩,
 ⟨316,.skip,[],[.ptr (BT23) (BT23),.val (BT29)],[BT4],[(0,.box)],[],0,[(28,230)],false⟩,
 ⟨317,.skip,[],[.ptr (BT23) (BT23),.val (BT28)],[BT1],[(0,.box)],[],0,[],false⟩,
 ⟨318,.skip,[],[.val (BT29),.val (BT29)],[BT29],[],[],0,[],false⟩,
 ⟨319,.skip,[],[.val (BT0)],[BT29,BT29],[],[],0,[(28,234),(63,235),(508,236),(16342,237),(511,238)],false⟩,
 ⟨237,.skip,[],[.val (BT25),.val (BT0)],[BT29],[],[],0,[(26,240)],false⟩,
 ⟨240,.skip,[],[.val (BT19),.val (BT29),.val (BT29),.val (BT29)],[BT1],[],[(101,1)],0,[(983,242),(3935,243),(15743,244),(251903,245)],false⟩,
 ⟨246,.skip,[],[.val (BT0),.val (BT0)],[BT1],[],[],0,[],false⟩,
 ⟨283,.skip,[],[.val (BT21)],[BT1],[],[],0,[],false⟩,
 ⟨322,.skip,[],[.val (BT0)],[BT29,BT29],[],[],0,[(31,249),(1023,250)],false⟩,
 ⟨323,.skip,[],[.val (BT0),.val (BT0)],[BT0],[],[],0,[],false⟩,
 ⟨324,.skip,[],[.val (BT0),.val (BT0)],[BT29],[],[],0,[],false⟩,
 ⟨243,.skip,[],[.val (BT43),.clo 244 [BT29]],[BT1],[(16,.box)],[],0,[],false⟩,
 ⟨294,.skip,[],[.val (BT21),.val (BT21)],[BT1],[],[],0,[],false⟩,
 ⟨295,.skip,[],[.val (BT22),.val (BT22)],[BT1],[],[],0,[],false⟩,
 ⟨330,.skip,[],[.ptr (BT23) (BT23),.val (BT29)],[BT4],[(0,.box)],[],0,[(28,257),(907,258)],false⟩,
 ⟨331,.skip,[],[.val (BT28)],[BT1],[],[],0,[],false⟩,
 ⟨278,.skip,[],[.val (BT29)],[BT0,BT0],[],[(6,1)],0,[(63,261),(2007,262),(32127,263)],false⟩,
 ⟨280,.skip,[],[.val (BT0)],[BT1],[],[(7,1)],0,[],false⟩,
 ⟨287,.skip,[],[.val (BT0),.val (BT0)],[BT29],[],[],0,[],false⟩,
 ⟨334,.skip,[],[.val (BT0),.val (BT0)],[BT0],[],[],0,[],false⟩,
 ⟨335,.skip,[],[.val (BT0),.val (BT29)],[BT29],[],[],0,[(28,268)],false⟩,
 ⟨336,.skip,[],[.val (BT0),.val (BT0)],[BT29,BT1],[],[],0,[],false⟩,
 ⟨338,.skip,[],[.val (BT0),.val (BT28)],[BT0],[],[],0,[(12,271)],false⟩,
 ⟨337,.skip,[],[.val (BT0),.val (BT28)],[BT0],[],[],0,[(12,273)],false⟩,
 ⟨344,.skip,[],[.val (BT0),.val (BT0)],[BT29],[],[],0,[],true⟩,
 ⟨286,.skip,[],[.val (BT43),.clo 244 [BT29]],[BT29],[(16,.box)],[],0,[(26,276)],false⟩,
 ⟨347,.skip,[],[.ptr (BT23) (BT23),.val (BT29)],[BT4],[(0,.box)],[],0,[(63,278)],false⟩,
 ⟨308,.skip,[],[.val (BT0)],[BT13,BT1],[],[(9,1),(14,1),(31,1)],0,[],false⟩,
 ⟨312,.skip,[],[.val (BT0),.val (BT0)],[BT29],[],[],0,[],false⟩,
 ⟨350,.skip,[],[.val (BT0)],[BT29,.hole 1],[],[(16,1)],0,[],false⟩,
 ⟨351,.skip,[],[.val (BT29)],[BT29,BT1],[],[],0,[],false⟩,
 ⟨244,.skip,[],[.val (BT20),.ptr (BT29) (BT29)],[BT1],[(16,.box)],[],0,[],false⟩,
 ⟨356,.skip,[],[.ptr (BT23) (BT23)],[BT4],[(0,.box)],[(171,1)],0,[(15,285),(252,286),(32303,287),(255,288),(64607,289),(8186,290),(516858,291)],false⟩,
 ⟨320,.skip,[],[.ptr (BT24) (BT24)],[BT4],[(0,.box)],[],0,[(28,293)],false⟩,
 ⟨321,.skip,[],[.val (BT13)],[BT29],[],[],0,[(58,295)],false⟩,
 ⟨325,.skip,[],[.val (BT0),.val (BT28)],[BT29],[],[],0,[],false⟩,
 ⟨359,.skip,[],[.val (BT0)],[BT29,.hole 1],[],[],0,[(235,298),(3770,299)],false⟩,
 ⟨332,.skip,[],[.ptr (BT24) (BT24)],[BT4],[(0,.box)],[],0,[(28,301)],false⟩,
 ⟨333,.skip,[],[.ptr (BT24) (BT24),.val (BT28)],[BT1],[(0,.box)],[],0,[],false⟩,
 ⟨345,.skip,[],[.val (BT0),.val (BT28)],[BT29],[],[],0,[],true⟩,
 ⟨365,.skip,[],[.val (BT0),.val (BT29),.val (BT29)],[BT29,.hole 1],[],[],0,[(31,305),(511,306)],false⟩,
 ⟨348,.skip,[],[.ptr (BT24) (BT24)],[BT28,BT1],[(0,.box)],[],0,[],false⟩,
 ⟨349,.skip,[],[.ptr (BT24) (BT24)],[BT4],[(0,.box)],[],0,[(14,309)],false⟩,
 ⟨372,.skip,[],[.val (BT0),.val (BT29),.val (BT29)],[BT31,.hole 1],[],[],0,[(63,311),(127,312),(511,313),(32762,314),(8387175,315)],false⟩,
 ⟨357,.skip,[],[.ptr (BT24) (BT24)],[BT4],[(0,.box)],[],0,[(1007615,317)],false⟩,
 ⟨358,.skip,[],[.val (BT28)],[BT29],[],[],0,[],false⟩,
 ⟨376,.skip,[],[.val (BT28)],[BT28],[],[],0,[],false⟩,
 ⟨377,.skip,[],[.val (BT0)],[BT1],[],[],0,[(31,321),(127,322),(508,323)],false⟩,
 ⟨364,.skip,[],[.ptr (BT24) (BT24)],[BT4],[(0,.box)],[(111,1)],0,[(2042,325),(130707,326),(8186,327),(522830,328)],false⟩,
 ⟨370,.skip,[],[.val (BT0),.val (BT28)],[BT29],[],[],0,[],false⟩]
def callX:CallL:=[((344,[]),274),((345,[]),303)]
def callR:CallL:=[((3,[]),0),((10,[]),1),((12,[]),2),((11,[]),3),((13,[]),7),((14,[]),9),((15,[]),10),((50,[]),11),((51,[]),13),((52,[]),15),((53,[]),16),((54,[]),17),((19,[]),19),((62,[]),20),((63,[]),22),((64,[]),24),((65,[]),25),((66,[]),27),((55,[]),29),((56,[]),32),((57,[]),33),((58,[]),34),((59,[]),36),((60,[]),39),((61,[]),40),((67,[]),41),((68,[]),42),((69,[]),43),((70,[]),44),((71,[72]),45),((74,[]),46),((75,[76]),47),((24,[]),48),((78,[]),49),((79,[]),51),((80,[]),53),((81,[]),54),((82,[]),56),((83,[]),58),((84,[]),60),((16,[]),62),((154,[]),63),((17,[]),64),((90,[]),65),((91,[]),67),((20,[]),69),((162,[]),70),((21,[]),71),((155,[]),72),((156,[]),74),((157,[]),76),((125,[]),78),((89,[]),79),((158,[]),80),((159,[]),82),((160,[]),83),((161,[]),85),((163,[]),87),((164,[165]),89),((167,[]),90),((168,[]),91),((128,[]),92),((130,[]),93),((169,[]),94),((170,[]),95),((71,[171]),96),((172,[72]),97),((174,[175]),99),((176,[76]),100),((102,[]),102),((103,[]),104),((23,[]),106),((178,[]),107),((179,[]),108),((180,[]),109),((30,[]),110),((85,[]),111),((86,[]),112),((87,[]),113),((133,[]),114),((186,[]),116),((32,[]),117),((92,[]),118),((93,[]),120),((94,[]),121),((137,[]),122),((231,[]),124),((232,[]),125),((233,[]),126),((212,[]),131),((234,[]),133),((235,[]),136),((236,[165]),137),((238,[239]),139),((214,[]),140),((215,[]),141),((241,[]),143),((174,[242]),145),((172,[171]),146),((72,[]),148),((245,[175]),149),((76,[]),151),((196,[]),152),((35,[]),153),((99,[]),154),((100,[]),156),((101,[]),157),((142,[]),158),((124,[]),160),((181,[]),161),((182,[]),162),((217,[]),163),((127,[]),164),((187,[]),165),((188,[]),166),((222,[]),168),((270,[]),169),((271,[]),170),((272,[]),171),((273,[]),172),((274,[]),173),((275,[]),174),((276,[]),176),((165,[]),178),((277,[239]),179),((77,[]),181),((282,[283]),182),((284,[]),183),((285,[]),184),((245,[242]),185),((171,[]),187),((73,[]),188),((175,[]),189),((131,[]),190),((195,[]),191),((34,[]),192),((226,[]),194),((247,[]),195),((248,[]),197),((251,[]),199),((252,[]),201),((304,[]),203),((305,[]),205),((306,[]),207),((307,[]),209),((281,[]),210),((166,[]),211),((239,[]),212),((177,[]),213),((309,[283]),214),((279,[]),216),((310,[]),217),((311,[]),218),((242,[]),219),((173,[]),220),((256,[]),221),((257,[]),223),((288,[]),225),((289,[]),226),((290,[]),227),((291,[]),228),((316,[]),229),((317,[]),231),((318,[]),232),((319,[]),233),((237,[]),239),((240,[]),241),((246,[]),246),((283,[]),247),((322,[]),248),((323,[]),251),((324,[]),252),((243,[244]),253),((294,[]),254),((295,[]),255),((330,[]),256),((331,[]),259),((278,[]),260),((280,[]),264),((287,[]),265),((334,[]),266),((335,[]),267),((336,[]),269),((338,[]),270),((337,[]),272),((286,[244]),275),((347,[]),277),((308,[]),279),((312,[]),280),((350,[]),281),((351,[]),282),((244,[]),283),((356,[]),284),((320,[]),292),((321,[]),294),((325,[]),296),((359,[]),297),((332,[]),300),((333,[]),302),((365,[]),304),((348,[]),307),((349,[]),308),((372,[]),310),((357,[]),316),((358,[]),318),((376,[]),319),((377,[]),320),((364,[]),324),((370,[]),329)]
def rent (e:Nat):EntI:=entR.getD e ⟨0,.skip,[],[],[],[],[],0,[],true⟩
def rkey (k:Nat):KeyI:=keyL.getD k ⟨0,[false],[]⟩
noncomputable def tab:Tab where
 G:=gam
 ty:=lookT tyL
 ifc:=memN ifcL
 key k:=keyFill rent (rkey k)
 ent k:=fill Tryz.prog (rent k)
 call:=lookC (callX ++ callR)
 tabs:=[]
 ext k:=match k with
  | 274=>fun x=>some (cmpI x.1 x.2.1,())
  | 303=>fun x=>some (idxI x.1 x.2.1,())
  | _=>fun _=>none
end Go.Proofs.YtcngnpahpbaagaaGreatDoor.E.TH
