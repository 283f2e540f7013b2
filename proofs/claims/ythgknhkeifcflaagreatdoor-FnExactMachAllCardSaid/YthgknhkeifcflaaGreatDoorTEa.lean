/- The table of E: structs,types,entries,keys. No condition. -/
import Derived.Test.YthgknhkeifcflaaGreatDoorEG4
import Derived.Test.YthgknhkeifcflaaGreatDoorProg
import Derived.KernelRfl
namespace Go.Proofs.YthgknhkeifcflaaGreatDoor.E.TE
open Go.Proofs.YthgknhkeifcflaaGreatDoor.E
set_option linter.unusedVariables false
set_option maxRecDepth 100000
structure bL where
 Code:Int
 N:Int
 S:(_root_.List Int)
def Bu:bL:=⟨0,0,[]⟩
structure bM where
 Vars:(_root_.List (_root_.List Int))
 Cells:(_root_.List (_root_.List Int))
 Start:(_root_.List bL)
 Main:(_root_.List bL)
def V9:bM:=⟨[],[],[],[]⟩
structure bF where
 Kind:Int
 N:Int
 S:(_root_.List Int)
def bU:bF:=⟨0,0,[]⟩
structure bo where
 Name:Int
 Key:(_root_.List Int)
 Val:bF
def co:bo:=⟨0,[],bU⟩
structure bE where
 Vars:(_root_.List bF)
 Cells:(_root_.List bo)
 Nr:Int
 Err:Int
def jj:bE:=⟨[],[],0,0⟩
structure bz where
 State:bE
 Done:(_root_.List Int)
 Out:(_root_.List Int)
def nu:bz:=⟨jj,[],[]⟩
structure bA where
 Code:Int
 N:Int
 S:(_root_.List Int)
def cG:bA:=⟨0,0,[]⟩
structure bC where
 Vars:(_root_.List (_root_.List Int))
 Cells:(_root_.List (_root_.List Int))
 Start:(_root_.List bA)
 Main:(_root_.List bA)
def V4:bC:=⟨[],[],[],[]⟩
structure bq where
 Who:Int
 Seq:Int
 Line:(_root_.List Int)
def fH:bq:=⟨0,0,[]⟩
structure bt where
 Term:Int
 C:bq
def VZ:bt:=⟨0,fH⟩
structure bw where
 Base:Int
 BaseTerm:Int
 List:(_root_.List bt)
def JY:bw:=⟨0,0,[]⟩
structure bv where
 Term:Int
 Vote:Int
 Log:bw
 Snap:bz
def V1:bv:=⟨0,0,JY,nu⟩
structure bO where
 Kind:Int
 N:Int
 S:(_root_.List Int)
def J0:bO:=⟨0,0,[]⟩
structure bI where
 Name:Int
 Key:(_root_.List Int)
 Val:bO
def V7:bI:=⟨0,[],J0⟩
structure bN where
 Vars:(_root_.List bO)
 Cells:(_root_.List bI)
 Nr:Int
 Err:Int
def JZ:bN:=⟨[],[],0,0⟩
structure bK where
 State:bN
 Done:(_root_.List Int)
 Out:(_root_.List Int)
def V8:bK:=⟨JZ,[],[]⟩
structure bJ where
 Who:Int
 Seq:Int
 Line:(_root_.List Int)
def Br:bJ:=⟨0,0,[]⟩
structure bH where
 s:bE
 line:(_root_.List Int)
 out:(_root_.List Int)
 stack:(_root_.List bF)
 err:Int
def V6:bH:=⟨jj,[],[],[],0⟩
structure bP where
 s:bE
 vars:(_root_.List (_root_.List Int))
 cells:(_root_.List (_root_.List Int))
 line:(_root_.List Int)
 fields:(_root_.List (_root_.List Int))
 out:(_root_.List Int)
 fuel:Int
 done:Bool
def Wa:bP:=⟨jj,[],[],[],[],[],0,false⟩
structure bD where
 Op:Int
 C:Int
 Set:(_root_.List Int)
 Not:Bool
 Kids:(_root_.List bD)
def b9:bD:=⟨0,0,[],false,[]⟩
structure bQ where
 l:Unit
 stack:(_root_.List bF)
def Wb:bQ:=⟨(),[]⟩
structure bR where
 s:(_root_.List Int)
 at_:Int
 bad:Bool
def Wc:bR:=⟨[],0,false⟩
structure bG where
 s:(_root_.List Int)
 bad:Bool
def V5:bG:=⟨[],false⟩
structure bB where
 Op:Int
 C:Int
 Set:(_root_.List Int)
 Not:Bool
 A:Int
 B:Int
def b8:bB:=⟨0,0,[],false,0,0⟩
def gT:Nat→Type
 | 0=>bM
 | 1=>bL
 | 2=>bE
 | 3=>bF
 | 4=>bo
 | 5=>bz
 | 6=>bC
 | 7=>bA
 | 8=>bw
 | 9=>bt
 | 10=>bq
 | 11=>bv
 | 12=>bN
 | 13=>bO
 | 14=>bI
 | 15=>bK
 | 16=>bJ
 | 17=>bH
 | 18=>bP
 | 19=>bD
 | 20=>bQ
 | 21=>bR
 | 22=>bG
 | 23=>bB
 | _=>Unit
def gfs:Nat→List FT
 | 0=>[(.sl .str),(.sl .str),(.sl (.nm 1)),(.sl (.nm 1))]
 | 1=>[(.int .i64),(.int .i64),.str]
 | 2=>[(.sl (.nm 3)),(.sl (.nm 4)),(.int .i64),(.int .i64)]
 | 3=>[(.int .i64),(.int .i64),.str]
 | 4=>[(.int .i64),.str,(.nm 3)]
 | 5=>[(.nm 2),(.sl (.int .i64)),.str]
 | 6=>[(.sl .str),(.sl .str),(.sl (.nm 7)),(.sl (.nm 7))]
 | 7=>[(.int .i64),(.int .i64),.str]
 | 8=>[(.int .i64),(.int .i64),(.sl (.nm 9))]
 | 9=>[(.int .i64),(.nm 10)]
 | 10=>[(.int .i64),(.int .i64),.str]
 | 11=>[(.int .i64),(.int .i64),(.nm 8),(.nm 5)]
 | 12=>[(.sl (.nm 13)),(.sl (.nm 14)),(.int .i64),(.int .i64)]
 | 13=>[(.int .i64),(.int .i64),.str]
 | 14=>[(.int .i64),.str,(.nm 13)]
 | 15=>[(.nm 12),(.sl (.int .i64)),.str]
 | 16=>[(.int .i64),(.int .i64),.str]
 | 17=>[(.nm 2),.str,.str,(.sl (.nm 3)),(.int .i64)]
 | 18=>[(.nm 2),(.sl .str),(.sl .str),.str,(.sl .str),.str,(.int .i64),.bool]
 | 19=>[(.int .i64),(.int .i64),.str,.bool,(.sl (.nm 19))]
 | 20=>[.ptr,(.sl (.nm 3))]
 | 21=>[.str,(.int .i64),.bool]
 | 22=>[.str,.bool]
 | 23=>[(.int .i64),(.int .i64),.str,.bool,(.int .i64),(.int .i64)]
 | _=>[]
def gun:∀ n,gT n→Js gT (gfs n)
 | 0,x=>(x.Vars,(x.Cells,(x.Start,(x.Main,()))))
 | 1,x=>(x.Code,(x.N,(x.S,())))
 | 2,x=>(x.Vars,(x.Cells,(x.Nr,(x.Err,()))))
 | 3,x=>(x.Kind,(x.N,(x.S,())))
 | 4,x=>(x.Name,(x.Key,(x.Val,())))
 | 5,x=>(x.State,(x.Done,(x.Out,())))
 | 6,x=>(x.Vars,(x.Cells,(x.Start,(x.Main,()))))
 | 7,x=>(x.Code,(x.N,(x.S,())))
 | 8,x=>(x.Base,(x.BaseTerm,(x.List,())))
 | 9,x=>(x.Term,(x.C,()))
 | 10,x=>(x.Who,(x.Seq,(x.Line,())))
 | 11,x=>(x.Term,(x.Vote,(x.Log,(x.Snap,()))))
 | 12,x=>(x.Vars,(x.Cells,(x.Nr,(x.Err,()))))
 | 13,x=>(x.Kind,(x.N,(x.S,())))
 | 14,x=>(x.Name,(x.Key,(x.Val,())))
 | 15,x=>(x.State,(x.Done,(x.Out,())))
 | 16,x=>(x.Who,(x.Seq,(x.Line,())))
 | 17,x=>(x.s,(x.line,(x.out,(x.stack,(x.err,())))))
 | 18,x=>(x.s,(x.vars,(x.cells,(x.line,(x.fields,(x.out,(x.fuel,(x.done,()))))))))
 | 19,x=>(x.Op,(x.C,(x.Set,(x.Not,(x.Kids,())))))
 | 20,x=>(x.l,(x.stack,()))
 | 21,x=>(x.s,(x.at_,(x.bad,())))
 | 22,x=>(x.s,(x.bad,()))
 | 23,x=>(x.Op,(x.C,(x.Set,(x.Not,(x.A,(x.B,()))))))
 | (n+24),_=>()
def gpk:∀ n,Js gT (gfs n)→gT n
 | 0,y=>⟨y.1,y.2.1,y.2.2.1,y.2.2.2.1⟩
 | 1,y=>⟨y.1,y.2.1,y.2.2.1⟩
 | 2,y=>⟨y.1,y.2.1,y.2.2.1,y.2.2.2.1⟩
 | 3,y=>⟨y.1,y.2.1,y.2.2.1⟩
 | 4,y=>⟨y.1,y.2.1,y.2.2.1⟩
 | 5,y=>⟨y.1,y.2.1,y.2.2.1⟩
 | 6,y=>⟨y.1,y.2.1,y.2.2.1,y.2.2.2.1⟩
 | 7,y=>⟨y.1,y.2.1,y.2.2.1⟩
 | 8,y=>⟨y.1,y.2.1,y.2.2.1⟩
 | 9,y=>⟨y.1,y.2.1⟩
 | 10,y=>⟨y.1,y.2.1,y.2.2.1⟩
 | 11,y=>⟨y.1,y.2.1,y.2.2.1,y.2.2.2.1⟩
 | 12,y=>⟨y.1,y.2.1,y.2.2.1,y.2.2.2.1⟩
 | 13,y=>⟨y.1,y.2.1,y.2.2.1⟩
 | 14,y=>⟨y.1,y.2.1,y.2.2.1⟩
 | 15,y=>⟨y.1,y.2.1,y.2.2.1⟩
 | 16,y=>⟨y.1,y.2.1,y.2.2.1⟩
 | 17,y=>⟨y.1,y.2.1,y.2.2.1,y.2.2.2.1,y.2.2.2.2.1⟩
 | 18,y=>⟨y.1,y.2.1,y.2.2.1,y.2.2.2.1,y.2.2.2.2.1,y.2.2.2.2.2.1,y.2.2.2.2.2.2.1,y.2.2.2.2.2.2.2.1⟩
 | 19,y=>⟨y.1,y.2.1,y.2.2.1,y.2.2.2.1,y.2.2.2.2.1⟩
 | 20,y=>⟨y.1,y.2.1⟩
 | 21,y=>⟨y.1,y.2.1,y.2.2.1⟩
 | 22,y=>⟨y.1,y.2.1⟩
 | 23,y=>⟨y.1,y.2.1,y.2.2.1,y.2.2.2.1,y.2.2.2.2.1,y.2.2.2.2.2.1⟩
 | (n+24),_=>()
theorem Mr:∀ n y,gun n (gpk n y)=y
 | 0,_=>rfl
 | 1,_=>rfl
 | 2,_=>rfl
 | 3,_=>rfl
 | 4,_=>rfl
 | 5,_=>rfl
 | 6,_=>rfl
 | 7,_=>rfl
 | 8,_=>rfl
 | 9,_=>rfl
 | 10,_=>rfl
 | 11,_=>rfl
 | 12,_=>rfl
 | 13,_=>rfl
 | 14,_=>rfl
 | 15,_=>rfl
 | 16,_=>rfl
 | 17,_=>rfl
 | 18,_=>rfl
 | 19,_=>rfl
 | 20,_=>rfl
 | 21,_=>rfl
 | 22,_=>rfl
 | 23,_=>rfl
 | (n+24),_=>rfl
theorem Mp:∀ n x,gpk n (gun n x)=x
 | 0,x=>by cases x;rfl
 | 1,x=>by cases x;rfl
 | 2,x=>by cases x;rfl
 | 3,x=>by cases x;rfl
 | 4,x=>by cases x;rfl
 | 5,x=>by cases x;rfl
 | 6,x=>by cases x;rfl
 | 7,x=>by cases x;rfl
 | 8,x=>by cases x;rfl
 | 9,x=>by cases x;rfl
 | 10,x=>by cases x;rfl
 | 11,x=>by cases x;rfl
 | 12,x=>by cases x;rfl
 | 13,x=>by cases x;rfl
 | 14,x=>by cases x;rfl
 | 15,x=>by cases x;rfl
 | 16,x=>by cases x;rfl
 | 17,x=>by cases x;rfl
 | 18,x=>by cases x;rfl
 | 19,x=>by cases x;rfl
 | 20,x=>by cases x;rfl
 | 21,x=>by cases x;rfl
 | 22,x=>by cases x;rfl
 | 23,x=>by cases x;rfl
 | (n+24),_=>rfl
def gz:∀ n,gT n
 | 0=>V9
 | 1=>Bu
 | 2=>jj
 | 3=>bU
 | 4=>co
 | 5=>nu
 | 6=>V4
 | 7=>cG
 | 8=>JY
 | 9=>VZ
 | 10=>fH
 | 11=>V1
 | 12=>JZ
 | 13=>J0
 | 14=>V7
 | 15=>V8
 | 16=>Br
 | 17=>V6
 | 18=>Wa
 | 19=>b9
 | 20=>Wb
 | 21=>Wc
 | 22=>V5
 | 23=>b8
 | (n+24)=>()
theorem Ms:∀ n,gun n (gz n)=nw gz (gfs n)
 | 0=>rfl
 | 1=>rfl
 | 2=>rfl
 | 3=>rfl
 | 4=>rfl
 | 5=>rfl
 | 6=>rfl
 | 7=>rfl
 | 8=>rfl
 | 9=>rfl
 | 10=>rfl
 | 11=>rfl
 | 12=>rfl
 | 13=>rfl
 | 14=>rfl
 | 15=>rfl
 | 16=>rfl
 | 17=>rfl
 | 18=>rfl
 | 19=>rfl
 | 20=>rfl
 | 21=>rfl
 | 22=>rfl
 | 23=>rfl
 | (n+24)=>rfl
def gsz:Nat→Nat
 | 0=>4
 | 1=>3
 | 2=>4
 | 3=>3
 | 4=>5
 | 5=>6
 | 6=>4
 | 7=>3
 | 8=>3
 | 9=>4
 | 10=>3
 | 11=>11
 | 12=>4
 | 13=>3
 | 14=>5
 | 15=>6
 | 16=>3
 | 17=>8
 | 18=>11
 | 19=>5
 | 20=>2
 | 21=>3
 | 22=>2
 | 23=>6
 | _=>0
theorem Mq:∀ n,gsz n=FT.szs gsz (gfs n)
 | 0=>rfl
 | 1=>rfl
 | 2=>rfl
 | 3=>rfl
 | 4=>rfl
 | 5=>rfl
 | 6=>rfl
 | 7=>rfl
 | 8=>rfl
 | 9=>rfl
 | 10=>rfl
 | 11=>rfl
 | 12=>rfl
 | 13=>rfl
 | 14=>rfl
 | 15=>rfl
 | 16=>rfl
 | 17=>rfl
 | 18=>rfl
 | 19=>rfl
 | 20=>rfl
 | 21=>rfl
 | 22=>rfl
 | 23=>rfl
 | (n+24)=>rfl
def gfl:Nat→Bool
 | 0=>false
 | 1=>true
 | 2=>false
 | 3=>true
 | 4=>true
 | 5=>false
 | 6=>false
 | 7=>true
 | 8=>false
 | 9=>true
 | 10=>true
 | 11=>false
 | 12=>false
 | 13=>true
 | 14=>true
 | 15=>false
 | 16=>true
 | 17=>false
 | 18=>false
 | 19=>false
 | 20=>false
 | 21=>true
 | 22=>true
 | 23=>true
 | _=>true
theorem Mo:∀ n,gfl n=true→FT.flats gfl (gfs n)=true
 | 0,h=>by cases h
 | 1,h=>rfl
 | 2,h=>by cases h
 | 3,h=>rfl
 | 4,h=>rfl
 | 5,h=>by cases h
 | 6,h=>by cases h
 | 7,h=>rfl
 | 8,h=>by cases h
 | 9,h=>rfl
 | 10,h=>rfl
 | 11,h=>by cases h
 | 12,h=>by cases h
 | 13,h=>rfl
 | 14,h=>rfl
 | 15,h=>by cases h
 | 16,h=>rfl
 | 17,h=>by cases h
 | 18,h=>by cases h
 | 19,h=>by cases h
 | 20,h=>by cases h
 | 21,h=>rfl
 | 22,h=>rfl
 | 23,h=>rfl
 | (n+24),_=>rfl
def gam:Gam:=⟨gT,gfs,gun,gpk,Mr,Mp,gz,Ms,gsz,Mq,gfl,Mo⟩
def tyL:List (Nat×FT):=[(2,(.int .i64)),(3,(.int .i64)),(4,.bool),(5,(.int .u8)),(6,(.int .u8)),(9,.str),(21,(.int .i32)),(22,(.sl .str)),(23,(.sl (.nm 1))),(25,(.nm 0)),(27,(.sl (.nm 3))),(28,(.sl (.nm 4))),(30,(.nm 2)),(31,(.sl (.int .i64))),(33,(.nm 5)),(35,(.sl (.nm 7))),(37,(.nm 6)),(52,(.sl (.nm 16))),(55,(.sl (.nm 10))),(67,(.nm 16)),(72,(.nm 10)),(103,(.nm 1)),(107,(.nm 7)),(114,(.nm 17)),(125,(.sl (.int .u8))),(136,.ptr),(138,(.nm 18)),(148,(.nm 3)),(151,(.nm 4)),(176,(.sl (.nm 19))),(178,(.nm 19)),(183,(.nm 20)),(211,(.nm 21)),(243,(.nm 22)),(252,(.sl (.nm 23))),(263,(.int .u64)),(265,(.sl .bool)),(273,(.nm 23)),(278,(.int .u64)),(313,(.int .i64))]
def EN:List Nat:=[275]
abbrev BT0:BT:=.leaf false .str
abbrev BT1:BT:=.leaf false .bool
abbrev BT2:BT:=.leaf true (.nm 5)
abbrev BT3:BT:=.leaf true (.nm 2)
abbrev BT4:BT:=.leaf true (.nm 7)
abbrev BT5:BT:=.leaf true (.nm 3)
abbrev BT6:BT:=.leaf false (.nm 6)
abbrev BT7:BT:=.leaf false (.nm 5)
abbrev BT8:BT:=.leaf false (.nm 2)
abbrev BT9:BT:=.leaf true (.nm 18)
abbrev fS:BT:=.leaf true (.nm 20)
abbrev gu:BT:=.leaf true (.nm 21)
abbrev cK:BT:=.leaf true (.nm 19)
abbrev ki:BT:=.leaf true (.nm 22)
abbrev pq:BT:=.leaf true (.nm 23)
abbrev v6:BT:=.leaf false (.nm 0)
abbrev fT:BT:=.leaf false (.nm 7)
abbrev cF:BT:=.leaf false (.nm 3)
abbrev iE:BT:=.leaf false (.nm 4)
abbrev dF:BT:=.leaf false (.nm 19)
abbrev lN:BT:=.leaf false (.nm 10)
abbrev gv:BT:=.leaf false (.nm 21)
abbrev fI:BT:=.leaf false (.nm 22)
abbrev rV:BT:=.leaf false (.nm 23)
abbrev fU:BT:=.leaf true (.sl .str)
abbrev dz:BT:=.leaf false (.sl .str)
abbrev lO:BT:=.leaf true (.int .i64)
abbrev df:BT:=.leaf false (.int .u8)
abbrev fk:BT:=.leaf true (.sl .bool)
abbrev bS:BT:=.leaf false (.int .i64)
abbrev cz:BT:=.leaf false (.int .u64)
abbrev pt:BT:=.leaf false (.sl .bool)
abbrev pu:BT:=.leaf false (.int .i32)
abbrev rW:BT:=.leaf true (.sl (.nm 7))
abbrev rX:BT:=.leaf true (.sl (.nm 3))
abbrev kj:BT:=.leaf true (.sl (.nm 4))
abbrev rY:BT:=.leaf true (.sl (.nm 10))
abbrev rZ:BT:=.leaf false (.sl (.nm 1))
abbrev dY:BT:=.leaf false (.sl (.nm 7))
abbrev dN:BT:=.leaf false (.sl (.nm 3))
abbrev gw:BT:=.leaf false (.sl (.nm 4))
abbrev sa:BT:=.leaf true (.sl (.nm 19))
abbrev eF:BT:=.leaf true (.sl (.nm 23))
abbrev pv:BT:=.leaf false (.sl (.nm 16))
abbrev ko:BT:=.leaf false (.sl (.nm 10))
abbrev iG:BT:=.leaf false (.sl (.nm 19))
abbrev dy:BT:=.leaf false (.sl (.nm 23))
abbrev sb:BT:=.leaf true (.sl (.int .u8))
abbrev eS:BT:=.leaf true (.sl (.int .i64))
abbrev v7:BT:=.leaf false (.sl (.int .u8))
abbrev dC:BT:=.leaf false (.sl (.int .i64))
abbrev Bw:BT:=.pr (.leaf false (.int .i64)) (.un)
abbrev ef:BT:=.pr (.leaf true (.nm 2)) (.pr (.leaf false .str) (.pr (.leaf false .str) (.pr (.leaf true (.sl (.nm 3))) (.pr (.leaf false (.int .i64)) (.un)))))
abbrev dP:BT:=.pr (.leaf true (.nm 2)) (.pr (.leaf true (.sl .str)) (.pr (.leaf true (.sl .str)) (.pr (.leaf false .str) (.pr (.leaf true (.sl .str)) (.pr (.leaf false .str) (.pr (.leaf false (.int .i64)) (.pr (.leaf false .bool) (.un))))))))
def keyL:List KeyI:=[
 ⟨0,[],[]⟩,
 ⟨1,[],[]⟩,
 ⟨2,[],[]⟩,
 ⟨2,[true,true,true,false,true,false],[.val 0 (pv),.val 1 (bS),.val 5 (bS)]⟩,
 ⟨3,[],[]⟩,
 ⟨4,[],[]⟩,
 ⟨4,[true,true,false,true,false],[.val 0 (pv),.own 3 48 (rY),.val 4 (bS)]⟩,
 ⟨5,[],[]⟩,
 ⟨5,[true,true,true,false,true,false],[.ptr 2 32,.ptr 4 64,.ptr 5 80,.val 1 (ko),.val 6 (bS),.slot 32 (BT6) true none,.slot 64 (BT2) true none,.slot 80 (BT7) true none]⟩,
 ⟨6,[],[]⟩,
 ⟨6,[true,true,false,true,false],[.ptr 2 32,.ptr 4 64,.ptr 5 80,.val 10 (ko),.val 11 (bS),.val 12 (bS),.slot 32 (BT6) true none,.slot 64 (BT2) true none,.slot 80 (BT2) true none]⟩,
 ⟨7,[],[]⟩,
 ⟨8,[],[]⟩,
 ⟨9,[],[]⟩,
 ⟨9,[true,true,false,true,false],[.val 0 (ko),.val 1 (ko),.val 5 (bS)]⟩,
 ⟨10,[],[]⟩,
 ⟨11,[],[]⟩,
 ⟨11,[true,false,true,false],[.own 0 560 (rY),.val 1 (bS),.val 5 (bS)]⟩,
 ⟨12,[],[]⟩,
 ⟨13,[],[]⟩,
 ⟨14,[],[]⟩,
 ⟨14,[true,true,true,false,true,false],[.val 0 (dz),.val 1 (bS),.val 5 (bS)]⟩,
 ⟨15,[],[]⟩,
 ⟨15,[true,true,true,false,true,false],[.val 0 (rZ),.val 1 (bS),.val 5 (bS)]⟩,
 ⟨16,[],[]⟩,
 ⟨17,[],[]⟩,
 ⟨17,[true,true,false,true,false],[.val 0 (dz),.own 3 48 (fU),.val 4 (bS)]⟩,
 ⟨18,[],[]⟩,
 ⟨18,[true,true,false,true,false],[.val 0 (rZ),.own 3 48 (rW),.val 4 (bS)]⟩,
 ⟨19,[],[]⟩,
 ⟨20,[],[]⟩,
 ⟨20,[true,false,true,false],[.ptr 1 16,.val 3 (bS),.slot 16 (BT6) true none]⟩,
 ⟨20,[true,true,false,true,false],[.ptr 1 16,.val 4 (bS),.slot 16 (BT6) true none]⟩,
 ⟨21,[],[]⟩,
 ⟨22,[],[]⟩,
 ⟨23,[],[]⟩,
 ⟨24,[],[]⟩,
 ⟨25,[],[]⟩,
 ⟨26,[],[]⟩,
 ⟨27,[],[]⟩,
 ⟨27,[true,true,false,true,false],[.val 0 (dC),.val 1 (dC),.val 5 (bS)]⟩,
 ⟨28,[],[]⟩,
 ⟨28,[true,true,false,true,false],[.val 0 (dz),.val 1 (dz),.val 5 (bS)]⟩,
 ⟨29,[],[]⟩,
 ⟨29,[true,true,false,true,false],[.val 0 (dY),.val 1 (dY),.val 5 (bS)]⟩,
 ⟨30,[],[]⟩,
 ⟨31,[],[]⟩,
 ⟨31,[true,false,true,false],[.own 0 320 (fU),.val 1 (bS),.val 5 (bS)]⟩,
 ⟨32,[],[]⟩,
 ⟨32,[true,false,true,false],[.own 0 560 (rW),.val 1 (bS),.val 5 (bS)]⟩,
 ⟨33,[],[]⟩,
 ⟨33,[true,true,true,false,false],[.val 0 (bS),.val 3 (BT0)]⟩,
 ⟨34,[],[]⟩,
 ⟨35,[],[]⟩,
 ⟨35,[true,false,true,false],[.own 0 0 (eS),.val 1 (bS),.val 5 (bS)]⟩,
 ⟨36,[],[]⟩,
 ⟨37,[],[]⟩,
 ⟨37,[true,false,true,false],[.val 0 (dC),.val 1 (bS),.val 5 (bS)]⟩,
 ⟨38,[],[]⟩,
 ⟨39,[],[]⟩,
 ⟨40,[],[]⟩,
 ⟨40,[true,false,true,false],[.val 0 (BT0),.val 3 (bS)]⟩,
 ⟨41,[],[]⟩,
 ⟨41,[true,false,true,false],[.val 0 (dz),.val 1 (BT0),.val 5 (bS)]⟩,
 ⟨42,[],[]⟩,
 ⟨42,[true,true,true,false,true,false],[.val 0 (dY),.val 1 (bS),.val 2 (bS),.val 7 (bS),.val 8 (bS)]⟩,
 ⟨43,[],[]⟩,
 ⟨44,[],[]⟩,
 ⟨45,[],[]⟩,
 ⟨46,[],[]⟩,
 ⟨46,[true,false,true,false],[.val 0 (BT0),.val 3 (bS)]⟩,
 ⟨47,[],[]⟩,
 ⟨48,[],[]⟩,
 ⟨48,[true,true,true,true],[.ptr 3 48,.ptr 4 64,.ptr 6 96,.ptr 8 272,.slot 48 (BT6) true none,.slot 64 (BT8) true none,.slot 96 (BT3) true none,.slot 272 (BT9) true none]⟩,
 ⟨49,[],[]⟩,
 ⟨50,[],[]⟩,
 ⟨51,[],[]⟩,
 ⟨52,[],[]⟩,
 ⟨53,[],[]⟩,
 ⟨54,[],[]⟩,
 ⟨55,[],[]⟩,
 ⟨56,[],[]⟩,
 ⟨56,[true,true,false,true,false],[.val 0 (dN),.val 1 (dN),.val 5 (bS)]⟩,
 ⟨57,[],[]⟩,
 ⟨57,[true,true,false,true,false],[.val 0 (gw),.val 1 (gw),.val 5 (bS)]⟩,
 ⟨58,[],[]⟩,
 ⟨59,[],[]⟩,
 ⟨59,[true,false,true,false],[.own 0 0 (rX),.val 1 (bS),.val 5 (bS)]⟩,
 ⟨60,[],[]⟩,
 ⟨60,[true,false,true,false],[.own 0 0 (kj),.val 1 (bS),.val 5 (bS)]⟩,
 ⟨61,[],[]⟩,
 ⟨61,[true,false,true,false],[.val 0 (dN),.val 1 (bS),.val 5 (bS)]⟩,
 ⟨62,[],[]⟩,
 ⟨62,[true,false,true,false],[.val 0 (gw),.val 1 (bS),.val 5 (bS)]⟩,
 ⟨63,[],[]⟩,
 ⟨64,[],[]⟩,
 ⟨65,[],[]⟩,
 ⟨65,[true,false,true,false,true,true,true,true,true],[.ptr 4 64,.val 1 (bS),.val 2 (bS),.val 3 (bS),.val 12 (bS),.val 28 (BT1),.slot 64 (BT4) true none]⟩,
 ⟨65,[true,false,true,false,true,true,true,true,true,true,true],[.ptr 4 64,.val 1 (bS),.val 3 (bS),.val 12 (bS),.val 46 (BT1),.slot 64 (BT4) true none]⟩,
 ⟨65,[true,false,true,false,true,true,true,true,true,true,true,true,true],[.ptr 4 64,.val 1 (bS),.val 12 (bS),.val 65 (BT1),.slot 64 (BT4) true none]⟩,
 ⟨65,[true,false,true,false,true,true,true,true,true,true,true,true,true,true,true,true,true],[.ptr 4 64,.val 1 (bS),.val 12 (bS),.val 91 (BT1),.slot 64 (BT4) true none]⟩,
 ⟨66,[],[]⟩,
 ⟨67,[],[]⟩,
 ⟨67,[true,true,true,false],[.ptr 0 0,.ptr 4 176,.wrd 176 0,.val 1 (dY),.val 5 (bS),.val 6 (bS),.slot 0 (BT9) true none,.slot 176 (fS) true none]⟩,
 ⟨68,[],[]⟩,
 ⟨69,[],[]⟩,
 ⟨70,[],[]⟩,
 ⟨71,[],[]⟩,
 ⟨71,[true,true,true,false,true,false],[.val 0 (BT0),.own 3 48 (fU),.val 4 (bS),.val 5 (bS)]⟩,
 ⟨72,[],[]⟩,
 ⟨73,[],[]⟩,
 ⟨73,[true,false,true,false],[.val 0 (dz),.val 5 (dz),.val 6 (bS),.val 7 (bS)]⟩,
 ⟨74,[],[]⟩,
 ⟨75,[],[]⟩,
 ⟨76,[],[]⟩,
 ⟨77,[],[]⟩,
 ⟨77,[true,true,false],[.ptr 0 0,.val 1 (dY),.val 4 (bS),.val 5 (bS),.slot 0 (ef) true none]⟩,
 ⟨77,[true,true,false,false,true,true],[.ptr 0 0,.val 1 (dY),.val 4 (bS),.val 5 (bS),.slot 0 (ef) true none]⟩,
 ⟨77,[true,true,false,false,true,false,false,true,true,true,true,true,true,false,true,true,true,true,true,true,true,true,true],[.ptr 0 0,.ptr 6 96,.val 1 (dY),.val 4 (bS),.val 5 (bS),.val 7 (dN),.val 57 (BT1),.slot 0 (.leaf true (.nm 17)) true none,.slot 96 (BT4) true none]⟩,
 ⟨78,[],[]⟩,
 ⟨79,[],[]⟩,
 ⟨80,[],[]⟩,
 ⟨80,[true,true,false,true,false],[.ptr 3 48,.val 2 (bS),.val 38 (gw),.val 39 (bS),.val 40 (bS),.slot 48 (BT8) true none]⟩,
 ⟨81,[],[]⟩,
 ⟨82,[],[]⟩,
 ⟨83,[],[]⟩,
 ⟨84,[],[]⟩,
 ⟨85,[],[]⟩,
 ⟨86,[],[]⟩,
 ⟨87,[],[]⟩,
 ⟨88,[],[]⟩,
 ⟨89,[],[]⟩,
 ⟨90,[],[]⟩,
 ⟨90,[true,true,true,true,true,true],[.wrd 0 1,.val 2 (bS),.slot 0 (.pr (.leaf false .ptr) (.pr (rX) (.un))) true none,.slot 1 (dP) true none]⟩,
 ⟨90,[true,true,true,true,true,false,true,false,true,true,true,true,true,true,true,true,true,true,true,true,true],[.ptr 0 0,.ptr 4 64,.wrd 0 1,.val 2 (bS),.val 9 (dN),.val 93 (BT1),.slot 0 (fS) true none,.slot 1 (BT9) true none,.slot 64 (BT4) true none]⟩,
 ⟨91,[],[]⟩,
 ⟨92,[],[]⟩,
 ⟨92,[true,false,true,false],[.clo 1 78 [16],.val 0 (dz),.val 7 (bS),.val 8 (bS),.slot 16 (BT6) true none]⟩,
 ⟨93,[],[]⟩,
 ⟨94,[],[]⟩,
 ⟨95,[],[]⟩,
 ⟨96,[],[]⟩,
 ⟨96,[true,false,true,false,true],[.ptr 1 16,.val 4 (bS),.val 5 (BT1),.slot 16 (BT4) true none]⟩,
 ⟨96,[true,true],[.ptr 1 16,.slot 16 (BT4) true none]⟩,
 ⟨97,[],[]⟩,
 ⟨98,[],[]⟩,
 ⟨98,[true,false,true,false,true],[.ptr 1 16,.val 4 (bS),.val 5 (BT1),.slot 16 (BT5) true none]⟩,
 ⟨99,[],[]⟩,
 ⟨100,[],[]⟩,
 ⟨101,[],[]⟩,
 ⟨102,[],[]⟩,
 ⟨103,[],[]⟩,
 ⟨104,[],[]⟩,
 ⟨104,[true,false,true,false],[.clo 1 106 [],.val 0 (dC),.val 7 (bS),.val 8 (bS)]⟩,
 ⟨105,[],[]⟩,
 ⟨106,[],[]⟩,
 ⟨106,[true,true,false,false],[.ptr 0 0,.ptr 4 64,.val 1 (bS),.own 5 80 (sa),.slot 0 (gu) true none,.slot 64 (cK) true none]⟩,
 ⟨107,[],[]⟩,
 ⟨107,[true,true,false,true,false],[.ptr 1 16,.val 3 (bS),.val 4 (bS),.slot 16 (dF) true none]⟩,
 ⟨108,[],[]⟩,
 ⟨108,[true,false,true,false,true],[.ptr 1 16,.val 4 (bS),.val 5 (BT1),.slot 16 (BT4) true none]⟩,
 ⟨109,[],[]⟩,
 ⟨109,[true,false,true,false,true],[.ptr 1 16,.val 4 (bS),.val 5 (BT1),.slot 16 (BT5) true none]⟩,
 ⟨110,[],[]⟩,
 ⟨111,[],[]⟩,
 ⟨112,[],[]⟩,
 ⟨113,[],[]⟩,
 ⟨113,[true,true,true,true],[.ptr 0 0,.ptr 6 1,.ptr 7 112,.wrd 0 1,.slot 0 (fS) true none,.slot 1 (dP) true none,.slot 112 (BT5) true none]⟩,
 ⟨114,[],[]⟩,
 ⟨114,[true,true,false,false],[.val 0 (BT0),.val 1 (bS),.val 5 (bS)]⟩,
 ⟨115,[],[]⟩,
 ⟨115,[true,false,true,false,true],[.val 0 (BT0),.val 4 (BT1)]⟩,
 ⟨116,[],[]⟩,
 ⟨117,[],[]⟩,
 ⟨117,[true,false,true,false],[.clo 1 121 [16,17,18],.val 0 (dY),.val 7 (bS),.val 8 (bS),.slot 16 (dY) true none,.slot 17 (lO) true none,.slot 18 (lO) true none]⟩,
 ⟨118,[],[]⟩,
 ⟨119,[],[]⟩,
 ⟨120,[],[]⟩,
 ⟨121,[],[]⟩,
 ⟨122,[],[]⟩,
 ⟨123,[],[]⟩,
 ⟨124,[],[]⟩,
 ⟨125,[],[]⟩,
 ⟨126,[],[]⟩,
 ⟨127,[],[]⟩,
 ⟨128,[],[]⟩,
 ⟨129,[],[]⟩,
 ⟨130,[],[]⟩,
 ⟨131,[],[]⟩,
 ⟨132,[],[]⟩,
 ⟨133,[],[]⟩,
 ⟨133,[true,false,true,false,true],[.ptr 1 16,.val 6 (bS),.val 7 (BT1),.slot 16 (BT5) true none]⟩,
 ⟨134,[],[]⟩,
 ⟨134,[true,false,false],[.ptr 4 64,.val 0 (BT0),.val 1 (dN),.slot 64 (BT5) true none]⟩,
 ⟨135,[],[]⟩,
 ⟨136,[],[]⟩,
 ⟨136,[true,false,true,false],[.clo 1 142 [],.val 0 (dN),.val 7 (bS),.val 8 (bS)]⟩,
 ⟨137,[],[]⟩,
 ⟨138,[],[]⟩,
 ⟨139,[],[]⟩,
 ⟨140,[],[]⟩,
 ⟨141,[],[]⟩,
 ⟨142,[],[]⟩,
 ⟨142,[true,true,false,false],[.ptr 0 0,.ptr 4 64,.val 1 (bS),.own 5 80 (sa),.slot 0 (gu) true none,.slot 64 (cK) true none]⟩,
 ⟨143,[],[]⟩,
 ⟨144,[],[]⟩,
 ⟨144,[true,true,true,true,true,false,true,false,true,false,false],[.val 0 (bS),.val 4 (BT0),.val 6 (BT0)]⟩,
 ⟨144,[true,true,true,true,true,true],[.val 0 (bS),.val 4 (BT0)]⟩,
 ⟨145,[],[]⟩,
 ⟨146,[],[]⟩,
 ⟨146,[true,false,true,false,true],[.ptr 1 16,.val 6 (bS),.val 7 (BT1),.slot 16 (BT5) true none]⟩,
 ⟨147,[],[]⟩,
 ⟨147,[true,true,true],[.ptr 0 0,.ptr 8 128,.val 9 (bS),.val 10 (BT1),.slot 0 (BT9) true none,.slot 128 (BT5) true none]⟩,
 ⟨148,[],[]⟩,
 ⟨149,[],[]⟩,
 ⟨150,[],[]⟩,
 ⟨151,[],[]⟩,
 ⟨152,[],[]⟩,
 ⟨153,[],[]⟩,
 ⟨154,[],[]⟩,
 ⟨155,[],[]⟩,
 ⟨156,[],[]⟩,
 ⟨157,[],[]⟩,
 ⟨158,[],[]⟩,
 ⟨159,[],[]⟩,
 ⟨160,[],[]⟩,
 ⟨161,[],[]⟩,
 ⟨162,[],[]⟩,
 ⟨163,[],[]⟩,
 ⟨164,[],[]⟩,
 ⟨164,[true,true,true,true],[.val 0 (bS),.val 3 (BT0)]⟩,
 ⟨165,[],[]⟩,
 ⟨166,[],[]⟩,
 ⟨167,[],[]⟩,
 ⟨168,[],[]⟩,
 ⟨169,[],[]⟩,
 ⟨170,[],[]⟩,
 ⟨171,[],[]⟩,
 ⟨171,[true,true,true,false,true,false],[.clo 1 200 [],.own 0 672 (fU),.val 5 (bS),.val 6 (bS)]⟩,
 ⟨172,[],[]⟩,
 ⟨173,[],[]⟩,
 ⟨174,[],[]⟩,
 ⟨174,[true,true,true,true],[.val 0 (BT0),.val 4 (bS),.val 5 (BT1)]⟩,
 ⟨174,[true,true,true,true,true,true,true,true,true],[.val 4 (bS),.val 5 (BT1),.val 7 (BT0),.val 8 (BT0)]⟩,
 ⟨175,[],[]⟩,
 ⟨175,[true,true,false,true,false],[.ali 12 7,.val 1 (df),.val 2 (df),.own 7 112 (sb),.val 13 (bS),.val 14 (bS)]⟩,
 ⟨176,[],[]⟩,
 ⟨177,[],[]⟩,
 ⟨177,[true,true,true],[.val 8 (bS),.val 9 (BT1)]⟩,
 ⟨178,[],[]⟩,
 ⟨179,[],[]⟩,
 ⟨180,[],[]⟩,
 ⟨181,[],[]⟩,
 ⟨182,[],[]⟩,
 ⟨183,[],[]⟩,
 ⟨183,[true,true,false,false],[.ptr 0 0,.ptr 4 64,.ptr 5 80,.slot 0 (gu) true none,.slot 64 (cK) true none,.slot 80 (cK) true none]⟩,
 ⟨183,[true,true,false,false,false,true,false,true,true],[.ptr 0 0,.ptr 4 64,.ptr 5 80,.val 6 (bS),.slot 0 (gu) true none,.slot 64 (cK) true none,.slot 80 (cK) true none]⟩,
 ⟨184,[],[]⟩,
 ⟨185,[],[]⟩,
 ⟨185,[true,true,true,false,false],[.val 0 (bS),.val 3 (BT0)]⟩,
 ⟨186,[],[]⟩,
 ⟨186,[true,true,false,false],[.val 0 (BT0),.val 4 (bS)]⟩,
 ⟨186,[true,true,true,true,true],[.val 0 (BT0),.val 4 (bS),.val 5 (BT1)]⟩,
 ⟨186,[true,true,true,true,true,true,false,false],[.val 0 (BT0),.val 4 (bS),.val 5 (BT1),.val 6 (bS),.val 7 (bS)]⟩,
 ⟨186,[true,true,true,true,true,true,true,false,true,false,true,true,false],[.val 0 (BT0),.val 4 (bS),.val 5 (BT1),.val 6 (bS),.val 7 (bS),.val 8 (bS)]⟩,
 ⟨186,[true,true,true,true,true,true,true,true],[.val 4 (bS),.val 5 (BT1),.val 6 (bS),.val 7 (bS)]⟩,
 ⟨187,[],[]⟩,
 ⟨188,[],[]⟩,
 ⟨189,[],[]⟩,
 ⟨190,[],[]⟩,
 ⟨191,[],[]⟩,
 ⟨191,[true,false,true,false],[.ptr 3 48,.val 1 (bS),.val 2 (BT0),.val 7 (bS),.slot 48 (BT8) true none]⟩,
 ⟨192,[],[]⟩,
 ⟨192,[true,true,true,true,true,true,false,false],[.ptr 4 64,.ptr 7 112,.ptr 8 128,.ptr 10 160,.val 1 (bS),.val 2 (BT0),.val 11 (bS),.slot 64 (BT8) true none,.slot 112 (BT5) true none,.slot 128 (BT3) true none,.slot 160 (BT3) true none]⟩,
 ⟨193,[],[]⟩,
 ⟨193,[true,true],[.ptr 2 32,.val 0 (BT0),.slot 32 (BT5) true none]⟩,
 ⟨194,[],[]⟩,
 ⟨195,[],[]⟩,
 ⟨196,[],[]⟩,
 ⟨197,[],[]⟩,
 ⟨198,[],[]⟩,
 ⟨198,[true,false,true,false],[.val 0 (dz),.val 1 (BT0),.val 7 (bS),.val 8 (bS)]⟩,
 ⟨199,[],[]⟩,
 ⟨199,[true,true,true,false,true,false,true,true,true],[.ptr 4 64,.val 1 (bS),.val 2 (bS),.val 3 (bS),.val 56 (bS),.val 62 (BT1),.slot 64 (BT4) true none]⟩,
 ⟨199,[true,true,true,false,true,false,true,true,true,true,true],[.ptr 4 64,.val 1 (bS),.val 3 (bS),.val 56 (bS),.val 75 (BT1),.slot 64 (BT4) true none]⟩,
 ⟨199,[true,true,true,false,true,false,true,true,true,true,true,true,true],[.ptr 4 64,.val 1 (bS),.val 56 (bS),.val 89 (BT1),.slot 64 (BT4) true none]⟩,
 ⟨199,[true,true,true,false,true,false,true,true,true,true,true,true,true,true,true,true,true],[.ptr 4 64,.val 1 (bS),.val 56 (bS),.val 106 (BT1),.slot 64 (BT4) true none]⟩,
 ⟨200,[],[]⟩,
 ⟨201,[],[]⟩,
 ⟨202,[],[]⟩,
 ⟨203,[],[]⟩,
 ⟨203,[true,false,true,false],[.clo 1 233 [16],.val 0 (gw),.val 7 (bS),.val 8 (bS),.slot 16 (.leaf true (.nm 4)) true none]⟩,
 ⟨204,[],[]⟩,
 ⟨205,[],[]⟩,
 ⟨205,[true,false,true,false],[.clo 1 237 [16,17],.val 0 (gw),.val 7 (bS),.val 8 (bS),.slot 16 (lO) true none,.slot 17 (.leaf true .str) true none]⟩,
 ⟨206,[],[]⟩,
 ⟨206,[true,true,true,true],[.val 0 (BT0),.val 1 (BT0),.val 2 (bS),.val 3 (bS)]⟩,
 ⟨206,[true,true,true,true,true,true,true,true,false,false],[.val 0 (BT0),.val 1 (BT0),.val 2 (bS),.val 3 (bS),.own 9 144 (fU),.val 10 (bS)]⟩,
 ⟨207,[],[]⟩,
 ⟨207,[true,false,true,false],[.clo 1 200 [],.val 0 (dz),.val 7 (bS),.val 8 (bS)]⟩,
 ⟨208,[],[]⟩,
 ⟨209,[],[]⟩,
 ⟨209,[true,true,false,false],[.ptr 0 0,.ptr 2 32,.own 3 48 (sa),.slot 0 (ki) true none,.slot 32 (cK) true none]⟩,
 ⟨210,[],[]⟩,
 ⟨210,[true,true,false,true,false],[.val 3 (bS),.val 7 (iG),.val 8 (bS),.val 9 (bS)]⟩,
 ⟨211,[],[]⟩,
 ⟨212,[],[]⟩,
 ⟨212,[true,true,false,true,false],[.val 0 (dy),.val 1 (BT0),.val 7 (bS)]⟩,
 ⟨213,[],[]⟩,
 ⟨214,[],[]⟩,
 ⟨214,[true,true,false,false],[.val 0 (BT0),.val 1 (bS),.val 5 (bS)]⟩,
 ⟨215,[],[]⟩,
 ⟨216,[],[]⟩,
 ⟨217,[],[]⟩,
 ⟨218,[],[]⟩,
 ⟨219,[],[]⟩,
 ⟨219,[true,false,false],[.val 0 (BT0),.val 1 (df)]⟩,
 ⟨220,[],[]⟩,
 ⟨220,[true,false,false],[.val 0 (BT0),.val 1 (df)]⟩,
 ⟨221,[],[]⟩,
 ⟨222,[],[]⟩,
 ⟨222,[true,true,true,true,true],[.ptr 4 64,.val 5 (df),.slot 0 (gu) true none,.slot 64 (cK) true none]⟩,
 ⟨223,[],[]⟩,
 ⟨224,[],[]⟩,
 ⟨225,[],[]⟩,
 ⟨226,[],[]⟩,
 ⟨226,[true,true,true,false,false],[.val 0 (BT0),.val 4 (bS),.val 5 (bS)]⟩,
 ⟨227,[],[]⟩,
 ⟨228,[],[]⟩,
 ⟨228,[true,false,true,false],[.val 0 (dy),.val 1 (BT0),.val 7 (bS)]⟩,
 ⟨229,[],[]⟩,
 ⟨230,[],[]⟩,
 ⟨230,[true,false,true,false],[.val 0 (BT0),.val 1 (BT0),.val 5 (bS)]⟩,
 ⟨231,[],[]⟩,
 ⟨231,[true,true,false,true,false],[.val 1 (df),.val 2 (df),.own 7 112 (sb),.val 8 (bS)]⟩,
 ⟨232,[],[]⟩,
 ⟨232,[true,true,true,true,true],[.val 3 (BT0),.val 4 (bS),.val 5 (bS)]⟩,
 ⟨233,[],[]⟩,
 ⟨233,[true,true,true,true,true],[.val 0 (bS),.val 4 (dz),.val 5 (BT0)]⟩,
 ⟨233,[true,true,true,true,false,true,false,true,true,true],[.val 0 (bS),.val 4 (dz),.val 5 (BT0),.val 13 (bS),.val 16 (BT1)]⟩,
 ⟨233,[true,true,true,true,false,true,false,true,true,true,true,true,true,true],[.val 0 (bS),.val 4 (dz),.val 5 (BT0),.val 22 (BT1)]⟩,
 ⟨234,[],[]⟩,
 ⟨235,[],[]⟩,
 ⟨236,[],[]⟩,
 ⟨237,[],[]⟩,
 ⟨237,[true,true,true],[.val 0 (BT0),.val 1 (bS)]⟩,
 ⟨237,[true,true,true,true,false,true,false],[.val 0 (BT0),.val 1 (bS),.own 6 96 (fU),.val 7 (bS)]⟩,
 ⟨238,[],[]⟩,
 ⟨238,[true,true,true,true,false],[.val 0 (BT0),.val 1 (BT0),.val 5 (bS)]⟩,
 ⟨239,[],[]⟩,
 ⟨239,[true,true,false,false],[.ptr 0 0,.ptr 2 32,.own 3 48 (sa),.slot 0 (ki) true none,.slot 32 (cK) true none]⟩,
 ⟨240,[],[]⟩,
 ⟨241,[],[]⟩,
 ⟨242,[],[]⟩,
 ⟨242,[true,true,false,true,false,true,true,true,true,true,true,true,true,true,true,true,false,true,false],[.own 0 2032 (eF),.val 51 (iG),.val 52 (bS),.val 53 (bS)]⟩,
 ⟨242,[true,true,true],[.own 0 2032 (eF)]⟩,
 ⟨243,[],[]⟩,
 ⟨243,[true,true,false,true,false],[.val 0 (dy),.val 9 (dy),.val 10 (bS),.val 11 (bS)]⟩,
 ⟨244,[],[]⟩,
 ⟨244,[true,true,true,true,false],[.val 0 (dy),.val 1 (BT0),.val 2 (bS),.val 7 (bS),.val 8 (dC)]⟩,
 ⟨244,[true,true,true,true,false,false,false,true,true],[.val 0 (dy),.val 1 (BT0),.val 2 (bS),.val 7 (bS),.val 8 (dC)]⟩,
 ⟨244,[true,true,true,true,false,false,false,true,true,true,true,false,true,false],[.val 0 (dy),.val 1 (BT0),.val 2 (bS),.val 7 (bS),.own 9 144 (eS),.val 49 (dC),.val 50 (bS),.val 51 (bS)]⟩,
 ⟨245,[],[]⟩,
 ⟨246,[],[]⟩,
 ⟨247,[],[]⟩,
 ⟨248,[],[]⟩,
 ⟨248,[true,true],[.val 0 (cz),.val 1 (cz),.val 2 (cz)]⟩,
 ⟨248,[true,true,true],[.val 0 (cz),.val 1 (cz),.val 2 (cz)]⟩,
 ⟨248,[true,true,true,true,true,true,true,true,true,true,true,true,true,true,false,false],[.val 2 (cz),.val 8 (cz),.val 9 (cz),.val 10 (cz),.val 11 (cz),.val 13 (cz),.val 14 (cz),.val 15 (cz),.val 16 (cz)]⟩,
 ⟨248,[true,true,true,true,true,true,true,true,true,true,true,true,true,true,true],[.val 2 (cz),.val 8 (cz),.val 9 (cz),.val 10 (cz),.val 11 (cz),.val 13 (cz),.val 14 (cz),.val 15 (cz)]⟩,
 ⟨248,[true,true,true,true,true,true,true,true,true,true,true,true,true,true,true,true,true,true,false,false],[.val 2 (cz),.val 8 (cz),.val 9 (cz),.val 10 (cz),.val 14 (cz),.val 15 (cz),.val 16 (cz),.val 17 (cz),.val 18 (cz)]⟩,
 ⟨248,[true,true,true,true,true,true,true,true,true,true,true,true,true,true,true,true,true,true,true],[.val 2 (cz),.val 8 (cz),.val 14 (cz),.val 15 (cz),.val 17 (cz),.val 18 (cz)]⟩,
 ⟨249,[],[]⟩,
 ⟨249,[true,true,true],[.ptr 0 0,.ptr 2 32,.ptr 3 48,.slot 0 (gu) true none,.slot 32 (cK) true none,.slot 48 (cK) true none]⟩,
 ⟨249,[true,true,true,true,true,false,false],[.ptr 0 0,.ptr 2 32,.ptr 3 48,.own 4 64 (fk),.val 5 (bS),.slot 0 (gu) true none,.slot 32 (cK) true none,.slot 48 (cK) true none]⟩,
 ⟨249,[true,true,true,true,true,false,false,false,true,false,true,true,true,true],[.ptr 0 0,.ptr 2 32,.ptr 3 48,.own 4 64 (fk),.val 5 (bS),.val 6 (bS),.val 7 (bS),.slot 0 (gu) true none,.slot 32 (cK) true none,.slot 48 (cK) true none]⟩,
 ⟨249,[true,true,true,true,true,true,true],[.ptr 0 0,.ptr 2 32,.ptr 3 48,.val 4 (pt),.slot 0 (gu) true none,.slot 32 (cK) true none,.slot 48 (cK) true none]⟩,
 ⟨249,[true,true,true,true,true,false,false,false,true,false,true,true,true,true,true],[.ptr 0 0,.ptr 2 32,.ptr 3 48,.own 4 64 (fk),.val 5 (bS),.val 6 (bS),.val 7 (bS),.slot 0 (gu) true none,.slot 32 (cK) true none,.slot 48 (cK) true none]⟩,
 ⟨249,[true,true,true,true,true,true,true,true,true,false,true,false],[.ptr 2 32,.ptr 3 48,.val 4 (pt),.own 9 144 (sb),.val 10 (bS),.slot 0 (gu) true none,.slot 32 (cK) true none,.slot 48 (cK) true none]⟩,
 ⟨249,[true,true,true,true,true,false,false,false,true,false,true,true,true,true,true,false,true,false],[.ptr 0 0,.ptr 2 32,.ptr 3 48,.own 4 64 (fk),.val 5 (bS),.val 7 (bS),.val 8 (bS),.slot 0 (gu) true none,.slot 32 (cK) true none,.slot 48 (cK) true none]⟩,
 ⟨250,[],[]⟩,
 ⟨251,[],[]⟩,
 ⟨251,[true,true,false,true,false,true,true,true,true,true,true,true,true,true,true,true,false,true,false],[.ptr 3 48,.own 0 2064 (eF),.val 6 (bS),.slot 48 (dF) true none]⟩,
 ⟨251,[true,true,true],[.own 0 2064 (eF)]⟩,
 ⟨252,[],[]⟩,
 ⟨253,[],[]⟩,
 ⟨253,[true,true,true,true,false,true,false],[.val 0 (dy),.val 1 (BT0),.val 7 (dC),.val 8 (bS),.val 9 (bS)]⟩,
 ⟨253,[true,true,true,true,false,true,false,false,true,false,false,true],[.val 0 (dy),.val 1 (BT0),.val 7 (dC),.val 8 (bS),.val 9 (bS)]⟩,
 ⟨253,[true,true,true,true,false,true,false,false,true,false,false,true,true,true,false,true,false],[.val 0 (dy),.val 1 (BT0),.val 7 (dC),.val 8 (bS),.val 9 (bS),.own 10 160 (eS),.val 11 (bS)]⟩,
 ⟨254,[],[]⟩,
 ⟨255,[],[]⟩,
 ⟨256,[],[]⟩,
 ⟨257,[],[]⟩,
 ⟨258,[],[]⟩,
 ⟨258,[true,true,false],[.ptr 0 0,.ptr 2 32,.ptr 3 48,.slot 0 (ki) true none,.slot 32 (cK) true none,.slot 48 (cK) true none]⟩,
 ⟨259,[],[]⟩,
 ⟨259,[true,true,true,true],[.ptr 2 32,.ptr 3 48,.val 5 (BT1),.slot 32 (dF) true none,.slot 48 (lO) true none]⟩,
 ⟨259,[true,true,true,false,true,false,true,true,true],[.ptr 2 32,.ptr 3 48,.val 5 (BT1),.val 33 (bS),.val 45 (BT1),.slot 32 (dF) true none,.slot 48 (lO) true none]⟩,
 ⟨259,[true,true,true,false,true,false,true,true,true,true,true,true,true],[.ptr 2 32,.ptr 3 48,.val 5 (BT1),.val 33 (bS),.val 64 (BT1),.slot 32 (dF) true none,.slot 48 (lO) true none]⟩,
 ⟨260,[],[]⟩,
 ⟨260,[true,true,false,true,false],[.own 0 1120 (eF),.val 1 (iG),.own 5 80 (eS),.val 16 (iG),.val 17 (bS),.val 18 (bS)]⟩,
 ⟨260,[true,true,true,true,false,true,false],[.own 0 1120 (eF),.val 56 (dC),.val 57 (bS),.val 58 (bS)]⟩,
 ⟨261,[],[]⟩,
 ⟨261,[true,true,false,true,false,true,true,true,true,true,true,true],[.ptr 3 48,.val 79 (BT1),.slot 48 (pq) true none]⟩,
 ⟨262,[],[]⟩,
 ⟨262,[true,true,true,true,false,true,false],[.ptr 4 64,.ptr 10 160,.clo 11 333 [64,144,160],.val 2 (BT1),.val 3 (BT1),.val 22 (dC),.val 23 (bS),.val 24 (bS),.slot 64 (dy) true none,.slot 144 (fk) true none,.slot 160 (eS) true none]⟩,
 ⟨262,[true,true,true,true,true,false,true,false],[.ptr 4 64,.ptr 10 160,.clo 11 333 [64,144,160],.val 2 (BT1),.val 3 (BT1),.val 14 (bS),.slot 64 (dy) true none,.slot 144 (fk) true none,.slot 160 (eS) true none]⟩,
 ⟨262,[true,true,true,true,true,false,true,false,false,true,true],[.ptr 4 64,.ptr 10 160,.clo 11 333 [64,144,160],.val 2 (BT1),.val 3 (BT1),.val 14 (bS),.slot 64 (dy) true none,.slot 144 (fk) true none,.slot 160 (eS) true none]⟩,
 ⟨263,[],[]⟩,
 ⟨264,[],[]⟩,
 ⟨265,[],[]⟩,
 ⟨265,[true,true,false,true,false,true,true],[.val 0 (BT0),.val 5 (BT0)]⟩,
 ⟨265,[true,true,false,true,false,true,true,true,false,true,false],[.val 5 (BT0),.val 6 (bS),.val 47 (v7),.val 48 (bS),.val 49 (bS)]⟩,
 ⟨266,[],[]⟩,
 ⟨267,[],[]⟩,
 ⟨267,[true,false,true,false],[.ptr 1 16,.val 3 (bS),.slot 16 (dF) true none]⟩,
 ⟨267,[true,true,true,false,true,false,true,true,true,true,true],[.ptr 1 16,.val 4 (bS),.val 23 (bS),.val 62 (BT1),.slot 16 (dF) true none]⟩,
 ⟨267,[true,true,true,false,true,false,true,true,true,true,true,true,true],[.ptr 1 16,.val 4 (bS),.val 82 (BT1),.slot 16 (dF) true none]⟩,
 ⟨268,[],[]⟩,
 ⟨268,[true,true,false,true,false],[.own 0 1104 (eF),.val 1 (iG),.own 5 80 (eS),.val 6 (bS)]⟩,
 ⟨268,[true,true,true,true,false,true,false],[.own 0 1104 (eF),.val 5 (dC),.val 8 (bS)]⟩,
 ⟨269,[],[]⟩,
 ⟨269,[true,true,false,true,false],[.val 0 (dy),.val 3 (bS),.val 4 (bS)]⟩,
 ⟨270,[],[]⟩,
 ⟨270,[true,true,false,true,false],[.val 0 (dy),.val 1 (dC),.val 2 (BT1),.val 3 (BT1),.own 9 144 (fk),.val 10 (bS)]⟩,
 ⟨271,[],[]⟩,
 ⟨272,[],[]⟩,
 ⟨273,[],[]⟩,
 ⟨273,[true,true,true,false,true,false,true,true,true,true,true,true,true,true,true,true,true,true,true],[.ptr 0 0,.ptr 2 32,.val 3 (df),.val 70 (BT1),.slot 0 (ki) true none,.slot 32 (cK) true none]⟩,
 ⟨274,[],[]⟩,
 ⟨275,[],[]⟩,
 ⟨276,[],[]⟩,
 ⟨276,[true,false,true,false],[.ptr 1 16,.val 6 (bS),.val 7 (bS),.slot 16 (dF) true none]⟩,
 ⟨277,[],[]⟩,
 ⟨278,[],[]⟩,
 ⟨279,[],[]⟩,
 ⟨279,[true,false,true,false],[.val 0 (dC),.val 1 (bS),.val 7 (bS),.val 8 (bS)]⟩,
 ⟨280,[],[]⟩,
 ⟨281,[],[]⟩,
 ⟨281,[true,true,true,true],[.val 0 (BT0),.val 1 (bS),.val 2 (bS),.val 8 (BT1)]⟩,
 ⟨281,[true,true,true,true,true,true,true,true],[.val 2 (bS),.val 8 (BT1),.val 9 (cz)]⟩,
 ⟨282,[],[]⟩,
 ⟨282,[true,true],[.val 0 (cz),.val 2 (bS)]⟩,
 ⟨282,[true,true,true],[.val 0 (cz),.val 2 (bS)]⟩,
 ⟨283,[],[]⟩,
 ⟨283,[true,false,true,false],[.val 0 (BT0),.val 3 (bS)]⟩,
 ⟨284,[],[]⟩,
 ⟨284,[true,true],[.ptr 2 32,.val 1 (bS),.val 5 (BT1),.slot 32 (pq) true none]⟩,
 ⟨284,[true,true,true],[.ptr 2 32,.val 1 (bS),.val 5 (BT1),.val 6 (BT1),.slot 32 (pq) true none]⟩,
 ⟨284,[true,true,true,true],[.ptr 2 32,.val 1 (bS),.val 5 (BT1),.val 6 (BT1),.val 7 (BT1),.slot 32 (pq) true none]⟩,
 ⟨284,[true,true,true,true,true],[.ptr 2 32,.val 5 (BT1),.val 6 (BT1),.val 7 (BT1),.val 8 (BT1),.slot 32 (pq) true none]⟩,
 ⟨284,[true,true,true,true,true,true],[.val 4 (BT1)]⟩,
 ⟨285,[],[]⟩,
 ⟨285,[true,false],[.val 0 (dy),.own 1 16 (fk),.val 3 (BT1),.val 4 (BT1),.own 10 160 (eS)]⟩,
 ⟨286,[],[]⟩,
 ⟨286,[true,true,false,true,false],[.val 0 (pt),.own 3 48 (eS),.val 4 (bS)]⟩,
 ⟨287,[],[]⟩,
 ⟨287,[true,false,true,false],[.val 0 (BT0),.val 1 (df),.val 5 (bS)]⟩,
 ⟨288,[],[]⟩,
 ⟨288,[true,true,true,true,true,true,true,false,true,false],[.ptr 0 0,.ptr 2 32,.ptr 3 48,.val 5 (BT0),.own 6 96 (fk),.val 7 (bS),.slot 0 (ki) true none,.slot 32 (cK) true none,.slot 48 (cK) true none]⟩,
 ⟨288,[true,true,true,true,true,true,true,false,true,false,false,true,false,false,true,true],[.ptr 0 0,.ptr 2 32,.ptr 3 48,.val 5 (BT0),.own 6 96 (fk),.val 7 (bS),.val 8 (bS),.val 9 (bS),.slot 0 (ki) true none,.slot 32 (cK) true none,.slot 48 (cK) true none]⟩,
 ⟨288,[true,true,true,true,true,true,true,true,true,false,true,false],[.ptr 2 32,.ptr 3 48,.own 11 176 (sb),.val 100 (pt),.val 101 (bS),.val 102 (bS),.slot 0 (ki) true none,.slot 32 (cK) true none,.slot 48 (cK) true none]⟩,
 ⟨288,[true,true,true,true,true,true,true,false,true,false,false,true,false,false,true,true,true,false],[.ptr 0 0,.ptr 2 32,.ptr 3 48,.val 5 (BT0),.own 6 96 (fk),.val 7 (bS),.val 9 (bS),.val 10 (bS),.slot 0 (ki) true none,.slot 32 (cK) true none,.slot 48 (cK) true none]⟩,
 ⟨289,[],[]⟩,
 ⟨289,[true,false,true,false],[.clo 1 339 [16],.val 0 (iG),.val 7 (bS),.val 8 (bS),.slot 16 (lO) true none]⟩,
 ⟨290,[],[]⟩,
 ⟨291,[],[]⟩,
 ⟨291,[true,true,true,true,true],[.val 0 (BT0),.val 1 (bS),.val 2 (bS),.val 8 (BT1),.val 9 (BT0)]⟩,
 ⟨291,[true,true,true,true,true,true],[.val 0 (BT0),.val 1 (bS),.val 2 (bS),.val 8 (BT1),.val 9 (BT0)]⟩,
 ⟨291,[true,true,true,true,true,true,true,true],[.val 0 (BT0),.val 1 (bS),.val 2 (bS),.val 8 (BT1),.val 9 (BT0),.val 10 (cz)]⟩,
 ⟨291,[true,true,true,true,true,true,true,true,true,true,true,false,true,false],[.val 1 (bS),.val 8 (BT1),.val 9 (BT0),.val 10 (cz),.val 11 (cz),.val 12 (BT1),.val 13 (cz),.val 99 (v7),.val 100 (bS),.val 101 (bS)]⟩,
 ⟨291,[true,true,true,true,true,true,true,true,true,true,true,false,true,false,false,true,true,false,false,true,true,true],[.val 1 (bS),.val 8 (BT1),.val 9 (BT0),.val 10 (cz),.val 11 (cz),.val 12 (BT1),.val 13 (cz),.val 16 (df),.val 99 (v7),.val 100 (bS),.val 101 (bS)]⟩,
 ⟨292,[],[]⟩,
 ⟨293,[],[]⟩,
 ⟨294,[],[]⟩,
 ⟨295,[],[]⟩,
 ⟨295,[true,true,true,true],[.val 0 (BT0),.val 3 (pu),.val 4 (bS)]⟩,
 ⟨295,[true,true,true,true,true,true],[.val 0 (BT0),.val 3 (pu),.val 4 (bS),.val 5 (BT1)]⟩,
 ⟨295,[true,true,true,true,true,true,false,false],[.val 0 (BT0),.val 3 (pu),.val 4 (bS),.val 5 (BT1)]⟩]
def entR:List EntI:=[
 ⟨5,.skip,[],[.val (v6),.val (pv)],[BT1],[],[(25,1),(27,1),(28,1),(42,1),(47,1),(76,1),(78,1),(79,1)],0,[],false⟩,
 ⟨7,.skip,[],[.val (v6),.val (bS)],[bS],[],[],0,[],false⟩,
 ⟨21,.skip,[],[.val (pv),.val (bS)],[bS],[],[],0,[(122,3)],false⟩,
 ⟨9,.skip,[],[.val (v6)],[.leaf true (.nm 6)],[],[],0,[],false⟩,
 ⟨23,.skip,[],[.val (pv)],[rY],[],[],0,[(58,6)],false⟩,
 ⟨22,.skip,[],[.val (BT6),.val (ko)],[BT7],[],[(10,1),(12,1),(30,1)],0,[(122,8)],false⟩,
 ⟨24,.skip,[],[.val (BT6),.val (ko)],[BT2],[],[],0,[(58,10)],false⟩,
 ⟨11,.skip,[],[.val (BT7),.val (BT7)],[BT1],[],[],0,[],false⟩,
 ⟨12,.skip,[],[.val (BT6),.val (BT6)],[BT1],[],[],0,[],false⟩,
 ⟨25,.skip,[],[.val (ko),.val (ko)],[BT1],[],[],0,[(58,14)],false⟩,
 ⟨13,.skip,[],[.own (.leaf true (.nm 6)),.val (bS)],[bS],[],[],0,[],false⟩,
 ⟨26,.skip,[],[.own (rY),.val (bS)],[bS],[],[],0,[(26,17)],false⟩,
 ⟨14,.skip,[],[.io (BT2),.val (bS)],[bS],[(32,.orig 0)],[],0,[],false⟩,
 ⟨15,.skip,[],[.val (BT7),.val (bS)],[bS],[],[],0,[],false⟩,
 ⟨33,.skip,[],[.val (dz),.val (bS)],[bS],[],[],0,[(122,21)],false⟩,
 ⟨34,.skip,[],[.val (rZ),.val (bS)],[bS],[],[],0,[(122,23)],false⟩,
 ⟨28,.skip,[],[.val (.leaf false (.nm 16)),.val (bS)],[bS],[],[],0,[],false⟩,
 ⟨37,.skip,[],[.val (dz)],[fU],[],[],0,[(58,26)],false⟩,
 ⟨38,.skip,[],[.val (rZ)],[rW],[],[],0,[(58,28)],false⟩,
 ⟨31,.skip,[],[.val (.leaf false (.nm 16))],[lN],[],[],0,[],false⟩,
 ⟨35,.skip,[],[.val (BT6)],[BT1],[],[],0,[(26,31),(58,32)],false⟩,
 ⟨36,.skip,[],[.val (BT6)],[BT7],[],[(7,1),(16,1)],0,[],false⟩,
 ⟨55,.skip,[],[.val (lN)],[BT1],[],[],0,[],false⟩,
 ⟨56,.skip,[],[.val (BT6),.val (BT7),.val (lN)],[BT7],[],[(45,1)],0,[],false⟩,
 ⟨10,.skip,[],[.val (BT6)],[BT2],[],[],0,[],false⟩,
 ⟨32,.skip,[],[.val (BT6),.val (BT7),.val (lN)],[BT2],[],[],0,[],false⟩,
 ⟨42,.skip,[],[.val (BT8),.val (BT8)],[BT1],[],[],0,[],false⟩,
 ⟨43,.skip,[],[.val (dC),.val (dC)],[BT1],[],[],0,[(58,40)],false⟩,
 ⟨44,.skip,[],[.val (dz),.val (dz)],[BT1],[],[],0,[(58,42)],false⟩,
 ⟨45,.skip,[],[.val (dY),.val (dY)],[BT1],[],[],0,[(58,44)],false⟩,
 ⟨57,.skip,[],[.val (lN),.val (lN)],[BT1],[],[],0,[],false⟩,
 ⟨46,.skip,[],[.own (fU),.val (bS)],[bS],[],[],0,[(26,47)],false⟩,
 ⟨47,.skip,[],[.own (rW),.val (bS)],[bS],[],[],0,[(26,49)],false⟩,
 ⟨58,.skip,[],[.val (bS)],[BT0],[],[(12,1)],0,[(60,51)],false⟩,
 ⟨48,.skip,[],[.io (BT3),.val (bS)],[bS],[(32,.orig 0)],[],0,[],false⟩,
 ⟨49,.skip,[],[.io (eS),.val (bS)],[bS],[(0,.reg)],[],0,[(26,54)],false⟩,
 ⟨50,.skip,[],[.val (BT8),.val (bS)],[bS],[],[],0,[],false⟩,
 ⟨51,.skip,[],[.val (dC),.val (bS)],[bS],[],[],0,[(26,57)],false⟩,
 ⟨69,.skip,[],[.val (.leaf false (.nm 1)),.val (bS)],[bS],[],[],0,[],false⟩,
 ⟨75,.skip,[],[.val (.leaf false (.nm 1))],[fT],[],[],0,[],false⟩,
 ⟨70,.skip,[],[.val (BT0)],[BT1],[],[],0,[(26,61)],false⟩,
 ⟨71,.skip,[],[.val (dz),.val (BT0)],[BT1],[],[],0,[(26,63)],false⟩,
 ⟨72,.skip,[],[.val (dY),.val (bS),.val (bS)],[BT1],[],[],0,[(122,65)],false⟩,
 ⟨73,.skip,[],[.val (BT6)],[BT8,BT0],[],[(11,1),(24,1)],0,[],false⟩,
 ⟨74,.skip,[],[.val (bS)],[BT8],[],[(7,1)],0,[],false⟩,
 ⟨94,.skip,[],[.val (bS),.val (bS),.val (bS)],[BT1],[],[],0,[],false⟩,
 ⟨95,.skip,[],[.val (BT0)],[BT1],[],[],0,[(26,70)],false⟩,
 ⟨62,.skip,[],[.val (BT7)],[BT2],[],[],0,[],false⟩,
 ⟨96,.skip,[],[.val (BT6),.val (BT8),.val (BT0)],[BT8,BT0],[],[(40,1)],0,[(31,73)],false⟩,
 ⟨39,.skip,[],[.val (BT6)],[BT1],[],[],0,[],false⟩,
 ⟨40,.skip,[],[.val (BT6)],[BT3,BT0],[],[(13,1)],0,[],false⟩,
 ⟨41,.skip,[],[.val (bS)],[BT3],[],[],0,[],false⟩,
 ⟨65,.skip,[],[.val (BT7)],[BT2],[],[],0,[],false⟩,
 ⟨66,.skip,[],[.val (BT6),.val (BT7)],[BT1],[],[],0,[],false⟩,
 ⟨67,.skip,[],[.val (lN)],[BT1],[],[],0,[],false⟩,
 ⟨68,.skip,[],[.val (BT6),.val (BT8),.val (BT0)],[BT3,BT0],[],[],0,[],false⟩,
 ⟨84,.skip,[],[.val (dN),.val (dN)],[BT1],[],[],0,[(58,82)],false⟩,
 ⟨85,.skip,[],[.val (gw),.val (gw)],[BT1],[],[],0,[(58,84)],false⟩,
 ⟨86,.skip,[],[.val (fT),.val (fT)],[BT1],[],[],0,[],false⟩,
 ⟨87,.skip,[],[.io (rX),.val (bS)],[bS],[(0,.reg)],[],0,[(26,87)],false⟩,
 ⟨88,.skip,[],[.io (kj),.val (bS)],[bS],[(0,.reg)],[],0,[(26,89)],false⟩,
 ⟨89,.skip,[],[.val (dN),.val (bS)],[bS],[],[],0,[(26,91)],false⟩,
 ⟨90,.skip,[],[.val (gw),.val (bS)],[bS],[],[],0,[(26,93)],false⟩,
 ⟨110,.skip,[],[.val (df)],[BT1],[],[],0,[],false⟩,
 ⟨111,.skip,[],[.val (BT0)],[BT1],[],[(3,1),(7,1)],0,[],false⟩,
 ⟨112,.skip,[],[.val (fT),.val (bS),.val (bS),.val (bS)],[BT1],[],[(71,1),(86,1)],0,[(863,97),(3455,98),(13823,99),(221183,100)],false⟩,
 ⟨100,.skip,[],[.val (BT8)],[BT3],[],[],0,[],false⟩,
 ⟨113,.skip,[],[.ptr (dP) (dP),.val (dY)],[],[(0,.box)],[],0,[(30,103)],false⟩,
 ⟨114,.skip,[],[.ptr (.leaf false (.nm 18)) (.leaf false (.nm 18)),.val (BT8)],[BT8,BT0],[(0,.box)],[(14,1)],0,[],false⟩,
 ⟨116,.skip,[],[.val (bS),.val (bS)],[bS],[],[],0,[],false⟩,
 ⟨115,.skip,[],[.val (bS),.val (bS)],[bS],[],[],0,[],false⟩,
 ⟨133,.skip,[],[.val (BT0)],[fU],[],[(31,1)],0,[(122,108)],false⟩,
 ⟨134,.skip,[],[.ptr (dP) (dP),.val (bS)],[],[(0,.box)],[],0,[],false⟩,
 ⟨76,.skip,[],[.val (dz)],[BT1],[],[],0,[(26,111)],false⟩,
 ⟨77,.skip,[],[.val (dz),.clo 78 [BT6]],[BT1],[(16,.box)],[],0,[],false⟩,
 ⟨80,.skip,[],[.val (dY),.val (bS),.val (bS)],[BT1],[],[],0,[],false⟩,
 ⟨81,.skip,[],[.val (BT8)],[BT3],[],[],0,[],false⟩,
 ⟨82,.skip,[],[.ptr (ef) (ef),.val (dY)],[],[(0,.box)],[(28,1)],0,[(14,116),(115,117),(15007231,118)],false⟩,
 ⟨83,.skip,[],[.ptr (.pr (BT3) (.pr (BT0) (.pr (BT0) (.pr (dN) (Bw))))) (.pr (.hole 4) (.pr (BT0) (.pr (BT0) (.pr (dN) (Bw))))),.val (BT8)],[BT3,BT0],[(0,.box)],[(4,5)],0,[],false⟩,
 ⟨103,.skip,[],[.val (dC)],[eS],[],[],0,[],false⟩,
 ⟨104,.skip,[],[.val (BT8),.val (bS),.val (bS)],[BT1],[],[],0,[(58,122)],false⟩,
 ⟨105,.skip,[],[.val (dC),.clo 106 []],[BT1],[],[],0,[],false⟩,
 ⟨107,.skip,[],[.val (bS),.val (bS),.val (bS)],[BT1],[],[],0,[],false⟩,
 ⟨108,.skip,[],[.val (BT0)],[BT1],[],[],0,[],false⟩,
 ⟨109,.skip,[],[.ptr (ef) (ef),.val (bS)],[],[(0,.box)],[],0,[],false⟩,
 ⟨130,.skip,[],[.val (cF),.val (cF)],[BT1],[],[],0,[],false⟩,
 ⟨131,.skip,[],[.val (iE),.val (iE)],[BT1],[],[],0,[],false⟩,
 ⟨147,.skip,[],[],[dz],[],[(1,1)],0,[],false⟩,
 ⟨148,.skip,[],[.val (bS)],[BT1],[],[],0,[],false⟩,
 ⟨149,.skip,[],[.val (BT0)],[dF,BT1],[],[(9,1),(14,1),(33,1)],0,[],false⟩,
 ⟨150,.skip,[],[.ref (fS) (fS) (dP) (dP),.val (fT),.val (bS)],[bS,BT1],[(0,.box),(1,.box)],[(32,2)],0,[(127,133),(4153343,134)],false⟩,
 ⟨117,.skip,[],[.val (BT0)],[BT1],[],[],0,[],false⟩,
 ⟨118,.skip,[],[.val (dz),.clo 78 [BT6]],[bS],[(16,.box)],[],0,[(26,137)],false⟩,
 ⟨120,.skip,[],[.val (dY),.clo 121 [dY,bS,bS]],[BT1],[(16,.box),(17,.box),(18,.box)],[],0,[],false⟩,
 ⟨123,.skip,[],[.val (dN)],[rX],[],[],0,[],false⟩,
 ⟨124,.skip,[],[.val (gw)],[kj],[],[],0,[],false⟩,
 ⟨126,.skip,[],[.val (fT)],[bS],[],[],0,[(53,142),(7,143)],false⟩,
 ⟨125,.skip,[],[.ptr (ef) (ef),.val (bS)],[dN],[(0,.box)],[(26,2)],0,[],false⟩,
 ⟨127,.skip,[],[.val (cF)],[BT1],[],[],0,[(53,146)],false⟩,
 ⟨128,.skip,[],[.ptr (ef) (ef),.val (fT),.val (dN)],[],[(0,.box)],[],0,[],false⟩,
 ⟨129,.skip,[],[.ptr (ef) (ef),.val (fT),.val (dN)],[],[(0,.box)],[(112,1),(113,4)],0,[],false⟩,
 ⟨141,.skip,[],[.val (dN),.clo 142 []],[BT1],[],[],0,[],false⟩,
 ⟨143,.skip,[],[.val (cF)],[BT1],[],[],0,[],false⟩,
 ⟨144,.skip,[],[.val (iE),.val (iE)],[bS],[],[],0,[],false⟩,
 ⟨145,.skip,[],[.val (dC),.clo 106 []],[bS],[],[],0,[(26,153)],false⟩,
 ⟨146,.skip,[],[.val (BT0),.val (BT0)],[BT1],[],[],0,[],false⟩,
 ⟨181,.skip,[],[.ptr (gv) (gv),.val (bS)],[cK],[(0,.box)],[],0,[(28,156)],false⟩,
 ⟨182,.skip,[],[.val (dF)],[bS],[],[],0,[(58,158)],false⟩,
 ⟨183,.skip,[],[.val (fT)],[bS],[],[],0,[(53,160)],false⟩,
 ⟨184,.skip,[],[.val (cF)],[BT1],[],[],0,[(53,162)],false⟩,
 ⟨185,.skip,[],[.ptr (dP) (dP),.val (BT0)],[],[(0,.box)],[],0,[],false⟩,
 ⟨186,.skip,[],[.val (cF)],[BT0],[],[],0,[],false⟩,
 ⟨187,.skip,[],[.ref (fS) (fS) (dP) (dP),.val (fT),.val (dN)],[],[(0,.box),(1,.box)],[],0,[],false⟩,
 ⟨188,.skip,[],[.ref (fS) (fS) (dP) (dP),.val (fT),.val (dN)],[],[(0,.box),(1,.box)],[],0,[(31,167)],false⟩,
 ⟨151,.skip,[],[.val (BT0),.val (bS)],[bS],[],[],0,[(28,169)],false⟩,
 ⟨152,.skip,[],[.val (BT0)],[BT1],[],[(14,1)],0,[(53,171)],false⟩,
 ⟨78,.skip,[],[.val (BT0),.ptr (BT6) (BT6)],[BT1],[(16,.box)],[],0,[],false⟩,
 ⟨153,.skip,[],[.val (dY),.clo 121 [dY,bS,bS]],[bS],[(16,.box),(17,.box),(18,.box)],[],0,[(26,174)],false⟩,
 ⟨158,.skip,[],[.ptr (ef) (ef),.val (cF)],[],[(0,.box)],[(18,1)],0,[],false⟩,
 ⟨159,.skip,[],[.ptr (ef) (ef),.val (cF),.val (cF)],[cF],[(0,.box)],[],0,[],false⟩,
 ⟨162,.skip,[],[.val (cF)],[BT0],[],[],0,[],false⟩,
 ⟨161,.skip,[],[.val (BT0)],[BT0],[],[],0,[],false⟩,
 ⟨160,.skip,[],[.ptr (ef) (ef),.val (bS),.val (BT0),.val (cF)],[],[(0,.box)],[],0,[],false⟩,
 ⟨163,.skip,[],[.val (BT8),.val (bS),.val (BT0)],[cF],[],[],0,[],false⟩,
 ⟨164,.skip,[],[.val (BT8),.val (bS),.val (BT0)],[BT3],[],[],0,[],false⟩,
 ⟨165,.skip,[],[.ptr (ef) (ef),.val (BT0)],[],[(0,.box)],[],0,[],false⟩,
 ⟨166,.skip,[],[.val (bS)],[cF],[],[],0,[],false⟩,
 ⟨167,.skip,[],[.val (BT0)],[cF],[],[],0,[],false⟩,
 ⟨169,.skip,[],[.val (cF)],[bS],[],[],0,[],false⟩,
 ⟨168,.skip,[],[.val (BT0),.val (bS)],[cF],[],[(11,1)],0,[],false⟩,
 ⟨170,.skip,[],[.val (BT0)],[dz],[],[(5,1)],0,[],false⟩,
 ⟨172,.skip,[],[.val (BT0),.val (BT0)],[BT1],[],[(9,1)],0,[],false⟩,
 ⟨171,.skip,[],[.val (BT1)],[cF],[],[],0,[],false⟩,
 ⟨173,.skip,[],[.val (cF)],[bS],[],[],0,[(53,191)],false⟩,
 ⟨174,.skip,[],[.val (BT0),.val (dN)],[cF],[],[(14,1),(24,4)],0,[(12,193)],false⟩,
 ⟨175,.skip,[],[.val (bS),.val (cF),.val (cF)],[cF,bS],[],[],0,[],false⟩,
 ⟨177,.skip,[],[.val (dN),.clo 142 []],[bS],[],[],0,[(26,196)],false⟩,
 ⟨155,.skip,[],[.val (bS)],[BT1],[],[],0,[],false⟩,
 ⟨178,.skip,[],[.val (BT0)],[bS,BT1],[],[],0,[],false⟩,
 ⟨179,.skip,[],[.val (BT0),.val (BT0)],[bS],[],[],0,[],false⟩,
 ⟨106,.skip,[],[.val (bS)],[BT1],[],[],0,[],false⟩,
 ⟨180,.skip,[],[.val (BT0),.val (BT0)],[bS],[],[],0,[],true⟩,
 ⟨212,.skip,[],[.ptr (gv) (gv),.val (bS)],[cK],[(0,.box)],[],0,[(28,203)],false⟩,
 ⟨213,.skip,[],[.ptr (gv) (gv),.val (df)],[BT1],[(0,.box)],[],0,[],false⟩,
 ⟨214,.skip,[],[.val (bS)],[BT0],[],[],0,[(4052,206),(127,207)],false⟩,
 ⟨215,.skip,[],[.ref (fS) (fS) (dP) (dP),.val (cF)],[],[(0,.box),(1,.box)],[(21,1)],0,[],false⟩,
 ⟨217,.skip,[],[.val (cF)],[bS],[],[],0,[(53,210)],false⟩,
 ⟨216,.skip,[],[.ptr (dP) (dP),.val (bS),.val (bS),.val (bS)],[cF],[(0,.box)],[],0,[(15,212)],false⟩,
 ⟨219,.skip,[],[.val (cF)],[BT0],[],[],0,[],false⟩,
 ⟨218,.skip,[],[.val (BT8),.val (bS),.val (BT0)],[cF],[],[],0,[],false⟩,
 ⟨220,.skip,[],[.ref (fS) (fS) (dP) (dP),.val (bS),.val (BT0),.val (cF)],[],[(0,.box),(1,.box)],[],0,[],false⟩,
 ⟨221,.skip,[],[.val (BT8),.val (bS),.val (BT0)],[BT3],[],[],0,[],false⟩,
 ⟨222,.skip,[],[.val (bS)],[cF],[],[],0,[],false⟩,
 ⟨223,.skip,[],[.ptr (dP) (dP),.val (cF)],[cF],[(0,.box)],[],0,[],false⟩,
 ⟨224,.skip,[],[.ptr (dP) (dP),.val (cF),.val (cF)],[cF],[(0,.box)],[],0,[],false⟩,
 ⟨225,.skip,[],[.val (BT0),.val (BT0)],[cF],[],[(9,1)],0,[],false⟩,
 ⟨226,.skip,[],[.val (BT1)],[cF],[],[],0,[],false⟩,
 ⟨227,.skip,[],[.val (BT0),.val (dN)],[cF],[],[(20,1)],0,[],false⟩,
 ⟨228,.skip,[],[.val (bS),.val (cF),.val (cF)],[cF],[],[(23,1)],0,[],false⟩,
 ⟨189,.skip,[],[.val (df)],[BT1],[],[],0,[],false⟩,
 ⟨157,.skip,[],[],[dz],[],[(1,1)],0,[],false⟩,
 ⟨79,.skip,[],[.val (dz),.val (BT0)],[BT1],[],[],0,[],false⟩,
 ⟨121,.skip,[],[.val (fT),.ptr (dY) (dY),.ptr (bS) (bS),.ptr (bS) (bS)],[BT1],[(16,.box),(32,.box),(48,.box)],[],0,[],false⟩,
 ⟨191,.skip,[],[.val (bS),.val (bS)],[bS,BT1],[],[],0,[],false⟩,
 ⟨193,.skip,[],[.val (bS)],[BT0],[],[],0,[(31,230)],false⟩,
 ⟨192,.skip,[],[.val (BT8),.val (bS),.val (BT0),.val (cF)],[BT3,BT1],[],[],0,[],false⟩,
 ⟨194,.skip,[],[.val (BT8),.val (bS),.val (BT0)],[bS],[],[],0,[],false⟩,
 ⟨195,.skip,[],[.own (kj),.val (bS),.val (bS)],[kj],[],[],0,[],true⟩,
 ⟨197,.skip,[],[.val (bS)],[bS],[],[],0,[],false⟩,
 ⟨196,.skip,[],[.val (BT0)],[cF],[],[],0,[],false⟩,
 ⟨199,.skip,[],[.val (BT0),.val (BT0)],[fU],[],[],0,[],false⟩,
 ⟨198,.skip,[],[.own (fU),.clo 200 []],[dz],[],[(38,2)],0,[(122,238)],false⟩,
 ⟨190,.skip,[],[.val (BT0)],[dF,BT1],[],[(9,1),(14,1),(31,1)],0,[],false⟩,
 ⟨201,.skip,[],[.val (dF),.val (BT0)],[BT1],[],[(10,1)],0,[],false⟩,
 ⟨202,.skip,[],[.val (BT0)],[bS,bS],[],[],0,[(31,242),(1023,243)],false⟩,
 ⟨203,.skip,[],[.val (BT0),.val (df),.val (df)],[BT0],[],[],0,[(58,245)],false⟩,
 ⟨204,.skip,[],[.val (BT0),.val (bS),.val (bS)],[BT0],[],[],0,[],false⟩,
 ⟨205,.skip,[],[.val (bS),.val (bS),.val (bS)],[bS,bS],[],[],0,[(15,248)],false⟩,
 ⟨207,.skip,[],[.val (cF),.val (cF)],[bS],[],[],0,[],false⟩,
 ⟨206,.skip,[],[.val (bS),.val (bS)],[BT1],[],[],0,[],false⟩,
 ⟨142,.skip,[],[.val (cF)],[BT1],[],[],0,[],false⟩,
 ⟨209,.skip,[],[.val (BT0),.val (BT0)],[BT0],[],[],0,[],false⟩,
 ⟨210,.skip,[],[.val (BT0),.val (BT0)],[bS],[],[],0,[],false⟩,
 ⟨260,.skip,[],[.ptr (gv) (gv),.val (bS)],[cK],[(0,.box)],[],0,[(28,255),(907,256)],false⟩,
 ⟨261,.skip,[],[.val (bS)],[bS],[],[],0,[],false⟩,
 ⟨262,.skip,[],[.val (bS)],[BT0],[],[(12,1)],0,[(60,259)],false⟩,
 ⟨208,.skip,[],[.val (BT0)],[bS,bS],[],[],0,[(28,261),(63,262),(508,263),(16342,264),(511,265)],false⟩,
 ⟨263,.skip,[],[.val (bS),.val (bS)],[bS,BT1],[],[],0,[],false⟩,
 ⟨264,.skip,[],[.val (bS),.val (bS)],[bS,BT1],[],[],0,[],false⟩,
 ⟨265,.skip,[],[.val (bS),.val (bS)],[bS,BT1],[],[],0,[],false⟩,
 ⟨266,.skip,[],[.val (bS),.val (bS)],[bS,BT1],[],[],0,[],false⟩,
 ⟨267,.skip,[],[.val (BT8),.val (bS),.val (BT0)],[bS],[],[],0,[(26,271)],false⟩,
 ⟨268,.skip,[],[.val (BT8),.val (bS),.val (BT0),.val (cF)],[BT3,BT1],[],[(61,1)],0,[(508,273)],false⟩,
 ⟨269,.skip,[],[.val (BT0)],[cF],[],[],0,[(7,275)],false⟩,
 ⟨270,.skip,[],[.val (dF),.val (BT0)],[BT1],[],[(10,1)],0,[],false⟩,
 ⟨271,.skip,[],[.val (BT1)],[bS],[],[],0,[],false⟩,
 ⟨272,.skip,[],[.val (BT0),.val (dN)],[cF],[],[],0,[],false⟩,
 ⟨273,.skip,[],[.val (cF),.val (cF)],[bS],[],[],0,[],false⟩,
 ⟨119,.skip,[],[.val (dz),.val (BT0)],[bS],[],[],0,[(26,281)],false⟩,
 ⟨122,.skip,[],[.val (fT),.val (bS),.val (bS),.val (bS)],[BT1],[],[(101,1)],0,[(983,283),(3935,284),(15743,285),(251903,286)],false⟩,
 ⟨231,.skip,[],[.val (bS)],[bS,BT1],[],[],0,[],false⟩,
 ⟨235,.skip,[],[.val (bS)],[BT0],[],[],0,[],true⟩,
 ⟨236,.skip,[],[.val (BT0),.val (BT0)],[BT0],[],[],0,[],false⟩,
 ⟨232,.skip,[],[.val (gw),.clo 233 [iE]],[bS],[(16,.box)],[],0,[(26,291)],false⟩,
 ⟨234,.skip,[],[.own (kj),.val (bS),.own (kj)],[kj],[],[],0,[],true⟩,
 ⟨232,.skip,[],[.val (gw),.clo 237 [bS,BT0]],[bS],[(16,.box),(17,.box)],[],0,[(26,294)],false⟩,
 ⟨238,.skip,[],[.val (BT0),.val (BT0),.val (bS),.val (bS)],[fU],[],[],0,[(31,296),(2044,297)],false⟩,
 ⟨118,.skip,[],[.val (dz),.clo 200 []],[bS],[],[],0,[(26,299)],false⟩,
 ⟨200,.skip,[],[.val (BT0)],[BT1],[],[],0,[],false⟩,
 ⟨229,.skip,[],[.ptr (fI) (fI)],[cK],[(0,.box)],[],0,[(28,302)],false⟩,
 ⟨230,.skip,[],[.val (dF)],[bS],[],[],0,[(58,304)],false⟩,
 ⟨240,.skip,[],[.val (dF)],[dy],[],[(9,1)],0,[],false⟩,
 ⟨239,.skip,[],[.val (dy),.val (BT0)],[bS,bS,BT1],[],[],0,[(58,307)],false⟩,
 ⟨241,.skip,[],[.val (BT0),.val (BT0)],[BT0],[],[],0,[],false⟩,
 ⟨242,.skip,[],[.val (BT0),.val (bS)],[bS],[],[],0,[(28,310)],false⟩,
 ⟨243,.skip,[],[.val (BT0),.val (BT0)],[bS,BT1],[],[],0,[],false⟩,
 ⟨244,.skip,[],[.val (bS),.val (bS)],[bS,BT1],[],[],0,[],false⟩,
 ⟨245,.skip,[],[.val (bS),.val (bS)],[bS,BT1],[],[],0,[],false⟩,
 ⟨246,.skip,[],[.val (bS),.val (bS)],[bS,BT1],[],[],0,[],false⟩,
 ⟨249,.skip,[],[.val (BT0),.val (df)],[BT0],[],[],0,[(12,316)],false⟩,
 ⟨248,.skip,[],[.val (BT0),.val (df)],[BT0],[],[],0,[(12,318)],false⟩,
 ⟨255,.skip,[],[.val (BT0),.val (BT0)],[bS],[],[],0,[],true⟩,
 ⟨295,.skip,[],[.ptr (gv) (gv),.val (bS)],[cK],[(0,.box)],[],0,[(63,321)],false⟩,
 ⟨247,.skip,[],[.val (df)],[BT1],[],[],0,[],false⟩,
 ⟨296,.skip,[],[.val (bS)],[bS,BT1],[],[],0,[],false⟩,
 ⟨138,.skip,[],[.val (iE),.val (bS),.val (BT0)],[BT1],[],[],0,[],false⟩,
 ⟨176,.skip,[],[.val (BT0)],[bS,BT1],[],[],0,[(60,326)],false⟩,
 ⟨298,.skip,[],[.val (dF)],[dy],[],[(6,1),(10,1)],0,[],false⟩,
 ⟨297,.skip,[],[.val (dy),.val (BT0)],[bS,bS,BT1],[],[],0,[(26,329)],false⟩,
 ⟨299,.skip,[],[.val (bS)],[bS],[],[],0,[],false⟩,
 ⟨300,.skip,[],[.val (BT0),.val (BT0)],[bS],[],[],0,[(26,332)],false⟩,
 ⟨301,.skip,[],[.val (BT0),.val (df),.val (df)],[BT0],[],[],0,[(58,334)],false⟩,
 ⟨302,.skip,[],[.val (dN)],[BT0],[],[],0,[(63,336)],false⟩,
 ⟨154,.skip,[],[.val (bS)],[BT0,BT0],[],[(6,1)],0,[(63,338),(2007,339),(32127,340)],false⟩,
 ⟨156,.skip,[],[.val (BT0)],[BT1],[],[(7,1)],0,[],false⟩,
 ⟨233,.skip,[],[.val (iE),.ptr (iE) (iE)],[BT1],[(16,.box)],[],0,[],false⟩,
 ⟨237,.skip,[],[.val (iE),.ptr (bS) (bS),.ptr (BT0) (BT0)],[BT1],[(16,.box),(32,.box)],[],0,[],false⟩,
 ⟨279,.skip,[],[.val (BT0),.val (bS)],[fU],[],[],0,[(15,345),(250,346)],false⟩,
 ⟨280,.skip,[],[.val (BT0),.val (BT0)],[bS],[],[],0,[(62,348)],false⟩,
 ⟨274,.skip,[],[.ptr (fI) (fI)],[cK],[(0,.box)],[],0,[(28,350)],false⟩,
 ⟨275,.skip,[],[.ptr (fI) (fI),.val (df)],[BT1],[(0,.box)],[],0,[],false⟩,
 ⟨283,.skip,[],[.val (dF)],[BT1],[],[],0,[],false⟩,
 ⟨284,.skip,[],[.own (eF),.val (dF)],[eF],[],[(18,1),(24,1),(34,1),(40,1),(46,1),(73,1),(83,1),(105,1),(113,1)],0,[(966650,354),(15,355)],false⟩,
 ⟨281,.skip,[],[.val (dy)],[BT1],[],[],0,[(58,357)],false⟩,
 ⟨282,.skip,[],[.val (dy),.val (BT0),.val (bS)],[bS],[],[(22,1),(31,1),(66,1)],0,[(62,359),(995,360),(31866,361)],false⟩,
 ⟨285,.skip,[],[.val (BT0)],[bS,.hole 1],[],[(16,1)],0,[],false⟩,
 ⟨287,.skip,[],[.val (bS)],[cz],[],[],0,[],false⟩,
 ⟨286,.skip,[],[.val (cz),.val (cz)],[cz,cz],[],[],0,[],false⟩,
 ⟨288,.skip,[],[.val (cz),.val (cz),.val (cz)],[cz,cz],[],[],0,[(7,366),(15,367),(131068,368),(65535,369),(2097148,370),(1048575,371)],false⟩,
 ⟨321,.skip,[],[.ptr (gv) (gv)],[cK],[(0,.box)],[(171,1)],0,[(15,373),(252,374),(32303,375),(255,376),(64607,377),(8186,378),(516858,379)],false⟩,
 ⟨323,.skip,[],[.val (dF)],[BT1],[],[],0,[],false⟩,
 ⟨325,.skip,[],[.own (eF),.val (dF)],[eF],[],[(18,1),(32,1),(76,1),(105,1)],0,[(966650,382),(15,383)],false⟩,
 ⟨324,.skip,[],[.own (eF),.val (bS)],[eF],[],[(8,1)],0,[],false⟩,
 ⟨322,.skip,[],[.val (dy),.val (BT0),.val (bS)],[bS],[],[(23,1),(30,1),(76,1),(85,1)],0,[(250,386),(8009,387),(256314,388)],false⟩,
 ⟨307,.skip,[],[.val (BT0)],[bS],[],[],0,[],false⟩,
 ⟨290,.skip,[],[.val (BT0)],[pu,bS],[],[],0,[],false⟩,
 ⟨308,.skip,[],[.val (BT0),.val (df)],[bS],[],[],0,[],true⟩,
 ⟨303,.skip,[],[.ptr (fI) (fI)],[df,BT1],[(0,.box)],[],0,[],false⟩,
 ⟨304,.skip,[],[.ptr (fI) (fI)],[cK],[(0,.box)],[],0,[(14,394)],false⟩,
 ⟨313,.skip,[],[.val (dF),.val (bS)],[BT1],[],[],0,[(31,396),(983,397),(15743,398)],false⟩,
 ⟨314,.skip,[],[.own (eF),.val (iG)],[eF],[],[(28,1),(35,1),(39,1)],0,[(58,400),(250,401)],false⟩,
 ⟨309,.skip,[],[.val (rV),.val (bS),.val (BT1)],[BT1],[],[],0,[(7551,403)],false⟩,
 ⟨310,.skip,[],[.val (dy),.val (dC),.val (BT1),.val (BT1)],[dC],[],[],0,[(250,405),(506,406),(4051,407)],false⟩,
 ⟨311,.skip,[],[.val (dC),.val (bS)],[BT1],[],[],0,[],false⟩,
 ⟨312,.skip,[],[.val (rV),.val (df)],[BT1],[],[],0,[],false⟩,
 ⟨315,.skip,[],[.val (BT0)],[bS,.hole 1],[],[],0,[(235,411),(3770,412)],false⟩,
 ⟨317,.skip,[],[.val (cz)],[bS],[],[],0,[],false⟩,
 ⟨350,.skip,[],[.val (dF)],[BT1],[],[],0,[(26,415),(3935,416),(15743,417)],false⟩,
 ⟨351,.skip,[],[.own (eF),.val (iG)],[eF],[],[(29,1)],0,[(58,419),(250,420)],false⟩,
 ⟨347,.skip,[],[.val (dy)],[BT1],[],[],0,[(58,422)],false⟩,
 ⟨348,.skip,[],[.val (dy),.val (dC),.val (BT1),.val (BT1)],[eS],[],[],0,[(58,424)],false⟩,
 ⟨349,.skip,[],[.val (rV),.val (df)],[BT1],[],[],0,[],false⟩,
 ⟨318,.skip,[],[.val (BT0)],[pu,bS],[],[],0,[],false⟩,
 ⟨326,.skip,[],[.ptr (fI) (fI)],[cK],[(0,.box)],[],0,[(1007615,428)],false⟩,
 ⟨327,.skip,[],[.val (df)],[bS],[],[],0,[],false⟩,
 ⟨338,.skip,[],[.val (iG),.clo 339 [bS]],[BT1],[(16,.box)],[],0,[],false⟩,
 ⟨337,.skip,[],[.val (dF)],[BT1],[],[],0,[(26,432)],false⟩,
 ⟨333,.skip,[],[.val (bS),.ptr (dy) (dy),.ptr (fk) (fk),.ptr (eS) (eS)],[],[(16,.box),(32,.box),(48,.box)],[(22,1)],0,[],false⟩,
 ⟨334,.skip,[],[.io (eS)],[],[],[],0,[],true⟩,
 ⟨335,.skip,[],[.val (dC),.val (bS)],[bS],[],[],0,[(26,436)],false⟩,
 ⟨336,.skip,[],[.val (BT0),.val (df)],[bS],[],[],0,[],false⟩,
 ⟨340,.skip,[],[.val (BT0),.val (bS),.val (bS)],[bS,.hole 1],[],[],0,[(31,439),(511,440)],false⟩,
 ⟨345,.skip,[],[.val (cz)],[bS],[],[],0,[(7,442),(15,443)],false⟩,
 ⟨367,.skip,[],[.val (BT0)],[BT1],[],[],0,[(26,445)],false⟩,
 ⟨363,.skip,[],[.val (rV),.val (bS)],[BT1],[],[],0,[(7,447),(15,448),(31,449),(63,450),(127,451)],false⟩,
 ⟨364,.skip,[],[.val (dy),.io (fk),.val (bS),.val (BT1),.val (BT1)],[],[(16,.reg)],[(57,1),(66,1),(74,1),(82,1)],0,[(6,453)],false⟩,
 ⟨365,.skip,[],[.val (pt)],[eS],[],[(18,1)],0,[(58,455)],false⟩,
 ⟨366,.skip,[],[.val (BT0),.val (df)],[BT1],[],[],0,[(26,457)],false⟩,
 ⟨352,.skip,[],[.ptr (fI) (fI)],[cK],[(0,.box)],[(111,1)],0,[(2042,459),(130707,460),(8186,461),(522830,462)],false⟩,
 ⟨359,.skip,[],[.val (iG),.clo 339 [bS]],[bS],[(16,.box)],[],0,[(26,464)],false⟩,
 ⟨256,.skip,[],[.val (BT0),.val (df)],[bS],[],[],0,[],false⟩,
 ⟨360,.skip,[],[.val (BT0),.val (bS),.val (bS)],[cz,.hole 1],[],[],0,[(63,467),(127,468),(511,469),(32762,470),(8387175,471)],false⟩,
 ⟨339,.skip,[],[.val (dF),.ptr (bS) (bS)],[BT1],[(16,.box)],[],0,[],false⟩,
 ⟨293,.skip,[],[.val (BT0),.val (df)],[bS],[],[],0,[],true⟩,
 ⟨380,.skip,[],[.val (df)],[df],[],[],0,[],false⟩,
 ⟨381,.skip,[],[.val (BT0)],[BT1],[],[],0,[(31,476),(127,477),(508,478)],false⟩]
def Cb:lP:=[((180,[]),201),((195,[]),233),((235,[]),288),((234,[]),292),((255,[]),319),((308,[]),391),((334,[]),434),((293,[]),473)]
def Ca:lP:=[((5,[]),0),((7,[]),1),((21,[]),2),((9,[]),4),((23,[]),5),((22,[]),7),((24,[]),9),((11,[]),11),((12,[]),12),((25,[]),13),((13,[]),15),((26,[]),16),((14,[]),18),((15,[]),19),((33,[]),20),((34,[]),22),((28,[]),24),((37,[]),25),((38,[]),27),((31,[]),29),((35,[]),30),((36,[]),33),((55,[]),34),((56,[]),35),((10,[]),36),((32,[]),37),((42,[]),38),((43,[]),39),((44,[]),41),((45,[]),43),((57,[]),45),((46,[]),46),((47,[]),48),((58,[]),50),((48,[]),52),((49,[]),53),((50,[]),55),((51,[]),56),((69,[]),58),((75,[]),59),((70,[]),60),((71,[]),62),((72,[]),64),((73,[]),66),((74,[]),67),((94,[]),68),((95,[]),69),((62,[]),71),((96,[]),72),((39,[]),74),((40,[]),75),((41,[]),76),((65,[]),77),((66,[]),78),((67,[]),79),((68,[]),80),((84,[]),81),((85,[]),83),((86,[]),85),((87,[]),86),((88,[]),88),((89,[]),90),((90,[]),92),((110,[]),94),((111,[]),95),((112,[]),96),((100,[]),101),((113,[]),102),((114,[]),104),((116,[]),105),((115,[]),106),((133,[]),107),((134,[]),109),((76,[]),110),((77,[78]),112),((80,[]),113),((81,[]),114),((82,[]),115),((83,[]),119),((103,[]),120),((104,[]),121),((105,[106]),123),((107,[]),124),((108,[]),125),((109,[]),126),((130,[]),127),((131,[]),128),((147,[]),129),((148,[]),130),((149,[]),131),((150,[]),132),((117,[]),135),((118,[78]),136),((120,[121]),138),((123,[]),139),((124,[]),140),((126,[]),141),((125,[]),144),((127,[]),145),((128,[]),147),((129,[]),148),((141,[142]),149),((143,[]),150),((144,[]),151),((145,[106]),152),((146,[]),154),((181,[]),155),((182,[]),157),((183,[]),159),((184,[]),161),((185,[]),163),((186,[]),164),((187,[]),165),((188,[]),166),((151,[]),168),((152,[]),170),((78,[]),172),((153,[121]),173),((158,[]),175),((159,[]),176),((162,[]),177),((161,[]),178),((160,[]),179),((163,[]),180),((164,[]),181),((165,[]),182),((166,[]),183),((167,[]),184),((169,[]),185),((168,[]),186),((170,[]),187),((172,[]),188),((171,[]),189),((173,[]),190),((174,[]),192),((175,[]),194),((177,[142]),195),((155,[]),197),((178,[]),198),((179,[]),199),((106,[]),200),((212,[]),202),((213,[]),204),((214,[]),205),((215,[]),208),((217,[]),209),((216,[]),211),((219,[]),213),((218,[]),214),((220,[]),215),((221,[]),216),((222,[]),217),((223,[]),218),((224,[]),219),((225,[]),220),((226,[]),221),((227,[]),222),((228,[]),223),((189,[]),224),((157,[]),225),((79,[]),226),((121,[]),227),((191,[]),228),((193,[]),229),((192,[]),231),((194,[]),232),((197,[]),234),((196,[]),235),((199,[]),236),((198,[200]),237),((190,[]),239),((201,[]),240),((202,[]),241),((203,[]),244),((204,[]),246),((205,[]),247),((207,[]),249),((206,[]),250),((142,[]),251),((209,[]),252),((210,[]),253),((260,[]),254),((261,[]),257),((262,[]),258),((208,[]),260),((263,[]),266),((264,[]),267),((265,[]),268),((266,[]),269),((267,[]),270),((268,[]),272),((269,[]),274),((270,[]),276),((271,[]),277),((272,[]),278),((273,[]),279),((119,[]),280),((122,[]),282),((231,[]),287),((236,[]),289),((232,[233]),290),((232,[237]),293),((238,[]),295),((118,[200]),298),((200,[]),300),((229,[]),301),((230,[]),303),((240,[]),305),((239,[]),306),((241,[]),308),((242,[]),309),((243,[]),311),((244,[]),312),((245,[]),313),((246,[]),314),((249,[]),315),((248,[]),317),((295,[]),320),((247,[]),322),((296,[]),323),((138,[]),324),((176,[]),325),((298,[]),327),((297,[]),328),((299,[]),330),((300,[]),331),((301,[]),333),((302,[]),335),((154,[]),337),((156,[]),341),((233,[]),342),((237,[]),343),((279,[]),344),((280,[]),347),((274,[]),349),((275,[]),351),((283,[]),352),((284,[]),353),((281,[]),356),((282,[]),358),((285,[]),362),((287,[]),363),((286,[]),364),((288,[]),365),((321,[]),372),((323,[]),380),((325,[]),381),((324,[]),384),((322,[]),385),((307,[]),389),((290,[]),390),((303,[]),392),((304,[]),393),((313,[]),395),((314,[]),399),((309,[]),402),((310,[]),404),((311,[]),408),((312,[]),409),((315,[]),410),((317,[]),413),((350,[]),414),((351,[]),418),((347,[]),421),((348,[]),423),((349,[]),425),((318,[]),426),((326,[]),427),((327,[]),429),((338,[339]),430),((337,[]),431),((333,[]),433),((335,[]),435),((336,[]),437),((340,[]),438),((345,[]),441),((367,[]),444),((363,[]),446),((364,[]),452),((365,[]),454),((366,[]),456),((352,[]),458),((359,[339]),463),((256,[]),465),((360,[]),466),((339,[]),472),((380,[]),474),((381,[]),475)]
def zy(e:Nat):EntI:=entR.getD e ⟨0,.skip,[],[],[],[],[],0,[],true⟩
def fg(k:Nat):KeyI:=keyL.getD k ⟨0,[false],[]⟩
noncomputable def tab:Tab where
 G:=gam
 ty:=mA tyL
 ifc:=tV EN
 key k:=tz zy (fg k)
 ent k:=fill Tryz.prog (zy k)
 call:=tR (Cb++Ca)
 tabs := [("internal/bytealg.MaxLen", .i64, []), ("internal/strconv.uint64pow10", .u64, Go.Lib.pow10Tab)]
 ext k:=match k with
  | 201=>fun x=>if List.length (α:=Int) x.1<4294967281 then some (cD x.1 x.2.1,())else none
  | 233=>fun x=>nE (α:=bo) x.1 x.2.1 x.2.2.1
  | 288=>fun x=>some (jL x.1,())
  | 292=>fun x=>ob (α:=bo) x.1 x.2.1 x.2.2.1
  | 319=>fun x=>some (dq x.1 x.2.1,())
  | 391=>fun x=>some (eg x.1 x.2.1,())
  | 434=>fun x=>if List.length (α:=Int) x.1≤room then some (dR x.1,())else none
  | 473=>fun x=>some (dr x.1 x.2.1,())
  | _=>fun _=>none
end Go.Proofs.YthgknhkeifcflaaGreatDoor.E.TE
