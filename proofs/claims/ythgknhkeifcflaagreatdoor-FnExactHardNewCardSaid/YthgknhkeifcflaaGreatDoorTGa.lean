/- The table of G: structs,types,entries,keys. No condition. -/
import Derived.Test.YthgknhkeifcflaaGreatDoorEG4
import Derived.Test.YthgknhkeifcflaaGreatDoorProg
import Derived.KernelRfl
namespace Go.Proofs.YthgknhkeifcflaaGreatDoor.E.TG
open Go.Proofs.YthgknhkeifcflaaGreatDoor.E
set_option linter.unusedVariables false
set_option maxRecDepth 100000
structure bL where
 Code:Int
 N:Int
 S:(_root_.List Int)
def AB:bL:=⟨0,0,[]⟩
structure bM where
 Vars:(_root_.List (_root_.List Int))
 Cells:(_root_.List (_root_.List Int))
 Start:(_root_.List bL)
 Main:(_root_.List bL)
def Uy:bM:=⟨[],[],[],[]⟩
structure bF where
 Kind:Int
 N:Int
 S:(_root_.List Int)
def bU:bF:=⟨0,0,[]⟩
structure bo where
 Name:Int
 Key:(_root_.List Int)
 Val:bF
def cD:bo:=⟨0,[],bU⟩
structure bE where
 Vars:(_root_.List bF)
 Cells:(_root_.List bo)
 Nr:Int
 Err:Int
def mT:bE:=⟨[],[],0,0⟩
structure bz where
 State:bE
 Done:(_root_.List Int)
 Out:(_root_.List Int)
def vh:bz:=⟨mT,[],[]⟩
structure bA where
 Code:Int
 N:Int
 S:(_root_.List Int)
def cE:bA:=⟨0,0,[]⟩
structure bC where
 Vars:(_root_.List (_root_.List Int))
 Cells:(_root_.List (_root_.List Int))
 Start:(_root_.List bA)
 Main:(_root_.List bA)
def Us:bC:=⟨[],[],[],[]⟩
structure bq where
 Who:Int
 Seq:Int
 Line:(_root_.List Int)
def IK:bq:=⟨0,0,[]⟩
structure bt where
 Term:Int
 C:bq
def d7:bt:=⟨0,IK⟩
structure bw where
 Base:Int
 BaseTerm:Int
 List:(_root_.List bt)
def lt:bw:=⟨0,0,[]⟩
structure bv where
 Term:Int
 Vote:Int
 Log:bw
 Snap:bz
def Ur:bv:=⟨0,0,lt,vh⟩
structure bO where
 Kind:Int
 N:Int
 S:(_root_.List Int)
def IM:bO:=⟨0,0,[]⟩
structure bI where
 Name:Int
 Key:(_root_.List Int)
 Val:bO
def Uv:bI:=⟨0,[],IM⟩
structure bN where
 Vars:(_root_.List bO)
 Cells:(_root_.List bI)
 Nr:Int
 Err:Int
def IL:bN:=⟨[],[],0,0⟩
structure bK where
 State:bN
 Done:(_root_.List Int)
 Out:(_root_.List Int)
def Ux:bK:=⟨IL,[],[]⟩
structure bJ where
 Who:Int
 Seq:Int
 Line:(_root_.List Int)
def Uw:bJ:=⟨0,0,[]⟩
structure bH where
 s:bE
 line:(_root_.List Int)
 out:(_root_.List Int)
 stack:(_root_.List bF)
 err:Int
def Uu:bH:=⟨mT,[],[],[],0⟩
structure bP where
 s:bE
 vars:(_root_.List (_root_.List Int))
 cells:(_root_.List (_root_.List Int))
 line:(_root_.List Int)
 fields:(_root_.List (_root_.List Int))
 out:(_root_.List Int)
 fuel:Int
 done:Bool
def Uz:bP:=⟨mT,[],[],[],[],[],0,false⟩
structure bD where
 Op:Int
 C:Int
 Set:(_root_.List Int)
 Not:Bool
 Kids:(_root_.List bD)
def b9:bD:=⟨0,0,[],false,[]⟩
structure bQ where
 l:Unit
 stack:(_root_.List bF)
def UA:bQ:=⟨(),[]⟩
structure bR where
 s:(_root_.List Int)
 at_:Int
 bad:Bool
def UB:bR:=⟨[],0,false⟩
structure bG where
 s:(_root_.List Int)
 bad:Bool
def Ut:bG:=⟨[],false⟩
structure bB where
 Op:Int
 C:Int
 Set:(_root_.List Int)
 Not:Bool
 A:Int
 B:Int
def b8:bB:=⟨0,0,[],false,0,0⟩
def gT:Nat→Type
 | 0=>bM
 | 1=>bL
 | 2=>bE
 | 3=>bF
 | 4=>bo
 | 5=>bz
 | 6=>bC
 | 7=>bA
 | 8=>bw
 | 9=>bt
 | 10=>bq
 | 11=>bv
 | 12=>bN
 | 13=>bO
 | 14=>bI
 | 15=>bK
 | 16=>bJ
 | 17=>bH
 | 18=>bP
 | 19=>bD
 | 20=>bQ
 | 21=>bR
 | 22=>bG
 | 23=>bB
 | _=>Unit
def gfs:Nat→List FT
 | 0=>[(.sl .str),(.sl .str),(.sl (.nm 1)),(.sl (.nm 1))]
 | 1=>[(.int .i64),(.int .i64),.str]
 | 2=>[(.sl (.nm 3)),(.sl (.nm 4)),(.int .i64),(.int .i64)]
 | 3=>[(.int .i64),(.int .i64),.str]
 | 4=>[(.int .i64),.str,(.nm 3)]
 | 5=>[(.nm 2),(.sl (.int .i64)),.str]
 | 6=>[(.sl .str),(.sl .str),(.sl (.nm 7)),(.sl (.nm 7))]
 | 7=>[(.int .i64),(.int .i64),.str]
 | 8=>[(.int .i64),(.int .i64),(.sl (.nm 9))]
 | 9=>[(.int .i64),(.nm 10)]
 | 10=>[(.int .i64),(.int .i64),.str]
 | 11=>[(.int .i64),(.int .i64),(.nm 8),(.nm 5)]
 | 12=>[(.sl (.nm 13)),(.sl (.nm 14)),(.int .i64),(.int .i64)]
 | 13=>[(.int .i64),(.int .i64),.str]
 | 14=>[(.int .i64),.str,(.nm 13)]
 | 15=>[(.nm 12),(.sl (.int .i64)),.str]
 | 16=>[(.int .i64),(.int .i64),.str]
 | 17=>[(.nm 2),.str,.str,(.sl (.nm 3)),(.int .i64)]
 | 18=>[(.nm 2),(.sl .str),(.sl .str),.str,(.sl .str),.str,(.int .i64),.bool]
 | 19=>[(.int .i64),(.int .i64),.str,.bool,(.sl (.nm 19))]
 | 20=>[.ptr,(.sl (.nm 3))]
 | 21=>[.str,(.int .i64),.bool]
 | 22=>[.str,.bool]
 | 23=>[(.int .i64),(.int .i64),.str,.bool,(.int .i64),(.int .i64)]
 | _=>[]
def gun:∀ n,gT n→Js gT (gfs n)
 | 0,x=>(x.Vars,(x.Cells,(x.Start,(x.Main,()))))
 | 1,x=>(x.Code,(x.N,(x.S,())))
 | 2,x=>(x.Vars,(x.Cells,(x.Nr,(x.Err,()))))
 | 3,x=>(x.Kind,(x.N,(x.S,())))
 | 4,x=>(x.Name,(x.Key,(x.Val,())))
 | 5,x=>(x.State,(x.Done,(x.Out,())))
 | 6,x=>(x.Vars,(x.Cells,(x.Start,(x.Main,()))))
 | 7,x=>(x.Code,(x.N,(x.S,())))
 | 8,x=>(x.Base,(x.BaseTerm,(x.List,())))
 | 9,x=>(x.Term,(x.C,()))
 | 10,x=>(x.Who,(x.Seq,(x.Line,())))
 | 11,x=>(x.Term,(x.Vote,(x.Log,(x.Snap,()))))
 | 12,x=>(x.Vars,(x.Cells,(x.Nr,(x.Err,()))))
 | 13,x=>(x.Kind,(x.N,(x.S,())))
 | 14,x=>(x.Name,(x.Key,(x.Val,())))
 | 15,x=>(x.State,(x.Done,(x.Out,())))
 | 16,x=>(x.Who,(x.Seq,(x.Line,())))
 | 17,x=>(x.s,(x.line,(x.out,(x.stack,(x.err,())))))
 | 18,x=>(x.s,(x.vars,(x.cells,(x.line,(x.fields,(x.out,(x.fuel,(x.done,()))))))))
 | 19,x=>(x.Op,(x.C,(x.Set,(x.Not,(x.Kids,())))))
 | 20,x=>(x.l,(x.stack,()))
 | 21,x=>(x.s,(x.at_,(x.bad,())))
 | 22,x=>(x.s,(x.bad,()))
 | 23,x=>(x.Op,(x.C,(x.Set,(x.Not,(x.A,(x.B,()))))))
 | (n+24),_=>()
def gpk:∀ n,Js gT (gfs n)→gT n
 | 0,y=>⟨y.1,y.2.1,y.2.2.1,y.2.2.2.1⟩
 | 1,y=>⟨y.1,y.2.1,y.2.2.1⟩
 | 2,y=>⟨y.1,y.2.1,y.2.2.1,y.2.2.2.1⟩
 | 3,y=>⟨y.1,y.2.1,y.2.2.1⟩
 | 4,y=>⟨y.1,y.2.1,y.2.2.1⟩
 | 5,y=>⟨y.1,y.2.1,y.2.2.1⟩
 | 6,y=>⟨y.1,y.2.1,y.2.2.1,y.2.2.2.1⟩
 | 7,y=>⟨y.1,y.2.1,y.2.2.1⟩
 | 8,y=>⟨y.1,y.2.1,y.2.2.1⟩
 | 9,y=>⟨y.1,y.2.1⟩
 | 10,y=>⟨y.1,y.2.1,y.2.2.1⟩
 | 11,y=>⟨y.1,y.2.1,y.2.2.1,y.2.2.2.1⟩
 | 12,y=>⟨y.1,y.2.1,y.2.2.1,y.2.2.2.1⟩
 | 13,y=>⟨y.1,y.2.1,y.2.2.1⟩
 | 14,y=>⟨y.1,y.2.1,y.2.2.1⟩
 | 15,y=>⟨y.1,y.2.1,y.2.2.1⟩
 | 16,y=>⟨y.1,y.2.1,y.2.2.1⟩
 | 17,y=>⟨y.1,y.2.1,y.2.2.1,y.2.2.2.1,y.2.2.2.2.1⟩
 | 18,y=>⟨y.1,y.2.1,y.2.2.1,y.2.2.2.1,y.2.2.2.2.1,y.2.2.2.2.2.1,y.2.2.2.2.2.2.1,y.2.2.2.2.2.2.2.1⟩
 | 19,y=>⟨y.1,y.2.1,y.2.2.1,y.2.2.2.1,y.2.2.2.2.1⟩
 | 20,y=>⟨y.1,y.2.1⟩
 | 21,y=>⟨y.1,y.2.1,y.2.2.1⟩
 | 22,y=>⟨y.1,y.2.1⟩
 | 23,y=>⟨y.1,y.2.1,y.2.2.1,y.2.2.2.1,y.2.2.2.2.1,y.2.2.2.2.2.1⟩
 | (n+24),_=>()
theorem K2:∀ n y,gun n (gpk n y)=y
 | 0,_=>rfl
 | 1,_=>rfl
 | 2,_=>rfl
 | 3,_=>rfl
 | 4,_=>rfl
 | 5,_=>rfl
 | 6,_=>rfl
 | 7,_=>rfl
 | 8,_=>rfl
 | 9,_=>rfl
 | 10,_=>rfl
 | 11,_=>rfl
 | 12,_=>rfl
 | 13,_=>rfl
 | 14,_=>rfl
 | 15,_=>rfl
 | 16,_=>rfl
 | 17,_=>rfl
 | 18,_=>rfl
 | 19,_=>rfl
 | 20,_=>rfl
 | 21,_=>rfl
 | 22,_=>rfl
 | 23,_=>rfl
 | (n+24),_=>rfl
theorem K0:∀ n x,gpk n (gun n x)=x
 | 0,x=>by cases x;rfl
 | 1,x=>by cases x;rfl
 | 2,x=>by cases x;rfl
 | 3,x=>by cases x;rfl
 | 4,x=>by cases x;rfl
 | 5,x=>by cases x;rfl
 | 6,x=>by cases x;rfl
 | 7,x=>by cases x;rfl
 | 8,x=>by cases x;rfl
 | 9,x=>by cases x;rfl
 | 10,x=>by cases x;rfl
 | 11,x=>by cases x;rfl
 | 12,x=>by cases x;rfl
 | 13,x=>by cases x;rfl
 | 14,x=>by cases x;rfl
 | 15,x=>by cases x;rfl
 | 16,x=>by cases x;rfl
 | 17,x=>by cases x;rfl
 | 18,x=>by cases x;rfl
 | 19,x=>by cases x;rfl
 | 20,x=>by cases x;rfl
 | 21,x=>by cases x;rfl
 | 22,x=>by cases x;rfl
 | 23,x=>by cases x;rfl
 | (n+24),_=>rfl
def gz:∀ n,gT n
 | 0=>Uy
 | 1=>AB
 | 2=>mT
 | 3=>bU
 | 4=>cD
 | 5=>vh
 | 6=>Us
 | 7=>cE
 | 8=>lt
 | 9=>d7
 | 10=>IK
 | 11=>Ur
 | 12=>IL
 | 13=>IM
 | 14=>Uv
 | 15=>Ux
 | 16=>Uw
 | 17=>Uu
 | 18=>Uz
 | 19=>b9
 | 20=>UA
 | 21=>UB
 | 22=>Ut
 | 23=>b8
 | (n+24)=>()
theorem K3:∀ n,gun n (gz n)=mU gz (gfs n)
 | 0=>rfl
 | 1=>rfl
 | 2=>rfl
 | 3=>rfl
 | 4=>rfl
 | 5=>rfl
 | 6=>rfl
 | 7=>rfl
 | 8=>rfl
 | 9=>rfl
 | 10=>rfl
 | 11=>rfl
 | 12=>rfl
 | 13=>rfl
 | 14=>rfl
 | 15=>rfl
 | 16=>rfl
 | 17=>rfl
 | 18=>rfl
 | 19=>rfl
 | 20=>rfl
 | 21=>rfl
 | 22=>rfl
 | 23=>rfl
 | (n+24)=>rfl
def gsz:Nat→Nat
 | 0=>4
 | 1=>3
 | 2=>4
 | 3=>3
 | 4=>5
 | 5=>6
 | 6=>4
 | 7=>3
 | 8=>3
 | 9=>4
 | 10=>3
 | 11=>11
 | 12=>4
 | 13=>3
 | 14=>5
 | 15=>6
 | 16=>3
 | 17=>8
 | 18=>11
 | 19=>5
 | 20=>2
 | 21=>3
 | 22=>2
 | 23=>6
 | _=>0
theorem K1:∀ n,gsz n=FT.szs gsz (gfs n)
 | 0=>rfl
 | 1=>rfl
 | 2=>rfl
 | 3=>rfl
 | 4=>rfl
 | 5=>rfl
 | 6=>rfl
 | 7=>rfl
 | 8=>rfl
 | 9=>rfl
 | 10=>rfl
 | 11=>rfl
 | 12=>rfl
 | 13=>rfl
 | 14=>rfl
 | 15=>rfl
 | 16=>rfl
 | 17=>rfl
 | 18=>rfl
 | 19=>rfl
 | 20=>rfl
 | 21=>rfl
 | 22=>rfl
 | 23=>rfl
 | (n+24)=>rfl
def gfl:Nat→Bool
 | 0=>false
 | 1=>true
 | 2=>false
 | 3=>true
 | 4=>true
 | 5=>false
 | 6=>false
 | 7=>true
 | 8=>false
 | 9=>true
 | 10=>true
 | 11=>false
 | 12=>false
 | 13=>true
 | 14=>true
 | 15=>false
 | 16=>true
 | 17=>false
 | 18=>false
 | 19=>false
 | 20=>false
 | 21=>true
 | 22=>true
 | 23=>true
 | _=>true
theorem KZ:∀ n,gfl n=true→FT.flats gfl (gfs n)=true
 | 0,h=>by cases h
 | 1,h=>rfl
 | 2,h=>by cases h
 | 3,h=>rfl
 | 4,h=>rfl
 | 5,h=>by cases h
 | 6,h=>by cases h
 | 7,h=>rfl
 | 8,h=>by cases h
 | 9,h=>rfl
 | 10,h=>rfl
 | 11,h=>by cases h
 | 12,h=>by cases h
 | 13,h=>rfl
 | 14,h=>rfl
 | 15,h=>by cases h
 | 16,h=>rfl
 | 17,h=>by cases h
 | 18,h=>by cases h
 | 19,h=>by cases h
 | 20,h=>by cases h
 | 21,h=>rfl
 | 22,h=>rfl
 | 23,h=>rfl
 | (n+24),_=>rfl
def gam:Gam:=⟨gT,gfs,gun,gpk,K2,K0,gz,K3,gsz,K1,gfl,KZ⟩
def tyL:List (Nat×FT):=[(2,(.int .i64)),(3,(.int .i64)),(4,.bool),(5,(.int .u8)),(6,(.int .u8)),(9,.str),(21,(.int .i32)),(22,(.sl .str)),(23,(.sl (.nm 1))),(25,(.nm 0)),(27,(.sl (.nm 3))),(28,(.sl (.nm 4))),(30,(.nm 2)),(31,(.sl (.int .i64))),(33,(.nm 5)),(35,(.sl (.nm 7))),(37,(.nm 6)),(44,(.sl (.nm 9))),(46,(.nm 8)),(48,(.nm 11)),(72,(.nm 10)),(103,(.nm 1)),(107,(.nm 7)),(114,(.nm 17)),(125,(.sl (.int .u8))),(136,.ptr),(138,(.nm 18)),(148,(.nm 3)),(151,(.nm 4)),(160,(.nm 9)),(176,(.sl (.nm 19))),(178,(.nm 19)),(183,(.nm 20)),(211,(.nm 21)),(243,(.nm 22)),(252,(.sl (.nm 23))),(263,(.int .u64)),(265,(.sl .bool)),(273,(.nm 23)),(278,(.int .u64)),(313,(.int .i64))]
def DL:List Nat:=[275]
abbrev BT0:BT:=.leaf false .str
abbrev BT1:BT:=.leaf false .bool
abbrev BT2:BT:=.leaf true (.nm 7)
abbrev BT3:BT:=.leaf true (.nm 2)
abbrev BT4:BT:=.leaf true (.nm 3)
abbrev BT5:BT:=.leaf false (.nm 6)
abbrev BT6:BT:=.leaf true (.nm 18)
abbrev BT7:BT:=.leaf true (.nm 20)
abbrev BT8:BT:=.leaf true (.nm 21)
abbrev BT9:BT:=.leaf true (.nm 19)
abbrev d8:BT:=.leaf false (.nm 2)
abbrev jY:BT:=.leaf true (.nm 22)
abbrev oT:BT:=.leaf true (.nm 23)
abbrev vi:BT:=.leaf false (.nm 0)
abbrev rj:BT:=.leaf false (.nm 5)
abbrev vj:BT:=.leaf false (.nm 8)
abbrev fM:BT:=.leaf false (.nm 7)
abbrev cH:BT:=.leaf false (.nm 3)
abbrev im:BT:=.leaf false (.nm 4)
abbrev dC:BT:=.leaf false (.nm 19)
abbrev rl:BT:=.leaf false (.nm 11)
abbrev gf:BT:=.leaf false (.nm 21)
abbrev fB:BT:=.leaf false (.nm 22)
abbrev rm:BT:=.leaf false (.nm 23)
abbrev gG:BT:=.leaf true (.sl .str)
abbrev du:BT:=.leaf false (.sl .str)
abbrev lx:BT:=.leaf true (.int .i64)
abbrev de:BT:=.leaf false (.int .u8)
abbrev ff:BT:=.leaf true (.sl .bool)
abbrev bS:BT:=.leaf false (.int .i64)
abbrev cy:BT:=.leaf false (.int .u64)
abbrev oU:BT:=.leaf false (.sl .bool)
abbrev oV:BT:=.leaf false (.int .i32)
abbrev rn:BT:=.leaf true (.sl (.nm 7))
abbrev ro:BT:=.leaf true (.sl (.nm 3))
abbrev jZ:BT:=.leaf true (.sl (.nm 4))
abbrev rp:BT:=.leaf false (.sl (.nm 1))
abbrev dV:BT:=.leaf false (.sl (.nm 7))
abbrev mW:BT:=.leaf false (.sl (.nm 9))
abbrev dW:BT:=.leaf false (.sl (.nm 3))
abbrev gH:BT:=.leaf false (.sl (.nm 4))
abbrev rq:BT:=.leaf true (.sl (.nm 19))
abbrev eE:BT:=.leaf true (.sl (.nm 23))
abbrev ip:BT:=.leaf false (.sl (.nm 19))
abbrev dr:BT:=.leaf false (.sl (.nm 23))
abbrev rr:BT:=.leaf true (.sl (.int .u8))
abbrev eX:BT:=.leaf true (.sl (.int .i64))
abbrev vk:BT:=.leaf false (.sl (.int .u8))
abbrev dN:BT:=.leaf false (.sl (.int .i64))
abbrev AD:BT:=.pr (.leaf false (.int .i64)) (.un)
abbrev d9:BT:=.pr (.leaf true (.nm 2)) (.pr (.leaf false .str) (.pr (.leaf false .str) (.pr (.leaf true (.sl (.nm 3))) (.pr (.leaf false (.int .i64)) (.un)))))
abbrev dK:BT:=.pr (.leaf true (.nm 2)) (.pr (.leaf true (.sl .str)) (.pr (.leaf true (.sl .str)) (.pr (.leaf false .str) (.pr (.leaf true (.sl .str)) (.pr (.leaf false .str) (.pr (.leaf false (.int .i64)) (.pr (.leaf false .bool) (.un))))))))
def keyL:List KeyI:=[
 ⟨0,[],[]⟩,
 ⟨1,[],[]⟩,
 ⟨2,[],[]⟩,
 ⟨3,[],[]⟩,
 ⟨4,[],[]⟩,
 ⟨5,[],[]⟩,
 ⟨6,[],[]⟩,
 ⟨7,[],[]⟩,
 ⟨8,[],[]⟩,
 ⟨9,[],[]⟩,
 ⟨10,[],[]⟩,
 ⟨10,[true,true,true,false,true,false],[.val 0 (du),.val 1 (bS),.val 5 (bS)]⟩,
 ⟨11,[],[]⟩,
 ⟨11,[true,true,true,false,true,false],[.val 0 (rp),.val 1 (bS),.val 5 (bS)]⟩,
 ⟨12,[],[]⟩,
 ⟨12,[true,true,false,true,false],[.val 0 (du),.own 3 48 (gG),.val 4 (bS)]⟩,
 ⟨13,[],[]⟩,
 ⟨13,[true,true,false,true,false],[.val 0 (rp),.own 3 48 (rn),.val 4 (bS)]⟩,
 ⟨14,[],[]⟩,
 ⟨14,[true,false,true,false],[.ptr 1 16,.val 3 (bS),.slot 16 (BT5) true none]⟩,
 ⟨14,[true,true,false,true,false],[.ptr 1 16,.val 4 (bS),.slot 16 (BT5) true none]⟩,
 ⟨15,[],[]⟩,
 ⟨16,[],[]⟩,
 ⟨17,[],[]⟩,
 ⟨18,[],[]⟩,
 ⟨19,[],[]⟩,
 ⟨20,[],[]⟩,
 ⟨20,[true,true,false,true,false],[.val 0 (du),.val 1 (du),.val 5 (bS)]⟩,
 ⟨21,[],[]⟩,
 ⟨21,[true,true,false,true,false],[.val 0 (dV),.val 1 (dV),.val 5 (bS)]⟩,
 ⟨22,[],[]⟩,
 ⟨22,[true,false,true,false],[.own 0 320 (gG),.val 1 (bS),.val 5 (bS)]⟩,
 ⟨23,[],[]⟩,
 ⟨23,[true,false,true,false],[.own 0 560 (rn),.val 1 (bS),.val 5 (bS)]⟩,
 ⟨24,[],[]⟩,
 ⟨25,[],[]⟩,
 ⟨26,[],[]⟩,
 ⟨27,[],[]⟩,
 ⟨28,[],[]⟩,
 ⟨29,[],[]⟩,
 ⟨30,[],[]⟩,
 ⟨30,[true,false,true,false],[.val 0 (BT0),.val 3 (bS)]⟩,
 ⟨31,[],[]⟩,
 ⟨31,[true,false,true,false],[.val 0 (du),.val 1 (BT0),.val 5 (bS)]⟩,
 ⟨32,[],[]⟩,
 ⟨32,[true,true,true,false,true,false],[.val 0 (dV),.val 1 (bS),.val 2 (bS),.val 7 (bS),.val 8 (bS)]⟩,
 ⟨33,[],[]⟩,
 ⟨34,[],[]⟩,
 ⟨35,[],[]⟩,
 ⟨35,[true,false,true,false],[.val 0 (du),.val 5 (du),.val 6 (bS),.val 7 (bS)]⟩,
 ⟨36,[],[]⟩,
 ⟨37,[],[]⟩,
 ⟨38,[],[]⟩,
 ⟨39,[],[]⟩,
 ⟨40,[],[]⟩,
 ⟨40,[true,true,false,true,false],[.val 0 (mW),.val 1 (mW),.val 5 (bS)]⟩,
 ⟨41,[],[]⟩,
 ⟨42,[],[]⟩,
 ⟨42,[true,true,false,true,false],[.val 0 (dN),.val 1 (dN),.val 5 (bS)]⟩,
 ⟨43,[],[]⟩,
 ⟨44,[],[]⟩,
 ⟨44,[true,true,true,false,false],[.val 0 (bS),.val 3 (BT0)]⟩,
 ⟨45,[],[]⟩,
 ⟨45,[true,false,true,false],[.own 0 0 (.leaf true (.sl (.nm 9))),.val 1 (bS),.val 5 (bS)]⟩,
 ⟨46,[],[]⟩,
 ⟨47,[],[]⟩,
 ⟨47,[true,false,true,false],[.own 0 0 (eX),.val 1 (bS),.val 5 (bS)]⟩,
 ⟨48,[],[]⟩,
 ⟨48,[true,false,true,false],[.val 0 (mW),.val 1 (bS),.val 5 (bS)]⟩,
 ⟨49,[],[]⟩,
 ⟨50,[],[]⟩,
 ⟨50,[true,false,true,false],[.val 0 (dN),.val 1 (bS),.val 5 (bS)]⟩,
 ⟨51,[],[]⟩,
 ⟨52,[],[]⟩,
 ⟨53,[],[]⟩,
 ⟨54,[],[]⟩,
 ⟨54,[true,false,true,false,true,true,true,true,true],[.ptr 4 64,.val 1 (bS),.val 2 (bS),.val 3 (bS),.val 12 (bS),.val 28 (BT1),.slot 64 (BT2) true none]⟩,
 ⟨54,[true,false,true,false,true,true,true,true,true,true,true],[.ptr 4 64,.val 1 (bS),.val 3 (bS),.val 12 (bS),.val 46 (BT1),.slot 64 (BT2) true none]⟩,
 ⟨54,[true,false,true,false,true,true,true,true,true,true,true,true,true],[.ptr 4 64,.val 1 (bS),.val 12 (bS),.val 65 (BT1),.slot 64 (BT2) true none]⟩,
 ⟨54,[true,false,true,false,true,true,true,true,true,true,true,true,true,true,true,true,true],[.ptr 4 64,.val 1 (bS),.val 12 (bS),.val 91 (BT1),.slot 64 (BT2) true none]⟩,
 ⟨55,[],[]⟩,
 ⟨56,[],[]⟩,
 ⟨56,[true,true,true,false],[.ptr 0 0,.ptr 4 176,.wrd 176 0,.val 1 (dV),.val 5 (bS),.val 6 (bS),.slot 0 (BT6) true none,.slot 176 (BT7) true none]⟩,
 ⟨57,[],[]⟩,
 ⟨58,[],[]⟩,
 ⟨59,[],[]⟩,
 ⟨60,[],[]⟩,
 ⟨61,[],[]⟩,
 ⟨61,[true,false,true,false],[.clo 1 78 [16],.val 0 (du),.val 7 (bS),.val 8 (bS),.slot 16 (BT5) true none]⟩,
 ⟨62,[],[]⟩,
 ⟨63,[],[]⟩,
 ⟨64,[],[]⟩,
 ⟨65,[],[]⟩,
 ⟨65,[true,true,false],[.ptr 0 0,.val 1 (dV),.val 4 (bS),.val 5 (bS),.slot 0 (d9) true none]⟩,
 ⟨65,[true,true,false,false,true,true],[.ptr 0 0,.val 1 (dV),.val 4 (bS),.val 5 (bS),.slot 0 (d9) true none]⟩,
 ⟨65,[true,true,false,false,true,false,false,true,true,true,true,true,true,false,true,true,true,true,true,true,true,true,true],[.ptr 0 0,.ptr 6 96,.val 1 (dV),.val 4 (bS),.val 5 (bS),.val 7 (dW),.val 57 (BT1),.slot 0 (.leaf true (.nm 17)) true none,.slot 96 (BT2) true none]⟩,
 ⟨66,[],[]⟩,
 ⟨67,[],[]⟩,
 ⟨68,[],[]⟩,
 ⟨68,[true,true,false,true,false],[.val 0 (dW),.val 1 (dW),.val 5 (bS)]⟩,
 ⟨69,[],[]⟩,
 ⟨69,[true,true,false,true,false],[.val 0 (gH),.val 1 (gH),.val 5 (bS)]⟩,
 ⟨70,[],[]⟩,
 ⟨70,[true,false,true,false],[.own 0 0 (ro),.val 1 (bS),.val 5 (bS)]⟩,
 ⟨71,[],[]⟩,
 ⟨71,[true,false,true,false],[.own 0 0 (jZ),.val 1 (bS),.val 5 (bS)]⟩,
 ⟨72,[],[]⟩,
 ⟨72,[true,false,true,false],[.val 0 (dW),.val 1 (bS),.val 5 (bS)]⟩,
 ⟨73,[],[]⟩,
 ⟨73,[true,false,true,false],[.val 0 (gH),.val 1 (bS),.val 5 (bS)]⟩,
 ⟨74,[],[]⟩,
 ⟨75,[],[]⟩,
 ⟨76,[],[]⟩,
 ⟨77,[],[]⟩,
 ⟨78,[],[]⟩,
 ⟨78,[true,true,true,true,true,true],[.wrd 0 1,.val 2 (bS),.slot 0 (.pr (.leaf false .ptr) (.pr (ro) (.un))) true none,.slot 1 (dK) true none]⟩,
 ⟨78,[true,true,true,true,true,false,true,false,true,true,true,true,true,true,true,true,true,true,true,true,true],[.ptr 0 0,.ptr 4 64,.wrd 0 1,.val 2 (bS),.val 9 (dW),.val 93 (BT1),.slot 0 (BT7) true none,.slot 1 (BT6) true none,.slot 64 (BT2) true none]⟩,
 ⟨79,[],[]⟩,
 ⟨79,[true,true,false,false],[.val 0 (BT0),.val 1 (bS),.val 5 (bS)]⟩,
 ⟨80,[],[]⟩,
 ⟨80,[true,false,true,false,true],[.val 0 (BT0),.val 4 (BT1)]⟩,
 ⟨81,[],[]⟩,
 ⟨82,[],[]⟩,
 ⟨82,[true,false,true,false],[.clo 1 121 [16,17,18],.val 0 (dV),.val 7 (bS),.val 8 (bS),.slot 16 (dV) true none,.slot 17 (lx) true none,.slot 18 (lx) true none]⟩,
 ⟨83,[],[]⟩,
 ⟨84,[],[]⟩,
 ⟨85,[],[]⟩,
 ⟨86,[],[]⟩,
 ⟨86,[true,false,true,false,true],[.ptr 1 16,.val 4 (bS),.val 5 (BT1),.slot 16 (BT2) true none]⟩,
 ⟨86,[true,true],[.ptr 1 16,.slot 16 (BT2) true none]⟩,
 ⟨87,[],[]⟩,
 ⟨88,[],[]⟩,
 ⟨88,[true,false,true,false,true],[.ptr 1 16,.val 4 (bS),.val 5 (BT1),.slot 16 (BT4) true none]⟩,
 ⟨89,[],[]⟩,
 ⟨90,[],[]⟩,
 ⟨91,[],[]⟩,
 ⟨92,[],[]⟩,
 ⟨93,[],[]⟩,
 ⟨94,[],[]⟩,
 ⟨94,[true,true,false,false],[.ptr 0 0,.ptr 4 64,.val 1 (bS),.own 5 80 (rq),.slot 0 (BT8) true none,.slot 64 (BT9) true none]⟩,
 ⟨95,[],[]⟩,
 ⟨95,[true,true,false,true,false],[.ptr 1 16,.val 3 (bS),.val 4 (bS),.slot 16 (dC) true none]⟩,
 ⟨96,[],[]⟩,
 ⟨96,[true,false,true,false,true],[.ptr 1 16,.val 4 (bS),.val 5 (BT1),.slot 16 (BT2) true none]⟩,
 ⟨97,[],[]⟩,
 ⟨97,[true,false,true,false,true],[.ptr 1 16,.val 4 (bS),.val 5 (BT1),.slot 16 (BT4) true none]⟩,
 ⟨98,[],[]⟩,
 ⟨99,[],[]⟩,
 ⟨100,[],[]⟩,
 ⟨101,[],[]⟩,
 ⟨101,[true,true,true,true],[.ptr 0 0,.ptr 6 1,.ptr 7 112,.wrd 0 1,.slot 0 (BT7) true none,.slot 1 (dK) true none,.slot 112 (BT4) true none]⟩,
 ⟨102,[],[]⟩,
 ⟨103,[],[]⟩,
 ⟨104,[],[]⟩,
 ⟨105,[],[]⟩,
 ⟨106,[],[]⟩,
 ⟨107,[],[]⟩,
 ⟨108,[],[]⟩,
 ⟨109,[],[]⟩,
 ⟨110,[],[]⟩,
 ⟨111,[],[]⟩,
 ⟨112,[],[]⟩,
 ⟨113,[],[]⟩,
 ⟨114,[],[]⟩,
 ⟨115,[],[]⟩,
 ⟨116,[],[]⟩,
 ⟨117,[],[]⟩,
 ⟨118,[],[]⟩,
 ⟨119,[],[]⟩,
 ⟨120,[],[]⟩,
 ⟨121,[],[]⟩,
 ⟨121,[true,false,true,false,true],[.ptr 1 16,.val 6 (bS),.val 7 (BT1),.slot 16 (BT4) true none]⟩,
 ⟨122,[],[]⟩,
 ⟨122,[true,false,false],[.ptr 4 64,.val 0 (BT0),.val 1 (dW),.slot 64 (BT4) true none]⟩,
 ⟨123,[],[]⟩,
 ⟨124,[],[]⟩,
 ⟨124,[true,true,false,false],[.ptr 0 0,.ptr 4 64,.val 1 (bS),.own 5 80 (rq),.slot 0 (BT8) true none,.slot 64 (BT9) true none]⟩,
 ⟨125,[],[]⟩,
 ⟨126,[],[]⟩,
 ⟨126,[true,true,true,true,true,false,true,false,true,false,false],[.val 0 (bS),.val 4 (BT0),.val 6 (BT0)]⟩,
 ⟨126,[true,true,true,true,true,true],[.val 0 (bS),.val 4 (BT0)]⟩,
 ⟨127,[],[]⟩,
 ⟨128,[],[]⟩,
 ⟨128,[true,false,true,false,true],[.ptr 1 16,.val 6 (bS),.val 7 (BT1),.slot 16 (BT4) true none]⟩,
 ⟨129,[],[]⟩,
 ⟨129,[true,true,true],[.ptr 0 0,.ptr 8 128,.val 9 (bS),.val 10 (BT1),.slot 0 (BT6) true none,.slot 128 (BT4) true none]⟩,
 ⟨130,[],[]⟩,
 ⟨131,[],[]⟩,
 ⟨132,[],[]⟩,
 ⟨133,[],[]⟩,
 ⟨134,[],[]⟩,
 ⟨135,[],[]⟩,
 ⟨136,[],[]⟩,
 ⟨137,[],[]⟩,
 ⟨138,[],[]⟩,
 ⟨139,[],[]⟩,
 ⟨140,[],[]⟩,
 ⟨141,[],[]⟩,
 ⟨141,[true,false,true,false],[.val 0 (du),.val 1 (BT0),.val 7 (bS),.val 8 (bS)]⟩,
 ⟨142,[],[]⟩,
 ⟨142,[true,true,true,false,true,false,true,true,true],[.ptr 4 64,.val 1 (bS),.val 2 (bS),.val 3 (bS),.val 56 (bS),.val 62 (BT1),.slot 64 (BT2) true none]⟩,
 ⟨142,[true,true,true,false,true,false,true,true,true,true,true],[.ptr 4 64,.val 1 (bS),.val 3 (bS),.val 56 (bS),.val 75 (BT1),.slot 64 (BT2) true none]⟩,
 ⟨142,[true,true,true,false,true,false,true,true,true,true,true,true,true],[.ptr 4 64,.val 1 (bS),.val 56 (bS),.val 89 (BT1),.slot 64 (BT2) true none]⟩,
 ⟨142,[true,true,true,false,true,false,true,true,true,true,true,true,true,true,true,true,true],[.ptr 4 64,.val 1 (bS),.val 56 (bS),.val 106 (BT1),.slot 64 (BT2) true none]⟩,
 ⟨143,[],[]⟩,
 ⟨144,[],[]⟩,
 ⟨144,[true,true,true,true],[.val 0 (bS),.val 3 (BT0)]⟩,
 ⟨145,[],[]⟩,
 ⟨146,[],[]⟩,
 ⟨147,[],[]⟩,
 ⟨148,[],[]⟩,
 ⟨149,[],[]⟩,
 ⟨150,[],[]⟩,
 ⟨151,[],[]⟩,
 ⟨151,[true,true,true,false,true,false],[.clo 1 200 [],.own 0 672 (gG),.val 5 (bS),.val 6 (bS)]⟩,
 ⟨152,[],[]⟩,
 ⟨153,[],[]⟩,
 ⟨154,[],[]⟩,
 ⟨154,[true,true,true,true],[.val 0 (BT0),.val 4 (bS),.val 5 (BT1)]⟩,
 ⟨154,[true,true,true,true,true,true,true,true,true],[.val 4 (bS),.val 5 (BT1),.val 7 (BT0),.val 8 (BT0)]⟩,
 ⟨155,[],[]⟩,
 ⟨155,[true,true,false,true,false],[.ali 12 7,.val 1 (de),.val 2 (de),.own 7 112 (rr),.val 13 (bS),.val 14 (bS)]⟩,
 ⟨156,[],[]⟩,
 ⟨157,[],[]⟩,
 ⟨158,[],[]⟩,
 ⟨158,[true,true,true],[.val 8 (bS),.val 9 (BT1)]⟩,
 ⟨159,[],[]⟩,
 ⟨160,[],[]⟩,
 ⟨161,[],[]⟩,
 ⟨161,[true,true,false,false],[.ptr 0 0,.ptr 4 64,.ptr 5 80,.slot 0 (BT8) true none,.slot 64 (BT9) true none,.slot 80 (BT9) true none]⟩,
 ⟨161,[true,true,false,false,false,true,false,true,true],[.ptr 0 0,.ptr 4 64,.ptr 5 80,.val 6 (bS),.slot 0 (BT8) true none,.slot 64 (BT9) true none,.slot 80 (BT9) true none]⟩,
 ⟨162,[],[]⟩,
 ⟨163,[],[]⟩,
 ⟨163,[true,true,true,false,false],[.val 0 (bS),.val 3 (BT0)]⟩,
 ⟨164,[],[]⟩,
 ⟨164,[true,true,false,false],[.val 0 (BT0),.val 4 (bS)]⟩,
 ⟨164,[true,true,true,true,true],[.val 0 (BT0),.val 4 (bS),.val 5 (BT1)]⟩,
 ⟨164,[true,true,true,true,true,true,false,false],[.val 0 (BT0),.val 4 (bS),.val 5 (BT1),.val 6 (bS),.val 7 (bS)]⟩,
 ⟨164,[true,true,true,true,true,true,true,false,true,false,true,true,false],[.val 0 (BT0),.val 4 (bS),.val 5 (BT1),.val 6 (bS),.val 7 (bS),.val 8 (bS)]⟩,
 ⟨164,[true,true,true,true,true,true,true,true],[.val 4 (bS),.val 5 (BT1),.val 6 (bS),.val 7 (bS)]⟩,
 ⟨165,[],[]⟩,
 ⟨166,[],[]⟩,
 ⟨167,[],[]⟩,
 ⟨168,[],[]⟩,
 ⟨169,[],[]⟩,
 ⟨169,[true,false,true,false],[.ptr 3 48,.val 1 (bS),.val 2 (BT0),.val 7 (bS),.slot 48 (d8) true none]⟩,
 ⟨170,[],[]⟩,
 ⟨170,[true,true,true,true,true,true,false,false],[.ptr 4 64,.ptr 7 112,.ptr 8 128,.ptr 10 160,.val 1 (bS),.val 2 (BT0),.val 11 (bS),.slot 64 (d8) true none,.slot 112 (BT4) true none,.slot 128 (BT3) true none,.slot 160 (BT3) true none]⟩,
 ⟨171,[],[]⟩,
 ⟨171,[true,true],[.ptr 2 32,.val 0 (BT0),.slot 32 (BT4) true none]⟩,
 ⟨172,[],[]⟩,
 ⟨173,[],[]⟩,
 ⟨174,[],[]⟩,
 ⟨175,[],[]⟩,
 ⟨176,[],[]⟩,
 ⟨176,[true,true,true,true,true],[.val 0 (bS),.val 4 (du),.val 5 (BT0)]⟩,
 ⟨176,[true,true,true,true,false,true,false,true,true,true],[.val 0 (bS),.val 4 (du),.val 5 (BT0),.val 13 (bS),.val 16 (BT1)]⟩,
 ⟨176,[true,true,true,true,false,true,false,true,true,true,true,true,true,true],[.val 0 (bS),.val 4 (du),.val 5 (BT0),.val 22 (BT1)]⟩,
 ⟨177,[],[]⟩,
 ⟨178,[],[]⟩,
 ⟨179,[],[]⟩,
 ⟨180,[],[]⟩,
 ⟨181,[],[]⟩,
 ⟨182,[],[]⟩,
 ⟨182,[true,false,true,false],[.clo 1 233 [16],.val 0 (gH),.val 7 (bS),.val 8 (bS),.slot 16 (.leaf true (.nm 4)) true none]⟩,
 ⟨183,[],[]⟩,
 ⟨184,[],[]⟩,
 ⟨184,[true,false,true,false],[.clo 1 237 [16,17],.val 0 (gH),.val 7 (bS),.val 8 (bS),.slot 16 (lx) true none,.slot 17 (.leaf true .str) true none]⟩,
 ⟨185,[],[]⟩,
 ⟨186,[],[]⟩,
 ⟨186,[true,true,true,true],[.val 0 (BT0),.val 1 (BT0),.val 2 (bS),.val 3 (bS)]⟩,
 ⟨186,[true,true,true,true,true,true,true,true,false,false],[.val 0 (BT0),.val 1 (BT0),.val 2 (bS),.val 3 (bS),.own 9 144 (gG),.val 10 (bS)]⟩,
 ⟨187,[],[]⟩,
 ⟨187,[true,false,true,false],[.clo 1 200 [],.val 0 (du),.val 7 (bS),.val 8 (bS)]⟩,
 ⟨188,[],[]⟩,
 ⟨189,[],[]⟩,
 ⟨189,[true,true,false,false],[.ptr 0 0,.ptr 2 32,.own 3 48 (rq),.slot 0 (jY) true none,.slot 32 (BT9) true none]⟩,
 ⟨190,[],[]⟩,
 ⟨190,[true,true,false,true,false],[.val 3 (bS),.val 7 (ip),.val 8 (bS),.val 9 (bS)]⟩,
 ⟨191,[],[]⟩,
 ⟨192,[],[]⟩,
 ⟨192,[true,true,false,true,false],[.val 0 (dr),.val 1 (BT0),.val 7 (bS)]⟩,
 ⟨193,[],[]⟩,
 ⟨194,[],[]⟩,
 ⟨194,[true,true,false,false],[.val 0 (BT0),.val 1 (bS),.val 5 (bS)]⟩,
 ⟨195,[],[]⟩,
 ⟨196,[],[]⟩,
 ⟨197,[],[]⟩,
 ⟨198,[],[]⟩,
 ⟨199,[],[]⟩,
 ⟨200,[],[]⟩,
 ⟨200,[true,true,true,true,true],[.ptr 4 64,.val 5 (de),.slot 0 (BT8) true none,.slot 64 (BT9) true none]⟩,
 ⟨201,[],[]⟩,
 ⟨202,[],[]⟩,
 ⟨203,[],[]⟩,
 ⟨204,[],[]⟩,
 ⟨204,[true,true,true,false,false],[.val 0 (BT0),.val 4 (bS),.val 5 (bS)]⟩,
 ⟨205,[],[]⟩,
 ⟨206,[],[]⟩,
 ⟨206,[true,false,true,false],[.val 0 (dr),.val 1 (BT0),.val 7 (bS)]⟩,
 ⟨207,[],[]⟩,
 ⟨208,[],[]⟩,
 ⟨208,[true,false,true,false],[.val 0 (BT0),.val 1 (BT0),.val 5 (bS)]⟩,
 ⟨209,[],[]⟩,
 ⟨209,[true,true,false,true,false],[.val 1 (de),.val 2 (de),.own 7 112 (rr),.val 8 (bS)]⟩,
 ⟨210,[],[]⟩,
 ⟨210,[true,true,true,true,true],[.val 3 (BT0),.val 4 (bS),.val 5 (bS)]⟩,
 ⟨211,[],[]⟩,
 ⟨211,[true,false,false],[.val 0 (BT0),.val 1 (de)]⟩,
 ⟨212,[],[]⟩,
 ⟨213,[],[]⟩,
 ⟨214,[],[]⟩,
 ⟨215,[],[]⟩,
 ⟨215,[true,true,true],[.val 0 (BT0),.val 1 (bS)]⟩,
 ⟨215,[true,true,true,true,false,true,false],[.val 0 (BT0),.val 1 (bS),.own 6 96 (gG),.val 7 (bS)]⟩,
 ⟨216,[],[]⟩,
 ⟨216,[true,true,true,true,false],[.val 0 (BT0),.val 1 (BT0),.val 5 (bS)]⟩,
 ⟨217,[],[]⟩,
 ⟨217,[true,true,false,false],[.ptr 0 0,.ptr 2 32,.own 3 48 (rq),.slot 0 (jY) true none,.slot 32 (BT9) true none]⟩,
 ⟨218,[],[]⟩,
 ⟨219,[],[]⟩,
 ⟨220,[],[]⟩,
 ⟨220,[true,true,false,true,false,true,true,true,true,true,true,true,true,true,true,true,false,true,false],[.own 0 2032 (eE),.val 51 (ip),.val 52 (bS),.val 53 (bS)]⟩,
 ⟨220,[true,true,true],[.own 0 2032 (eE)]⟩,
 ⟨221,[],[]⟩,
 ⟨221,[true,true,false,true,false],[.val 0 (dr),.val 9 (dr),.val 10 (bS),.val 11 (bS)]⟩,
 ⟨222,[],[]⟩,
 ⟨222,[true,true,true,true,false],[.val 0 (dr),.val 1 (BT0),.val 2 (bS),.val 7 (bS),.val 8 (dN)]⟩,
 ⟨222,[true,true,true,true,false,false,false,true,true],[.val 0 (dr),.val 1 (BT0),.val 2 (bS),.val 7 (bS),.val 8 (dN)]⟩,
 ⟨222,[true,true,true,true,false,false,false,true,true,true,true,false,true,false],[.val 0 (dr),.val 1 (BT0),.val 2 (bS),.val 7 (bS),.own 9 144 (eX),.val 49 (dN),.val 50 (bS),.val 51 (bS)]⟩,
 ⟨223,[],[]⟩,
 ⟨223,[true,false,false],[.val 0 (BT0),.val 1 (de)]⟩,
 ⟨224,[],[]⟩,
 ⟨225,[],[]⟩,
 ⟨226,[],[]⟩,
 ⟨227,[],[]⟩,
 ⟨227,[true,true],[.val 0 (cy),.val 1 (cy),.val 2 (cy)]⟩,
 ⟨227,[true,true,true],[.val 0 (cy),.val 1 (cy),.val 2 (cy)]⟩,
 ⟨227,[true,true,true,true,true,true,true,true,true,true,true,true,true,true,false,false],[.val 2 (cy),.val 8 (cy),.val 9 (cy),.val 10 (cy),.val 11 (cy),.val 13 (cy),.val 14 (cy),.val 15 (cy),.val 16 (cy)]⟩,
 ⟨227,[true,true,true,true,true,true,true,true,true,true,true,true,true,true,true],[.val 2 (cy),.val 8 (cy),.val 9 (cy),.val 10 (cy),.val 11 (cy),.val 13 (cy),.val 14 (cy),.val 15 (cy)]⟩,
 ⟨227,[true,true,true,true,true,true,true,true,true,true,true,true,true,true,true,true,true,true,false,false],[.val 2 (cy),.val 8 (cy),.val 9 (cy),.val 10 (cy),.val 14 (cy),.val 15 (cy),.val 16 (cy),.val 17 (cy),.val 18 (cy)]⟩,
 ⟨227,[true,true,true,true,true,true,true,true,true,true,true,true,true,true,true,true,true,true,true],[.val 2 (cy),.val 8 (cy),.val 14 (cy),.val 15 (cy),.val 17 (cy),.val 18 (cy)]⟩,
 ⟨228,[],[]⟩,
 ⟨229,[],[]⟩,
 ⟨229,[true,true,true],[.ptr 0 0,.ptr 2 32,.ptr 3 48,.slot 0 (BT8) true none,.slot 32 (BT9) true none,.slot 48 (BT9) true none]⟩,
 ⟨229,[true,true,true,true,true,false,false],[.ptr 0 0,.ptr 2 32,.ptr 3 48,.own 4 64 (ff),.val 5 (bS),.slot 0 (BT8) true none,.slot 32 (BT9) true none,.slot 48 (BT9) true none]⟩,
 ⟨229,[true,true,true,true,true,false,false,false,true,false,true,true,true,true],[.ptr 0 0,.ptr 2 32,.ptr 3 48,.own 4 64 (ff),.val 5 (bS),.val 6 (bS),.val 7 (bS),.slot 0 (BT8) true none,.slot 32 (BT9) true none,.slot 48 (BT9) true none]⟩,
 ⟨229,[true,true,true,true,true,true,true],[.ptr 0 0,.ptr 2 32,.ptr 3 48,.val 4 (oU),.slot 0 (BT8) true none,.slot 32 (BT9) true none,.slot 48 (BT9) true none]⟩,
 ⟨229,[true,true,true,true,true,false,false,false,true,false,true,true,true,true,true],[.ptr 0 0,.ptr 2 32,.ptr 3 48,.own 4 64 (ff),.val 5 (bS),.val 6 (bS),.val 7 (bS),.slot 0 (BT8) true none,.slot 32 (BT9) true none,.slot 48 (BT9) true none]⟩,
 ⟨229,[true,true,true,true,true,true,true,true,true,false,true,false],[.ptr 2 32,.ptr 3 48,.val 4 (oU),.own 9 144 (rr),.val 10 (bS),.slot 0 (BT8) true none,.slot 32 (BT9) true none,.slot 48 (BT9) true none]⟩,
 ⟨229,[true,true,true,true,true,false,false,false,true,false,true,true,true,true,true,false,true,false],[.ptr 0 0,.ptr 2 32,.ptr 3 48,.own 4 64 (ff),.val 5 (bS),.val 7 (bS),.val 8 (bS),.slot 0 (BT8) true none,.slot 32 (BT9) true none,.slot 48 (BT9) true none]⟩,
 ⟨230,[],[]⟩,
 ⟨231,[],[]⟩,
 ⟨231,[true,true,false,true,false,true,true,true,true,true,true,true,true,true,true,true,false,true,false],[.ptr 3 48,.own 0 2064 (eE),.val 6 (bS),.slot 48 (dC) true none]⟩,
 ⟨231,[true,true,true],[.own 0 2064 (eE)]⟩,
 ⟨232,[],[]⟩,
 ⟨233,[],[]⟩,
 ⟨233,[true,true,true,true,false,true,false],[.val 0 (dr),.val 1 (BT0),.val 7 (dN),.val 8 (bS),.val 9 (bS)]⟩,
 ⟨233,[true,true,true,true,false,true,false,false,true,false,false,true],[.val 0 (dr),.val 1 (BT0),.val 7 (dN),.val 8 (bS),.val 9 (bS)]⟩,
 ⟨233,[true,true,true,true,false,true,false,false,true,false,false,true,true,true,false,true,false],[.val 0 (dr),.val 1 (BT0),.val 7 (dN),.val 8 (bS),.val 9 (bS),.own 10 160 (eX),.val 11 (bS)]⟩,
 ⟨234,[],[]⟩,
 ⟨235,[],[]⟩,
 ⟨236,[],[]⟩,
 ⟨237,[],[]⟩,
 ⟨238,[],[]⟩,
 ⟨239,[],[]⟩,
 ⟨239,[true,true,false],[.ptr 0 0,.ptr 2 32,.ptr 3 48,.slot 0 (jY) true none,.slot 32 (BT9) true none,.slot 48 (BT9) true none]⟩,
 ⟨240,[],[]⟩,
 ⟨240,[true,true,true,true],[.ptr 2 32,.ptr 3 48,.val 5 (BT1),.slot 32 (dC) true none,.slot 48 (lx) true none]⟩,
 ⟨240,[true,true,true,false,true,false,true,true,true],[.ptr 2 32,.ptr 3 48,.val 5 (BT1),.val 33 (bS),.val 45 (BT1),.slot 32 (dC) true none,.slot 48 (lx) true none]⟩,
 ⟨240,[true,true,true,false,true,false,true,true,true,true,true,true,true],[.ptr 2 32,.ptr 3 48,.val 5 (BT1),.val 33 (bS),.val 64 (BT1),.slot 32 (dC) true none,.slot 48 (lx) true none]⟩,
 ⟨241,[],[]⟩,
 ⟨241,[true,true,false,true,false],[.own 0 1120 (eE),.val 1 (ip),.own 5 80 (eX),.val 16 (ip),.val 17 (bS),.val 18 (bS)]⟩,
 ⟨241,[true,true,true,true,false,true,false],[.own 0 1120 (eE),.val 56 (dN),.val 57 (bS),.val 58 (bS)]⟩,
 ⟨242,[],[]⟩,
 ⟨242,[true,true,false,true,false,true,true,true,true,true,true,true],[.ptr 3 48,.val 79 (BT1),.slot 48 (oT) true none]⟩,
 ⟨243,[],[]⟩,
 ⟨243,[true,true,true,true,false,true,false],[.ptr 4 64,.ptr 10 160,.clo 11 333 [64,144,160],.val 2 (BT1),.val 3 (BT1),.val 22 (dN),.val 23 (bS),.val 24 (bS),.slot 64 (dr) true none,.slot 144 (ff) true none,.slot 160 (eX) true none]⟩,
 ⟨243,[true,true,true,true,true,false,true,false],[.ptr 4 64,.ptr 10 160,.clo 11 333 [64,144,160],.val 2 (BT1),.val 3 (BT1),.val 14 (bS),.slot 64 (dr) true none,.slot 144 (ff) true none,.slot 160 (eX) true none]⟩,
 ⟨243,[true,true,true,true,true,false,true,false,false,true,true],[.ptr 4 64,.ptr 10 160,.clo 11 333 [64,144,160],.val 2 (BT1),.val 3 (BT1),.val 14 (bS),.slot 64 (dr) true none,.slot 144 (ff) true none,.slot 160 (eX) true none]⟩,
 ⟨244,[],[]⟩,
 ⟨245,[],[]⟩,
 ⟨246,[],[]⟩,
 ⟨246,[true,true,false,true,false,true,true],[.val 0 (BT0),.val 5 (BT0)]⟩,
 ⟨246,[true,true,false,true,false,true,true,true,false,true,false],[.val 5 (BT0),.val 6 (bS),.val 47 (vk),.val 48 (bS),.val 49 (bS)]⟩,
 ⟨247,[],[]⟩,
 ⟨248,[],[]⟩,
 ⟨249,[],[]⟩,
 ⟨249,[true,false,true,false],[.ptr 1 16,.val 3 (bS),.slot 16 (dC) true none]⟩,
 ⟨249,[true,true,true,false,true,false,true,true,true,true,true],[.ptr 1 16,.val 4 (bS),.val 23 (bS),.val 62 (BT1),.slot 16 (dC) true none]⟩,
 ⟨249,[true,true,true,false,true,false,true,true,true,true,true,true,true],[.ptr 1 16,.val 4 (bS),.val 82 (BT1),.slot 16 (dC) true none]⟩,
 ⟨250,[],[]⟩,
 ⟨250,[true,true,false,true,false],[.own 0 1104 (eE),.val 1 (ip),.own 5 80 (eX),.val 6 (bS)]⟩,
 ⟨250,[true,true,true,true,false,true,false],[.own 0 1104 (eE),.val 5 (dN),.val 8 (bS)]⟩,
 ⟨251,[],[]⟩,
 ⟨251,[true,true,false,true,false],[.val 0 (dr),.val 3 (bS),.val 4 (bS)]⟩,
 ⟨252,[],[]⟩,
 ⟨252,[true,true,false,true,false],[.val 0 (dr),.val 1 (dN),.val 2 (BT1),.val 3 (BT1),.own 9 144 (ff),.val 10 (bS)]⟩,
 ⟨253,[],[]⟩,
 ⟨254,[],[]⟩,
 ⟨255,[],[]⟩,
 ⟨255,[true,true,true,false,true,false,true,true,true,true,true,true,true,true,true,true,true,true,true],[.ptr 0 0,.ptr 2 32,.val 3 (de),.val 70 (BT1),.slot 0 (jY) true none,.slot 32 (BT9) true none]⟩,
 ⟨256,[],[]⟩,
 ⟨257,[],[]⟩,
 ⟨258,[],[]⟩,
 ⟨258,[true,false,true,false],[.ptr 1 16,.val 6 (bS),.val 7 (bS),.slot 16 (dC) true none]⟩,
 ⟨259,[],[]⟩,
 ⟨260,[],[]⟩,
 ⟨261,[],[]⟩,
 ⟨261,[true,false,true,false],[.val 0 (dN),.val 1 (bS),.val 7 (bS),.val 8 (bS)]⟩,
 ⟨262,[],[]⟩,
 ⟨263,[],[]⟩,
 ⟨263,[true,true,true,true],[.val 0 (BT0),.val 1 (bS),.val 2 (bS),.val 8 (BT1)]⟩,
 ⟨263,[true,true,true,true,true,true,true,true],[.val 2 (bS),.val 8 (BT1),.val 9 (cy)]⟩,
 ⟨264,[],[]⟩,
 ⟨264,[true,true],[.val 0 (cy),.val 2 (bS)]⟩,
 ⟨264,[true,true,true],[.val 0 (cy),.val 2 (bS)]⟩,
 ⟨265,[],[]⟩,
 ⟨265,[true,false,true,false],[.val 0 (BT0),.val 3 (bS)]⟩,
 ⟨266,[],[]⟩,
 ⟨266,[true,true],[.ptr 2 32,.val 1 (bS),.val 5 (BT1),.slot 32 (oT) true none]⟩,
 ⟨266,[true,true,true],[.ptr 2 32,.val 1 (bS),.val 5 (BT1),.val 6 (BT1),.slot 32 (oT) true none]⟩,
 ⟨266,[true,true,true,true],[.ptr 2 32,.val 1 (bS),.val 5 (BT1),.val 6 (BT1),.val 7 (BT1),.slot 32 (oT) true none]⟩,
 ⟨266,[true,true,true,true,true],[.ptr 2 32,.val 5 (BT1),.val 6 (BT1),.val 7 (BT1),.val 8 (BT1),.slot 32 (oT) true none]⟩,
 ⟨266,[true,true,true,true,true,true],[.val 4 (BT1)]⟩,
 ⟨267,[],[]⟩,
 ⟨267,[true,false],[.val 0 (dr),.own 1 16 (ff),.val 3 (BT1),.val 4 (BT1),.own 10 160 (eX)]⟩,
 ⟨268,[],[]⟩,
 ⟨268,[true,true,false,true,false],[.val 0 (oU),.own 3 48 (eX),.val 4 (bS)]⟩,
 ⟨269,[],[]⟩,
 ⟨269,[true,false,true,false],[.val 0 (BT0),.val 1 (de),.val 5 (bS)]⟩,
 ⟨270,[],[]⟩,
 ⟨270,[true,true,true,true,true,true,true,false,true,false],[.ptr 0 0,.ptr 2 32,.ptr 3 48,.val 5 (BT0),.own 6 96 (ff),.val 7 (bS),.slot 0 (jY) true none,.slot 32 (BT9) true none,.slot 48 (BT9) true none]⟩,
 ⟨270,[true,true,true,true,true,true,true,false,true,false,false,true,false,false,true,true],[.ptr 0 0,.ptr 2 32,.ptr 3 48,.val 5 (BT0),.own 6 96 (ff),.val 7 (bS),.val 8 (bS),.val 9 (bS),.slot 0 (jY) true none,.slot 32 (BT9) true none,.slot 48 (BT9) true none]⟩,
 ⟨270,[true,true,true,true,true,true,true,true,true,false,true,false],[.ptr 2 32,.ptr 3 48,.own 11 176 (rr),.val 100 (oU),.val 101 (bS),.val 102 (bS),.slot 0 (jY) true none,.slot 32 (BT9) true none,.slot 48 (BT9) true none]⟩,
 ⟨270,[true,true,true,true,true,true,true,false,true,false,false,true,false,false,true,true,true,false],[.ptr 0 0,.ptr 2 32,.ptr 3 48,.val 5 (BT0),.own 6 96 (ff),.val 7 (bS),.val 9 (bS),.val 10 (bS),.slot 0 (jY) true none,.slot 32 (BT9) true none,.slot 48 (BT9) true none]⟩,
 ⟨271,[],[]⟩,
 ⟨271,[true,false,true,false],[.clo 1 339 [16],.val 0 (ip),.val 7 (bS),.val 8 (bS),.slot 16 (lx) true none]⟩,
 ⟨272,[],[]⟩,
 ⟨273,[],[]⟩,
 ⟨274,[],[]⟩,
 ⟨274,[true,true,true,true,true],[.val 0 (BT0),.val 1 (bS),.val 2 (bS),.val 8 (BT1),.val 9 (BT0)]⟩,
 ⟨274,[true,true,true,true,true,true],[.val 0 (BT0),.val 1 (bS),.val 2 (bS),.val 8 (BT1),.val 9 (BT0)]⟩,
 ⟨274,[true,true,true,true,true,true,true,true],[.val 0 (BT0),.val 1 (bS),.val 2 (bS),.val 8 (BT1),.val 9 (BT0),.val 10 (cy)]⟩,
 ⟨274,[true,true,true,true,true,true,true,true,true,true,true,false,true,false],[.val 1 (bS),.val 8 (BT1),.val 9 (BT0),.val 10 (cy),.val 11 (cy),.val 12 (BT1),.val 13 (cy),.val 99 (vk),.val 100 (bS),.val 101 (bS)]⟩,
 ⟨274,[true,true,true,true,true,true,true,true,true,true,true,false,true,false,false,true,true,false,false,true,true,true],[.val 1 (bS),.val 8 (BT1),.val 9 (BT0),.val 10 (cy),.val 11 (cy),.val 12 (BT1),.val 13 (cy),.val 16 (de),.val 99 (vk),.val 100 (bS),.val 101 (bS)]⟩,
 ⟨275,[],[]⟩,
 ⟨276,[],[]⟩,
 ⟨277,[],[]⟩,
 ⟨278,[],[]⟩,
 ⟨278,[true,true,true,true],[.val 0 (BT0),.val 3 (oV),.val 4 (bS)]⟩,
 ⟨278,[true,true,true,true,true,true],[.val 0 (BT0),.val 3 (oV),.val 4 (bS),.val 5 (BT1)]⟩,
 ⟨278,[true,true,true,true,true,true,false,false],[.val 0 (BT0),.val 3 (oV),.val 4 (bS),.val 5 (BT1)]⟩]
def entR:List EntI:=[
 ⟨4,.skip,[],[.val (vi)],[BT1],[],[(17,1),(18,1),(29,1),(55,1),(56,1)],0,[],false⟩,
 ⟨7,.skip,[],[.val (vi),.val (bS)],[bS],[],[],0,[],false⟩,
 ⟨9,.skip,[],[.val (vi)],[.leaf true (.nm 6)],[],[],0,[],false⟩,
 ⟨16,.skip,[],[.val (BT5)],[rl],[],[(6,1),(8,1)],0,[],false⟩,
 ⟨17,.skip,[],[.val (BT5)],[.leaf true (.nm 11)],[],[],0,[],false⟩,
 ⟨18,.skip,[],[.val (rl),.val (rl)],[BT1],[],[],0,[],false⟩,
 ⟨12,.skip,[],[.val (BT5),.val (BT5)],[BT1],[],[],0,[],false⟩,
 ⟨13,.skip,[],[.own (.leaf true (.nm 6)),.val (bS)],[bS],[],[],0,[],false⟩,
 ⟨19,.skip,[],[.io (.leaf true (.nm 11)),.val (bS)],[bS],[(32,.orig 0)],[],0,[],false⟩,
 ⟨20,.skip,[],[.val (rl),.val (bS)],[bS],[],[],0,[],false⟩,
 ⟨33,.skip,[],[.val (du),.val (bS)],[bS],[],[],0,[(122,11)],false⟩,
 ⟨34,.skip,[],[.val (rp),.val (bS)],[bS],[],[],0,[(122,13)],false⟩,
 ⟨37,.skip,[],[.val (du)],[gG],[],[],0,[(58,15)],false⟩,
 ⟨38,.skip,[],[.val (rp)],[rn],[],[],0,[(58,17)],false⟩,
 ⟨35,.skip,[],[.val (BT5)],[BT1],[],[],0,[(26,19),(58,20)],false⟩,
 ⟨36,.skip,[],[.val (BT5)],[rj],[],[(7,1),(16,1)],0,[],false⟩,
 ⟨39,.skip,[],[.val (BT5)],[BT1],[],[],0,[],false⟩,
 ⟨10,.skip,[],[.val (BT5)],[.leaf true (.nm 5)],[],[],0,[],false⟩,
 ⟨52,.skip,[],[.val (vj),.val (vj)],[BT1],[],[],0,[],false⟩,
 ⟨11,.skip,[],[.val (rj),.val (rj)],[BT1],[],[],0,[],false⟩,
 ⟨44,.skip,[],[.val (du),.val (du)],[BT1],[],[],0,[(58,27)],false⟩,
 ⟨45,.skip,[],[.val (dV),.val (dV)],[BT1],[],[],0,[(58,29)],false⟩,
 ⟨46,.skip,[],[.own (gG),.val (bS)],[bS],[],[],0,[(26,31)],false⟩,
 ⟨47,.skip,[],[.own (rn),.val (bS)],[bS],[],[],0,[(26,33)],false⟩,
 ⟨53,.skip,[],[.io (.leaf true (.nm 8)),.val (bS)],[bS],[(32,.orig 0)],[],0,[],false⟩,
 ⟨14,.skip,[],[.io (.leaf true (.nm 5)),.val (bS)],[bS],[(32,.orig 0)],[],0,[],false⟩,
 ⟨54,.skip,[],[.val (vj),.val (bS)],[bS],[],[],0,[],false⟩,
 ⟨15,.skip,[],[.val (rj),.val (bS)],[bS],[],[],0,[],false⟩,
 ⟨69,.skip,[],[.val (.leaf false (.nm 1)),.val (bS)],[bS],[],[],0,[],false⟩,
 ⟨75,.skip,[],[.val (.leaf false (.nm 1))],[fM],[],[],0,[],false⟩,
 ⟨70,.skip,[],[.val (BT0)],[BT1],[],[],0,[(26,41)],false⟩,
 ⟨71,.skip,[],[.val (du),.val (BT0)],[BT1],[],[],0,[(26,43)],false⟩,
 ⟨72,.skip,[],[.val (dV),.val (bS),.val (bS)],[BT1],[],[],0,[(122,45)],false⟩,
 ⟨73,.skip,[],[.val (BT5)],[d8,BT0],[],[(11,1),(24,1)],0,[],false⟩,
 ⟨74,.skip,[],[.val (bS)],[d8],[],[(7,1)],0,[],false⟩,
 ⟨76,.skip,[],[.val (du)],[BT1],[],[],0,[(26,49)],false⟩,
 ⟨77,.skip,[],[.val (du),.clo 78 [BT5]],[BT1],[(16,.box)],[],0,[],false⟩,
 ⟨80,.skip,[],[.val (dV),.val (bS),.val (bS)],[BT1],[],[],0,[],false⟩,
 ⟨40,.skip,[],[.val (BT5)],[BT3,BT0],[],[(13,1)],0,[],false⟩,
 ⟨41,.skip,[],[.val (bS)],[BT3],[],[],0,[],false⟩,
 ⟨91,.skip,[],[.val (mW),.val (mW)],[BT1],[],[],0,[(58,55)],false⟩,
 ⟨42,.skip,[],[.val (d8),.val (d8)],[BT1],[],[],0,[],false⟩,
 ⟨43,.skip,[],[.val (dN),.val (dN)],[BT1],[],[],0,[(58,58)],false⟩,
 ⟨86,.skip,[],[.val (fM),.val (fM)],[BT1],[],[],0,[],false⟩,
 ⟨58,.skip,[],[.val (bS)],[BT0],[],[(12,1)],0,[(60,61)],false⟩,
 ⟨92,.skip,[],[.io (.leaf true (.sl (.nm 9))),.val (bS)],[bS],[(0,.reg)],[],0,[(26,63)],false⟩,
 ⟨48,.skip,[],[.io (BT3),.val (bS)],[bS],[(32,.orig 0)],[],0,[],false⟩,
 ⟨49,.skip,[],[.io (eX),.val (bS)],[bS],[(0,.reg)],[],0,[(26,66)],false⟩,
 ⟨93,.skip,[],[.val (mW),.val (bS)],[bS],[],[],0,[(26,68)],false⟩,
 ⟨50,.skip,[],[.val (d8),.val (bS)],[bS],[],[],0,[],false⟩,
 ⟨51,.skip,[],[.val (dN),.val (bS)],[bS],[],[],0,[(26,71)],false⟩,
 ⟨110,.skip,[],[.val (de)],[BT1],[],[],0,[],false⟩,
 ⟨94,.skip,[],[.val (bS),.val (bS),.val (bS)],[BT1],[],[],0,[],false⟩,
 ⟨111,.skip,[],[.val (BT0)],[BT1],[],[(3,1),(7,1)],0,[],false⟩,
 ⟨112,.skip,[],[.val (fM),.val (bS),.val (bS),.val (bS)],[BT1],[],[(71,1),(86,1)],0,[(863,76),(3455,77),(13823,78),(221183,79)],false⟩,
 ⟨100,.skip,[],[.val (d8)],[BT3],[],[],0,[],false⟩,
 ⟨113,.skip,[],[.ptr (dK) (dK),.val (dV)],[],[(0,.box)],[],0,[(30,82)],false⟩,
 ⟨114,.skip,[],[.ptr (.leaf false (.nm 18)) (.leaf false (.nm 18)),.val (d8)],[d8,BT0],[(0,.box)],[(14,1)],0,[],false⟩,
 ⟨116,.skip,[],[.val (bS),.val (bS)],[bS],[],[],0,[],false⟩,
 ⟨115,.skip,[],[.val (bS),.val (bS)],[bS],[],[],0,[],false⟩,
 ⟨117,.skip,[],[.val (BT0)],[BT1],[],[],0,[],false⟩,
 ⟨118,.skip,[],[.val (du),.clo 78 [BT5]],[bS],[(16,.box)],[],0,[(26,88)],false⟩,
 ⟨107,.skip,[],[.val (bS),.val (bS),.val (bS)],[BT1],[],[],0,[],false⟩,
 ⟨120,.skip,[],[.val (dV),.clo 121 [dV,bS,bS]],[BT1],[(16,.box),(17,.box),(18,.box)],[],0,[],false⟩,
 ⟨81,.skip,[],[.val (d8)],[BT3],[],[],0,[],false⟩,
 ⟨82,.skip,[],[.ptr (d9) (d9),.val (dV)],[],[(0,.box)],[(28,1)],0,[(14,93),(115,94),(15007231,95)],false⟩,
 ⟨83,.skip,[],[.ptr (.pr (BT3) (.pr (BT0) (.pr (BT0) (.pr (dW) (AD))))) (.pr (.hole 4) (.pr (BT0) (.pr (BT0) (.pr (dW) (AD))))),.val (d8)],[BT3,BT0],[(0,.box)],[(4,5)],0,[],false⟩,
 ⟨132,.skip,[],[.val (.leaf false (.nm 9)),.val (.leaf false (.nm 9))],[BT1],[],[],0,[],false⟩,
 ⟨84,.skip,[],[.val (dW),.val (dW)],[BT1],[],[],0,[(58,99)],false⟩,
 ⟨85,.skip,[],[.val (gH),.val (gH)],[BT1],[],[],0,[(58,101)],false⟩,
 ⟨87,.skip,[],[.io (ro),.val (bS)],[bS],[(0,.reg)],[],0,[(26,103)],false⟩,
 ⟨88,.skip,[],[.io (jZ),.val (bS)],[bS],[(0,.reg)],[],0,[(26,105)],false⟩,
 ⟨89,.skip,[],[.val (dW),.val (bS)],[bS],[],[],0,[(26,107)],false⟩,
 ⟨90,.skip,[],[.val (gH),.val (bS)],[bS],[],[],0,[(26,109)],false⟩,
 ⟨147,.skip,[],[],[du],[],[(1,1)],0,[],false⟩,
 ⟨148,.skip,[],[.val (bS)],[BT1],[],[],0,[],false⟩,
 ⟨149,.skip,[],[.val (BT0)],[dC,BT1],[],[(9,1),(14,1),(33,1)],0,[],false⟩,
 ⟨134,.skip,[],[.ptr (dK) (dK),.val (bS)],[],[(0,.box)],[],0,[],false⟩,
 ⟨150,.skip,[],[.ref (BT7) (BT7) (dK) (dK),.val (fM),.val (bS)],[bS,BT1],[(0,.box),(1,.box)],[(32,2)],0,[(127,115),(4153343,116)],false⟩,
 ⟨151,.skip,[],[.val (BT0),.val (bS)],[bS],[],[],0,[(28,118)],false⟩,
 ⟨152,.skip,[],[.val (BT0)],[BT1],[],[(14,1)],0,[(53,120)],false⟩,
 ⟨78,.skip,[],[.val (BT0),.ptr (BT5) (BT5)],[BT1],[(16,.box)],[],0,[],false⟩,
 ⟨153,.skip,[],[.val (dV),.clo 121 [dV,bS,bS]],[bS],[(16,.box),(17,.box),(18,.box)],[],0,[(26,123)],false⟩,
 ⟨123,.skip,[],[.val (dW)],[ro],[],[],0,[],false⟩,
 ⟨124,.skip,[],[.val (gH)],[jZ],[],[],0,[],false⟩,
 ⟨109,.skip,[],[.ptr (d9) (d9),.val (bS)],[],[(0,.box)],[],0,[],false⟩,
 ⟨126,.skip,[],[.val (fM)],[bS],[],[],0,[(53,128),(7,129)],false⟩,
 ⟨125,.skip,[],[.ptr (d9) (d9),.val (bS)],[dW],[(0,.box)],[(26,2)],0,[],false⟩,
 ⟨127,.skip,[],[.val (cH)],[BT1],[],[],0,[(53,132)],false⟩,
 ⟨128,.skip,[],[.ptr (d9) (d9),.val (fM),.val (dW)],[],[(0,.box)],[],0,[],false⟩,
 ⟨129,.skip,[],[.ptr (d9) (d9),.val (fM),.val (dW)],[],[(0,.box)],[(112,1),(113,4)],0,[],false⟩,
 ⟨57,.skip,[],[.val (.leaf false (.nm 10)),.val (.leaf false (.nm 10))],[BT1],[],[],0,[],false⟩,
 ⟨130,.skip,[],[.val (cH),.val (cH)],[BT1],[],[],0,[],false⟩,
 ⟨131,.skip,[],[.val (im),.val (im)],[BT1],[],[],0,[],false⟩,
 ⟨181,.skip,[],[.ptr (gf) (gf),.val (bS)],[BT9],[(0,.box)],[],0,[(28,139)],false⟩,
 ⟨182,.skip,[],[.val (dC)],[bS],[],[],0,[(58,141)],false⟩,
 ⟨183,.skip,[],[.val (fM)],[bS],[],[],0,[(53,143)],false⟩,
 ⟨184,.skip,[],[.val (cH)],[BT1],[],[],0,[(53,145)],false⟩,
 ⟨185,.skip,[],[.ptr (dK) (dK),.val (BT0)],[],[(0,.box)],[],0,[],false⟩,
 ⟨186,.skip,[],[.val (cH)],[BT0],[],[],0,[],false⟩,
 ⟨187,.skip,[],[.ref (BT7) (BT7) (dK) (dK),.val (fM),.val (dW)],[],[(0,.box),(1,.box)],[],0,[],false⟩,
 ⟨188,.skip,[],[.ref (BT7) (BT7) (dK) (dK),.val (fM),.val (dW)],[],[(0,.box),(1,.box)],[],0,[(31,150)],false⟩,
 ⟨189,.skip,[],[.val (de)],[BT1],[],[],0,[],false⟩,
 ⟨157,.skip,[],[],[du],[],[(1,1)],0,[],false⟩,
 ⟨79,.skip,[],[.val (du),.val (BT0)],[BT1],[],[],0,[],false⟩,
 ⟨121,.skip,[],[.val (fM),.ptr (dV) (dV),.ptr (bS) (bS),.ptr (bS) (bS)],[BT1],[(16,.box),(32,.box),(48,.box)],[],0,[],false⟩,
 ⟨158,.skip,[],[.ptr (d9) (d9),.val (cH)],[],[(0,.box)],[(18,1)],0,[],false⟩,
 ⟨159,.skip,[],[.ptr (d9) (d9),.val (cH),.val (cH)],[cH],[(0,.box)],[],0,[],false⟩,
 ⟨162,.skip,[],[.val (cH)],[BT0],[],[],0,[],false⟩,
 ⟨161,.skip,[],[.val (BT0)],[BT0],[],[],0,[],false⟩,
 ⟨160,.skip,[],[.ptr (d9) (d9),.val (bS),.val (BT0),.val (cH)],[],[(0,.box)],[],0,[],false⟩,
 ⟨163,.skip,[],[.val (d8),.val (bS),.val (BT0)],[cH],[],[],0,[],false⟩,
 ⟨164,.skip,[],[.val (d8),.val (bS),.val (BT0)],[BT3],[],[],0,[],false⟩,
 ⟨165,.skip,[],[.ptr (d9) (d9),.val (BT0)],[],[(0,.box)],[],0,[],false⟩,
 ⟨166,.skip,[],[.val (bS)],[cH],[],[],0,[],false⟩,
 ⟨167,.skip,[],[.val (BT0)],[cH],[],[],0,[],false⟩,
 ⟨169,.skip,[],[.val (cH)],[bS],[],[],0,[],false⟩,
 ⟨168,.skip,[],[.val (BT0),.val (bS)],[cH],[],[(11,1)],0,[],false⟩,
 ⟨170,.skip,[],[.val (BT0)],[du],[],[(5,1)],0,[],false⟩,
 ⟨172,.skip,[],[.val (BT0),.val (BT0)],[BT1],[],[(9,1)],0,[],false⟩,
 ⟨171,.skip,[],[.val (BT1)],[cH],[],[],0,[],false⟩,
 ⟨173,.skip,[],[.val (cH)],[bS],[],[],0,[(53,171)],false⟩,
 ⟨174,.skip,[],[.val (BT0),.val (dW)],[cH],[],[(14,1),(24,4)],0,[(12,173)],false⟩,
 ⟨175,.skip,[],[.val (bS),.val (cH),.val (cH)],[cH,bS],[],[],0,[],false⟩,
 ⟨212,.skip,[],[.ptr (gf) (gf),.val (bS)],[BT9],[(0,.box)],[],0,[(28,176)],false⟩,
 ⟨213,.skip,[],[.ptr (gf) (gf),.val (de)],[BT1],[(0,.box)],[],0,[],false⟩,
 ⟨214,.skip,[],[.val (bS)],[BT0],[],[],0,[(4052,179),(127,180)],false⟩,
 ⟨215,.skip,[],[.ref (BT7) (BT7) (dK) (dK),.val (cH)],[],[(0,.box),(1,.box)],[(21,1)],0,[],false⟩,
 ⟨217,.skip,[],[.val (cH)],[bS],[],[],0,[(53,183)],false⟩,
 ⟨216,.skip,[],[.ptr (dK) (dK),.val (bS),.val (bS),.val (bS)],[cH],[(0,.box)],[],0,[(15,185)],false⟩,
 ⟨219,.skip,[],[.val (cH)],[BT0],[],[],0,[],false⟩,
 ⟨218,.skip,[],[.val (d8),.val (bS),.val (BT0)],[cH],[],[],0,[],false⟩,
 ⟨220,.skip,[],[.ref (BT7) (BT7) (dK) (dK),.val (bS),.val (BT0),.val (cH)],[],[(0,.box),(1,.box)],[],0,[],false⟩,
 ⟨221,.skip,[],[.val (d8),.val (bS),.val (BT0)],[BT3],[],[],0,[],false⟩,
 ⟨222,.skip,[],[.val (bS)],[cH],[],[],0,[],false⟩,
 ⟨223,.skip,[],[.ptr (dK) (dK),.val (cH)],[cH],[(0,.box)],[],0,[],false⟩,
 ⟨224,.skip,[],[.ptr (dK) (dK),.val (cH),.val (cH)],[cH],[(0,.box)],[],0,[],false⟩,
 ⟨225,.skip,[],[.val (BT0),.val (BT0)],[cH],[],[(9,1)],0,[],false⟩,
 ⟨226,.skip,[],[.val (BT1)],[cH],[],[],0,[],false⟩,
 ⟨227,.skip,[],[.val (BT0),.val (dW)],[cH],[],[(20,1)],0,[],false⟩,
 ⟨228,.skip,[],[.val (bS),.val (cH),.val (cH)],[cH],[],[(23,1)],0,[],false⟩,
 ⟨119,.skip,[],[.val (du),.val (BT0)],[bS],[],[],0,[(26,198)],false⟩,
 ⟨122,.skip,[],[.val (fM),.val (bS),.val (bS),.val (bS)],[BT1],[],[(101,1)],0,[(983,200),(3935,201),(15743,202),(251903,203)],false⟩,
 ⟨191,.skip,[],[.val (bS),.val (bS)],[bS,BT1],[],[],0,[],false⟩,
 ⟨193,.skip,[],[.val (bS)],[BT0],[],[],0,[(31,206)],false⟩,
 ⟨192,.skip,[],[.val (d8),.val (bS),.val (BT0),.val (cH)],[BT3,BT1],[],[],0,[],false⟩,
 ⟨194,.skip,[],[.val (d8),.val (bS),.val (BT0)],[bS],[],[],0,[],false⟩,
 ⟨195,.skip,[],[.own (jZ),.val (bS),.val (bS)],[jZ],[],[],0,[],true⟩,
 ⟨197,.skip,[],[.val (bS)],[bS],[],[],0,[],false⟩,
 ⟨196,.skip,[],[.val (BT0)],[cH],[],[],0,[],false⟩,
 ⟨199,.skip,[],[.val (BT0),.val (BT0)],[gG],[],[],0,[],false⟩,
 ⟨198,.skip,[],[.own (gG),.clo 200 []],[du],[],[(38,2)],0,[(122,214)],false⟩,
 ⟨190,.skip,[],[.val (BT0)],[dC,BT1],[],[(9,1),(14,1),(31,1)],0,[],false⟩,
 ⟨201,.skip,[],[.val (dC),.val (BT0)],[BT1],[],[(10,1)],0,[],false⟩,
 ⟨202,.skip,[],[.val (BT0)],[bS,bS],[],[],0,[(31,218),(1023,219)],false⟩,
 ⟨203,.skip,[],[.val (BT0),.val (de),.val (de)],[BT0],[],[],0,[(58,221)],false⟩,
 ⟨180,.skip,[],[.val (BT0),.val (BT0)],[bS],[],[],0,[],true⟩,
 ⟨204,.skip,[],[.val (BT0),.val (bS),.val (bS)],[BT0],[],[],0,[],false⟩,
 ⟨205,.skip,[],[.val (bS),.val (bS),.val (bS)],[bS,bS],[],[],0,[(15,225)],false⟩,
 ⟨207,.skip,[],[.val (cH),.val (cH)],[bS],[],[],0,[],false⟩,
 ⟨206,.skip,[],[.val (bS),.val (bS)],[BT1],[],[],0,[],false⟩,
 ⟨260,.skip,[],[.ptr (gf) (gf),.val (bS)],[BT9],[(0,.box)],[],0,[(28,229),(907,230)],false⟩,
 ⟨261,.skip,[],[.val (bS)],[bS],[],[],0,[],false⟩,
 ⟨262,.skip,[],[.val (bS)],[BT0],[],[(12,1)],0,[(60,233)],false⟩,
 ⟨208,.skip,[],[.val (BT0)],[bS,bS],[],[],0,[(28,235),(63,236),(508,237),(16342,238),(511,239)],false⟩,
 ⟨263,.skip,[],[.val (bS),.val (bS)],[bS,BT1],[],[],0,[],false⟩,
 ⟨264,.skip,[],[.val (bS),.val (bS)],[bS,BT1],[],[],0,[],false⟩,
 ⟨265,.skip,[],[.val (bS),.val (bS)],[bS,BT1],[],[],0,[],false⟩,
 ⟨266,.skip,[],[.val (bS),.val (bS)],[bS,BT1],[],[],0,[],false⟩,
 ⟨267,.skip,[],[.val (d8),.val (bS),.val (BT0)],[bS],[],[],0,[(26,245)],false⟩,
 ⟨268,.skip,[],[.val (d8),.val (bS),.val (BT0),.val (cH)],[BT3,BT1],[],[(61,1)],0,[(508,247)],false⟩,
 ⟨269,.skip,[],[.val (BT0)],[cH],[],[],0,[(7,249)],false⟩,
 ⟨270,.skip,[],[.val (dC),.val (BT0)],[BT1],[],[(10,1)],0,[],false⟩,
 ⟨271,.skip,[],[.val (BT1)],[bS],[],[],0,[],false⟩,
 ⟨272,.skip,[],[.val (BT0),.val (dW)],[cH],[],[],0,[],false⟩,
 ⟨273,.skip,[],[.val (cH),.val (cH)],[bS],[],[],0,[],false⟩,
 ⟨154,.skip,[],[.val (bS)],[BT0,BT0],[],[(6,1)],0,[(63,255),(2007,256),(32127,257)],false⟩,
 ⟨155,.skip,[],[.val (bS)],[BT1],[],[],0,[],false⟩,
 ⟨156,.skip,[],[.val (BT0)],[BT1],[],[(7,1)],0,[],false⟩,
 ⟨231,.skip,[],[.val (bS)],[bS,BT1],[],[],0,[],false⟩,
 ⟨235,.skip,[],[.val (bS)],[BT0],[],[],0,[],true⟩,
 ⟨236,.skip,[],[.val (BT0),.val (BT0)],[BT0],[],[],0,[],false⟩,
 ⟨232,.skip,[],[.val (gH),.clo 233 [im]],[bS],[(16,.box)],[],0,[(26,264)],false⟩,
 ⟨234,.skip,[],[.own (jZ),.val (bS),.own (jZ)],[jZ],[],[],0,[],true⟩,
 ⟨232,.skip,[],[.val (gH),.clo 237 [bS,BT0]],[bS],[(16,.box),(17,.box)],[],0,[(26,267)],false⟩,
 ⟨178,.skip,[],[.val (BT0)],[bS,BT1],[],[],0,[],false⟩,
 ⟨238,.skip,[],[.val (BT0),.val (BT0),.val (bS),.val (bS)],[gG],[],[],0,[(31,270),(2044,271)],false⟩,
 ⟨118,.skip,[],[.val (du),.clo 200 []],[bS],[],[],0,[(26,273)],false⟩,
 ⟨200,.skip,[],[.val (BT0)],[BT1],[],[],0,[],false⟩,
 ⟨229,.skip,[],[.ptr (fB) (fB)],[BT9],[(0,.box)],[],0,[(28,276)],false⟩,
 ⟨230,.skip,[],[.val (dC)],[bS],[],[],0,[(58,278)],false⟩,
 ⟨240,.skip,[],[.val (dC)],[dr],[],[(9,1)],0,[],false⟩,
 ⟨239,.skip,[],[.val (dr),.val (BT0)],[bS,bS,BT1],[],[],0,[(58,281)],false⟩,
 ⟨241,.skip,[],[.val (BT0),.val (BT0)],[BT0],[],[],0,[],false⟩,
 ⟨242,.skip,[],[.val (BT0),.val (bS)],[bS],[],[],0,[(28,284)],false⟩,
 ⟨243,.skip,[],[.val (BT0),.val (BT0)],[bS,BT1],[],[],0,[],false⟩,
 ⟨244,.skip,[],[.val (bS),.val (bS)],[bS,BT1],[],[],0,[],false⟩,
 ⟨245,.skip,[],[.val (bS),.val (bS)],[bS,BT1],[],[],0,[],false⟩,
 ⟨246,.skip,[],[.val (bS),.val (bS)],[bS,BT1],[],[],0,[],false⟩,
 ⟨179,.skip,[],[.val (BT0),.val (BT0)],[bS],[],[],0,[],false⟩,
 ⟨295,.skip,[],[.ptr (gf) (gf),.val (bS)],[BT9],[(0,.box)],[],0,[(63,291)],false⟩,
 ⟨247,.skip,[],[.val (de)],[BT1],[],[],0,[],false⟩,
 ⟨296,.skip,[],[.val (bS)],[bS,BT1],[],[],0,[],false⟩,
 ⟨138,.skip,[],[.val (im),.val (bS),.val (BT0)],[BT1],[],[],0,[],false⟩,
 ⟨176,.skip,[],[.val (BT0)],[bS,BT1],[],[],0,[(60,296)],false⟩,
 ⟨298,.skip,[],[.val (dC)],[dr],[],[(6,1),(10,1)],0,[],false⟩,
 ⟨297,.skip,[],[.val (dr),.val (BT0)],[bS,bS,BT1],[],[],0,[(26,299)],false⟩,
 ⟨299,.skip,[],[.val (bS)],[bS],[],[],0,[],false⟩,
 ⟨300,.skip,[],[.val (BT0),.val (BT0)],[bS],[],[],0,[(26,302)],false⟩,
 ⟨301,.skip,[],[.val (BT0),.val (de),.val (de)],[BT0],[],[],0,[(58,304)],false⟩,
 ⟨302,.skip,[],[.val (dW)],[BT0],[],[],0,[(63,306)],false⟩,
 ⟨249,.skip,[],[.val (BT0),.val (de)],[BT0],[],[],0,[(12,308)],false⟩,
 ⟨233,.skip,[],[.val (im),.ptr (im) (im)],[BT1],[(16,.box)],[],0,[],false⟩,
 ⟨237,.skip,[],[.val (im),.ptr (bS) (bS),.ptr (BT0) (BT0)],[BT1],[(16,.box),(32,.box)],[],0,[],false⟩,
 ⟨209,.skip,[],[.val (BT0),.val (BT0)],[BT0],[],[],0,[],false⟩,
 ⟨279,.skip,[],[.val (BT0),.val (bS)],[gG],[],[],0,[(15,313),(250,314)],false⟩,
 ⟨280,.skip,[],[.val (BT0),.val (BT0)],[bS],[],[],0,[(62,316)],false⟩,
 ⟨274,.skip,[],[.ptr (fB) (fB)],[BT9],[(0,.box)],[],0,[(28,318)],false⟩,
 ⟨275,.skip,[],[.ptr (fB) (fB),.val (de)],[BT1],[(0,.box)],[],0,[],false⟩,
 ⟨283,.skip,[],[.val (dC)],[BT1],[],[],0,[],false⟩,
 ⟨284,.skip,[],[.own (eE),.val (dC)],[eE],[],[(18,1),(24,1),(34,1),(40,1),(46,1),(73,1),(83,1),(105,1),(113,1)],0,[(966650,322),(15,323)],false⟩,
 ⟨281,.skip,[],[.val (dr)],[BT1],[],[],0,[(58,325)],false⟩,
 ⟨282,.skip,[],[.val (dr),.val (BT0),.val (bS)],[bS],[],[(22,1),(31,1),(66,1)],0,[(62,327),(995,328),(31866,329)],false⟩,
 ⟨248,.skip,[],[.val (BT0),.val (de)],[BT0],[],[],0,[(12,331)],false⟩,
 ⟨285,.skip,[],[.val (BT0)],[bS,.hole 1],[],[(16,1)],0,[],false⟩,
 ⟨287,.skip,[],[.val (bS)],[cy],[],[],0,[],false⟩,
 ⟨286,.skip,[],[.val (cy),.val (cy)],[cy,cy],[],[],0,[],false⟩,
 ⟨288,.skip,[],[.val (cy),.val (cy),.val (cy)],[cy,cy],[],[],0,[(7,336),(15,337),(131068,338),(65535,339),(2097148,340),(1048575,341)],false⟩,
 ⟨210,.skip,[],[.val (BT0),.val (BT0)],[bS],[],[],0,[],false⟩,
 ⟨321,.skip,[],[.ptr (gf) (gf)],[BT9],[(0,.box)],[(171,1)],0,[(15,344),(252,345),(32303,346),(255,347),(64607,348),(8186,349),(516858,350)],false⟩,
 ⟨323,.skip,[],[.val (dC)],[BT1],[],[],0,[],false⟩,
 ⟨325,.skip,[],[.own (eE),.val (dC)],[eE],[],[(18,1),(32,1),(76,1),(105,1)],0,[(966650,353),(15,354)],false⟩,
 ⟨324,.skip,[],[.own (eE),.val (bS)],[eE],[],[(8,1)],0,[],false⟩,
 ⟨322,.skip,[],[.val (dr),.val (BT0),.val (bS)],[bS],[],[(23,1),(30,1),(76,1),(85,1)],0,[(250,357),(8009,358),(256314,359)],false⟩,
 ⟨144,.skip,[],[.val (im),.val (im)],[bS],[],[],0,[],false⟩,
 ⟨307,.skip,[],[.val (BT0)],[bS],[],[],0,[],false⟩,
 ⟨290,.skip,[],[.val (BT0)],[oV,bS],[],[],0,[],false⟩,
 ⟨308,.skip,[],[.val (BT0),.val (de)],[bS],[],[],0,[],true⟩,
 ⟨303,.skip,[],[.ptr (fB) (fB)],[de,BT1],[(0,.box)],[],0,[],false⟩,
 ⟨304,.skip,[],[.ptr (fB) (fB)],[BT9],[(0,.box)],[],0,[(14,366)],false⟩,
 ⟨313,.skip,[],[.val (dC),.val (bS)],[BT1],[],[],0,[(31,368),(983,369),(15743,370)],false⟩,
 ⟨314,.skip,[],[.own (eE),.val (ip)],[eE],[],[(28,1),(35,1),(39,1)],0,[(58,372),(250,373)],false⟩,
 ⟨309,.skip,[],[.val (rm),.val (bS),.val (BT1)],[BT1],[],[],0,[(7551,375)],false⟩,
 ⟨310,.skip,[],[.val (dr),.val (dN),.val (BT1),.val (BT1)],[dN],[],[],0,[(250,377),(506,378),(4051,379)],false⟩,
 ⟨311,.skip,[],[.val (dN),.val (bS)],[BT1],[],[],0,[],false⟩,
 ⟨312,.skip,[],[.val (rm),.val (de)],[BT1],[],[],0,[],false⟩,
 ⟨315,.skip,[],[.val (BT0)],[bS,.hole 1],[],[],0,[(235,383),(3770,384)],false⟩,
 ⟨317,.skip,[],[.val (cy)],[bS],[],[],0,[],false⟩,
 ⟨255,.skip,[],[.val (BT0),.val (BT0)],[bS],[],[],0,[],true⟩,
 ⟨350,.skip,[],[.val (dC)],[BT1],[],[],0,[(26,388),(3935,389),(15743,390)],false⟩,
 ⟨351,.skip,[],[.own (eE),.val (ip)],[eE],[],[(29,1)],0,[(58,392),(250,393)],false⟩,
 ⟨347,.skip,[],[.val (dr)],[BT1],[],[],0,[(58,395)],false⟩,
 ⟨348,.skip,[],[.val (dr),.val (dN),.val (BT1),.val (BT1)],[eX],[],[],0,[(58,397)],false⟩,
 ⟨349,.skip,[],[.val (rm),.val (de)],[BT1],[],[],0,[],false⟩,
 ⟨318,.skip,[],[.val (BT0)],[oV,bS],[],[],0,[],false⟩,
 ⟨326,.skip,[],[.ptr (fB) (fB)],[BT9],[(0,.box)],[],0,[(1007615,401)],false⟩,
 ⟨327,.skip,[],[.val (de)],[bS],[],[],0,[],false⟩,
 ⟨338,.skip,[],[.val (ip),.clo 339 [bS]],[BT1],[(16,.box)],[],0,[],false⟩,
 ⟨337,.skip,[],[.val (dC)],[BT1],[],[],0,[(26,405)],false⟩,
 ⟨333,.skip,[],[.val (bS),.ptr (dr) (dr),.ptr (ff) (ff),.ptr (eX) (eX)],[],[(16,.box),(32,.box),(48,.box)],[(22,1)],0,[],false⟩,
 ⟨334,.skip,[],[.io (eX)],[],[],[],0,[],true⟩,
 ⟨335,.skip,[],[.val (dN),.val (bS)],[bS],[],[],0,[(26,409)],false⟩,
 ⟨336,.skip,[],[.val (BT0),.val (de)],[bS],[],[],0,[],false⟩,
 ⟨340,.skip,[],[.val (BT0),.val (bS),.val (bS)],[bS,.hole 1],[],[],0,[(31,412),(511,413)],false⟩,
 ⟨345,.skip,[],[.val (cy)],[bS],[],[],0,[(7,415),(15,416)],false⟩,
 ⟨367,.skip,[],[.val (BT0)],[BT1],[],[],0,[(26,418)],false⟩,
 ⟨363,.skip,[],[.val (rm),.val (bS)],[BT1],[],[],0,[(7,420),(15,421),(31,422),(63,423),(127,424)],false⟩,
 ⟨364,.skip,[],[.val (dr),.io (ff),.val (bS),.val (BT1),.val (BT1)],[],[(16,.reg)],[(57,1),(66,1),(74,1),(82,1)],0,[(6,426)],false⟩,
 ⟨365,.skip,[],[.val (oU)],[eX],[],[(18,1)],0,[(58,428)],false⟩,
 ⟨366,.skip,[],[.val (BT0),.val (de)],[BT1],[],[],0,[(26,430)],false⟩,
 ⟨352,.skip,[],[.ptr (fB) (fB)],[BT9],[(0,.box)],[(111,1)],0,[(2042,432),(130707,433),(8186,434),(522830,435)],false⟩,
 ⟨359,.skip,[],[.val (ip),.clo 339 [bS]],[bS],[(16,.box)],[],0,[(26,437)],false⟩,
 ⟨146,.skip,[],[.val (BT0),.val (BT0)],[BT1],[],[],0,[],false⟩,
 ⟨256,.skip,[],[.val (BT0),.val (de)],[bS],[],[],0,[],false⟩,
 ⟨360,.skip,[],[.val (BT0),.val (bS),.val (bS)],[cy,.hole 1],[],[],0,[(63,441),(127,442),(511,443),(32762,444),(8387175,445)],false⟩,
 ⟨339,.skip,[],[.val (dC),.ptr (bS) (bS)],[BT1],[(16,.box)],[],0,[],false⟩,
 ⟨293,.skip,[],[.val (BT0),.val (de)],[bS],[],[],0,[],true⟩,
 ⟨380,.skip,[],[.val (de)],[de],[],[],0,[],false⟩,
 ⟨381,.skip,[],[.val (BT0)],[BT1],[],[],0,[(31,450),(127,451),(508,452)],false⟩]
def Bi:ly:=[((195,[]),209),((180,[]),222),((235,[]),261),((234,[]),265),((308,[]),363),((255,[]),386),((334,[]),407),((293,[]),447)]
def Bh:ly:=[((4,[]),0),((7,[]),1),((9,[]),2),((16,[]),3),((17,[]),4),((18,[]),5),((12,[]),6),((13,[]),7),((19,[]),8),((20,[]),9),((33,[]),10),((34,[]),12),((37,[]),14),((38,[]),16),((35,[]),18),((36,[]),21),((39,[]),22),((10,[]),23),((52,[]),24),((11,[]),25),((44,[]),26),((45,[]),28),((46,[]),30),((47,[]),32),((53,[]),34),((14,[]),35),((54,[]),36),((15,[]),37),((69,[]),38),((75,[]),39),((70,[]),40),((71,[]),42),((72,[]),44),((73,[]),46),((74,[]),47),((76,[]),48),((77,[78]),50),((80,[]),51),((40,[]),52),((41,[]),53),((91,[]),54),((42,[]),56),((43,[]),57),((86,[]),59),((58,[]),60),((92,[]),62),((48,[]),64),((49,[]),65),((93,[]),67),((50,[]),69),((51,[]),70),((110,[]),72),((94,[]),73),((111,[]),74),((112,[]),75),((100,[]),80),((113,[]),81),((114,[]),83),((116,[]),84),((115,[]),85),((117,[]),86),((118,[78]),87),((107,[]),89),((120,[121]),90),((81,[]),91),((82,[]),92),((83,[]),96),((132,[]),97),((84,[]),98),((85,[]),100),((87,[]),102),((88,[]),104),((89,[]),106),((90,[]),108),((147,[]),110),((148,[]),111),((149,[]),112),((134,[]),113),((150,[]),114),((151,[]),117),((152,[]),119),((78,[]),121),((153,[121]),122),((123,[]),124),((124,[]),125),((109,[]),126),((126,[]),127),((125,[]),130),((127,[]),131),((128,[]),133),((129,[]),134),((57,[]),135),((130,[]),136),((131,[]),137),((181,[]),138),((182,[]),140),((183,[]),142),((184,[]),144),((185,[]),146),((186,[]),147),((187,[]),148),((188,[]),149),((189,[]),151),((157,[]),152),((79,[]),153),((121,[]),154),((158,[]),155),((159,[]),156),((162,[]),157),((161,[]),158),((160,[]),159),((163,[]),160),((164,[]),161),((165,[]),162),((166,[]),163),((167,[]),164),((169,[]),165),((168,[]),166),((170,[]),167),((172,[]),168),((171,[]),169),((173,[]),170),((174,[]),172),((175,[]),174),((212,[]),175),((213,[]),177),((214,[]),178),((215,[]),181),((217,[]),182),((216,[]),184),((219,[]),186),((218,[]),187),((220,[]),188),((221,[]),189),((222,[]),190),((223,[]),191),((224,[]),192),((225,[]),193),((226,[]),194),((227,[]),195),((228,[]),196),((119,[]),197),((122,[]),199),((191,[]),204),((193,[]),205),((192,[]),207),((194,[]),208),((197,[]),210),((196,[]),211),((199,[]),212),((198,[200]),213),((190,[]),215),((201,[]),216),((202,[]),217),((203,[]),220),((204,[]),223),((205,[]),224),((207,[]),226),((206,[]),227),((260,[]),228),((261,[]),231),((262,[]),232),((208,[]),234),((263,[]),240),((264,[]),241),((265,[]),242),((266,[]),243),((267,[]),244),((268,[]),246),((269,[]),248),((270,[]),250),((271,[]),251),((272,[]),252),((273,[]),253),((154,[]),254),((155,[]),258),((156,[]),259),((231,[]),260),((236,[]),262),((232,[233]),263),((232,[237]),266),((178,[]),268),((238,[]),269),((118,[200]),272),((200,[]),274),((229,[]),275),((230,[]),277),((240,[]),279),((239,[]),280),((241,[]),282),((242,[]),283),((243,[]),285),((244,[]),286),((245,[]),287),((246,[]),288),((179,[]),289),((295,[]),290),((247,[]),292),((296,[]),293),((138,[]),294),((176,[]),295),((298,[]),297),((297,[]),298),((299,[]),300),((300,[]),301),((301,[]),303),((302,[]),305),((249,[]),307),((233,[]),309),((237,[]),310),((209,[]),311),((279,[]),312),((280,[]),315),((274,[]),317),((275,[]),319),((283,[]),320),((284,[]),321),((281,[]),324),((282,[]),326),((248,[]),330),((285,[]),332),((287,[]),333),((286,[]),334),((288,[]),335),((210,[]),342),((321,[]),343),((323,[]),351),((325,[]),352),((324,[]),355),((322,[]),356),((144,[]),360),((307,[]),361),((290,[]),362),((303,[]),364),((304,[]),365),((313,[]),367),((314,[]),371),((309,[]),374),((310,[]),376),((311,[]),380),((312,[]),381),((315,[]),382),((317,[]),385),((350,[]),387),((351,[]),391),((347,[]),394),((348,[]),396),((349,[]),398),((318,[]),399),((326,[]),400),((327,[]),402),((338,[339]),403),((337,[]),404),((333,[]),406),((335,[]),408),((336,[]),410),((340,[]),411),((345,[]),414),((367,[]),417),((363,[]),419),((364,[]),425),((365,[]),427),((366,[]),429),((352,[]),431),((359,[339]),436),((146,[]),438),((256,[]),439),((360,[]),440),((339,[]),446),((380,[]),448),((381,[]),449)]
def yR(e:Nat):EntI:=entR.getD e ⟨0,.skip,[],[],[],[],[],0,[],true⟩
def fc(k:Nat):KeyI:=keyL.getD k ⟨0,[false],[]⟩
noncomputable def tab:Tab where
 G:=gam
 ty:=mh tyL
 ifc:=tg DL
 key k:=sP yR (fc k)
 ent k:=fill Tryz.prog (yR k)
 call:=s9 (Bi++Bh)
 tabs := [("internal/bytealg.MaxLen", .i64, []), ("internal/strconv.uint64pow10", .u64, Go.Lib.pow10Tab)]
 ext k:=match k with
  | 209=>fun x=>nf (α:=bo) x.1 x.2.1 x.2.2.1
  | 222=>fun x=>if List.length (α:=Int) x.1<4294967281 then some (cC x.1 x.2.1,())else none
  | 261=>fun x=>some (ju x.1,())
  | 265=>fun x=>nI (α:=bo) x.1 x.2.1 x.2.2.1
  | 363=>fun x=>some (ef x.1 x.2.1,())
  | 386=>fun x=>some (dy x.1 x.2.1,())
  | 407=>fun x=>if List.length (α:=Int) x.1≤room then some (dL x.1,())else none
  | 447=>fun x=>some (dk x.1 x.2.1,())
  | _=>fun _=>none
end Go.Proofs.YthgknhkeifcflaaGreatDoor.E.TG
