/- The table of F: structs,types,entries,keys. No condition. -/
import Derived.Test.YthgknhkeifcflaaGreatDoorEG4
import Derived.Test.YthgknhkeifcflaaGreatDoorProg
import Derived.KernelRfl
namespace Go.Proofs.YthgknhkeifcflaaGreatDoor.E.TF
open Go.Proofs.YthgknhkeifcflaaGreatDoor.E
set_option linter.unusedVariables false
set_option maxRecDepth 100000
structure bL where
 Code:Int
 N:Int
 S:(_root_.List Int)
def Ab:bL:=⟨0,0,[]⟩
structure bM where
 Vars:(_root_.List (_root_.List Int))
 Cells:(_root_.List (_root_.List Int))
 Start:(_root_.List bL)
 Main:(_root_.List bL)
def TP:bM:=⟨[],[],[],[]⟩
structure bF where
 Kind:Int
 N:Int
 S:(_root_.List Int)
def bU:bF:=⟨0,0,[]⟩
structure bo where
 Name:Int
 Key:(_root_.List Int)
 Val:bF
def cD:bo:=⟨0,[],bU⟩
structure bE where
 Vars:(_root_.List bF)
 Cells:(_root_.List bo)
 Nr:Int
 Err:Int
def lm:bE:=⟨[],[],0,0⟩
structure bz where
 State:bE
 Done:(_root_.List Int)
 Out:(_root_.List Int)
def Ik:bz:=⟨lm,[],[]⟩
structure bA where
 Code:Int
 N:Int
 S:(_root_.List Int)
def cE:bA:=⟨0,0,[]⟩
structure bC where
 Vars:(_root_.List (_root_.List Int))
 Cells:(_root_.List (_root_.List Int))
 Start:(_root_.List bA)
 Main:(_root_.List bA)
def TJ:bC:=⟨[],[],[],[]⟩
structure bq where
 Who:Int
 Seq:Int
 Line:(_root_.List Int)
def Ii:bq:=⟨0,0,[]⟩
structure bt where
 Term:Int
 C:bq
def TH:bt:=⟨0,Ii⟩
structure bw where
 Base:Int
 BaseTerm:Int
 List:(_root_.List bt)
def Ij:bw:=⟨0,0,[]⟩
structure bv where
 Term:Int
 Vote:Int
 Log:bw
 Snap:bz
def TI:bv:=⟨0,0,Ij,Ik⟩
structure bO where
 Kind:Int
 N:Int
 S:(_root_.List Int)
def Im:bO:=⟨0,0,[]⟩
structure bI where
 Name:Int
 Key:(_root_.List Int)
 Val:bO
def TM:bI:=⟨0,[],Im⟩
structure bN where
 Vars:(_root_.List bO)
 Cells:(_root_.List bI)
 Nr:Int
 Err:Int
def Il:bN:=⟨[],[],0,0⟩
structure bK where
 State:bN
 Done:(_root_.List Int)
 Out:(_root_.List Int)
def TO:bK:=⟨Il,[],[]⟩
structure bJ where
 Who:Int
 Seq:Int
 Line:(_root_.List Int)
def TN:bJ:=⟨0,0,[]⟩
structure bH where
 s:bE
 line:(_root_.List Int)
 out:(_root_.List Int)
 stack:(_root_.List bF)
 err:Int
def TL:bH:=⟨lm,[],[],[],0⟩
structure bP where
 s:bE
 vars:(_root_.List (_root_.List Int))
 cells:(_root_.List (_root_.List Int))
 line:(_root_.List Int)
 fields:(_root_.List (_root_.List Int))
 out:(_root_.List Int)
 fuel:Int
 done:Bool
def TQ:bP:=⟨lm,[],[],[],[],[],0,false⟩
structure bD where
 Op:Int
 C:Int
 Set:(_root_.List Int)
 Not:Bool
 Kids:(_root_.List bD)
def b9:bD:=⟨0,0,[],false,[]⟩
structure bQ where
 l:Unit
 stack:(_root_.List bF)
def TR:bQ:=⟨(),[]⟩
structure bR where
 s:(_root_.List Int)
 at_:Int
 bad:Bool
def TS:bR:=⟨[],0,false⟩
structure bG where
 s:(_root_.List Int)
 bad:Bool
def TK:bG:=⟨[],false⟩
structure bB where
 Op:Int
 C:Int
 Set:(_root_.List Int)
 Not:Bool
 A:Int
 B:Int
def b8:bB:=⟨0,0,[],false,0,0⟩
def gT:Nat→Type
 | 0=>bM
 | 1=>bL
 | 2=>bE
 | 3=>bF
 | 4=>bo
 | 5=>bz
 | 6=>bC
 | 7=>bA
 | 8=>bw
 | 9=>bt
 | 10=>bq
 | 11=>bv
 | 12=>bN
 | 13=>bO
 | 14=>bI
 | 15=>bK
 | 16=>bJ
 | 17=>bH
 | 18=>bP
 | 19=>bD
 | 20=>bQ
 | 21=>bR
 | 22=>bG
 | 23=>bB
 | _=>Unit
def gfs:Nat→List FT
 | 0=>[(.sl .str),(.sl .str),(.sl (.nm 1)),(.sl (.nm 1))]
 | 1=>[(.int .i64),(.int .i64),.str]
 | 2=>[(.sl (.nm 3)),(.sl (.nm 4)),(.int .i64),(.int .i64)]
 | 3=>[(.int .i64),(.int .i64),.str]
 | 4=>[(.int .i64),.str,(.nm 3)]
 | 5=>[(.nm 2),(.sl (.int .i64)),.str]
 | 6=>[(.sl .str),(.sl .str),(.sl (.nm 7)),(.sl (.nm 7))]
 | 7=>[(.int .i64),(.int .i64),.str]
 | 8=>[(.int .i64),(.int .i64),(.sl (.nm 9))]
 | 9=>[(.int .i64),(.nm 10)]
 | 10=>[(.int .i64),(.int .i64),.str]
 | 11=>[(.int .i64),(.int .i64),(.nm 8),(.nm 5)]
 | 12=>[(.sl (.nm 13)),(.sl (.nm 14)),(.int .i64),(.int .i64)]
 | 13=>[(.int .i64),(.int .i64),.str]
 | 14=>[(.int .i64),.str,(.nm 13)]
 | 15=>[(.nm 12),(.sl (.int .i64)),.str]
 | 16=>[(.int .i64),(.int .i64),.str]
 | 17=>[(.nm 2),.str,.str,(.sl (.nm 3)),(.int .i64)]
 | 18=>[(.nm 2),(.sl .str),(.sl .str),.str,(.sl .str),.str,(.int .i64),.bool]
 | 19=>[(.int .i64),(.int .i64),.str,.bool,(.sl (.nm 19))]
 | 20=>[.ptr,(.sl (.nm 3))]
 | 21=>[.str,(.int .i64),.bool]
 | 22=>[.str,.bool]
 | 23=>[(.int .i64),(.int .i64),.str,.bool,(.int .i64),(.int .i64)]
 | _=>[]
def gun:∀ n,gT n→Js gT (gfs n)
 | 0,x=>(x.Vars,(x.Cells,(x.Start,(x.Main,()))))
 | 1,x=>(x.Code,(x.N,(x.S,())))
 | 2,x=>(x.Vars,(x.Cells,(x.Nr,(x.Err,()))))
 | 3,x=>(x.Kind,(x.N,(x.S,())))
 | 4,x=>(x.Name,(x.Key,(x.Val,())))
 | 5,x=>(x.State,(x.Done,(x.Out,())))
 | 6,x=>(x.Vars,(x.Cells,(x.Start,(x.Main,()))))
 | 7,x=>(x.Code,(x.N,(x.S,())))
 | 8,x=>(x.Base,(x.BaseTerm,(x.List,())))
 | 9,x=>(x.Term,(x.C,()))
 | 10,x=>(x.Who,(x.Seq,(x.Line,())))
 | 11,x=>(x.Term,(x.Vote,(x.Log,(x.Snap,()))))
 | 12,x=>(x.Vars,(x.Cells,(x.Nr,(x.Err,()))))
 | 13,x=>(x.Kind,(x.N,(x.S,())))
 | 14,x=>(x.Name,(x.Key,(x.Val,())))
 | 15,x=>(x.State,(x.Done,(x.Out,())))
 | 16,x=>(x.Who,(x.Seq,(x.Line,())))
 | 17,x=>(x.s,(x.line,(x.out,(x.stack,(x.err,())))))
 | 18,x=>(x.s,(x.vars,(x.cells,(x.line,(x.fields,(x.out,(x.fuel,(x.done,()))))))))
 | 19,x=>(x.Op,(x.C,(x.Set,(x.Not,(x.Kids,())))))
 | 20,x=>(x.l,(x.stack,()))
 | 21,x=>(x.s,(x.at_,(x.bad,())))
 | 22,x=>(x.s,(x.bad,()))
 | 23,x=>(x.Op,(x.C,(x.Set,(x.Not,(x.A,(x.B,()))))))
 | (n+24),_=>()
def gpk:∀ n,Js gT (gfs n)→gT n
 | 0,y=>⟨y.1,y.2.1,y.2.2.1,y.2.2.2.1⟩
 | 1,y=>⟨y.1,y.2.1,y.2.2.1⟩
 | 2,y=>⟨y.1,y.2.1,y.2.2.1,y.2.2.2.1⟩
 | 3,y=>⟨y.1,y.2.1,y.2.2.1⟩
 | 4,y=>⟨y.1,y.2.1,y.2.2.1⟩
 | 5,y=>⟨y.1,y.2.1,y.2.2.1⟩
 | 6,y=>⟨y.1,y.2.1,y.2.2.1,y.2.2.2.1⟩
 | 7,y=>⟨y.1,y.2.1,y.2.2.1⟩
 | 8,y=>⟨y.1,y.2.1,y.2.2.1⟩
 | 9,y=>⟨y.1,y.2.1⟩
 | 10,y=>⟨y.1,y.2.1,y.2.2.1⟩
 | 11,y=>⟨y.1,y.2.1,y.2.2.1,y.2.2.2.1⟩
 | 12,y=>⟨y.1,y.2.1,y.2.2.1,y.2.2.2.1⟩
 | 13,y=>⟨y.1,y.2.1,y.2.2.1⟩
 | 14,y=>⟨y.1,y.2.1,y.2.2.1⟩
 | 15,y=>⟨y.1,y.2.1,y.2.2.1⟩
 | 16,y=>⟨y.1,y.2.1,y.2.2.1⟩
 | 17,y=>⟨y.1,y.2.1,y.2.2.1,y.2.2.2.1,y.2.2.2.2.1⟩
 | 18,y=>⟨y.1,y.2.1,y.2.2.1,y.2.2.2.1,y.2.2.2.2.1,y.2.2.2.2.2.1,y.2.2.2.2.2.2.1,y.2.2.2.2.2.2.2.1⟩
 | 19,y=>⟨y.1,y.2.1,y.2.2.1,y.2.2.2.1,y.2.2.2.2.1⟩
 | 20,y=>⟨y.1,y.2.1⟩
 | 21,y=>⟨y.1,y.2.1,y.2.2.1⟩
 | 22,y=>⟨y.1,y.2.1⟩
 | 23,y=>⟨y.1,y.2.1,y.2.2.1,y.2.2.2.1,y.2.2.2.2.1,y.2.2.2.2.2.1⟩
 | (n+24),_=>()
theorem KF:∀ n y,gun n (gpk n y)=y
 | 0,_=>rfl
 | 1,_=>rfl
 | 2,_=>rfl
 | 3,_=>rfl
 | 4,_=>rfl
 | 5,_=>rfl
 | 6,_=>rfl
 | 7,_=>rfl
 | 8,_=>rfl
 | 9,_=>rfl
 | 10,_=>rfl
 | 11,_=>rfl
 | 12,_=>rfl
 | 13,_=>rfl
 | 14,_=>rfl
 | 15,_=>rfl
 | 16,_=>rfl
 | 17,_=>rfl
 | 18,_=>rfl
 | 19,_=>rfl
 | 20,_=>rfl
 | 21,_=>rfl
 | 22,_=>rfl
 | 23,_=>rfl
 | (n+24),_=>rfl
theorem KD:∀ n x,gpk n (gun n x)=x
 | 0,x=>by cases x;rfl
 | 1,x=>by cases x;rfl
 | 2,x=>by cases x;rfl
 | 3,x=>by cases x;rfl
 | 4,x=>by cases x;rfl
 | 5,x=>by cases x;rfl
 | 6,x=>by cases x;rfl
 | 7,x=>by cases x;rfl
 | 8,x=>by cases x;rfl
 | 9,x=>by cases x;rfl
 | 10,x=>by cases x;rfl
 | 11,x=>by cases x;rfl
 | 12,x=>by cases x;rfl
 | 13,x=>by cases x;rfl
 | 14,x=>by cases x;rfl
 | 15,x=>by cases x;rfl
 | 16,x=>by cases x;rfl
 | 17,x=>by cases x;rfl
 | 18,x=>by cases x;rfl
 | 19,x=>by cases x;rfl
 | 20,x=>by cases x;rfl
 | 21,x=>by cases x;rfl
 | 22,x=>by cases x;rfl
 | 23,x=>by cases x;rfl
 | (n+24),_=>rfl
def gz:∀ n,gT n
 | 0=>TP
 | 1=>Ab
 | 2=>lm
 | 3=>bU
 | 4=>cD
 | 5=>Ik
 | 6=>TJ
 | 7=>cE
 | 8=>Ij
 | 9=>TH
 | 10=>Ii
 | 11=>TI
 | 12=>Il
 | 13=>Im
 | 14=>TM
 | 15=>TO
 | 16=>TN
 | 17=>TL
 | 18=>TQ
 | 19=>b9
 | 20=>TR
 | 21=>TS
 | 22=>TK
 | 23=>b8
 | (n+24)=>()
theorem KG:∀ n,gun n (gz n)=mO gz (gfs n)
 | 0=>rfl
 | 1=>rfl
 | 2=>rfl
 | 3=>rfl
 | 4=>rfl
 | 5=>rfl
 | 6=>rfl
 | 7=>rfl
 | 8=>rfl
 | 9=>rfl
 | 10=>rfl
 | 11=>rfl
 | 12=>rfl
 | 13=>rfl
 | 14=>rfl
 | 15=>rfl
 | 16=>rfl
 | 17=>rfl
 | 18=>rfl
 | 19=>rfl
 | 20=>rfl
 | 21=>rfl
 | 22=>rfl
 | 23=>rfl
 | (n+24)=>rfl
def gsz:Nat→Nat
 | 0=>4
 | 1=>3
 | 2=>4
 | 3=>3
 | 4=>5
 | 5=>6
 | 6=>4
 | 7=>3
 | 8=>3
 | 9=>4
 | 10=>3
 | 11=>11
 | 12=>4
 | 13=>3
 | 14=>5
 | 15=>6
 | 16=>3
 | 17=>8
 | 18=>11
 | 19=>5
 | 20=>2
 | 21=>3
 | 22=>2
 | 23=>6
 | _=>0
theorem KE:∀ n,gsz n=FT.szs gsz (gfs n)
 | 0=>rfl
 | 1=>rfl
 | 2=>rfl
 | 3=>rfl
 | 4=>rfl
 | 5=>rfl
 | 6=>rfl
 | 7=>rfl
 | 8=>rfl
 | 9=>rfl
 | 10=>rfl
 | 11=>rfl
 | 12=>rfl
 | 13=>rfl
 | 14=>rfl
 | 15=>rfl
 | 16=>rfl
 | 17=>rfl
 | 18=>rfl
 | 19=>rfl
 | 20=>rfl
 | 21=>rfl
 | 22=>rfl
 | 23=>rfl
 | (n+24)=>rfl
def gfl:Nat→Bool
 | 0=>false
 | 1=>true
 | 2=>false
 | 3=>true
 | 4=>true
 | 5=>false
 | 6=>false
 | 7=>true
 | 8=>false
 | 9=>true
 | 10=>true
 | 11=>false
 | 12=>false
 | 13=>true
 | 14=>true
 | 15=>false
 | 16=>true
 | 17=>false
 | 18=>false
 | 19=>false
 | 20=>false
 | 21=>true
 | 22=>true
 | 23=>true
 | _=>true
theorem KC:∀ n,gfl n=true→FT.flats gfl (gfs n)=true
 | 0,h=>by cases h
 | 1,h=>rfl
 | 2,h=>by cases h
 | 3,h=>rfl
 | 4,h=>rfl
 | 5,h=>by cases h
 | 6,h=>by cases h
 | 7,h=>rfl
 | 8,h=>by cases h
 | 9,h=>rfl
 | 10,h=>rfl
 | 11,h=>by cases h
 | 12,h=>by cases h
 | 13,h=>rfl
 | 14,h=>rfl
 | 15,h=>by cases h
 | 16,h=>rfl
 | 17,h=>by cases h
 | 18,h=>by cases h
 | 19,h=>by cases h
 | 20,h=>by cases h
 | 21,h=>rfl
 | 22,h=>rfl
 | 23,h=>rfl
 | (n+24),_=>rfl
def gam:Gam:=⟨gT,gfs,gun,gpk,KF,KD,gz,KG,gsz,KE,gfl,KC⟩
def tyL:List (Nat×FT):=[(2,(.int .i64)),(3,(.int .i64)),(4,.bool),(5,(.int .u8)),(6,(.int .u8)),(9,.str),(21,(.int .i32)),(22,(.sl .str)),(23,(.sl (.nm 1))),(25,(.nm 0)),(27,(.sl (.nm 3))),(28,(.sl (.nm 4))),(30,(.nm 2)),(31,(.sl (.int .i64))),(33,(.nm 5)),(35,(.sl (.nm 7))),(37,(.nm 6)),(103,(.nm 1)),(107,(.nm 7)),(114,(.nm 17)),(125,(.sl (.int .u8))),(136,.ptr),(138,(.nm 18)),(148,(.nm 3)),(151,(.nm 4)),(176,(.sl (.nm 19))),(178,(.nm 19)),(183,(.nm 20)),(211,(.nm 21)),(243,(.nm 22)),(252,(.sl (.nm 23))),(263,(.int .u64)),(265,(.sl .bool)),(273,(.nm 23)),(278,(.int .u64)),(313,(.int .i64))]
def Dm:List Nat:=[275]
abbrev BT0:BT:=.leaf false .str
abbrev BT1:BT:=.leaf false .bool
abbrev BT2:BT:=.leaf true (.nm 2)
abbrev BT3:BT:=.leaf true (.nm 7)
abbrev BT4:BT:=.leaf true (.nm 3)
abbrev BT5:BT:=.leaf false (.nm 6)
abbrev BT6:BT:=.leaf true (.nm 18)
abbrev BT7:BT:=.leaf true (.nm 20)
abbrev BT8:BT:=.leaf true (.nm 21)
abbrev BT9:BT:=.leaf true (.nm 19)
abbrev jU:BT:=.leaf true (.nm 22)
abbrev d7:BT:=.leaf false (.nm 2)
abbrev oL:BT:=.leaf true (.nm 23)
abbrev uW:BT:=.leaf false (.nm 0)
abbrev oM:BT:=.leaf false (.nm 5)
abbrev fK:BT:=.leaf false (.nm 7)
abbrev cH:BT:=.leaf false (.nm 3)
abbrev il:BT:=.leaf false (.nm 4)
abbrev dC:BT:=.leaf false (.nm 19)
abbrev gd:BT:=.leaf false (.nm 21)
abbrev fA:BT:=.leaf false (.nm 22)
abbrev q8:BT:=.leaf false (.nm 23)
abbrev gF:BT:=.leaf true (.sl .str)
abbrev du:BT:=.leaf false (.sl .str)
abbrev lq:BT:=.leaf true (.int .i64)
abbrev de:BT:=.leaf false (.int .u8)
abbrev fe:BT:=.leaf true (.sl .bool)
abbrev bS:BT:=.leaf false (.int .i64)
abbrev cy:BT:=.leaf false (.int .u64)
abbrev oN:BT:=.leaf false (.sl .bool)
abbrev oO:BT:=.leaf false (.int .i32)
abbrev q9:BT:=.leaf true (.sl (.nm 7))
abbrev rc:BT:=.leaf true (.sl (.nm 3))
abbrev jV:BT:=.leaf true (.sl (.nm 4))
abbrev re:BT:=.leaf false (.sl (.nm 1))
abbrev dV:BT:=.leaf false (.sl (.nm 7))
abbrev dW:BT:=.leaf false (.sl (.nm 3))
abbrev gG:BT:=.leaf false (.sl (.nm 4))
abbrev rf:BT:=.leaf true (.sl (.nm 19))
abbrev eD:BT:=.leaf true (.sl (.nm 23))
abbrev im:BT:=.leaf false (.sl (.nm 19))
abbrev dr:BT:=.leaf false (.sl (.nm 23))
abbrev rg:BT:=.leaf true (.sl (.int .u8))
abbrev eW:BT:=.leaf true (.sl (.int .i64))
abbrev uX:BT:=.leaf false (.sl (.int .u8))
abbrev dN:BT:=.leaf false (.sl (.int .i64))
abbrev Ad:BT:=.pr (.leaf false (.int .i64)) (.un)
abbrev d8:BT:=.pr (.leaf true (.nm 2)) (.pr (.leaf false .str) (.pr (.leaf false .str) (.pr (.leaf true (.sl (.nm 3))) (.pr (.leaf false (.int .i64)) (.un)))))
abbrev dK:BT:=.pr (.leaf true (.nm 2)) (.pr (.leaf true (.sl .str)) (.pr (.leaf true (.sl .str)) (.pr (.leaf false .str) (.pr (.leaf true (.sl .str)) (.pr (.leaf false .str) (.pr (.leaf false (.int .i64)) (.pr (.leaf false .bool) (.un))))))))
def keyL:List KeyI:=[
 ⟨0,[],[]⟩,
 ⟨1,[],[]⟩,
 ⟨2,[],[]⟩,
 ⟨3,[],[]⟩,
 ⟨4,[],[]⟩,
 ⟨5,[],[]⟩,
 ⟨6,[],[]⟩,
 ⟨7,[],[]⟩,
 ⟨8,[],[]⟩,
 ⟨9,[],[]⟩,
 ⟨10,[],[]⟩,
 ⟨10,[true,true,true,false,true,false],[.val 0 (du),.val 1 (bS),.val 5 (bS)]⟩,
 ⟨11,[],[]⟩,
 ⟨11,[true,true,true,false,true,false],[.val 0 (re),.val 1 (bS),.val 5 (bS)]⟩,
 ⟨12,[],[]⟩,
 ⟨12,[true,true,false,true,false],[.val 0 (du),.own 3 48 (gF),.val 4 (bS)]⟩,
 ⟨13,[],[]⟩,
 ⟨13,[true,true,false,true,false],[.val 0 (re),.own 3 48 (q9),.val 4 (bS)]⟩,
 ⟨14,[],[]⟩,
 ⟨14,[true,false,true,false],[.ptr 1 16,.val 3 (bS),.slot 16 (BT5) true none]⟩,
 ⟨14,[true,true,false,true,false],[.ptr 1 16,.val 4 (bS),.slot 16 (BT5) true none]⟩,
 ⟨15,[],[]⟩,
 ⟨16,[],[]⟩,
 ⟨17,[],[]⟩,
 ⟨18,[],[]⟩,
 ⟨19,[],[]⟩,
 ⟨20,[],[]⟩,
 ⟨20,[true,true,false,true,false],[.val 0 (dN),.val 1 (dN),.val 5 (bS)]⟩,
 ⟨21,[],[]⟩,
 ⟨21,[true,true,false,true,false],[.val 0 (du),.val 1 (du),.val 5 (bS)]⟩,
 ⟨22,[],[]⟩,
 ⟨22,[true,true,false,true,false],[.val 0 (dV),.val 1 (dV),.val 5 (bS)]⟩,
 ⟨23,[],[]⟩,
 ⟨23,[true,false,true,false],[.own 0 320 (gF),.val 1 (bS),.val 5 (bS)]⟩,
 ⟨24,[],[]⟩,
 ⟨24,[true,false,true,false],[.own 0 560 (q9),.val 1 (bS),.val 5 (bS)]⟩,
 ⟨25,[],[]⟩,
 ⟨26,[],[]⟩,
 ⟨26,[true,false,true,false],[.own 0 0 (eW),.val 1 (bS),.val 5 (bS)]⟩,
 ⟨27,[],[]⟩,
 ⟨28,[],[]⟩,
 ⟨28,[true,false,true,false],[.val 0 (dN),.val 1 (bS),.val 5 (bS)]⟩,
 ⟨29,[],[]⟩,
 ⟨30,[],[]⟩,
 ⟨31,[],[]⟩,
 ⟨31,[true,false,true,false],[.val 0 (BT0),.val 3 (bS)]⟩,
 ⟨32,[],[]⟩,
 ⟨32,[true,false,true,false],[.val 0 (du),.val 1 (BT0),.val 5 (bS)]⟩,
 ⟨33,[],[]⟩,
 ⟨33,[true,true,true,false,true,false],[.val 0 (dV),.val 1 (bS),.val 2 (bS),.val 7 (bS),.val 8 (bS)]⟩,
 ⟨34,[],[]⟩,
 ⟨35,[],[]⟩,
 ⟨36,[],[]⟩,
 ⟨36,[true,false,true,false],[.val 0 (du),.val 5 (du),.val 6 (bS),.val 7 (bS)]⟩,
 ⟨37,[],[]⟩,
 ⟨38,[],[]⟩,
 ⟨39,[],[]⟩,
 ⟨40,[],[]⟩,
 ⟨40,[true,true,false],[.ptr 0 0,.val 1 (dV),.val 4 (bS),.val 5 (bS),.slot 0 (d8) true none]⟩,
 ⟨40,[true,true,false,false,true,true],[.ptr 0 0,.val 1 (dV),.val 4 (bS),.val 5 (bS),.slot 0 (d8) true none]⟩,
 ⟨40,[true,true,false,false,true,false,false,true,true,true,true,true,true,false,true,true,true,true,true,true,true,true,true],[.ptr 0 0,.ptr 6 96,.val 1 (dV),.val 4 (bS),.val 5 (bS),.val 7 (dW),.val 57 (BT1),.slot 0 (.leaf true (.nm 17)) true none,.slot 96 (BT3) true none]⟩,
 ⟨41,[],[]⟩,
 ⟨42,[],[]⟩,
 ⟨42,[true,true,false,true,false],[.val 0 (dW),.val 1 (dW),.val 5 (bS)]⟩,
 ⟨43,[],[]⟩,
 ⟨43,[true,true,false,true,false],[.val 0 (gG),.val 1 (gG),.val 5 (bS)]⟩,
 ⟨44,[],[]⟩,
 ⟨45,[],[]⟩,
 ⟨45,[true,true,true,false,false],[.val 0 (bS),.val 3 (BT0)]⟩,
 ⟨46,[],[]⟩,
 ⟨46,[true,false,true,false],[.own 0 0 (rc),.val 1 (bS),.val 5 (bS)]⟩,
 ⟨47,[],[]⟩,
 ⟨47,[true,false,true,false],[.own 0 0 (jV),.val 1 (bS),.val 5 (bS)]⟩,
 ⟨48,[],[]⟩,
 ⟨48,[true,false,true,false],[.val 0 (dW),.val 1 (bS),.val 5 (bS)]⟩,
 ⟨49,[],[]⟩,
 ⟨49,[true,false,true,false],[.val 0 (gG),.val 1 (bS),.val 5 (bS)]⟩,
 ⟨50,[],[]⟩,
 ⟨51,[],[]⟩,
 ⟨52,[],[]⟩,
 ⟨53,[],[]⟩,
 ⟨53,[true,false,true,false,true,true,true,true,true],[.ptr 4 64,.val 1 (bS),.val 2 (bS),.val 3 (bS),.val 12 (bS),.val 28 (BT1),.slot 64 (BT3) true none]⟩,
 ⟨53,[true,false,true,false,true,true,true,true,true,true,true],[.ptr 4 64,.val 1 (bS),.val 3 (bS),.val 12 (bS),.val 46 (BT1),.slot 64 (BT3) true none]⟩,
 ⟨53,[true,false,true,false,true,true,true,true,true,true,true,true,true],[.ptr 4 64,.val 1 (bS),.val 12 (bS),.val 65 (BT1),.slot 64 (BT3) true none]⟩,
 ⟨53,[true,false,true,false,true,true,true,true,true,true,true,true,true,true,true,true,true],[.ptr 4 64,.val 1 (bS),.val 12 (bS),.val 91 (BT1),.slot 64 (BT3) true none]⟩,
 ⟨54,[],[]⟩,
 ⟨55,[],[]⟩,
 ⟨55,[true,true,true,false],[.ptr 0 0,.ptr 4 176,.wrd 176 0,.val 1 (dV),.val 5 (bS),.val 6 (bS),.slot 0 (BT6) true none,.slot 176 (BT7) true none]⟩,
 ⟨56,[],[]⟩,
 ⟨57,[],[]⟩,
 ⟨58,[],[]⟩,
 ⟨59,[],[]⟩,
 ⟨60,[],[]⟩,
 ⟨60,[true,false,true,false],[.clo 1 78 [16],.val 0 (du),.val 7 (bS),.val 8 (bS),.slot 16 (BT5) true none]⟩,
 ⟨61,[],[]⟩,
 ⟨62,[],[]⟩,
 ⟨63,[],[]⟩,
 ⟨64,[],[]⟩,
 ⟨65,[],[]⟩,
 ⟨66,[],[]⟩,
 ⟨66,[true,false,true,false,true],[.ptr 1 16,.val 4 (bS),.val 5 (BT1),.slot 16 (BT3) true none]⟩,
 ⟨66,[true,true],[.ptr 1 16,.slot 16 (BT3) true none]⟩,
 ⟨67,[],[]⟩,
 ⟨68,[],[]⟩,
 ⟨68,[true,false,true,false,true],[.ptr 1 16,.val 4 (bS),.val 5 (BT1),.slot 16 (BT4) true none]⟩,
 ⟨69,[],[]⟩,
 ⟨70,[],[]⟩,
 ⟨71,[],[]⟩,
 ⟨72,[],[]⟩,
 ⟨73,[],[]⟩,
 ⟨74,[],[]⟩,
 ⟨75,[],[]⟩,
 ⟨76,[],[]⟩,
 ⟨77,[],[]⟩,
 ⟨77,[true,true,true,true,true,true],[.wrd 0 1,.val 2 (bS),.slot 0 (.pr (.leaf false .ptr) (.pr (rc) (.un))) true none,.slot 1 (dK) true none]⟩,
 ⟨77,[true,true,true,true,true,false,true,false,true,true,true,true,true,true,true,true,true,true,true,true,true],[.ptr 0 0,.ptr 4 64,.wrd 0 1,.val 2 (bS),.val 9 (dW),.val 93 (BT1),.slot 0 (BT7) true none,.slot 1 (BT6) true none,.slot 64 (BT3) true none]⟩,
 ⟨78,[],[]⟩,
 ⟨78,[true,true,false,false],[.val 0 (BT0),.val 1 (bS),.val 5 (bS)]⟩,
 ⟨79,[],[]⟩,
 ⟨79,[true,false,true,false,true],[.val 0 (BT0),.val 4 (BT1)]⟩,
 ⟨80,[],[]⟩,
 ⟨81,[],[]⟩,
 ⟨81,[true,false,true,false],[.clo 1 121 [16,17,18],.val 0 (dV),.val 7 (bS),.val 8 (bS),.slot 16 (dV) true none,.slot 17 (lq) true none,.slot 18 (lq) true none]⟩,
 ⟨82,[],[]⟩,
 ⟨83,[],[]⟩,
 ⟨84,[],[]⟩,
 ⟨85,[],[]⟩,
 ⟨86,[],[]⟩,
 ⟨87,[],[]⟩,
 ⟨88,[],[]⟩,
 ⟨89,[],[]⟩,
 ⟨90,[],[]⟩,
 ⟨91,[],[]⟩,
 ⟨92,[],[]⟩,
 ⟨93,[],[]⟩,
 ⟨94,[],[]⟩,
 ⟨95,[],[]⟩,
 ⟨96,[],[]⟩,
 ⟨97,[],[]⟩,
 ⟨97,[true,false,true,false,true],[.ptr 1 16,.val 6 (bS),.val 7 (BT1),.slot 16 (BT4) true none]⟩,
 ⟨98,[],[]⟩,
 ⟨98,[true,false,false],[.ptr 4 64,.val 0 (BT0),.val 1 (dW),.slot 64 (BT4) true none]⟩,
 ⟨99,[],[]⟩,
 ⟨100,[],[]⟩,
 ⟨100,[true,true,false,false],[.ptr 0 0,.ptr 4 64,.val 1 (bS),.own 5 80 (rf),.slot 0 (BT8) true none,.slot 64 (BT9) true none]⟩,
 ⟨101,[],[]⟩,
 ⟨101,[true,true,false,true,false],[.ptr 1 16,.val 3 (bS),.val 4 (bS),.slot 16 (dC) true none]⟩,
 ⟨102,[],[]⟩,
 ⟨102,[true,false,true,false,true],[.ptr 1 16,.val 4 (bS),.val 5 (BT1),.slot 16 (BT3) true none]⟩,
 ⟨103,[],[]⟩,
 ⟨103,[true,false,true,false,true],[.ptr 1 16,.val 4 (bS),.val 5 (BT1),.slot 16 (BT4) true none]⟩,
 ⟨104,[],[]⟩,
 ⟨105,[],[]⟩,
 ⟨106,[],[]⟩,
 ⟨107,[],[]⟩,
 ⟨107,[true,true,true,true],[.ptr 0 0,.ptr 6 1,.ptr 7 112,.wrd 0 1,.slot 0 (BT7) true none,.slot 1 (dK) true none,.slot 112 (BT4) true none]⟩,
 ⟨108,[],[]⟩,
 ⟨109,[],[]⟩,
 ⟨110,[],[]⟩,
 ⟨111,[],[]⟩,
 ⟨112,[],[]⟩,
 ⟨113,[],[]⟩,
 ⟨113,[true,true,true,true],[.val 0 (bS),.val 3 (BT0)]⟩,
 ⟨114,[],[]⟩,
 ⟨115,[],[]⟩,
 ⟨116,[],[]⟩,
 ⟨117,[],[]⟩,
 ⟨118,[],[]⟩,
 ⟨119,[],[]⟩,
 ⟨120,[],[]⟩,
 ⟨120,[true,true,true,false,true,false],[.clo 1 200 [],.own 0 672 (gF),.val 5 (bS),.val 6 (bS)]⟩,
 ⟨121,[],[]⟩,
 ⟨122,[],[]⟩,
 ⟨123,[],[]⟩,
 ⟨123,[true,true,true,true],[.val 0 (BT0),.val 4 (bS),.val 5 (BT1)]⟩,
 ⟨123,[true,true,true,true,true,true,true,true,true],[.val 4 (bS),.val 5 (BT1),.val 7 (BT0),.val 8 (BT0)]⟩,
 ⟨124,[],[]⟩,
 ⟨124,[true,true,false,true,false],[.ali 12 7,.val 1 (de),.val 2 (de),.own 7 112 (rg),.val 13 (bS),.val 14 (bS)]⟩,
 ⟨125,[],[]⟩,
 ⟨126,[],[]⟩,
 ⟨127,[],[]⟩,
 ⟨127,[true,true,true],[.val 8 (bS),.val 9 (BT1)]⟩,
 ⟨128,[],[]⟩,
 ⟨129,[],[]⟩,
 ⟨130,[],[]⟩,
 ⟨130,[true,true,false,false],[.ptr 0 0,.ptr 4 64,.val 1 (bS),.own 5 80 (rf),.slot 0 (BT8) true none,.slot 64 (BT9) true none]⟩,
 ⟨131,[],[]⟩,
 ⟨132,[],[]⟩,
 ⟨132,[true,true,true,true,true,false,true,false,true,false,false],[.val 0 (bS),.val 4 (BT0),.val 6 (BT0)]⟩,
 ⟨132,[true,true,true,true,true,true],[.val 0 (bS),.val 4 (BT0)]⟩,
 ⟨133,[],[]⟩,
 ⟨134,[],[]⟩,
 ⟨134,[true,false,true,false,true],[.ptr 1 16,.val 6 (bS),.val 7 (BT1),.slot 16 (BT4) true none]⟩,
 ⟨135,[],[]⟩,
 ⟨135,[true,true,true],[.ptr 0 0,.ptr 8 128,.val 9 (bS),.val 10 (BT1),.slot 0 (BT6) true none,.slot 128 (BT4) true none]⟩,
 ⟨136,[],[]⟩,
 ⟨137,[],[]⟩,
 ⟨138,[],[]⟩,
 ⟨139,[],[]⟩,
 ⟨140,[],[]⟩,
 ⟨141,[],[]⟩,
 ⟨142,[],[]⟩,
 ⟨143,[],[]⟩,
 ⟨144,[],[]⟩,
 ⟨145,[],[]⟩,
 ⟨146,[],[]⟩,
 ⟨147,[],[]⟩,
 ⟨147,[true,false,true,false],[.val 0 (du),.val 1 (BT0),.val 7 (bS),.val 8 (bS)]⟩,
 ⟨148,[],[]⟩,
 ⟨148,[true,true,true,false,true,false,true,true,true],[.ptr 4 64,.val 1 (bS),.val 2 (bS),.val 3 (bS),.val 56 (bS),.val 62 (BT1),.slot 64 (BT3) true none]⟩,
 ⟨148,[true,true,true,false,true,false,true,true,true,true,true],[.ptr 4 64,.val 1 (bS),.val 3 (bS),.val 56 (bS),.val 75 (BT1),.slot 64 (BT3) true none]⟩,
 ⟨148,[true,true,true,false,true,false,true,true,true,true,true,true,true],[.ptr 4 64,.val 1 (bS),.val 56 (bS),.val 89 (BT1),.slot 64 (BT3) true none]⟩,
 ⟨148,[true,true,true,false,true,false,true,true,true,true,true,true,true,true,true,true,true],[.ptr 4 64,.val 1 (bS),.val 56 (bS),.val 106 (BT1),.slot 64 (BT3) true none]⟩,
 ⟨149,[],[]⟩,
 ⟨150,[],[]⟩,
 ⟨151,[],[]⟩,
 ⟨152,[],[]⟩,
 ⟨153,[],[]⟩,
 ⟨153,[true,false,true,false],[.clo 1 233 [16],.val 0 (gG),.val 7 (bS),.val 8 (bS),.slot 16 (.leaf true (.nm 4)) true none]⟩,
 ⟨154,[],[]⟩,
 ⟨155,[],[]⟩,
 ⟨155,[true,false,true,false],[.clo 1 237 [16,17],.val 0 (gG),.val 7 (bS),.val 8 (bS),.slot 16 (lq) true none,.slot 17 (.leaf true .str) true none]⟩,
 ⟨156,[],[]⟩,
 ⟨157,[],[]⟩,
 ⟨157,[true,true,true,true],[.val 0 (BT0),.val 1 (BT0),.val 2 (bS),.val 3 (bS)]⟩,
 ⟨157,[true,true,true,true,true,true,true,true,false,false],[.val 0 (BT0),.val 1 (BT0),.val 2 (bS),.val 3 (bS),.own 9 144 (gF),.val 10 (bS)]⟩,
 ⟨158,[],[]⟩,
 ⟨158,[true,false,true,false],[.clo 1 200 [],.val 0 (du),.val 7 (bS),.val 8 (bS)]⟩,
 ⟨159,[],[]⟩,
 ⟨160,[],[]⟩,
 ⟨160,[true,true,false,false],[.ptr 0 0,.ptr 2 32,.own 3 48 (rf),.slot 0 (jU) true none,.slot 32 (BT9) true none]⟩,
 ⟨161,[],[]⟩,
 ⟨161,[true,true,false,true,false],[.val 3 (bS),.val 7 (im),.val 8 (bS),.val 9 (bS)]⟩,
 ⟨162,[],[]⟩,
 ⟨163,[],[]⟩,
 ⟨163,[true,true,false,true,false],[.val 0 (dr),.val 1 (BT0),.val 7 (bS)]⟩,
 ⟨164,[],[]⟩,
 ⟨165,[],[]⟩,
 ⟨165,[true,true,false,false],[.val 0 (BT0),.val 1 (bS),.val 5 (bS)]⟩,
 ⟨166,[],[]⟩,
 ⟨167,[],[]⟩,
 ⟨168,[],[]⟩,
 ⟨169,[],[]⟩,
 ⟨170,[],[]⟩,
 ⟨171,[],[]⟩,
 ⟨171,[true,true,false,false],[.ptr 0 0,.ptr 4 64,.ptr 5 80,.slot 0 (BT8) true none,.slot 64 (BT9) true none,.slot 80 (BT9) true none]⟩,
 ⟨171,[true,true,false,false,false,true,false,true,true],[.ptr 0 0,.ptr 4 64,.ptr 5 80,.val 6 (bS),.slot 0 (BT8) true none,.slot 64 (BT9) true none,.slot 80 (BT9) true none]⟩,
 ⟨172,[],[]⟩,
 ⟨173,[],[]⟩,
 ⟨173,[true,true,true,false,false],[.val 0 (bS),.val 3 (BT0)]⟩,
 ⟨174,[],[]⟩,
 ⟨174,[true,true,false,false],[.val 0 (BT0),.val 4 (bS)]⟩,
 ⟨174,[true,true,true,true,true],[.val 0 (BT0),.val 4 (bS),.val 5 (BT1)]⟩,
 ⟨174,[true,true,true,true,true,true,false,false],[.val 0 (BT0),.val 4 (bS),.val 5 (BT1),.val 6 (bS),.val 7 (bS)]⟩,
 ⟨174,[true,true,true,true,true,true,true,false,true,false,true,true,false],[.val 0 (BT0),.val 4 (bS),.val 5 (BT1),.val 6 (bS),.val 7 (bS),.val 8 (bS)]⟩,
 ⟨174,[true,true,true,true,true,true,true,true],[.val 4 (bS),.val 5 (BT1),.val 6 (bS),.val 7 (bS)]⟩,
 ⟨175,[],[]⟩,
 ⟨176,[],[]⟩,
 ⟨177,[],[]⟩,
 ⟨178,[],[]⟩,
 ⟨179,[],[]⟩,
 ⟨179,[true,false,true,false],[.ptr 3 48,.val 1 (bS),.val 2 (BT0),.val 7 (bS),.slot 48 (d7) true none]⟩,
 ⟨180,[],[]⟩,
 ⟨180,[true,true,true,true,true,true,false,false],[.ptr 4 64,.ptr 7 112,.ptr 8 128,.ptr 10 160,.val 1 (bS),.val 2 (BT0),.val 11 (bS),.slot 64 (d7) true none,.slot 112 (BT4) true none,.slot 128 (BT2) true none,.slot 160 (BT2) true none]⟩,
 ⟨181,[],[]⟩,
 ⟨181,[true,true],[.ptr 2 32,.val 0 (BT0),.slot 32 (BT4) true none]⟩,
 ⟨182,[],[]⟩,
 ⟨183,[],[]⟩,
 ⟨184,[],[]⟩,
 ⟨185,[],[]⟩,
 ⟨186,[],[]⟩,
 ⟨186,[true,true,true,true,true],[.val 0 (bS),.val 4 (du),.val 5 (BT0)]⟩,
 ⟨186,[true,true,true,true,false,true,false,true,true,true],[.val 0 (bS),.val 4 (du),.val 5 (BT0),.val 13 (bS),.val 16 (BT1)]⟩,
 ⟨186,[true,true,true,true,false,true,false,true,true,true,true,true,true,true],[.val 0 (bS),.val 4 (du),.val 5 (BT0),.val 22 (BT1)]⟩,
 ⟨187,[],[]⟩,
 ⟨188,[],[]⟩,
 ⟨188,[true,false,false],[.val 0 (BT0),.val 1 (de)]⟩,
 ⟨189,[],[]⟩,
 ⟨190,[],[]⟩,
 ⟨191,[],[]⟩,
 ⟨192,[],[]⟩,
 ⟨192,[true,true,true],[.val 0 (BT0),.val 1 (bS)]⟩,
 ⟨192,[true,true,true,true,false,true,false],[.val 0 (BT0),.val 1 (bS),.own 6 96 (gF),.val 7 (bS)]⟩,
 ⟨193,[],[]⟩,
 ⟨193,[true,true,true,true,false],[.val 0 (BT0),.val 1 (BT0),.val 5 (bS)]⟩,
 ⟨194,[],[]⟩,
 ⟨194,[true,true,false,false],[.ptr 0 0,.ptr 2 32,.own 3 48 (rf),.slot 0 (jU) true none,.slot 32 (BT9) true none]⟩,
 ⟨195,[],[]⟩,
 ⟨196,[],[]⟩,
 ⟨197,[],[]⟩,
 ⟨197,[true,true,false,true,false,true,true,true,true,true,true,true,true,true,true,true,false,true,false],[.own 0 2032 (eD),.val 51 (im),.val 52 (bS),.val 53 (bS)]⟩,
 ⟨197,[true,true,true],[.own 0 2032 (eD)]⟩,
 ⟨198,[],[]⟩,
 ⟨198,[true,true,false,true,false],[.val 0 (dr),.val 9 (dr),.val 10 (bS),.val 11 (bS)]⟩,
 ⟨199,[],[]⟩,
 ⟨199,[true,true,true,true,false],[.val 0 (dr),.val 1 (BT0),.val 2 (bS),.val 7 (bS),.val 8 (dN)]⟩,
 ⟨199,[true,true,true,true,false,false,false,true,true],[.val 0 (dr),.val 1 (BT0),.val 2 (bS),.val 7 (bS),.val 8 (dN)]⟩,
 ⟨199,[true,true,true,true,false,false,false,true,true,true,true,false,true,false],[.val 0 (dr),.val 1 (BT0),.val 2 (bS),.val 7 (bS),.own 9 144 (eW),.val 49 (dN),.val 50 (bS),.val 51 (bS)]⟩,
 ⟨200,[],[]⟩,
 ⟨200,[true,false,false],[.val 0 (BT0),.val 1 (de)]⟩,
 ⟨201,[],[]⟩,
 ⟨202,[],[]⟩,
 ⟨203,[],[]⟩,
 ⟨204,[],[]⟩,
 ⟨204,[true,true],[.val 0 (cy),.val 1 (cy),.val 2 (cy)]⟩,
 ⟨204,[true,true,true],[.val 0 (cy),.val 1 (cy),.val 2 (cy)]⟩,
 ⟨204,[true,true,true,true,true,true,true,true,true,true,true,true,true,true,false,false],[.val 2 (cy),.val 8 (cy),.val 9 (cy),.val 10 (cy),.val 11 (cy),.val 13 (cy),.val 14 (cy),.val 15 (cy),.val 16 (cy)]⟩,
 ⟨204,[true,true,true,true,true,true,true,true,true,true,true,true,true,true,true],[.val 2 (cy),.val 8 (cy),.val 9 (cy),.val 10 (cy),.val 11 (cy),.val 13 (cy),.val 14 (cy),.val 15 (cy)]⟩,
 ⟨204,[true,true,true,true,true,true,true,true,true,true,true,true,true,true,true,true,true,true,false,false],[.val 2 (cy),.val 8 (cy),.val 9 (cy),.val 10 (cy),.val 14 (cy),.val 15 (cy),.val 16 (cy),.val 17 (cy),.val 18 (cy)]⟩,
 ⟨204,[true,true,true,true,true,true,true,true,true,true,true,true,true,true,true,true,true,true,true],[.val 2 (cy),.val 8 (cy),.val 14 (cy),.val 15 (cy),.val 17 (cy),.val 18 (cy)]⟩,
 ⟨205,[],[]⟩,
 ⟨206,[],[]⟩,
 ⟨206,[true,true,true,true,true],[.ptr 4 64,.val 5 (de),.slot 0 (BT8) true none,.slot 64 (BT9) true none]⟩,
 ⟨207,[],[]⟩,
 ⟨208,[],[]⟩,
 ⟨209,[],[]⟩,
 ⟨210,[],[]⟩,
 ⟨210,[true,true,true,false,false],[.val 0 (BT0),.val 4 (bS),.val 5 (bS)]⟩,
 ⟨211,[],[]⟩,
 ⟨212,[],[]⟩,
 ⟨212,[true,false,true,false],[.val 0 (dr),.val 1 (BT0),.val 7 (bS)]⟩,
 ⟨213,[],[]⟩,
 ⟨214,[],[]⟩,
 ⟨214,[true,false,true,false],[.val 0 (BT0),.val 1 (BT0),.val 5 (bS)]⟩,
 ⟨215,[],[]⟩,
 ⟨215,[true,true,false,true,false],[.val 1 (de),.val 2 (de),.own 7 112 (rg),.val 8 (bS)]⟩,
 ⟨216,[],[]⟩,
 ⟨216,[true,true,true,true,true],[.val 3 (BT0),.val 4 (bS),.val 5 (bS)]⟩,
 ⟨217,[],[]⟩,
 ⟨218,[],[]⟩,
 ⟨219,[],[]⟩,
 ⟨220,[],[]⟩,
 ⟨221,[],[]⟩,
 ⟨222,[],[]⟩,
 ⟨222,[true,true,false],[.ptr 0 0,.ptr 2 32,.ptr 3 48,.slot 0 (jU) true none,.slot 32 (BT9) true none,.slot 48 (BT9) true none]⟩,
 ⟨223,[],[]⟩,
 ⟨223,[true,true,true,true],[.ptr 2 32,.ptr 3 48,.val 5 (BT1),.slot 32 (dC) true none,.slot 48 (lq) true none]⟩,
 ⟨223,[true,true,true,false,true,false,true,true,true],[.ptr 2 32,.ptr 3 48,.val 5 (BT1),.val 33 (bS),.val 45 (BT1),.slot 32 (dC) true none,.slot 48 (lq) true none]⟩,
 ⟨223,[true,true,true,false,true,false,true,true,true,true,true,true,true],[.ptr 2 32,.ptr 3 48,.val 5 (BT1),.val 33 (bS),.val 64 (BT1),.slot 32 (dC) true none,.slot 48 (lq) true none]⟩,
 ⟨224,[],[]⟩,
 ⟨224,[true,true,false,true,false],[.own 0 1120 (eD),.val 1 (im),.own 5 80 (eW),.val 16 (im),.val 17 (bS),.val 18 (bS)]⟩,
 ⟨224,[true,true,true,true,false,true,false],[.own 0 1120 (eD),.val 56 (dN),.val 57 (bS),.val 58 (bS)]⟩,
 ⟨225,[],[]⟩,
 ⟨225,[true,true,false,true,false,true,true,true,true,true,true,true],[.ptr 3 48,.val 79 (BT1),.slot 48 (oL) true none]⟩,
 ⟨226,[],[]⟩,
 ⟨226,[true,true,true,true,false,true,false],[.ptr 4 64,.ptr 10 160,.clo 11 333 [64,144,160],.val 2 (BT1),.val 3 (BT1),.val 22 (dN),.val 23 (bS),.val 24 (bS),.slot 64 (dr) true none,.slot 144 (fe) true none,.slot 160 (eW) true none]⟩,
 ⟨226,[true,true,true,true,true,false,true,false],[.ptr 4 64,.ptr 10 160,.clo 11 333 [64,144,160],.val 2 (BT1),.val 3 (BT1),.val 14 (bS),.slot 64 (dr) true none,.slot 144 (fe) true none,.slot 160 (eW) true none]⟩,
 ⟨226,[true,true,true,true,true,false,true,false,false,true,true],[.ptr 4 64,.ptr 10 160,.clo 11 333 [64,144,160],.val 2 (BT1),.val 3 (BT1),.val 14 (bS),.slot 64 (dr) true none,.slot 144 (fe) true none,.slot 160 (eW) true none]⟩,
 ⟨227,[],[]⟩,
 ⟨228,[],[]⟩,
 ⟨229,[],[]⟩,
 ⟨229,[true,true,false,true,false,true,true],[.val 0 (BT0),.val 5 (BT0)]⟩,
 ⟨229,[true,true,false,true,false,true,true,true,false,true,false],[.val 5 (BT0),.val 6 (bS),.val 47 (uX),.val 48 (bS),.val 49 (bS)]⟩,
 ⟨230,[],[]⟩,
 ⟨231,[],[]⟩,
 ⟨232,[],[]⟩,
 ⟨232,[true,true,true],[.ptr 0 0,.ptr 2 32,.ptr 3 48,.slot 0 (BT8) true none,.slot 32 (BT9) true none,.slot 48 (BT9) true none]⟩,
 ⟨232,[true,true,true,true,true,false,false],[.ptr 0 0,.ptr 2 32,.ptr 3 48,.own 4 64 (fe),.val 5 (bS),.slot 0 (BT8) true none,.slot 32 (BT9) true none,.slot 48 (BT9) true none]⟩,
 ⟨232,[true,true,true,true,true,false,false,false,true,false,true,true,true,true],[.ptr 0 0,.ptr 2 32,.ptr 3 48,.own 4 64 (fe),.val 5 (bS),.val 6 (bS),.val 7 (bS),.slot 0 (BT8) true none,.slot 32 (BT9) true none,.slot 48 (BT9) true none]⟩,
 ⟨232,[true,true,true,true,true,true,true],[.ptr 0 0,.ptr 2 32,.ptr 3 48,.val 4 (oN),.slot 0 (BT8) true none,.slot 32 (BT9) true none,.slot 48 (BT9) true none]⟩,
 ⟨232,[true,true,true,true,true,false,false,false,true,false,true,true,true,true,true],[.ptr 0 0,.ptr 2 32,.ptr 3 48,.own 4 64 (fe),.val 5 (bS),.val 6 (bS),.val 7 (bS),.slot 0 (BT8) true none,.slot 32 (BT9) true none,.slot 48 (BT9) true none]⟩,
 ⟨232,[true,true,true,true,true,true,true,true,true,false,true,false],[.ptr 2 32,.ptr 3 48,.val 4 (oN),.own 9 144 (rg),.val 10 (bS),.slot 0 (BT8) true none,.slot 32 (BT9) true none,.slot 48 (BT9) true none]⟩,
 ⟨232,[true,true,true,true,true,false,false,false,true,false,true,true,true,true,true,false,true,false],[.ptr 0 0,.ptr 2 32,.ptr 3 48,.own 4 64 (fe),.val 5 (bS),.val 7 (bS),.val 8 (bS),.slot 0 (BT8) true none,.slot 32 (BT9) true none,.slot 48 (BT9) true none]⟩,
 ⟨233,[],[]⟩,
 ⟨234,[],[]⟩,
 ⟨234,[true,true,false,true,false,true,true,true,true,true,true,true,true,true,true,true,false,true,false],[.ptr 3 48,.own 0 2064 (eD),.val 6 (bS),.slot 48 (dC) true none]⟩,
 ⟨234,[true,true,true],[.own 0 2064 (eD)]⟩,
 ⟨235,[],[]⟩,
 ⟨236,[],[]⟩,
 ⟨236,[true,true,true,true,false,true,false],[.val 0 (dr),.val 1 (BT0),.val 7 (dN),.val 8 (bS),.val 9 (bS)]⟩,
 ⟨236,[true,true,true,true,false,true,false,false,true,false,false,true],[.val 0 (dr),.val 1 (BT0),.val 7 (dN),.val 8 (bS),.val 9 (bS)]⟩,
 ⟨236,[true,true,true,true,false,true,false,false,true,false,false,true,true,true,false,true,false],[.val 0 (dr),.val 1 (BT0),.val 7 (dN),.val 8 (bS),.val 9 (bS),.own 10 160 (eW),.val 11 (bS)]⟩,
 ⟨237,[],[]⟩,
 ⟨238,[],[]⟩,
 ⟨238,[true,true,true,false,true,false,true,true,true,true,true,true,true,true,true,true,true,true,true],[.ptr 0 0,.ptr 2 32,.val 3 (de),.val 70 (BT1),.slot 0 (jU) true none,.slot 32 (BT9) true none]⟩,
 ⟨239,[],[]⟩,
 ⟨240,[],[]⟩,
 ⟨241,[],[]⟩,
 ⟨241,[true,false,true,false],[.ptr 1 16,.val 6 (bS),.val 7 (bS),.slot 16 (dC) true none]⟩,
 ⟨242,[],[]⟩,
 ⟨243,[],[]⟩,
 ⟨244,[],[]⟩,
 ⟨244,[true,false,true,false],[.val 0 (dN),.val 1 (bS),.val 7 (bS),.val 8 (bS)]⟩,
 ⟨245,[],[]⟩,
 ⟨246,[],[]⟩,
 ⟨246,[true,true,true,true],[.val 0 (BT0),.val 1 (bS),.val 2 (bS),.val 8 (BT1)]⟩,
 ⟨246,[true,true,true,true,true,true,true,true],[.val 2 (bS),.val 8 (BT1),.val 9 (cy)]⟩,
 ⟨247,[],[]⟩,
 ⟨247,[true,true],[.val 0 (cy),.val 2 (bS)]⟩,
 ⟨247,[true,true,true],[.val 0 (cy),.val 2 (bS)]⟩,
 ⟨248,[],[]⟩,
 ⟨248,[true,false,true,false],[.ptr 1 16,.val 3 (bS),.slot 16 (dC) true none]⟩,
 ⟨248,[true,true,true,false,true,false,true,true,true,true,true],[.ptr 1 16,.val 4 (bS),.val 23 (bS),.val 62 (BT1),.slot 16 (dC) true none]⟩,
 ⟨248,[true,true,true,false,true,false,true,true,true,true,true,true,true],[.ptr 1 16,.val 4 (bS),.val 82 (BT1),.slot 16 (dC) true none]⟩,
 ⟨249,[],[]⟩,
 ⟨249,[true,true,false,true,false],[.own 0 1104 (eD),.val 1 (im),.own 5 80 (eW),.val 6 (bS)]⟩,
 ⟨249,[true,true,true,true,false,true,false],[.own 0 1104 (eD),.val 5 (dN),.val 8 (bS)]⟩,
 ⟨250,[],[]⟩,
 ⟨250,[true,true,false,true,false],[.val 0 (dr),.val 3 (bS),.val 4 (bS)]⟩,
 ⟨251,[],[]⟩,
 ⟨251,[true,true,false,true,false],[.val 0 (dr),.val 1 (dN),.val 2 (BT1),.val 3 (BT1),.own 9 144 (fe),.val 10 (bS)]⟩,
 ⟨252,[],[]⟩,
 ⟨253,[],[]⟩,
 ⟨253,[true,true,true,true,true,true,true,false,true,false],[.ptr 0 0,.ptr 2 32,.ptr 3 48,.val 5 (BT0),.own 6 96 (fe),.val 7 (bS),.slot 0 (jU) true none,.slot 32 (BT9) true none,.slot 48 (BT9) true none]⟩,
 ⟨253,[true,true,true,true,true,true,true,false,true,false,false,true,false,false,true,true],[.ptr 0 0,.ptr 2 32,.ptr 3 48,.val 5 (BT0),.own 6 96 (fe),.val 7 (bS),.val 8 (bS),.val 9 (bS),.slot 0 (jU) true none,.slot 32 (BT9) true none,.slot 48 (BT9) true none]⟩,
 ⟨253,[true,true,true,true,true,true,true,true,true,false,true,false],[.ptr 2 32,.ptr 3 48,.own 11 176 (rg),.val 100 (oN),.val 101 (bS),.val 102 (bS),.slot 0 (jU) true none,.slot 32 (BT9) true none,.slot 48 (BT9) true none]⟩,
 ⟨253,[true,true,true,true,true,true,true,false,true,false,false,true,false,false,true,true,true,false],[.ptr 0 0,.ptr 2 32,.ptr 3 48,.val 5 (BT0),.own 6 96 (fe),.val 7 (bS),.val 9 (bS),.val 10 (bS),.slot 0 (jU) true none,.slot 32 (BT9) true none,.slot 48 (BT9) true none]⟩,
 ⟨254,[],[]⟩,
 ⟨254,[true,false,true,false],[.clo 1 339 [16],.val 0 (im),.val 7 (bS),.val 8 (bS),.slot 16 (lq) true none]⟩,
 ⟨255,[],[]⟩,
 ⟨256,[],[]⟩,
 ⟨257,[],[]⟩,
 ⟨257,[true,true,true,true,true],[.val 0 (BT0),.val 1 (bS),.val 2 (bS),.val 8 (BT1),.val 9 (BT0)]⟩,
 ⟨257,[true,true,true,true,true,true],[.val 0 (BT0),.val 1 (bS),.val 2 (bS),.val 8 (BT1),.val 9 (BT0)]⟩,
 ⟨257,[true,true,true,true,true,true,true,true],[.val 0 (BT0),.val 1 (bS),.val 2 (bS),.val 8 (BT1),.val 9 (BT0),.val 10 (cy)]⟩,
 ⟨257,[true,true,true,true,true,true,true,true,true,true,true,false,true,false],[.val 1 (bS),.val 8 (BT1),.val 9 (BT0),.val 10 (cy),.val 11 (cy),.val 12 (BT1),.val 13 (cy),.val 99 (uX),.val 100 (bS),.val 101 (bS)]⟩,
 ⟨257,[true,true,true,true,true,true,true,true,true,true,true,false,true,false,false,true,true,false,false,true,true,true],[.val 1 (bS),.val 8 (BT1),.val 9 (BT0),.val 10 (cy),.val 11 (cy),.val 12 (BT1),.val 13 (cy),.val 16 (de),.val 99 (uX),.val 100 (bS),.val 101 (bS)]⟩,
 ⟨258,[],[]⟩,
 ⟨258,[true,false,true,false],[.val 0 (BT0),.val 3 (bS)]⟩,
 ⟨259,[],[]⟩,
 ⟨259,[true,true],[.ptr 2 32,.val 1 (bS),.val 5 (BT1),.slot 32 (oL) true none]⟩,
 ⟨259,[true,true,true],[.ptr 2 32,.val 1 (bS),.val 5 (BT1),.val 6 (BT1),.slot 32 (oL) true none]⟩,
 ⟨259,[true,true,true,true],[.ptr 2 32,.val 1 (bS),.val 5 (BT1),.val 6 (BT1),.val 7 (BT1),.slot 32 (oL) true none]⟩,
 ⟨259,[true,true,true,true,true],[.ptr 2 32,.val 5 (BT1),.val 6 (BT1),.val 7 (BT1),.val 8 (BT1),.slot 32 (oL) true none]⟩,
 ⟨259,[true,true,true,true,true,true],[.val 4 (BT1)]⟩,
 ⟨260,[],[]⟩,
 ⟨260,[true,false],[.val 0 (dr),.own 1 16 (fe),.val 3 (BT1),.val 4 (BT1),.own 10 160 (eW)]⟩,
 ⟨261,[],[]⟩,
 ⟨261,[true,true,false,true,false],[.val 0 (oN),.own 3 48 (eW),.val 4 (bS)]⟩,
 ⟨262,[],[]⟩,
 ⟨262,[true,false,true,false],[.val 0 (BT0),.val 1 (de),.val 5 (bS)]⟩,
 ⟨263,[],[]⟩,
 ⟨264,[],[]⟩,
 ⟨265,[],[]⟩,
 ⟨266,[],[]⟩,
 ⟨266,[true,true,true,true],[.val 0 (BT0),.val 3 (oO),.val 4 (bS)]⟩,
 ⟨266,[true,true,true,true,true,true],[.val 0 (BT0),.val 3 (oO),.val 4 (bS),.val 5 (BT1)]⟩,
 ⟨266,[true,true,true,true,true,true,false,false],[.val 0 (BT0),.val 3 (oO),.val 4 (bS),.val 5 (BT1)]⟩]
def entR:List EntI:=[
 ⟨3,.skip,[],[.val (uW)],[BT1],[],[(17,1),(18,1),(29,1),(55,1),(56,1)],0,[],false⟩,
 ⟨7,.skip,[],[.val (uW),.val (bS)],[bS],[],[],0,[],false⟩,
 ⟨9,.skip,[],[.val (uW)],[.leaf true (.nm 6)],[],[],0,[],false⟩,
 ⟨8,.skip,[],[.val (BT5)],[oM],[],[(6,1),(8,1)],0,[],false⟩,
 ⟨10,.skip,[],[.val (BT5)],[.leaf true (.nm 5)],[],[],0,[],false⟩,
 ⟨11,.skip,[],[.val (oM),.val (oM)],[BT1],[],[],0,[],false⟩,
 ⟨12,.skip,[],[.val (BT5),.val (BT5)],[BT1],[],[],0,[],false⟩,
 ⟨13,.skip,[],[.own (.leaf true (.nm 6)),.val (bS)],[bS],[],[],0,[],false⟩,
 ⟨14,.skip,[],[.io (.leaf true (.nm 5)),.val (bS)],[bS],[(32,.orig 0)],[],0,[],false⟩,
 ⟨15,.skip,[],[.val (oM),.val (bS)],[bS],[],[],0,[],false⟩,
 ⟨33,.skip,[],[.val (du),.val (bS)],[bS],[],[],0,[(122,11)],false⟩,
 ⟨34,.skip,[],[.val (re),.val (bS)],[bS],[],[],0,[(122,13)],false⟩,
 ⟨37,.skip,[],[.val (du)],[gF],[],[],0,[(58,15)],false⟩,
 ⟨38,.skip,[],[.val (re)],[q9],[],[],0,[(58,17)],false⟩,
 ⟨35,.skip,[],[.val (BT5)],[BT1],[],[],0,[(26,19),(58,20)],false⟩,
 ⟨36,.skip,[],[.val (BT5)],[oM],[],[(7,1),(16,1)],0,[],false⟩,
 ⟨39,.skip,[],[.val (BT5)],[BT1],[],[],0,[],false⟩,
 ⟨40,.skip,[],[.val (BT5)],[BT2,BT0],[],[(13,1)],0,[],false⟩,
 ⟨41,.skip,[],[.val (bS)],[BT2],[],[],0,[],false⟩,
 ⟨42,.skip,[],[.val (d7),.val (d7)],[BT1],[],[],0,[],false⟩,
 ⟨43,.skip,[],[.val (dN),.val (dN)],[BT1],[],[],0,[(58,27)],false⟩,
 ⟨44,.skip,[],[.val (du),.val (du)],[BT1],[],[],0,[(58,29)],false⟩,
 ⟨45,.skip,[],[.val (dV),.val (dV)],[BT1],[],[],0,[(58,31)],false⟩,
 ⟨46,.skip,[],[.own (gF),.val (bS)],[bS],[],[],0,[(26,33)],false⟩,
 ⟨47,.skip,[],[.own (q9),.val (bS)],[bS],[],[],0,[(26,35)],false⟩,
 ⟨48,.skip,[],[.io (BT2),.val (bS)],[bS],[(32,.orig 0)],[],0,[],false⟩,
 ⟨49,.skip,[],[.io (eW),.val (bS)],[bS],[(0,.reg)],[],0,[(26,38)],false⟩,
 ⟨50,.skip,[],[.val (d7),.val (bS)],[bS],[],[],0,[],false⟩,
 ⟨51,.skip,[],[.val (dN),.val (bS)],[bS],[],[],0,[(26,41)],false⟩,
 ⟨69,.skip,[],[.val (.leaf false (.nm 1)),.val (bS)],[bS],[],[],0,[],false⟩,
 ⟨75,.skip,[],[.val (.leaf false (.nm 1))],[fK],[],[],0,[],false⟩,
 ⟨70,.skip,[],[.val (BT0)],[BT1],[],[],0,[(26,45)],false⟩,
 ⟨71,.skip,[],[.val (du),.val (BT0)],[BT1],[],[],0,[(26,47)],false⟩,
 ⟨72,.skip,[],[.val (dV),.val (bS),.val (bS)],[BT1],[],[],0,[(122,49)],false⟩,
 ⟨73,.skip,[],[.val (BT5)],[d7,BT0],[],[(11,1),(24,1)],0,[],false⟩,
 ⟨74,.skip,[],[.val (bS)],[d7],[],[(7,1)],0,[],false⟩,
 ⟨76,.skip,[],[.val (du)],[BT1],[],[],0,[(26,53)],false⟩,
 ⟨77,.skip,[],[.val (du),.clo 78 [BT5]],[BT1],[(16,.box)],[],0,[],false⟩,
 ⟨80,.skip,[],[.val (dV),.val (bS),.val (bS)],[BT1],[],[],0,[],false⟩,
 ⟨81,.skip,[],[.val (d7)],[BT2],[],[],0,[],false⟩,
 ⟨82,.skip,[],[.ptr (d8) (d8),.val (dV)],[],[(0,.box)],[(28,1)],0,[(14,58),(115,59),(15007231,60)],false⟩,
 ⟨83,.skip,[],[.ptr (.pr (BT2) (.pr (BT0) (.pr (BT0) (.pr (dW) (Ad))))) (.pr (.hole 4) (.pr (BT0) (.pr (BT0) (.pr (dW) (Ad))))),.val (d7)],[BT2,BT0],[(0,.box)],[(4,5)],0,[],false⟩,
 ⟨84,.skip,[],[.val (dW),.val (dW)],[BT1],[],[],0,[(58,63)],false⟩,
 ⟨85,.skip,[],[.val (gG),.val (gG)],[BT1],[],[],0,[(58,65)],false⟩,
 ⟨86,.skip,[],[.val (fK),.val (fK)],[BT1],[],[],0,[],false⟩,
 ⟨58,.skip,[],[.val (bS)],[BT0],[],[(12,1)],0,[(60,68)],false⟩,
 ⟨87,.skip,[],[.io (rc),.val (bS)],[bS],[(0,.reg)],[],0,[(26,70)],false⟩,
 ⟨88,.skip,[],[.io (jV),.val (bS)],[bS],[(0,.reg)],[],0,[(26,72)],false⟩,
 ⟨89,.skip,[],[.val (dW),.val (bS)],[bS],[],[],0,[(26,74)],false⟩,
 ⟨90,.skip,[],[.val (gG),.val (bS)],[bS],[],[],0,[(26,76)],false⟩,
 ⟨110,.skip,[],[.val (de)],[BT1],[],[],0,[],false⟩,
 ⟨94,.skip,[],[.val (bS),.val (bS),.val (bS)],[BT1],[],[],0,[],false⟩,
 ⟨111,.skip,[],[.val (BT0)],[BT1],[],[(3,1),(7,1)],0,[],false⟩,
 ⟨112,.skip,[],[.val (fK),.val (bS),.val (bS),.val (bS)],[BT1],[],[(71,1),(86,1)],0,[(863,81),(3455,82),(13823,83),(221183,84)],false⟩,
 ⟨100,.skip,[],[.val (d7)],[BT2],[],[],0,[],false⟩,
 ⟨113,.skip,[],[.ptr (dK) (dK),.val (dV)],[],[(0,.box)],[],0,[(30,87)],false⟩,
 ⟨114,.skip,[],[.ptr (.leaf false (.nm 18)) (.leaf false (.nm 18)),.val (d7)],[d7,BT0],[(0,.box)],[(14,1)],0,[],false⟩,
 ⟨116,.skip,[],[.val (bS),.val (bS)],[bS],[],[],0,[],false⟩,
 ⟨115,.skip,[],[.val (bS),.val (bS)],[bS],[],[],0,[],false⟩,
 ⟨117,.skip,[],[.val (BT0)],[BT1],[],[],0,[],false⟩,
 ⟨118,.skip,[],[.val (du),.clo 78 [BT5]],[bS],[(16,.box)],[],0,[(26,93)],false⟩,
 ⟨107,.skip,[],[.val (bS),.val (bS),.val (bS)],[BT1],[],[],0,[],false⟩,
 ⟨120,.skip,[],[.val (dV),.clo 121 [dV,bS,bS]],[BT1],[(16,.box),(17,.box),(18,.box)],[],0,[],false⟩,
 ⟨123,.skip,[],[.val (dW)],[rc],[],[],0,[],false⟩,
 ⟨124,.skip,[],[.val (gG)],[jV],[],[],0,[],false⟩,
 ⟨109,.skip,[],[.ptr (d8) (d8),.val (bS)],[],[(0,.box)],[],0,[],false⟩,
 ⟨126,.skip,[],[.val (fK)],[bS],[],[],0,[(53,100),(7,101)],false⟩,
 ⟨125,.skip,[],[.ptr (d8) (d8),.val (bS)],[dW],[(0,.box)],[(26,2)],0,[],false⟩,
 ⟨127,.skip,[],[.val (cH)],[BT1],[],[],0,[(53,104)],false⟩,
 ⟨128,.skip,[],[.ptr (d8) (d8),.val (fK),.val (dW)],[],[(0,.box)],[],0,[],false⟩,
 ⟨129,.skip,[],[.ptr (d8) (d8),.val (fK),.val (dW)],[],[(0,.box)],[(112,1),(113,4)],0,[],false⟩,
 ⟨130,.skip,[],[.val (cH),.val (cH)],[BT1],[],[],0,[],false⟩,
 ⟨131,.skip,[],[.val (il),.val (il)],[BT1],[],[],0,[],false⟩,
 ⟨147,.skip,[],[],[du],[],[(1,1)],0,[],false⟩,
 ⟨148,.skip,[],[.val (bS)],[BT1],[],[],0,[],false⟩,
 ⟨149,.skip,[],[.val (BT0)],[dC,BT1],[],[(9,1),(14,1),(33,1)],0,[],false⟩,
 ⟨134,.skip,[],[.ptr (dK) (dK),.val (bS)],[],[(0,.box)],[],0,[],false⟩,
 ⟨150,.skip,[],[.ref (BT7) (BT7) (dK) (dK),.val (fK),.val (bS)],[bS,BT1],[(0,.box),(1,.box)],[(32,2)],0,[(127,114),(4153343,115)],false⟩,
 ⟨151,.skip,[],[.val (BT0),.val (bS)],[bS],[],[],0,[(28,117)],false⟩,
 ⟨152,.skip,[],[.val (BT0)],[BT1],[],[(14,1)],0,[(53,119)],false⟩,
 ⟨78,.skip,[],[.val (BT0),.ptr (BT5) (BT5)],[BT1],[(16,.box)],[],0,[],false⟩,
 ⟨153,.skip,[],[.val (dV),.clo 121 [dV,bS,bS]],[bS],[(16,.box),(17,.box),(18,.box)],[],0,[(26,122)],false⟩,
 ⟨158,.skip,[],[.ptr (d8) (d8),.val (cH)],[],[(0,.box)],[(18,1)],0,[],false⟩,
 ⟨159,.skip,[],[.ptr (d8) (d8),.val (cH),.val (cH)],[cH],[(0,.box)],[],0,[],false⟩,
 ⟨162,.skip,[],[.val (cH)],[BT0],[],[],0,[],false⟩,
 ⟨161,.skip,[],[.val (BT0)],[BT0],[],[],0,[],false⟩,
 ⟨160,.skip,[],[.ptr (d8) (d8),.val (bS),.val (BT0),.val (cH)],[],[(0,.box)],[],0,[],false⟩,
 ⟨163,.skip,[],[.val (d7),.val (bS),.val (BT0)],[cH],[],[],0,[],false⟩,
 ⟨164,.skip,[],[.val (d7),.val (bS),.val (BT0)],[BT2],[],[],0,[],false⟩,
 ⟨165,.skip,[],[.ptr (d8) (d8),.val (BT0)],[],[(0,.box)],[],0,[],false⟩,
 ⟨166,.skip,[],[.val (bS)],[cH],[],[],0,[],false⟩,
 ⟨167,.skip,[],[.val (BT0)],[cH],[],[],0,[],false⟩,
 ⟨169,.skip,[],[.val (cH)],[bS],[],[],0,[],false⟩,
 ⟨168,.skip,[],[.val (BT0),.val (bS)],[cH],[],[(11,1)],0,[],false⟩,
 ⟨170,.skip,[],[.val (BT0)],[du],[],[(5,1)],0,[],false⟩,
 ⟨172,.skip,[],[.val (BT0),.val (BT0)],[BT1],[],[(9,1)],0,[],false⟩,
 ⟨171,.skip,[],[.val (BT1)],[cH],[],[],0,[],false⟩,
 ⟨173,.skip,[],[.val (cH)],[bS],[],[],0,[(53,139)],false⟩,
 ⟨174,.skip,[],[.val (BT0),.val (dW)],[cH],[],[(14,1),(24,4)],0,[(12,141)],false⟩,
 ⟨175,.skip,[],[.val (bS),.val (cH),.val (cH)],[cH,bS],[],[],0,[],false⟩,
 ⟨181,.skip,[],[.ptr (gd) (gd),.val (bS)],[BT9],[(0,.box)],[],0,[(28,144)],false⟩,
 ⟨182,.skip,[],[.val (dC)],[bS],[],[],0,[(58,146)],false⟩,
 ⟨183,.skip,[],[.val (fK)],[bS],[],[],0,[(53,148)],false⟩,
 ⟨184,.skip,[],[.val (cH)],[BT1],[],[],0,[(53,150)],false⟩,
 ⟨185,.skip,[],[.ptr (dK) (dK),.val (BT0)],[],[(0,.box)],[],0,[],false⟩,
 ⟨186,.skip,[],[.val (cH)],[BT0],[],[],0,[],false⟩,
 ⟨187,.skip,[],[.ref (BT7) (BT7) (dK) (dK),.val (fK),.val (dW)],[],[(0,.box),(1,.box)],[],0,[],false⟩,
 ⟨188,.skip,[],[.ref (BT7) (BT7) (dK) (dK),.val (fK),.val (dW)],[],[(0,.box),(1,.box)],[],0,[(31,155)],false⟩,
 ⟨189,.skip,[],[.val (de)],[BT1],[],[],0,[],false⟩,
 ⟨157,.skip,[],[],[du],[],[(1,1)],0,[],false⟩,
 ⟨79,.skip,[],[.val (du),.val (BT0)],[BT1],[],[],0,[],false⟩,
 ⟨121,.skip,[],[.val (fK),.ptr (dV) (dV),.ptr (bS) (bS),.ptr (bS) (bS)],[BT1],[(16,.box),(32,.box),(48,.box)],[],0,[],false⟩,
 ⟨191,.skip,[],[.val (bS),.val (bS)],[bS,BT1],[],[],0,[],false⟩,
 ⟨193,.skip,[],[.val (bS)],[BT0],[],[],0,[(31,162)],false⟩,
 ⟨192,.skip,[],[.val (d7),.val (bS),.val (BT0),.val (cH)],[BT2,BT1],[],[],0,[],false⟩,
 ⟨194,.skip,[],[.val (d7),.val (bS),.val (BT0)],[bS],[],[],0,[],false⟩,
 ⟨195,.skip,[],[.own (jV),.val (bS),.val (bS)],[jV],[],[],0,[],true⟩,
 ⟨197,.skip,[],[.val (bS)],[bS],[],[],0,[],false⟩,
 ⟨196,.skip,[],[.val (BT0)],[cH],[],[],0,[],false⟩,
 ⟨199,.skip,[],[.val (BT0),.val (BT0)],[gF],[],[],0,[],false⟩,
 ⟨198,.skip,[],[.own (gF),.clo 200 []],[du],[],[(38,2)],0,[(122,170)],false⟩,
 ⟨190,.skip,[],[.val (BT0)],[dC,BT1],[],[(9,1),(14,1),(31,1)],0,[],false⟩,
 ⟨201,.skip,[],[.val (dC),.val (BT0)],[BT1],[],[(10,1)],0,[],false⟩,
 ⟨202,.skip,[],[.val (BT0)],[bS,bS],[],[],0,[(31,174),(1023,175)],false⟩,
 ⟨203,.skip,[],[.val (BT0),.val (de),.val (de)],[BT0],[],[],0,[(58,177)],false⟩,
 ⟨180,.skip,[],[.val (BT0),.val (BT0)],[bS],[],[],0,[],true⟩,
 ⟨204,.skip,[],[.val (BT0),.val (bS),.val (bS)],[BT0],[],[],0,[],false⟩,
 ⟨205,.skip,[],[.val (bS),.val (bS),.val (bS)],[bS,bS],[],[],0,[(15,181)],false⟩,
 ⟨207,.skip,[],[.val (cH),.val (cH)],[bS],[],[],0,[],false⟩,
 ⟨206,.skip,[],[.val (bS),.val (bS)],[BT1],[],[],0,[],false⟩,
 ⟨212,.skip,[],[.ptr (gd) (gd),.val (bS)],[BT9],[(0,.box)],[],0,[(28,185)],false⟩,
 ⟨213,.skip,[],[.ptr (gd) (gd),.val (de)],[BT1],[(0,.box)],[],0,[],false⟩,
 ⟨214,.skip,[],[.val (bS)],[BT0],[],[],0,[(4052,188),(127,189)],false⟩,
 ⟨215,.skip,[],[.ref (BT7) (BT7) (dK) (dK),.val (cH)],[],[(0,.box),(1,.box)],[(21,1)],0,[],false⟩,
 ⟨217,.skip,[],[.val (cH)],[bS],[],[],0,[(53,192)],false⟩,
 ⟨216,.skip,[],[.ptr (dK) (dK),.val (bS),.val (bS),.val (bS)],[cH],[(0,.box)],[],0,[(15,194)],false⟩,
 ⟨219,.skip,[],[.val (cH)],[BT0],[],[],0,[],false⟩,
 ⟨218,.skip,[],[.val (d7),.val (bS),.val (BT0)],[cH],[],[],0,[],false⟩,
 ⟨220,.skip,[],[.ref (BT7) (BT7) (dK) (dK),.val (bS),.val (BT0),.val (cH)],[],[(0,.box),(1,.box)],[],0,[],false⟩,
 ⟨221,.skip,[],[.val (d7),.val (bS),.val (BT0)],[BT2],[],[],0,[],false⟩,
 ⟨222,.skip,[],[.val (bS)],[cH],[],[],0,[],false⟩,
 ⟨223,.skip,[],[.ptr (dK) (dK),.val (cH)],[cH],[(0,.box)],[],0,[],false⟩,
 ⟨224,.skip,[],[.ptr (dK) (dK),.val (cH),.val (cH)],[cH],[(0,.box)],[],0,[],false⟩,
 ⟨225,.skip,[],[.val (BT0),.val (BT0)],[cH],[],[(9,1)],0,[],false⟩,
 ⟨226,.skip,[],[.val (BT1)],[cH],[],[],0,[],false⟩,
 ⟨227,.skip,[],[.val (BT0),.val (dW)],[cH],[],[(20,1)],0,[],false⟩,
 ⟨228,.skip,[],[.val (bS),.val (cH),.val (cH)],[cH],[],[(23,1)],0,[],false⟩,
 ⟨119,.skip,[],[.val (du),.val (BT0)],[bS],[],[],0,[(26,207)],false⟩,
 ⟨122,.skip,[],[.val (fK),.val (bS),.val (bS),.val (bS)],[BT1],[],[(101,1)],0,[(983,209),(3935,210),(15743,211),(251903,212)],false⟩,
 ⟨155,.skip,[],[.val (bS)],[BT1],[],[],0,[],false⟩,
 ⟨231,.skip,[],[.val (bS)],[bS,BT1],[],[],0,[],false⟩,
 ⟨235,.skip,[],[.val (bS)],[BT0],[],[],0,[],true⟩,
 ⟨236,.skip,[],[.val (BT0),.val (BT0)],[BT0],[],[],0,[],false⟩,
 ⟨232,.skip,[],[.val (gG),.clo 233 [il]],[bS],[(16,.box)],[],0,[(26,218)],false⟩,
 ⟨234,.skip,[],[.own (jV),.val (bS),.own (jV)],[jV],[],[],0,[],true⟩,
 ⟨232,.skip,[],[.val (gG),.clo 237 [bS,BT0]],[bS],[(16,.box),(17,.box)],[],0,[(26,221)],false⟩,
 ⟨178,.skip,[],[.val (BT0)],[bS,BT1],[],[],0,[],false⟩,
 ⟨238,.skip,[],[.val (BT0),.val (BT0),.val (bS),.val (bS)],[gF],[],[],0,[(31,224),(2044,225)],false⟩,
 ⟨118,.skip,[],[.val (du),.clo 200 []],[bS],[],[],0,[(26,227)],false⟩,
 ⟨200,.skip,[],[.val (BT0)],[BT1],[],[],0,[],false⟩,
 ⟨229,.skip,[],[.ptr (fA) (fA)],[BT9],[(0,.box)],[],0,[(28,230)],false⟩,
 ⟨230,.skip,[],[.val (dC)],[bS],[],[],0,[(58,232)],false⟩,
 ⟨240,.skip,[],[.val (dC)],[dr],[],[(9,1)],0,[],false⟩,
 ⟨239,.skip,[],[.val (dr),.val (BT0)],[bS,bS,BT1],[],[],0,[(58,235)],false⟩,
 ⟨241,.skip,[],[.val (BT0),.val (BT0)],[BT0],[],[],0,[],false⟩,
 ⟨242,.skip,[],[.val (BT0),.val (bS)],[bS],[],[],0,[(28,238)],false⟩,
 ⟨243,.skip,[],[.val (BT0),.val (BT0)],[bS,BT1],[],[],0,[],false⟩,
 ⟨244,.skip,[],[.val (bS),.val (bS)],[bS,BT1],[],[],0,[],false⟩,
 ⟨245,.skip,[],[.val (bS),.val (bS)],[bS,BT1],[],[],0,[],false⟩,
 ⟨246,.skip,[],[.val (bS),.val (bS)],[bS,BT1],[],[],0,[],false⟩,
 ⟨179,.skip,[],[.val (BT0),.val (BT0)],[bS],[],[],0,[],false⟩,
 ⟨260,.skip,[],[.ptr (gd) (gd),.val (bS)],[BT9],[(0,.box)],[],0,[(28,245),(907,246)],false⟩,
 ⟨261,.skip,[],[.val (bS)],[bS],[],[],0,[],false⟩,
 ⟨262,.skip,[],[.val (bS)],[BT0],[],[(12,1)],0,[(60,249)],false⟩,
 ⟨208,.skip,[],[.val (BT0)],[bS,bS],[],[],0,[(28,251),(63,252),(508,253),(16342,254),(511,255)],false⟩,
 ⟨263,.skip,[],[.val (bS),.val (bS)],[bS,BT1],[],[],0,[],false⟩,
 ⟨264,.skip,[],[.val (bS),.val (bS)],[bS,BT1],[],[],0,[],false⟩,
 ⟨265,.skip,[],[.val (bS),.val (bS)],[bS,BT1],[],[],0,[],false⟩,
 ⟨266,.skip,[],[.val (bS),.val (bS)],[bS,BT1],[],[],0,[],false⟩,
 ⟨267,.skip,[],[.val (d7),.val (bS),.val (BT0)],[bS],[],[],0,[(26,261)],false⟩,
 ⟨268,.skip,[],[.val (d7),.val (bS),.val (BT0),.val (cH)],[BT2,BT1],[],[(61,1)],0,[(508,263)],false⟩,
 ⟨269,.skip,[],[.val (BT0)],[cH],[],[],0,[(7,265)],false⟩,
 ⟨270,.skip,[],[.val (dC),.val (BT0)],[BT1],[],[(10,1)],0,[],false⟩,
 ⟨271,.skip,[],[.val (BT1)],[bS],[],[],0,[],false⟩,
 ⟨272,.skip,[],[.val (BT0),.val (dW)],[cH],[],[],0,[],false⟩,
 ⟨273,.skip,[],[.val (cH),.val (cH)],[bS],[],[],0,[],false⟩,
 ⟨154,.skip,[],[.val (bS)],[BT0,BT0],[],[(6,1)],0,[(63,271),(2007,272),(32127,273)],false⟩,
 ⟨156,.skip,[],[.val (BT0)],[BT1],[],[(7,1)],0,[],false⟩,
 ⟨249,.skip,[],[.val (BT0),.val (de)],[BT0],[],[],0,[(12,276)],false⟩,
 ⟨233,.skip,[],[.val (il),.ptr (il) (il)],[BT1],[(16,.box)],[],0,[],false⟩,
 ⟨237,.skip,[],[.val (il),.ptr (bS) (bS),.ptr (BT0) (BT0)],[BT1],[(16,.box),(32,.box)],[],0,[],false⟩,
 ⟨209,.skip,[],[.val (BT0),.val (BT0)],[BT0],[],[],0,[],false⟩,
 ⟨279,.skip,[],[.val (BT0),.val (bS)],[gF],[],[],0,[(15,281),(250,282)],false⟩,
 ⟨280,.skip,[],[.val (BT0),.val (BT0)],[bS],[],[],0,[(62,284)],false⟩,
 ⟨274,.skip,[],[.ptr (fA) (fA)],[BT9],[(0,.box)],[],0,[(28,286)],false⟩,
 ⟨275,.skip,[],[.ptr (fA) (fA),.val (de)],[BT1],[(0,.box)],[],0,[],false⟩,
 ⟨283,.skip,[],[.val (dC)],[BT1],[],[],0,[],false⟩,
 ⟨284,.skip,[],[.own (eD),.val (dC)],[eD],[],[(18,1),(24,1),(34,1),(40,1),(46,1),(73,1),(83,1),(105,1),(113,1)],0,[(966650,290),(15,291)],false⟩,
 ⟨281,.skip,[],[.val (dr)],[BT1],[],[],0,[(58,293)],false⟩,
 ⟨282,.skip,[],[.val (dr),.val (BT0),.val (bS)],[bS],[],[(22,1),(31,1),(66,1)],0,[(62,295),(995,296),(31866,297)],false⟩,
 ⟨248,.skip,[],[.val (BT0),.val (de)],[BT0],[],[],0,[(12,299)],false⟩,
 ⟨285,.skip,[],[.val (BT0)],[bS,.hole 1],[],[(16,1)],0,[],false⟩,
 ⟨287,.skip,[],[.val (bS)],[cy],[],[],0,[],false⟩,
 ⟨286,.skip,[],[.val (cy),.val (cy)],[cy,cy],[],[],0,[],false⟩,
 ⟨288,.skip,[],[.val (cy),.val (cy),.val (cy)],[cy,cy],[],[],0,[(7,304),(15,305),(131068,306),(65535,307),(2097148,308),(1048575,309)],false⟩,
 ⟨210,.skip,[],[.val (BT0),.val (BT0)],[bS],[],[],0,[],false⟩,
 ⟨295,.skip,[],[.ptr (gd) (gd),.val (bS)],[BT9],[(0,.box)],[],0,[(63,312)],false⟩,
 ⟨247,.skip,[],[.val (de)],[BT1],[],[],0,[],false⟩,
 ⟨296,.skip,[],[.val (bS)],[bS,BT1],[],[],0,[],false⟩,
 ⟨138,.skip,[],[.val (il),.val (bS),.val (BT0)],[BT1],[],[],0,[],false⟩,
 ⟨176,.skip,[],[.val (BT0)],[bS,BT1],[],[],0,[(60,317)],false⟩,
 ⟨298,.skip,[],[.val (dC)],[dr],[],[(6,1),(10,1)],0,[],false⟩,
 ⟨297,.skip,[],[.val (dr),.val (BT0)],[bS,bS,BT1],[],[],0,[(26,320)],false⟩,
 ⟨299,.skip,[],[.val (bS)],[bS],[],[],0,[],false⟩,
 ⟨300,.skip,[],[.val (BT0),.val (BT0)],[bS],[],[],0,[(26,323)],false⟩,
 ⟨301,.skip,[],[.val (BT0),.val (de),.val (de)],[BT0],[],[],0,[(58,325)],false⟩,
 ⟨302,.skip,[],[.val (dW)],[BT0],[],[],0,[(63,327)],false⟩,
 ⟨144,.skip,[],[.val (il),.val (il)],[bS],[],[],0,[],false⟩,
 ⟨307,.skip,[],[.val (BT0)],[bS],[],[],0,[],false⟩,
 ⟨290,.skip,[],[.val (BT0)],[oO,bS],[],[],0,[],false⟩,
 ⟨308,.skip,[],[.val (BT0),.val (de)],[bS],[],[],0,[],true⟩,
 ⟨303,.skip,[],[.ptr (fA) (fA)],[de,BT1],[(0,.box)],[],0,[],false⟩,
 ⟨304,.skip,[],[.ptr (fA) (fA)],[BT9],[(0,.box)],[],0,[(14,334)],false⟩,
 ⟨313,.skip,[],[.val (dC),.val (bS)],[BT1],[],[],0,[(31,336),(983,337),(15743,338)],false⟩,
 ⟨314,.skip,[],[.own (eD),.val (im)],[eD],[],[(28,1),(35,1),(39,1)],0,[(58,340),(250,341)],false⟩,
 ⟨309,.skip,[],[.val (q8),.val (bS),.val (BT1)],[BT1],[],[],0,[(7551,343)],false⟩,
 ⟨310,.skip,[],[.val (dr),.val (dN),.val (BT1),.val (BT1)],[dN],[],[],0,[(250,345),(506,346),(4051,347)],false⟩,
 ⟨311,.skip,[],[.val (dN),.val (bS)],[BT1],[],[],0,[],false⟩,
 ⟨312,.skip,[],[.val (q8),.val (de)],[BT1],[],[],0,[],false⟩,
 ⟨315,.skip,[],[.val (BT0)],[bS,.hole 1],[],[],0,[(235,351),(3770,352)],false⟩,
 ⟨317,.skip,[],[.val (cy)],[bS],[],[],0,[],false⟩,
 ⟨255,.skip,[],[.val (BT0),.val (BT0)],[bS],[],[],0,[],true⟩,
 ⟨321,.skip,[],[.ptr (gd) (gd)],[BT9],[(0,.box)],[(171,1)],0,[(15,356),(252,357),(32303,358),(255,359),(64607,360),(8186,361),(516858,362)],false⟩,
 ⟨323,.skip,[],[.val (dC)],[BT1],[],[],0,[],false⟩,
 ⟨325,.skip,[],[.own (eD),.val (dC)],[eD],[],[(18,1),(32,1),(76,1),(105,1)],0,[(966650,365),(15,366)],false⟩,
 ⟨324,.skip,[],[.own (eD),.val (bS)],[eD],[],[(8,1)],0,[],false⟩,
 ⟨322,.skip,[],[.val (dr),.val (BT0),.val (bS)],[bS],[],[(23,1),(30,1),(76,1),(85,1)],0,[(250,369),(8009,370),(256314,371)],false⟩,
 ⟨318,.skip,[],[.val (BT0)],[oO,bS],[],[],0,[],false⟩,
 ⟨326,.skip,[],[.ptr (fA) (fA)],[BT9],[(0,.box)],[],0,[(1007615,374)],false⟩,
 ⟨327,.skip,[],[.val (de)],[bS],[],[],0,[],false⟩,
 ⟨338,.skip,[],[.val (im),.clo 339 [bS]],[BT1],[(16,.box)],[],0,[],false⟩,
 ⟨337,.skip,[],[.val (dC)],[BT1],[],[],0,[(26,378)],false⟩,
 ⟨333,.skip,[],[.val (bS),.ptr (dr) (dr),.ptr (fe) (fe),.ptr (eW) (eW)],[],[(16,.box),(32,.box),(48,.box)],[(22,1)],0,[],false⟩,
 ⟨334,.skip,[],[.io (eW)],[],[],[],0,[],true⟩,
 ⟨335,.skip,[],[.val (dN),.val (bS)],[bS],[],[],0,[(26,382)],false⟩,
 ⟨336,.skip,[],[.val (BT0),.val (de)],[bS],[],[],0,[],false⟩,
 ⟨340,.skip,[],[.val (BT0),.val (bS),.val (bS)],[bS,.hole 1],[],[],0,[(31,385),(511,386)],false⟩,
 ⟨345,.skip,[],[.val (cy)],[bS],[],[],0,[(7,388),(15,389)],false⟩,
 ⟨350,.skip,[],[.val (dC)],[BT1],[],[],0,[(26,391),(3935,392),(15743,393)],false⟩,
 ⟨351,.skip,[],[.own (eD),.val (im)],[eD],[],[(29,1)],0,[(58,395),(250,396)],false⟩,
 ⟨347,.skip,[],[.val (dr)],[BT1],[],[],0,[(58,398)],false⟩,
 ⟨348,.skip,[],[.val (dr),.val (dN),.val (BT1),.val (BT1)],[eW],[],[],0,[(58,400)],false⟩,
 ⟨349,.skip,[],[.val (q8),.val (de)],[BT1],[],[],0,[],false⟩,
 ⟨352,.skip,[],[.ptr (fA) (fA)],[BT9],[(0,.box)],[(111,1)],0,[(2042,403),(130707,404),(8186,405),(522830,406)],false⟩,
 ⟨359,.skip,[],[.val (im),.clo 339 [bS]],[bS],[(16,.box)],[],0,[(26,408)],false⟩,
 ⟨146,.skip,[],[.val (BT0),.val (BT0)],[BT1],[],[],0,[],false⟩,
 ⟨256,.skip,[],[.val (BT0),.val (de)],[bS],[],[],0,[],false⟩,
 ⟨360,.skip,[],[.val (BT0),.val (bS),.val (bS)],[cy,.hole 1],[],[],0,[(63,412),(127,413),(511,414),(32762,415),(8387175,416)],false⟩,
 ⟨367,.skip,[],[.val (BT0)],[BT1],[],[],0,[(26,418)],false⟩,
 ⟨363,.skip,[],[.val (q8),.val (bS)],[BT1],[],[],0,[(7,420),(15,421),(31,422),(63,423),(127,424)],false⟩,
 ⟨364,.skip,[],[.val (dr),.io (fe),.val (bS),.val (BT1),.val (BT1)],[],[(16,.reg)],[(57,1),(66,1),(74,1),(82,1)],0,[(6,426)],false⟩,
 ⟨365,.skip,[],[.val (oN)],[eW],[],[(18,1)],0,[(58,428)],false⟩,
 ⟨366,.skip,[],[.val (BT0),.val (de)],[BT1],[],[],0,[(26,430)],false⟩,
 ⟨339,.skip,[],[.val (dC),.ptr (bS) (bS)],[BT1],[(16,.box)],[],0,[],false⟩,
 ⟨293,.skip,[],[.val (BT0),.val (de)],[bS],[],[],0,[],true⟩,
 ⟨380,.skip,[],[.val (de)],[de],[],[],0,[],false⟩,
 ⟨381,.skip,[],[.val (BT0)],[BT1],[],[],0,[(31,435),(127,436),(508,437)],false⟩]
def AR:lt:=[((195,[]),165),((180,[]),178),((235,[]),215),((234,[]),219),((308,[]),331),((255,[]),354),((334,[]),380),((293,[]),432)]
def AQ:lt:=[((3,[]),0),((7,[]),1),((9,[]),2),((8,[]),3),((10,[]),4),((11,[]),5),((12,[]),6),((13,[]),7),((14,[]),8),((15,[]),9),((33,[]),10),((34,[]),12),((37,[]),14),((38,[]),16),((35,[]),18),((36,[]),21),((39,[]),22),((40,[]),23),((41,[]),24),((42,[]),25),((43,[]),26),((44,[]),28),((45,[]),30),((46,[]),32),((47,[]),34),((48,[]),36),((49,[]),37),((50,[]),39),((51,[]),40),((69,[]),42),((75,[]),43),((70,[]),44),((71,[]),46),((72,[]),48),((73,[]),50),((74,[]),51),((76,[]),52),((77,[78]),54),((80,[]),55),((81,[]),56),((82,[]),57),((83,[]),61),((84,[]),62),((85,[]),64),((86,[]),66),((58,[]),67),((87,[]),69),((88,[]),71),((89,[]),73),((90,[]),75),((110,[]),77),((94,[]),78),((111,[]),79),((112,[]),80),((100,[]),85),((113,[]),86),((114,[]),88),((116,[]),89),((115,[]),90),((117,[]),91),((118,[78]),92),((107,[]),94),((120,[121]),95),((123,[]),96),((124,[]),97),((109,[]),98),((126,[]),99),((125,[]),102),((127,[]),103),((128,[]),105),((129,[]),106),((130,[]),107),((131,[]),108),((147,[]),109),((148,[]),110),((149,[]),111),((134,[]),112),((150,[]),113),((151,[]),116),((152,[]),118),((78,[]),120),((153,[121]),121),((158,[]),123),((159,[]),124),((162,[]),125),((161,[]),126),((160,[]),127),((163,[]),128),((164,[]),129),((165,[]),130),((166,[]),131),((167,[]),132),((169,[]),133),((168,[]),134),((170,[]),135),((172,[]),136),((171,[]),137),((173,[]),138),((174,[]),140),((175,[]),142),((181,[]),143),((182,[]),145),((183,[]),147),((184,[]),149),((185,[]),151),((186,[]),152),((187,[]),153),((188,[]),154),((189,[]),156),((157,[]),157),((79,[]),158),((121,[]),159),((191,[]),160),((193,[]),161),((192,[]),163),((194,[]),164),((197,[]),166),((196,[]),167),((199,[]),168),((198,[200]),169),((190,[]),171),((201,[]),172),((202,[]),173),((203,[]),176),((204,[]),179),((205,[]),180),((207,[]),182),((206,[]),183),((212,[]),184),((213,[]),186),((214,[]),187),((215,[]),190),((217,[]),191),((216,[]),193),((219,[]),195),((218,[]),196),((220,[]),197),((221,[]),198),((222,[]),199),((223,[]),200),((224,[]),201),((225,[]),202),((226,[]),203),((227,[]),204),((228,[]),205),((119,[]),206),((122,[]),208),((155,[]),213),((231,[]),214),((236,[]),216),((232,[233]),217),((232,[237]),220),((178,[]),222),((238,[]),223),((118,[200]),226),((200,[]),228),((229,[]),229),((230,[]),231),((240,[]),233),((239,[]),234),((241,[]),236),((242,[]),237),((243,[]),239),((244,[]),240),((245,[]),241),((246,[]),242),((179,[]),243),((260,[]),244),((261,[]),247),((262,[]),248),((208,[]),250),((263,[]),256),((264,[]),257),((265,[]),258),((266,[]),259),((267,[]),260),((268,[]),262),((269,[]),264),((270,[]),266),((271,[]),267),((272,[]),268),((273,[]),269),((154,[]),270),((156,[]),274),((249,[]),275),((233,[]),277),((237,[]),278),((209,[]),279),((279,[]),280),((280,[]),283),((274,[]),285),((275,[]),287),((283,[]),288),((284,[]),289),((281,[]),292),((282,[]),294),((248,[]),298),((285,[]),300),((287,[]),301),((286,[]),302),((288,[]),303),((210,[]),310),((295,[]),311),((247,[]),313),((296,[]),314),((138,[]),315),((176,[]),316),((298,[]),318),((297,[]),319),((299,[]),321),((300,[]),322),((301,[]),324),((302,[]),326),((144,[]),328),((307,[]),329),((290,[]),330),((303,[]),332),((304,[]),333),((313,[]),335),((314,[]),339),((309,[]),342),((310,[]),344),((311,[]),348),((312,[]),349),((315,[]),350),((317,[]),353),((321,[]),355),((323,[]),363),((325,[]),364),((324,[]),367),((322,[]),368),((318,[]),372),((326,[]),373),((327,[]),375),((338,[339]),376),((337,[]),377),((333,[]),379),((335,[]),381),((336,[]),383),((340,[]),384),((345,[]),387),((350,[]),390),((351,[]),394),((347,[]),397),((348,[]),399),((349,[]),401),((352,[]),402),((359,[339]),407),((146,[]),409),((256,[]),410),((360,[]),411),((367,[]),417),((363,[]),419),((364,[]),425),((365,[]),427),((366,[]),429),((339,[]),431),((380,[]),433),((381,[]),434)]
def yr(e:Nat):EntI:=entR.getD e ⟨0,.skip,[],[],[],[],[],0,[],true⟩
def fb(k:Nat):KeyI:=keyL.getD k ⟨0,[false],[]⟩
noncomputable def tab:Tab where
 G:=gam
 ty:=ma tyL
 ifc:=s4 Dm
 key k:=sF yr (fb k)
 ent k:=fill Tryz.prog (yr k)
 call:=sV (AR++AQ)
 tabs := [("internal/bytealg.MaxLen", .i64, []), ("internal/strconv.uint64pow10", .u64, Go.Lib.pow10Tab)]
 ext k:=match k with
  | 165=>fun x=>mU (α:=bo) x.1 x.2.1 x.2.2.1
  | 178=>fun x=>if List.length (α:=Int) x.1<4294967281 then some (cC x.1 x.2.1,())else none
  | 215=>fun x=>some (jr x.1,())
  | 219=>fun x=>nB (α:=bo) x.1 x.2.1 x.2.2.1
  | 331=>fun x=>some (eb x.1 x.2.1,())
  | 354=>fun x=>some (dy x.1 x.2.1,())
  | 380=>fun x=>if List.length (α:=Int) x.1≤room then some (dL x.1,())else none
  | 432=>fun x=>some (dk x.1 x.2.1,())
  | _=>fun _=>none
end Go.Proofs.YthgknhkeifcflaaGreatDoor.E.TF
