/- The table of D: structs,types,entries,keys. No condition. -/
import Derived.Test.YthgknhkeifcflaaGreatDoorEG4
import Derived.Test.YthgknhkeifcflaaGreatDoorProg
import Derived.KernelRfl
namespace Go.Proofs.YthgknhkeifcflaaGreatDoor.E.TD
open Go.Proofs.YthgknhkeifcflaaGreatDoor.E
set_option linter.unusedVariables false
set_option maxRecDepth 100000
structure bM where
 Code:Int
 N:Int
 S:(_root_.List Int)
def BF:bM:=⟨0,0,[]⟩
structure bN where
 Vars:(_root_.List (_root_.List Int))
 Cells:(_root_.List (_root_.List Int))
 Start:(_root_.List bM)
 Main:(_root_.List bM)
def WP:bN:=⟨[],[],[],[]⟩
structure bG where
 Kind:Int
 N:Int
 S:(_root_.List Int)
def bV:bG:=⟨0,0,[]⟩
structure bq where
 Name:Int
 Key:(_root_.List Int)
 Val:bG
def cj:bq:=⟨0,[],bV⟩
structure bF where
 Vars:(_root_.List bG)
 Cells:(_root_.List bq)
 Nr:Int
 Err:Int
def lN:bF:=⟨[],[],0,0⟩
structure bA where
 State:bF
 Done:(_root_.List Int)
 Out:(_root_.List Int)
def Kg:bA:=⟨lN,[],[]⟩
structure bB where
 Code:Int
 N:Int
 S:(_root_.List Int)
def cH:bB:=⟨0,0,[]⟩
structure bD where
 Vars:(_root_.List (_root_.List Int))
 Cells:(_root_.List (_root_.List Int))
 Start:(_root_.List bB)
 Main:(_root_.List bB)
def WK:bD:=⟨[],[],[],[]⟩
structure bt where
 Who:Int
 Seq:Int
 Line:(_root_.List Int)
def Ke:bt:=⟨0,0,[]⟩
structure bv where
 Term:Int
 C:bt
def WI:bv:=⟨0,Ke⟩
structure bz where
 Base:Int
 BaseTerm:Int
 List:(_root_.List bv)
def Kf:bz:=⟨0,0,[]⟩
structure bw where
 Term:Int
 Vote:Int
 Log:bz
 Snap:bA
def WJ:bw:=⟨0,0,Kf,Kg⟩
structure bP where
 Kind:Int
 N:Int
 S:(_root_.List Int)
def we:bP:=⟨0,0,[]⟩
structure bJ where
 Name:Int
 Key:(_root_.List Int)
 Val:bP
def BE:bJ:=⟨0,[],we⟩
structure bO where
 Vars:(_root_.List bP)
 Cells:(_root_.List bJ)
 Nr:Int
 Err:Int
def Kh:bO:=⟨[],[],0,0⟩
structure bL where
 State:bO
 Done:(_root_.List Int)
 Out:(_root_.List Int)
def WO:bL:=⟨Kh,[],[]⟩
structure bK where
 Who:Int
 Seq:Int
 Line:(_root_.List Int)
def WN:bK:=⟨0,0,[]⟩
structure bI where
 s:bF
 line:(_root_.List Int)
 out:(_root_.List Int)
 stack:(_root_.List bG)
 err:Int
def WM:bI:=⟨lN,[],[],[],0⟩
structure bQ where
 s:bF
 vars:(_root_.List (_root_.List Int))
 cells:(_root_.List (_root_.List Int))
 line:(_root_.List Int)
 fields:(_root_.List (_root_.List Int))
 out:(_root_.List Int)
 fuel:Int
 done:Bool
def WQ:bQ:=⟨lN,[],[],[],[],[],0,false⟩
structure bE where
 Op:Int
 C:Int
 Set:(_root_.List Int)
 Not:Bool
 Kids:(_root_.List bE)
def cf:bE:=⟨0,0,[],false,[]⟩
structure bR where
 l:Unit
 stack:(_root_.List bG)
def WR:bR:=⟨(),[]⟩
structure bS where
 s:(_root_.List Int)
 at_:Int
 bad:Bool
def WS:bS:=⟨[],0,false⟩
structure bH where
 s:(_root_.List Int)
 bad:Bool
def WL:bH:=⟨[],false⟩
structure bC where
 Op:Int
 C:Int
 Set:(_root_.List Int)
 Not:Bool
 A:Int
 B:Int
def b9:bC:=⟨0,0,[],false,0,0⟩
def gT:Nat→Type
 | 0=>bN
 | 1=>bM
 | 2=>bF
 | 3=>bG
 | 4=>bq
 | 5=>bA
 | 6=>bD
 | 7=>bB
 | 8=>bz
 | 9=>bv
 | 10=>bt
 | 11=>bw
 | 12=>bO
 | 13=>bP
 | 14=>bJ
 | 15=>bL
 | 16=>bK
 | 17=>bI
 | 18=>bQ
 | 19=>bE
 | 20=>bR
 | 21=>bS
 | 22=>bH
 | 23=>bC
 | _=>Unit
def gfs:Nat→List FT
 | 0=>[(.sl .str),(.sl .str),(.sl (.nm 1)),(.sl (.nm 1))]
 | 1=>[(.int .i64),(.int .i64),.str]
 | 2=>[(.sl (.nm 3)),(.sl (.nm 4)),(.int .i64),(.int .i64)]
 | 3=>[(.int .i64),(.int .i64),.str]
 | 4=>[(.int .i64),.str,(.nm 3)]
 | 5=>[(.nm 2),(.sl (.int .i64)),.str]
 | 6=>[(.sl .str),(.sl .str),(.sl (.nm 7)),(.sl (.nm 7))]
 | 7=>[(.int .i64),(.int .i64),.str]
 | 8=>[(.int .i64),(.int .i64),(.sl (.nm 9))]
 | 9=>[(.int .i64),(.nm 10)]
 | 10=>[(.int .i64),(.int .i64),.str]
 | 11=>[(.int .i64),(.int .i64),(.nm 8),(.nm 5)]
 | 12=>[(.sl (.nm 13)),(.sl (.nm 14)),(.int .i64),(.int .i64)]
 | 13=>[(.int .i64),(.int .i64),.str]
 | 14=>[(.int .i64),.str,(.nm 13)]
 | 15=>[(.nm 12),(.sl (.int .i64)),.str]
 | 16=>[(.int .i64),(.int .i64),.str]
 | 17=>[(.nm 2),.str,.str,(.sl (.nm 3)),(.int .i64)]
 | 18=>[(.nm 2),(.sl .str),(.sl .str),.str,(.sl .str),.str,(.int .i64),.bool]
 | 19=>[(.int .i64),(.int .i64),.str,.bool,(.sl (.nm 19))]
 | 20=>[.ptr,(.sl (.nm 3))]
 | 21=>[.str,(.int .i64),.bool]
 | 22=>[.str,.bool]
 | 23=>[(.int .i64),(.int .i64),.str,.bool,(.int .i64),(.int .i64)]
 | _=>[]
def gun:∀ n,gT n→Js gT (gfs n)
 | 0,x=>(x.Vars,(x.Cells,(x.Start,(x.Main,()))))
 | 1,x=>(x.Code,(x.N,(x.S,())))
 | 2,x=>(x.Vars,(x.Cells,(x.Nr,(x.Err,()))))
 | 3,x=>(x.Kind,(x.N,(x.S,())))
 | 4,x=>(x.Name,(x.Key,(x.Val,())))
 | 5,x=>(x.State,(x.Done,(x.Out,())))
 | 6,x=>(x.Vars,(x.Cells,(x.Start,(x.Main,()))))
 | 7,x=>(x.Code,(x.N,(x.S,())))
 | 8,x=>(x.Base,(x.BaseTerm,(x.List,())))
 | 9,x=>(x.Term,(x.C,()))
 | 10,x=>(x.Who,(x.Seq,(x.Line,())))
 | 11,x=>(x.Term,(x.Vote,(x.Log,(x.Snap,()))))
 | 12,x=>(x.Vars,(x.Cells,(x.Nr,(x.Err,()))))
 | 13,x=>(x.Kind,(x.N,(x.S,())))
 | 14,x=>(x.Name,(x.Key,(x.Val,())))
 | 15,x=>(x.State,(x.Done,(x.Out,())))
 | 16,x=>(x.Who,(x.Seq,(x.Line,())))
 | 17,x=>(x.s,(x.line,(x.out,(x.stack,(x.err,())))))
 | 18,x=>(x.s,(x.vars,(x.cells,(x.line,(x.fields,(x.out,(x.fuel,(x.done,()))))))))
 | 19,x=>(x.Op,(x.C,(x.Set,(x.Not,(x.Kids,())))))
 | 20,x=>(x.l,(x.stack,()))
 | 21,x=>(x.s,(x.at_,(x.bad,())))
 | 22,x=>(x.s,(x.bad,()))
 | 23,x=>(x.Op,(x.C,(x.Set,(x.Not,(x.A,(x.B,()))))))
 | (n+24),_=>()
def gpk:∀ n,Js gT (gfs n)→gT n
 | 0,y=>⟨y.1,y.2.1,y.2.2.1,y.2.2.2.1⟩
 | 1,y=>⟨y.1,y.2.1,y.2.2.1⟩
 | 2,y=>⟨y.1,y.2.1,y.2.2.1,y.2.2.2.1⟩
 | 3,y=>⟨y.1,y.2.1,y.2.2.1⟩
 | 4,y=>⟨y.1,y.2.1,y.2.2.1⟩
 | 5,y=>⟨y.1,y.2.1,y.2.2.1⟩
 | 6,y=>⟨y.1,y.2.1,y.2.2.1,y.2.2.2.1⟩
 | 7,y=>⟨y.1,y.2.1,y.2.2.1⟩
 | 8,y=>⟨y.1,y.2.1,y.2.2.1⟩
 | 9,y=>⟨y.1,y.2.1⟩
 | 10,y=>⟨y.1,y.2.1,y.2.2.1⟩
 | 11,y=>⟨y.1,y.2.1,y.2.2.1,y.2.2.2.1⟩
 | 12,y=>⟨y.1,y.2.1,y.2.2.1,y.2.2.2.1⟩
 | 13,y=>⟨y.1,y.2.1,y.2.2.1⟩
 | 14,y=>⟨y.1,y.2.1,y.2.2.1⟩
 | 15,y=>⟨y.1,y.2.1,y.2.2.1⟩
 | 16,y=>⟨y.1,y.2.1,y.2.2.1⟩
 | 17,y=>⟨y.1,y.2.1,y.2.2.1,y.2.2.2.1,y.2.2.2.2.1⟩
 | 18,y=>⟨y.1,y.2.1,y.2.2.1,y.2.2.2.1,y.2.2.2.2.1,y.2.2.2.2.2.1,y.2.2.2.2.2.2.1,y.2.2.2.2.2.2.2.1⟩
 | 19,y=>⟨y.1,y.2.1,y.2.2.1,y.2.2.2.1,y.2.2.2.2.1⟩
 | 20,y=>⟨y.1,y.2.1⟩
 | 21,y=>⟨y.1,y.2.1,y.2.2.1⟩
 | 22,y=>⟨y.1,y.2.1⟩
 | 23,y=>⟨y.1,y.2.1,y.2.2.1,y.2.2.2.1,y.2.2.2.2.1,y.2.2.2.2.2.1⟩
 | (n+24),_=>()
theorem MU:∀ n y,gun n (gpk n y)=y
 | 0,_=>rfl
 | 1,_=>rfl
 | 2,_=>rfl
 | 3,_=>rfl
 | 4,_=>rfl
 | 5,_=>rfl
 | 6,_=>rfl
 | 7,_=>rfl
 | 8,_=>rfl
 | 9,_=>rfl
 | 10,_=>rfl
 | 11,_=>rfl
 | 12,_=>rfl
 | 13,_=>rfl
 | 14,_=>rfl
 | 15,_=>rfl
 | 16,_=>rfl
 | 17,_=>rfl
 | 18,_=>rfl
 | 19,_=>rfl
 | 20,_=>rfl
 | 21,_=>rfl
 | 22,_=>rfl
 | 23,_=>rfl
 | (n+24),_=>rfl
theorem MS:∀ n x,gpk n (gun n x)=x
 | 0,x=>by cases x;rfl
 | 1,x=>by cases x;rfl
 | 2,x=>by cases x;rfl
 | 3,x=>by cases x;rfl
 | 4,x=>by cases x;rfl
 | 5,x=>by cases x;rfl
 | 6,x=>by cases x;rfl
 | 7,x=>by cases x;rfl
 | 8,x=>by cases x;rfl
 | 9,x=>by cases x;rfl
 | 10,x=>by cases x;rfl
 | 11,x=>by cases x;rfl
 | 12,x=>by cases x;rfl
 | 13,x=>by cases x;rfl
 | 14,x=>by cases x;rfl
 | 15,x=>by cases x;rfl
 | 16,x=>by cases x;rfl
 | 17,x=>by cases x;rfl
 | 18,x=>by cases x;rfl
 | 19,x=>by cases x;rfl
 | 20,x=>by cases x;rfl
 | 21,x=>by cases x;rfl
 | 22,x=>by cases x;rfl
 | 23,x=>by cases x;rfl
 | (n+24),_=>rfl
def gz:∀ n,gT n
 | 0=>WP
 | 1=>BF
 | 2=>lN
 | 3=>bV
 | 4=>cj
 | 5=>Kg
 | 6=>WK
 | 7=>cH
 | 8=>Kf
 | 9=>WI
 | 10=>Ke
 | 11=>WJ
 | 12=>Kh
 | 13=>we
 | 14=>BE
 | 15=>WO
 | 16=>WN
 | 17=>WM
 | 18=>WQ
 | 19=>cf
 | 20=>WR
 | 21=>WS
 | 22=>WL
 | 23=>b9
 | (n+24)=>()
theorem MV:∀ n,gun n (gz n)=nw gz (gfs n)
 | 0=>rfl
 | 1=>rfl
 | 2=>rfl
 | 3=>rfl
 | 4=>rfl
 | 5=>rfl
 | 6=>rfl
 | 7=>rfl
 | 8=>rfl
 | 9=>rfl
 | 10=>rfl
 | 11=>rfl
 | 12=>rfl
 | 13=>rfl
 | 14=>rfl
 | 15=>rfl
 | 16=>rfl
 | 17=>rfl
 | 18=>rfl
 | 19=>rfl
 | 20=>rfl
 | 21=>rfl
 | 22=>rfl
 | 23=>rfl
 | (n+24)=>rfl
def gsz:Nat→Nat
 | 0=>4
 | 1=>3
 | 2=>4
 | 3=>3
 | 4=>5
 | 5=>6
 | 6=>4
 | 7=>3
 | 8=>3
 | 9=>4
 | 10=>3
 | 11=>11
 | 12=>4
 | 13=>3
 | 14=>5
 | 15=>6
 | 16=>3
 | 17=>8
 | 18=>11
 | 19=>5
 | 20=>2
 | 21=>3
 | 22=>2
 | 23=>6
 | _=>0
theorem MT:∀ n,gsz n=FT.szs gsz (gfs n)
 | 0=>rfl
 | 1=>rfl
 | 2=>rfl
 | 3=>rfl
 | 4=>rfl
 | 5=>rfl
 | 6=>rfl
 | 7=>rfl
 | 8=>rfl
 | 9=>rfl
 | 10=>rfl
 | 11=>rfl
 | 12=>rfl
 | 13=>rfl
 | 14=>rfl
 | 15=>rfl
 | 16=>rfl
 | 17=>rfl
 | 18=>rfl
 | 19=>rfl
 | 20=>rfl
 | 21=>rfl
 | 22=>rfl
 | 23=>rfl
 | (n+24)=>rfl
def gfl:Nat→Bool
 | 0=>false
 | 1=>true
 | 2=>false
 | 3=>true
 | 4=>true
 | 5=>false
 | 6=>false
 | 7=>true
 | 8=>false
 | 9=>true
 | 10=>true
 | 11=>false
 | 12=>false
 | 13=>true
 | 14=>true
 | 15=>false
 | 16=>true
 | 17=>false
 | 18=>false
 | 19=>false
 | 20=>false
 | 21=>true
 | 22=>true
 | 23=>true
 | _=>true
theorem MQ:∀ n,gfl n=true→FT.flats gfl (gfs n)=true
 | 0,h=>by cases h
 | 1,h=>rfl
 | 2,h=>by cases h
 | 3,h=>rfl
 | 4,h=>rfl
 | 5,h=>by cases h
 | 6,h=>by cases h
 | 7,h=>rfl
 | 8,h=>by cases h
 | 9,h=>rfl
 | 10,h=>rfl
 | 11,h=>by cases h
 | 12,h=>by cases h
 | 13,h=>rfl
 | 14,h=>rfl
 | 15,h=>by cases h
 | 16,h=>rfl
 | 17,h=>by cases h
 | 18,h=>by cases h
 | 19,h=>by cases h
 | 20,h=>by cases h
 | 21,h=>rfl
 | 22,h=>rfl
 | 23,h=>rfl
 | (n+24),_=>rfl
def gam:Gam:=⟨gT,gfs,gun,gpk,MU,MS,gz,MV,gsz,MT,gfl,MQ⟩
def tyL:List (Nat×FT):=[(2,(.int .i64)),(3,(.int .i64)),(4,.bool),(5,(.int .u8)),(6,(.int .u8)),(9,.str),(21,(.int .i32)),(22,(.sl .str)),(23,(.sl (.nm 1))),(25,(.nm 0)),(27,(.sl (.nm 3))),(28,(.sl (.nm 4))),(30,(.nm 2)),(31,(.sl (.int .i64))),(33,(.nm 5)),(35,(.sl (.nm 7))),(37,(.nm 6)),(60,(.sl (.nm 13))),(61,(.sl (.nm 14))),(63,(.nm 12)),(65,(.nm 15)),(67,(.nm 16)),(72,(.nm 10)),(103,(.nm 1)),(107,(.nm 7)),(114,(.nm 17)),(125,(.sl (.int .u8))),(136,.ptr),(138,(.nm 18)),(148,(.nm 3)),(151,(.nm 4)),(164,(.nm 13)),(167,(.nm 14)),(176,(.sl (.nm 19))),(178,(.nm 19)),(183,(.nm 20)),(211,(.nm 21)),(243,(.nm 22)),(252,(.sl (.nm 23))),(263,(.int .u64)),(265,(.sl .bool)),(273,(.nm 23)),(278,(.int .u64)),(313,(.int .i64))]
def EZ:List Nat:=[275]
abbrev BT0:BT:=.leaf false .str
abbrev BT1:BT:=.leaf false .bool
abbrev BT2:BT:=.leaf true (.nm 2)
abbrev BT3:BT:=.leaf true (.nm 7)
abbrev BT4:BT:=.leaf true (.nm 3)
abbrev BT5:BT:=.leaf true (.nm 5)
abbrev BT6:BT:=.leaf false (.nm 6)
abbrev BT7:BT:=.leaf false (.nm 5)
abbrev BT8:BT:=.leaf false (.nm 2)
abbrev BT9:BT:=.leaf true (.nm 18)
abbrev f7:BT:=.leaf true (.nm 20)
abbrev gD:BT:=.leaf true (.nm 21)
abbrev cL:BT:=.leaf true (.nm 19)
abbrev ko:BT:=.leaf true (.nm 22)
abbrev pw:BT:=.leaf true (.nm 23)
abbrev wg:BT:=.leaf false (.nm 0)
abbrev f8:BT:=.leaf false (.nm 7)
abbrev cG:BT:=.leaf false (.nm 3)
abbrev hY:BT:=.leaf false (.nm 4)
abbrev dI:BT:=.leaf false (.nm 19)
abbrev wh:BT:=.leaf false (.nm 15)
abbrev wi:BT:=.leaf false (.nm 16)
abbrev nx:BT:=.leaf false (.nm 10)
abbrev gE:BT:=.leaf false (.nm 21)
abbrev fP:BT:=.leaf false (.nm 22)
abbrev rY:BT:=.leaf false (.nm 23)
abbrev f9:BT:=.leaf true (.sl .str)
abbrev dC:BT:=.leaf false (.sl .str)
abbrev lQ:BT:=.leaf true (.int .i64)
abbrev dh:BT:=.leaf false (.int .u8)
abbrev fx:BT:=.leaf true (.sl .bool)
abbrev bT:BT:=.leaf false (.int .i64)
abbrev cA:BT:=.leaf false (.int .u64)
abbrev px:BT:=.leaf false (.sl .bool)
abbrev pz:BT:=.leaf false (.int .i32)
abbrev rZ:BT:=.leaf true (.sl (.nm 7))
abbrev ny:BT:=.leaf true (.sl (.nm 3))
abbrev iM:BT:=.leaf true (.sl (.nm 4))
abbrev sa:BT:=.leaf false (.sl (.nm 1))
abbrev d5:BT:=.leaf false (.sl (.nm 7))
abbrev gF:BT:=.leaf false (.sl (.nm 4))
abbrev dS:BT:=.leaf false (.sl (.nm 3))
abbrev sb:BT:=.leaf true (.sl (.nm 19))
abbrev eH:BT:=.leaf true (.sl (.nm 23))
abbrev sd:BT:=.leaf false (.sl (.nm 13))
abbrev se:BT:=.leaf false (.sl (.nm 14))
abbrev iP:BT:=.leaf false (.sl (.nm 19))
abbrev dA:BT:=.leaf false (.sl (.nm 23))
abbrev sf:BT:=.leaf true (.sl (.int .u8))
abbrev ew:BT:=.leaf true (.sl (.int .i64))
abbrev wj:BT:=.leaf false (.sl (.int .u8))
abbrev dB:BT:=.leaf false (.sl (.int .i64))
abbrev BH:BT:=.pr (.leaf false (.int .i64)) (.un)
abbrev eg:BT:=.pr (.leaf true (.nm 2)) (.pr (.leaf false .str) (.pr (.leaf false .str) (.pr (.leaf true (.sl (.nm 3))) (.pr (.leaf false (.int .i64)) (.un)))))
abbrev dU:BT:=.pr (.leaf true (.nm 2)) (.pr (.leaf true (.sl .str)) (.pr (.leaf true (.sl .str)) (.pr (.leaf false .str) (.pr (.leaf true (.sl .str)) (.pr (.leaf false .str) (.pr (.leaf false (.int .i64)) (.pr (.leaf false .bool) (.un))))))))
def keyL:List KeyI:=[
 ⟨0,[],[]⟩,
 ⟨1,[],[]⟩,
 ⟨2,[],[]⟩,
 ⟨3,[],[]⟩,
 ⟨4,[],[]⟩,
 ⟨5,[],[]⟩,
 ⟨6,[],[]⟩,
 ⟨7,[],[]⟩,
 ⟨8,[],[]⟩,
 ⟨9,[],[]⟩,
 ⟨10,[],[]⟩,
 ⟨11,[],[]⟩,
 ⟨12,[],[]⟩,
 ⟨13,[],[]⟩,
 ⟨14,[],[]⟩,
 ⟨14,[true,true,true,false,true,false],[.val 0 (dC),.val 1 (bT),.val 5 (bT)]⟩,
 ⟨15,[],[]⟩,
 ⟨15,[true,true,true,false,true,false],[.val 0 (sa),.val 1 (bT),.val 5 (bT)]⟩,
 ⟨16,[],[]⟩,
 ⟨17,[],[]⟩,
 ⟨18,[],[]⟩,
 ⟨18,[true,true,false,true,false],[.val 0 (dC),.own 3 48 (f9),.val 4 (bT)]⟩,
 ⟨19,[],[]⟩,
 ⟨19,[true,true,false,true,false],[.val 0 (sa),.own 3 48 (rZ),.val 4 (bT)]⟩,
 ⟨20,[],[]⟩,
 ⟨21,[],[]⟩,
 ⟨21,[true,true,false,true,false],[.val 0 (dB),.own 3 48 (ew),.val 4 (bT)]⟩,
 ⟨22,[],[]⟩,
 ⟨22,[true,false,true,false],[.ptr 2 32,.ptr 3 48,.val 5 (bT),.slot 32 (BT6) true none,.slot 48 (BT7) true none]⟩,
 ⟨23,[],[]⟩,
 ⟨24,[],[]⟩,
 ⟨25,[],[]⟩,
 ⟨26,[],[]⟩,
 ⟨27,[],[]⟩,
 ⟨28,[],[]⟩,
 ⟨29,[],[]⟩,
 ⟨30,[],[]⟩,
 ⟨31,[],[]⟩,
 ⟨31,[true,true,false,true,false],[.val 0 (dB),.val 1 (dB),.val 5 (bT)]⟩,
 ⟨32,[],[]⟩,
 ⟨32,[true,true,false,true,false],[.val 0 (dC),.val 1 (dC),.val 5 (bT)]⟩,
 ⟨33,[],[]⟩,
 ⟨33,[true,true,false,true,false],[.val 0 (d5),.val 1 (d5),.val 5 (bT)]⟩,
 ⟨34,[],[]⟩,
 ⟨34,[true,false,true,false],[.own 0 320 (f9),.val 1 (bT),.val 5 (bT)]⟩,
 ⟨35,[],[]⟩,
 ⟨35,[true,false,true,false],[.own 0 560 (rZ),.val 1 (bT),.val 5 (bT)]⟩,
 ⟨36,[],[]⟩,
 ⟨37,[],[]⟩,
 ⟨37,[true,false,true,false],[.own 0 0 (ew),.val 1 (bT),.val 5 (bT)]⟩,
 ⟨38,[],[]⟩,
 ⟨39,[],[]⟩,
 ⟨39,[true,false,true,false],[.val 0 (dB),.val 1 (bT),.val 5 (bT)]⟩,
 ⟨40,[],[]⟩,
 ⟨41,[],[]⟩,
 ⟨41,[true,true,true,false,true,false],[.val 0 (sd),.val 1 (bT),.val 5 (bT)]⟩,
 ⟨42,[],[]⟩,
 ⟨42,[true,true,true,false,true,false],[.val 0 (se),.val 1 (bT),.val 5 (bT)]⟩,
 ⟨43,[],[]⟩,
 ⟨44,[],[]⟩,
 ⟨44,[true,true,false,true,false],[.val 0 (sd),.own 3 48 (ny),.val 4 (bT)]⟩,
 ⟨45,[],[]⟩,
 ⟨45,[true,true,false,true,false],[.val 0 (se),.own 3 48 (iM),.val 4 (bT)]⟩,
 ⟨46,[],[]⟩,
 ⟨47,[],[]⟩,
 ⟨47,[true,false,true,false],[.ptr 1 16,.val 3 (bT),.slot 16 (BT6) true none]⟩,
 ⟨47,[true,true,false,true,false],[.ptr 1 16,.val 4 (bT),.slot 16 (BT6) true none]⟩,
 ⟨48,[],[]⟩,
 ⟨48,[true,false,true,false],[.ptr 3 48,.val 1 (bT),.val 2 (bT),.val 7 (bT),.slot 48 (BT8) true none]⟩,
 ⟨48,[true,true,false,true,false],[.ptr 3 48,.val 1 (bT),.val 2 (bT),.val 8 (bT),.slot 48 (BT8) true none]⟩,
 ⟨49,[],[]⟩,
 ⟨50,[],[]⟩,
 ⟨50,[true,false,true,false],[.val 0 (BT0),.val 3 (bT)]⟩,
 ⟨51,[],[]⟩,
 ⟨51,[true,true,true,true],[.ptr 3 48,.ptr 4 64,.ptr 6 96,.ptr 8 272,.slot 48 (BT6) true none,.slot 64 (BT8) true none,.slot 96 (BT2) true none,.slot 272 (BT9) true none]⟩,
 ⟨52,[],[]⟩,
 ⟨53,[],[]⟩,
 ⟨54,[],[]⟩,
 ⟨55,[],[]⟩,
 ⟨55,[true,true,false,true,false],[.ptr 3 48,.val 2 (bT),.val 38 (gF),.val 39 (bT),.val 40 (bT),.slot 48 (BT8) true none]⟩,
 ⟨56,[],[]⟩,
 ⟨57,[],[]⟩,
 ⟨58,[],[]⟩,
 ⟨59,[],[]⟩,
 ⟨60,[],[]⟩,
 ⟨61,[],[]⟩,
 ⟨61,[true,true,false],[.ptr 0 0,.val 1 (d5),.val 4 (bT),.val 5 (bT),.slot 0 (eg) true none]⟩,
 ⟨61,[true,true,false,false,true,true],[.ptr 0 0,.val 1 (d5),.val 4 (bT),.val 5 (bT),.slot 0 (eg) true none]⟩,
 ⟨61,[true,true,false,false,true,false,false,true,true,true,true,true,true,false,true,true,true,true,true,true,true,true,true],[.ptr 0 0,.ptr 6 96,.val 1 (d5),.val 4 (bT),.val 5 (bT),.val 7 (dS),.val 57 (BT1),.slot 0 (.leaf true (.nm 17)) true none,.slot 96 (BT3) true none]⟩,
 ⟨62,[],[]⟩,
 ⟨62,[true,true,false,true,false],[.val 0 (dS),.val 1 (dS),.val 5 (bT)]⟩,
 ⟨63,[],[]⟩,
 ⟨63,[true,true,false,true,false],[.val 0 (gF),.val 1 (gF),.val 5 (bT)]⟩,
 ⟨64,[],[]⟩,
 ⟨65,[],[]⟩,
 ⟨65,[true,true,true,false,false],[.val 0 (bT),.val 3 (BT0)]⟩,
 ⟨66,[],[]⟩,
 ⟨66,[true,false,true,false],[.own 0 0 (ny),.val 1 (bT),.val 5 (bT)]⟩,
 ⟨67,[],[]⟩,
 ⟨67,[true,false,true,false],[.own 0 0 (iM),.val 1 (bT),.val 5 (bT)]⟩,
 ⟨68,[],[]⟩,
 ⟨68,[true,false,true,false],[.val 0 (dS),.val 1 (bT),.val 5 (bT)]⟩,
 ⟨69,[],[]⟩,
 ⟨69,[true,false,true,false],[.val 0 (gF),.val 1 (bT),.val 5 (bT)]⟩,
 ⟨70,[],[]⟩,
 ⟨71,[],[]⟩,
 ⟨72,[],[]⟩,
 ⟨73,[],[]⟩,
 ⟨74,[],[]⟩,
 ⟨74,[true,false,true,false],[.val 0 (BT0),.val 3 (bT)]⟩,
 ⟨75,[],[]⟩,
 ⟨75,[true,false,true,false],[.val 0 (dC),.val 1 (BT0),.val 5 (bT)]⟩,
 ⟨76,[],[]⟩,
 ⟨76,[true,true,true,false,true,false],[.val 0 (d5),.val 1 (bT),.val 2 (bT),.val 7 (bT),.val 8 (bT)]⟩,
 ⟨77,[],[]⟩,
 ⟨78,[],[]⟩,
 ⟨79,[],[]⟩,
 ⟨79,[true,true,true,false,true,false],[.val 0 (BT0),.own 3 48 (f9),.val 4 (bT),.val 5 (bT)]⟩,
 ⟨80,[],[]⟩,
 ⟨81,[],[]⟩,
 ⟨81,[true,true,true,false],[.ptr 0 0,.ptr 4 176,.wrd 176 0,.val 1 (d5),.val 5 (bT),.val 6 (bT),.slot 0 (BT9) true none,.slot 176 (f7) true none]⟩,
 ⟨82,[],[]⟩,
 ⟨83,[],[]⟩,
 ⟨84,[],[]⟩,
 ⟨85,[],[]⟩,
 ⟨85,[true,false,true,false],[.val 0 (dC),.val 5 (dC),.val 6 (bT),.val 7 (bT)]⟩,
 ⟨86,[],[]⟩,
 ⟨87,[],[]⟩,
 ⟨88,[],[]⟩,
 ⟨89,[],[]⟩,
 ⟨90,[],[]⟩,
 ⟨91,[],[]⟩,
 ⟨91,[true,false,true,false],[.clo 1 106 [],.val 0 (dB),.val 7 (bT),.val 8 (bT)]⟩,
 ⟨92,[],[]⟩,
 ⟨93,[],[]⟩,
 ⟨93,[true,false,true,false,true],[.ptr 1 16,.val 4 (bT),.val 5 (BT1),.slot 16 (BT3) true none]⟩,
 ⟨93,[true,true],[.ptr 1 16,.slot 16 (BT3) true none]⟩,
 ⟨94,[],[]⟩,
 ⟨95,[],[]⟩,
 ⟨95,[true,false,true,false,true],[.ptr 1 16,.val 4 (bT),.val 5 (BT1),.slot 16 (BT4) true none]⟩,
 ⟨96,[],[]⟩,
 ⟨97,[],[]⟩,
 ⟨98,[],[]⟩,
 ⟨99,[],[]⟩,
 ⟨100,[],[]⟩,
 ⟨101,[],[]⟩,
 ⟨102,[],[]⟩,
 ⟨102,[true,false,true,false,true,true,true,true,true],[.ptr 4 64,.val 1 (bT),.val 2 (bT),.val 3 (bT),.val 12 (bT),.val 28 (BT1),.slot 64 (BT3) true none]⟩,
 ⟨102,[true,false,true,false,true,true,true,true,true,true,true],[.ptr 4 64,.val 1 (bT),.val 3 (bT),.val 12 (bT),.val 46 (BT1),.slot 64 (BT3) true none]⟩,
 ⟨102,[true,false,true,false,true,true,true,true,true,true,true,true,true],[.ptr 4 64,.val 1 (bT),.val 12 (bT),.val 65 (BT1),.slot 64 (BT3) true none]⟩,
 ⟨102,[true,false,true,false,true,true,true,true,true,true,true,true,true,true,true,true,true],[.ptr 4 64,.val 1 (bT),.val 12 (bT),.val 91 (BT1),.slot 64 (BT3) true none]⟩,
 ⟨103,[],[]⟩,
 ⟨104,[],[]⟩,
 ⟨104,[true,true,true,false,false],[.val 0 (BT0),.val 4 (bT),.val 5 (bT)]⟩,
 ⟨105,[],[]⟩,
 ⟨105,[true,true,true,true,true,true],[.wrd 0 1,.val 2 (bT),.slot 0 (.pr (.leaf false .ptr) (.pr (ny) (.un))) true none,.slot 1 (dU) true none]⟩,
 ⟨105,[true,true,true,true,true,false,true,false,true,true,true,true,true,true,true,true,true,true,true,true,true],[.ptr 0 0,.ptr 4 64,.wrd 0 1,.val 2 (bT),.val 9 (dS),.val 93 (BT1),.slot 0 (f7) true none,.slot 1 (BT9) true none,.slot 64 (BT3) true none]⟩,
 ⟨106,[],[]⟩,
 ⟨107,[],[]⟩,
 ⟨107,[true,false,true,false],[.clo 1 78 [16],.val 0 (dC),.val 7 (bT),.val 8 (bT),.slot 16 (BT6) true none]⟩,
 ⟨108,[],[]⟩,
 ⟨109,[],[]⟩,
 ⟨109,[true,false,true,false],[.clo 1 142 [],.val 0 (dS),.val 7 (bT),.val 8 (bT)]⟩,
 ⟨110,[],[]⟩,
 ⟨111,[],[]⟩,
 ⟨112,[],[]⟩,
 ⟨113,[],[]⟩,
 ⟨114,[],[]⟩,
 ⟨115,[],[]⟩,
 ⟨116,[],[]⟩,
 ⟨117,[],[]⟩,
 ⟨118,[],[]⟩,
 ⟨119,[],[]⟩,
 ⟨120,[],[]⟩,
 ⟨121,[],[]⟩,
 ⟨122,[],[]⟩,
 ⟨123,[],[]⟩,
 ⟨124,[],[]⟩,
 ⟨125,[],[]⟩,
 ⟨126,[],[]⟩,
 ⟨127,[],[]⟩,
 ⟨128,[],[]⟩,
 ⟨129,[],[]⟩,
 ⟨130,[],[]⟩,
 ⟨130,[true,false,true,false,true],[.ptr 1 16,.val 6 (bT),.val 7 (BT1),.slot 16 (BT4) true none]⟩,
 ⟨131,[],[]⟩,
 ⟨131,[true,false,false],[.ptr 4 64,.val 0 (BT0),.val 1 (dS),.slot 64 (BT4) true none]⟩,
 ⟨132,[],[]⟩,
 ⟨133,[],[]⟩,
 ⟨134,[],[]⟩,
 ⟨135,[],[]⟩,
 ⟨135,[true,true,false,false],[.val 0 (BT0),.val 4 (bT)]⟩,
 ⟨135,[true,true,true,true,true],[.val 0 (BT0),.val 4 (bT),.val 5 (BT1)]⟩,
 ⟨135,[true,true,true,true,true,true,false,false],[.val 0 (BT0),.val 4 (bT),.val 5 (BT1),.val 6 (bT),.val 7 (bT)]⟩,
 ⟨135,[true,true,true,true,true,true,true,false,true,false,true,true,false],[.val 0 (BT0),.val 4 (bT),.val 5 (BT1),.val 6 (bT),.val 7 (bT),.val 8 (bT)]⟩,
 ⟨135,[true,true,true,true,true,true,true,true],[.val 4 (bT),.val 5 (BT1),.val 6 (bT),.val 7 (bT)]⟩,
 ⟨136,[],[]⟩,
 ⟨136,[true,false,true,false,true],[.ptr 1 16,.val 4 (bT),.val 5 (BT1),.slot 16 (BT3) true none]⟩,
 ⟨137,[],[]⟩,
 ⟨137,[true,false,true,false,true],[.ptr 1 16,.val 4 (bT),.val 5 (BT1),.slot 16 (BT4) true none]⟩,
 ⟨138,[],[]⟩,
 ⟨139,[],[]⟩,
 ⟨140,[],[]⟩,
 ⟨141,[],[]⟩,
 ⟨141,[true,true,true,true],[.ptr 0 0,.ptr 6 1,.ptr 7 112,.wrd 0 1,.slot 0 (f7) true none,.slot 1 (dU) true none,.slot 112 (BT4) true none]⟩,
 ⟨142,[],[]⟩,
 ⟨142,[true,true,false,false],[.val 0 (BT0),.val 1 (bT),.val 5 (bT)]⟩,
 ⟨143,[],[]⟩,
 ⟨143,[true,false,true,false,true],[.val 0 (BT0),.val 4 (BT1)]⟩,
 ⟨144,[],[]⟩,
 ⟨145,[],[]⟩,
 ⟨145,[true,false,true,false],[.clo 1 121 [16,17,18],.val 0 (d5),.val 7 (bT),.val 8 (bT),.slot 16 (d5) true none,.slot 17 (lQ) true none,.slot 18 (lQ) true none]⟩,
 ⟨146,[],[]⟩,
 ⟨147,[],[]⟩,
 ⟨147,[true,true,true,true],[.val 0 (BT0),.val 4 (bT),.val 5 (BT1)]⟩,
 ⟨147,[true,true,true,true,true,true,true,true,true],[.val 4 (bT),.val 5 (BT1),.val 7 (BT0),.val 8 (BT0)]⟩,
 ⟨148,[],[]⟩,
 ⟨149,[],[]⟩,
 ⟨150,[],[]⟩,
 ⟨151,[],[]⟩,
 ⟨151,[true,true,true,true],[.val 0 (bT),.val 3 (BT0)]⟩,
 ⟨152,[],[]⟩,
 ⟨153,[],[]⟩,
 ⟨154,[],[]⟩,
 ⟨155,[],[]⟩,
 ⟨156,[],[]⟩,
 ⟨157,[],[]⟩,
 ⟨158,[],[]⟩,
 ⟨158,[true,true,true,false,true,false],[.clo 1 200 [],.own 0 672 (f9),.val 5 (bT),.val 6 (bT)]⟩,
 ⟨159,[],[]⟩,
 ⟨160,[],[]⟩,
 ⟨161,[],[]⟩,
 ⟨161,[true,true,false,true,false],[.ali 12 7,.val 1 (dh),.val 2 (dh),.own 7 112 (sf),.val 13 (bT),.val 14 (bT)]⟩,
 ⟨162,[],[]⟩,
 ⟨163,[],[]⟩,
 ⟨163,[true,true,true],[.val 8 (bT),.val 9 (BT1)]⟩,
 ⟨164,[],[]⟩,
 ⟨165,[],[]⟩,
 ⟨166,[],[]⟩,
 ⟨166,[true,true,false,false],[.ptr 0 0,.ptr 4 64,.val 1 (bT),.own 5 80 (sb),.slot 0 (gD) true none,.slot 64 (cL) true none]⟩,
 ⟨167,[],[]⟩,
 ⟨167,[true,true,false,true,false],[.ptr 1 16,.val 3 (bT),.val 4 (bT),.slot 16 (dI) true none]⟩,
 ⟨168,[],[]⟩,
 ⟨169,[],[]⟩,
 ⟨169,[true,true,true,true,true,false,true,false,true,false,false],[.val 0 (bT),.val 4 (BT0),.val 6 (BT0)]⟩,
 ⟨169,[true,true,true,true,true,true],[.val 0 (bT),.val 4 (BT0)]⟩,
 ⟨170,[],[]⟩,
 ⟨171,[],[]⟩,
 ⟨171,[true,false,true,false,true],[.ptr 1 16,.val 6 (bT),.val 7 (BT1),.slot 16 (BT4) true none]⟩,
 ⟨172,[],[]⟩,
 ⟨172,[true,true,true],[.ptr 0 0,.ptr 8 128,.val 9 (bT),.val 10 (BT1),.slot 0 (BT9) true none,.slot 128 (BT4) true none]⟩,
 ⟨173,[],[]⟩,
 ⟨174,[],[]⟩,
 ⟨175,[],[]⟩,
 ⟨176,[],[]⟩,
 ⟨177,[],[]⟩,
 ⟨178,[],[]⟩,
 ⟨179,[],[]⟩,
 ⟨180,[],[]⟩,
 ⟨181,[],[]⟩,
 ⟨182,[],[]⟩,
 ⟨183,[],[]⟩,
 ⟨184,[],[]⟩,
 ⟨185,[],[]⟩,
 ⟨186,[],[]⟩,
 ⟨187,[],[]⟩,
 ⟨188,[],[]⟩,
 ⟨189,[],[]⟩,
 ⟨189,[true,true,false,false],[.val 0 (BT0),.val 1 (bT),.val 5 (bT)]⟩,
 ⟨190,[],[]⟩,
 ⟨191,[],[]⟩,
 ⟨191,[true,false,false],[.val 0 (BT0),.val 1 (dh)]⟩,
 ⟨192,[],[]⟩,
 ⟨192,[true,false,false],[.val 0 (BT0),.val 1 (dh)]⟩,
 ⟨193,[],[]⟩,
 ⟨194,[],[]⟩,
 ⟨195,[],[]⟩,
 ⟨196,[],[]⟩,
 ⟨197,[],[]⟩,
 ⟨197,[true,false,true,false],[.clo 1 233 [16],.val 0 (gF),.val 7 (bT),.val 8 (bT),.slot 16 (.leaf true (.nm 4)) true none]⟩,
 ⟨198,[],[]⟩,
 ⟨199,[],[]⟩,
 ⟨199,[true,false,true,false],[.clo 1 237 [16,17],.val 0 (gF),.val 7 (bT),.val 8 (bT),.slot 16 (lQ) true none,.slot 17 (.leaf true .str) true none]⟩,
 ⟨200,[],[]⟩,
 ⟨200,[true,true,true,true],[.val 0 (BT0),.val 1 (BT0),.val 2 (bT),.val 3 (bT)]⟩,
 ⟨200,[true,true,true,true,true,true,true,true,false,false],[.val 0 (BT0),.val 1 (BT0),.val 2 (bT),.val 3 (bT),.own 9 144 (f9),.val 10 (bT)]⟩,
 ⟨201,[],[]⟩,
 ⟨201,[true,false,true,false],[.clo 1 200 [],.val 0 (dC),.val 7 (bT),.val 8 (bT)]⟩,
 ⟨202,[],[]⟩,
 ⟨203,[],[]⟩,
 ⟨203,[true,true,false,false],[.ptr 0 0,.ptr 2 32,.own 3 48 (sb),.slot 0 (ko) true none,.slot 32 (cL) true none]⟩,
 ⟨204,[],[]⟩,
 ⟨204,[true,true,false,true,false],[.val 3 (bT),.val 7 (iP),.val 8 (bT),.val 9 (bT)]⟩,
 ⟨205,[],[]⟩,
 ⟨206,[],[]⟩,
 ⟨206,[true,true,false,true,false],[.val 0 (dA),.val 1 (BT0),.val 7 (bT)]⟩,
 ⟨207,[],[]⟩,
 ⟨208,[],[]⟩,
 ⟨209,[],[]⟩,
 ⟨210,[],[]⟩,
 ⟨210,[true,true,false,false],[.ptr 0 0,.ptr 4 64,.val 1 (bT),.own 5 80 (sb),.slot 0 (gD) true none,.slot 64 (cL) true none]⟩,
 ⟨211,[],[]⟩,
 ⟨212,[],[]⟩,
 ⟨213,[],[]⟩,
 ⟨214,[],[]⟩,
 ⟨214,[true,true,true,false,false],[.val 0 (bT),.val 3 (BT0)]⟩,
 ⟨215,[],[]⟩,
 ⟨216,[],[]⟩,
 ⟨217,[],[]⟩,
 ⟨218,[],[]⟩,
 ⟨219,[],[]⟩,
 ⟨219,[true,false,true,false],[.ptr 3 48,.val 1 (bT),.val 2 (BT0),.val 7 (bT),.slot 48 (BT8) true none]⟩,
 ⟨220,[],[]⟩,
 ⟨220,[true,true,true,true,true,true,false,false],[.ptr 4 64,.ptr 7 112,.ptr 8 128,.ptr 10 160,.val 1 (bT),.val 2 (BT0),.val 11 (bT),.slot 64 (BT8) true none,.slot 112 (BT4) true none,.slot 128 (BT2) true none,.slot 160 (BT2) true none]⟩,
 ⟨221,[],[]⟩,
 ⟨221,[true,true],[.ptr 2 32,.val 0 (BT0),.slot 32 (BT4) true none]⟩,
 ⟨222,[],[]⟩,
 ⟨223,[],[]⟩,
 ⟨224,[],[]⟩,
 ⟨225,[],[]⟩,
 ⟨226,[],[]⟩,
 ⟨226,[true,false,true,false],[.val 0 (dC),.val 1 (BT0),.val 7 (bT),.val 8 (bT)]⟩,
 ⟨227,[],[]⟩,
 ⟨227,[true,true,true,false,true,false,true,true,true],[.ptr 4 64,.val 1 (bT),.val 2 (bT),.val 3 (bT),.val 56 (bT),.val 62 (BT1),.slot 64 (BT3) true none]⟩,
 ⟨227,[true,true,true,false,true,false,true,true,true,true,true],[.ptr 4 64,.val 1 (bT),.val 3 (bT),.val 56 (bT),.val 75 (BT1),.slot 64 (BT3) true none]⟩,
 ⟨227,[true,true,true,false,true,false,true,true,true,true,true,true,true],[.ptr 4 64,.val 1 (bT),.val 56 (bT),.val 89 (BT1),.slot 64 (BT3) true none]⟩,
 ⟨227,[true,true,true,false,true,false,true,true,true,true,true,true,true,true,true,true,true],[.ptr 4 64,.val 1 (bT),.val 56 (bT),.val 106 (BT1),.slot 64 (BT3) true none]⟩,
 ⟨228,[],[]⟩,
 ⟨229,[],[]⟩,
 ⟨230,[],[]⟩,
 ⟨231,[],[]⟩,
 ⟨231,[true,true,true],[.val 0 (BT0),.val 1 (bT)]⟩,
 ⟨231,[true,true,true,true,false,true,false],[.val 0 (BT0),.val 1 (bT),.own 6 96 (f9),.val 7 (bT)]⟩,
 ⟨232,[],[]⟩,
 ⟨232,[true,true,true,true,false],[.val 0 (BT0),.val 1 (BT0),.val 5 (bT)]⟩,
 ⟨233,[],[]⟩,
 ⟨233,[true,true,false,false],[.ptr 0 0,.ptr 2 32,.own 3 48 (sb),.slot 0 (ko) true none,.slot 32 (cL) true none]⟩,
 ⟨234,[],[]⟩,
 ⟨235,[],[]⟩,
 ⟨236,[],[]⟩,
 ⟨236,[true,true,false,true,false,true,true,true,true,true,true,true,true,true,true,true,false,true,false],[.own 0 2032 (eH),.val 51 (iP),.val 52 (bT),.val 53 (bT)]⟩,
 ⟨236,[true,true,true],[.own 0 2032 (eH)]⟩,
 ⟨237,[],[]⟩,
 ⟨237,[true,true,false,true,false],[.val 0 (dA),.val 9 (dA),.val 10 (bT),.val 11 (bT)]⟩,
 ⟨238,[],[]⟩,
 ⟨238,[true,true,true,true,false],[.val 0 (dA),.val 1 (BT0),.val 2 (bT),.val 7 (bT),.val 8 (dB)]⟩,
 ⟨238,[true,true,true,true,false,false,false,true,true],[.val 0 (dA),.val 1 (BT0),.val 2 (bT),.val 7 (bT),.val 8 (dB)]⟩,
 ⟨238,[true,true,true,true,false,false,false,true,true,true,true,false,true,false],[.val 0 (dA),.val 1 (BT0),.val 2 (bT),.val 7 (bT),.own 9 144 (ew),.val 49 (dB),.val 50 (bT),.val 51 (bT)]⟩,
 ⟨239,[],[]⟩,
 ⟨240,[],[]⟩,
 ⟨241,[],[]⟩,
 ⟨241,[true,true],[.val 0 (cA),.val 1 (cA),.val 2 (cA)]⟩,
 ⟨241,[true,true,true],[.val 0 (cA),.val 1 (cA),.val 2 (cA)]⟩,
 ⟨241,[true,true,true,true,true,true,true,true,true,true,true,true,true,true,false,false],[.val 2 (cA),.val 8 (cA),.val 9 (cA),.val 10 (cA),.val 11 (cA),.val 13 (cA),.val 14 (cA),.val 15 (cA),.val 16 (cA)]⟩,
 ⟨241,[true,true,true,true,true,true,true,true,true,true,true,true,true,true,true],[.val 2 (cA),.val 8 (cA),.val 9 (cA),.val 10 (cA),.val 11 (cA),.val 13 (cA),.val 14 (cA),.val 15 (cA)]⟩,
 ⟨241,[true,true,true,true,true,true,true,true,true,true,true,true,true,true,true,true,true,true,false,false],[.val 2 (cA),.val 8 (cA),.val 9 (cA),.val 10 (cA),.val 14 (cA),.val 15 (cA),.val 16 (cA),.val 17 (cA),.val 18 (cA)]⟩,
 ⟨241,[true,true,true,true,true,true,true,true,true,true,true,true,true,true,true,true,true,true,true],[.val 2 (cA),.val 8 (cA),.val 14 (cA),.val 15 (cA),.val 17 (cA),.val 18 (cA)]⟩,
 ⟨242,[],[]⟩,
 ⟨242,[true,true,false,false],[.ptr 0 0,.ptr 4 64,.ptr 5 80,.slot 0 (gD) true none,.slot 64 (cL) true none,.slot 80 (cL) true none]⟩,
 ⟨242,[true,true,false,false,false,true,false,true,true],[.ptr 0 0,.ptr 4 64,.ptr 5 80,.val 6 (bT),.slot 0 (gD) true none,.slot 64 (cL) true none,.slot 80 (cL) true none]⟩,
 ⟨243,[],[]⟩,
 ⟨244,[],[]⟩,
 ⟨245,[],[]⟩,
 ⟨245,[true,false,true,false],[.val 0 (dA),.val 1 (BT0),.val 7 (bT)]⟩,
 ⟨246,[],[]⟩,
 ⟨247,[],[]⟩,
 ⟨247,[true,false,true,false],[.val 0 (BT0),.val 1 (BT0),.val 5 (bT)]⟩,
 ⟨248,[],[]⟩,
 ⟨248,[true,true,false,true,false],[.val 1 (dh),.val 2 (dh),.own 7 112 (sf),.val 8 (bT)]⟩,
 ⟨249,[],[]⟩,
 ⟨249,[true,true,true,true,true],[.val 3 (BT0),.val 4 (bT),.val 5 (bT)]⟩,
 ⟨250,[],[]⟩,
 ⟨250,[true,true,true,true,true],[.val 0 (bT),.val 4 (dC),.val 5 (BT0)]⟩,
 ⟨250,[true,true,true,true,false,true,false,true,true,true],[.val 0 (bT),.val 4 (dC),.val 5 (BT0),.val 13 (bT),.val 16 (BT1)]⟩,
 ⟨250,[true,true,true,true,false,true,false,true,true,true,true,true,true,true],[.val 0 (bT),.val 4 (dC),.val 5 (BT0),.val 22 (BT1)]⟩,
 ⟨251,[],[]⟩,
 ⟨252,[],[]⟩,
 ⟨252,[true,true,false,true,false,true,true],[.val 0 (BT0),.val 5 (BT0)]⟩,
 ⟨252,[true,true,false,true,false,true,true,true,false,true,false],[.val 5 (BT0),.val 6 (bT),.val 47 (wj),.val 48 (bT),.val 49 (bT)]⟩,
 ⟨253,[],[]⟩,
 ⟨254,[],[]⟩,
 ⟨255,[],[]⟩,
 ⟨256,[],[]⟩,
 ⟨257,[],[]⟩,
 ⟨257,[true,true,false],[.ptr 0 0,.ptr 2 32,.ptr 3 48,.slot 0 (ko) true none,.slot 32 (cL) true none,.slot 48 (cL) true none]⟩,
 ⟨258,[],[]⟩,
 ⟨258,[true,true,true,true],[.ptr 2 32,.ptr 3 48,.val 5 (BT1),.slot 32 (dI) true none,.slot 48 (lQ) true none]⟩,
 ⟨258,[true,true,true,false,true,false,true,true,true],[.ptr 2 32,.ptr 3 48,.val 5 (BT1),.val 33 (bT),.val 45 (BT1),.slot 32 (dI) true none,.slot 48 (lQ) true none]⟩,
 ⟨258,[true,true,true,false,true,false,true,true,true,true,true,true,true],[.ptr 2 32,.ptr 3 48,.val 5 (BT1),.val 33 (bT),.val 64 (BT1),.slot 32 (dI) true none,.slot 48 (lQ) true none]⟩,
 ⟨259,[],[]⟩,
 ⟨259,[true,true,false,true,false],[.own 0 1120 (eH),.val 1 (iP),.own 5 80 (ew),.val 16 (iP),.val 17 (bT),.val 18 (bT)]⟩,
 ⟨259,[true,true,true,true,false,true,false],[.own 0 1120 (eH),.val 56 (dB),.val 57 (bT),.val 58 (bT)]⟩,
 ⟨260,[],[]⟩,
 ⟨260,[true,true,false,true,false,true,true,true,true,true,true,true],[.ptr 3 48,.val 79 (BT1),.slot 48 (pw) true none]⟩,
 ⟨261,[],[]⟩,
 ⟨261,[true,true,true,true,false,true,false],[.ptr 4 64,.ptr 10 160,.clo 11 333 [64,144,160],.val 2 (BT1),.val 3 (BT1),.val 22 (dB),.val 23 (bT),.val 24 (bT),.slot 64 (dA) true none,.slot 144 (fx) true none,.slot 160 (ew) true none]⟩,
 ⟨261,[true,true,true,true,true,false,true,false],[.ptr 4 64,.ptr 10 160,.clo 11 333 [64,144,160],.val 2 (BT1),.val 3 (BT1),.val 14 (bT),.slot 64 (dA) true none,.slot 144 (fx) true none,.slot 160 (ew) true none]⟩,
 ⟨261,[true,true,true,true,true,false,true,false,false,true,true],[.ptr 4 64,.ptr 10 160,.clo 11 333 [64,144,160],.val 2 (BT1),.val 3 (BT1),.val 14 (bT),.slot 64 (dA) true none,.slot 144 (fx) true none,.slot 160 (ew) true none]⟩,
 ⟨262,[],[]⟩,
 ⟨263,[],[]⟩,
 ⟨264,[],[]⟩,
 ⟨265,[],[]⟩,
 ⟨265,[true,true,true,true,true],[.ptr 4 64,.val 5 (dh),.slot 0 (gD) true none,.slot 64 (cL) true none]⟩,
 ⟨266,[],[]⟩,
 ⟨267,[],[]⟩,
 ⟨267,[true,true,false,true,false,true,true,true,true,true,true,true,true,true,true,true,false,true,false],[.ptr 3 48,.own 0 2064 (eH),.val 6 (bT),.slot 48 (dI) true none]⟩,
 ⟨267,[true,true,true],[.own 0 2064 (eH)]⟩,
 ⟨268,[],[]⟩,
 ⟨269,[],[]⟩,
 ⟨269,[true,true,true,true,false,true,false],[.val 0 (dA),.val 1 (BT0),.val 7 (dB),.val 8 (bT),.val 9 (bT)]⟩,
 ⟨269,[true,true,true,true,false,true,false,false,true,false,false,true],[.val 0 (dA),.val 1 (BT0),.val 7 (dB),.val 8 (bT),.val 9 (bT)]⟩,
 ⟨269,[true,true,true,true,false,true,false,false,true,false,false,true,true,true,false,true,false],[.val 0 (dA),.val 1 (BT0),.val 7 (dB),.val 8 (bT),.val 9 (bT),.own 10 160 (ew),.val 11 (bT)]⟩,
 ⟨270,[],[]⟩,
 ⟨271,[],[]⟩,
 ⟨271,[true,true,true,true],[.val 0 (BT0),.val 1 (bT),.val 2 (bT),.val 8 (BT1)]⟩,
 ⟨271,[true,true,true,true,true,true,true,true],[.val 2 (bT),.val 8 (BT1),.val 9 (cA)]⟩,
 ⟨272,[],[]⟩,
 ⟨273,[],[]⟩,
 ⟨273,[true,true,true,false,true,false,true,true,true,true,true,true,true,true,true,true,true,true,true],[.ptr 0 0,.ptr 2 32,.val 3 (dh),.val 70 (BT1),.slot 0 (ko) true none,.slot 32 (cL) true none]⟩,
 ⟨274,[],[]⟩,
 ⟨275,[],[]⟩,
 ⟨276,[],[]⟩,
 ⟨276,[true,false,true,false],[.ptr 1 16,.val 6 (bT),.val 7 (bT),.slot 16 (dI) true none]⟩,
 ⟨277,[],[]⟩,
 ⟨278,[],[]⟩,
 ⟨279,[],[]⟩,
 ⟨279,[true,false,true,false],[.val 0 (dB),.val 1 (bT),.val 7 (bT),.val 8 (bT)]⟩,
 ⟨280,[],[]⟩,
 ⟨281,[],[]⟩,
 ⟨281,[true,true],[.val 0 (cA),.val 2 (bT)]⟩,
 ⟨281,[true,true,true],[.val 0 (cA),.val 2 (bT)]⟩,
 ⟨282,[],[]⟩,
 ⟨282,[true,true,true],[.ptr 0 0,.ptr 2 32,.ptr 3 48,.slot 0 (gD) true none,.slot 32 (cL) true none,.slot 48 (cL) true none]⟩,
 ⟨282,[true,true,true,true,true,false,false],[.ptr 0 0,.ptr 2 32,.ptr 3 48,.own 4 64 (fx),.val 5 (bT),.slot 0 (gD) true none,.slot 32 (cL) true none,.slot 48 (cL) true none]⟩,
 ⟨282,[true,true,true,true,true,false,false,false,true,false,true,true,true,true],[.ptr 0 0,.ptr 2 32,.ptr 3 48,.own 4 64 (fx),.val 5 (bT),.val 6 (bT),.val 7 (bT),.slot 0 (gD) true none,.slot 32 (cL) true none,.slot 48 (cL) true none]⟩,
 ⟨282,[true,true,true,true,true,true,true],[.ptr 0 0,.ptr 2 32,.ptr 3 48,.val 4 (px),.slot 0 (gD) true none,.slot 32 (cL) true none,.slot 48 (cL) true none]⟩,
 ⟨282,[true,true,true,true,true,false,false,false,true,false,true,true,true,true,true],[.ptr 0 0,.ptr 2 32,.ptr 3 48,.own 4 64 (fx),.val 5 (bT),.val 6 (bT),.val 7 (bT),.slot 0 (gD) true none,.slot 32 (cL) true none,.slot 48 (cL) true none]⟩,
 ⟨282,[true,true,true,true,true,true,true,true,true,false,true,false],[.ptr 2 32,.ptr 3 48,.val 4 (px),.own 9 144 (sf),.val 10 (bT),.slot 0 (gD) true none,.slot 32 (cL) true none,.slot 48 (cL) true none]⟩,
 ⟨282,[true,true,true,true,true,false,false,false,true,false,true,true,true,true,true,false,true,false],[.ptr 0 0,.ptr 2 32,.ptr 3 48,.own 4 64 (fx),.val 5 (bT),.val 7 (bT),.val 8 (bT),.slot 0 (gD) true none,.slot 32 (cL) true none,.slot 48 (cL) true none]⟩,
 ⟨283,[],[]⟩,
 ⟨283,[true,false,true,false],[.ptr 1 16,.val 3 (bT),.slot 16 (dI) true none]⟩,
 ⟨283,[true,true,true,false,true,false,true,true,true,true,true],[.ptr 1 16,.val 4 (bT),.val 23 (bT),.val 62 (BT1),.slot 16 (dI) true none]⟩,
 ⟨283,[true,true,true,false,true,false,true,true,true,true,true,true,true],[.ptr 1 16,.val 4 (bT),.val 82 (BT1),.slot 16 (dI) true none]⟩,
 ⟨284,[],[]⟩,
 ⟨284,[true,true,false,true,false],[.own 0 1104 (eH),.val 1 (iP),.own 5 80 (ew),.val 6 (bT)]⟩,
 ⟨284,[true,true,true,true,false,true,false],[.own 0 1104 (eH),.val 5 (dB),.val 8 (bT)]⟩,
 ⟨285,[],[]⟩,
 ⟨285,[true,true,false,true,false],[.val 0 (dA),.val 3 (bT),.val 4 (bT)]⟩,
 ⟨286,[],[]⟩,
 ⟨286,[true,true,false,true,false],[.val 0 (dA),.val 1 (dB),.val 2 (BT1),.val 3 (BT1),.own 9 144 (fx),.val 10 (bT)]⟩,
 ⟨287,[],[]⟩,
 ⟨288,[],[]⟩,
 ⟨288,[true,true,true,true,true],[.val 0 (BT0),.val 1 (bT),.val 2 (bT),.val 8 (BT1),.val 9 (BT0)]⟩,
 ⟨288,[true,true,true,true,true,true],[.val 0 (BT0),.val 1 (bT),.val 2 (bT),.val 8 (BT1),.val 9 (BT0)]⟩,
 ⟨288,[true,true,true,true,true,true,true,true],[.val 0 (BT0),.val 1 (bT),.val 2 (bT),.val 8 (BT1),.val 9 (BT0),.val 10 (cA)]⟩,
 ⟨288,[true,true,true,true,true,true,true,true,true,true,true,false,true,false],[.val 1 (bT),.val 8 (BT1),.val 9 (BT0),.val 10 (cA),.val 11 (cA),.val 12 (BT1),.val 13 (cA),.val 99 (wj),.val 100 (bT),.val 101 (bT)]⟩,
 ⟨288,[true,true,true,true,true,true,true,true,true,true,true,false,true,false,false,true,true,false,false,true,true,true],[.val 1 (bT),.val 8 (BT1),.val 9 (BT0),.val 10 (cA),.val 11 (cA),.val 12 (BT1),.val 13 (cA),.val 16 (dh),.val 99 (wj),.val 100 (bT),.val 101 (bT)]⟩,
 ⟨289,[],[]⟩,
 ⟨289,[true,true,true,true,true,true,true,false,true,false],[.ptr 0 0,.ptr 2 32,.ptr 3 48,.val 5 (BT0),.own 6 96 (fx),.val 7 (bT),.slot 0 (ko) true none,.slot 32 (cL) true none,.slot 48 (cL) true none]⟩,
 ⟨289,[true,true,true,true,true,true,true,false,true,false,false,true,false,false,true,true],[.ptr 0 0,.ptr 2 32,.ptr 3 48,.val 5 (BT0),.own 6 96 (fx),.val 7 (bT),.val 8 (bT),.val 9 (bT),.slot 0 (ko) true none,.slot 32 (cL) true none,.slot 48 (cL) true none]⟩,
 ⟨289,[true,true,true,true,true,true,true,true,true,false,true,false],[.ptr 2 32,.ptr 3 48,.own 11 176 (sf),.val 100 (px),.val 101 (bT),.val 102 (bT),.slot 0 (ko) true none,.slot 32 (cL) true none,.slot 48 (cL) true none]⟩,
 ⟨289,[true,true,true,true,true,true,true,false,true,false,false,true,false,false,true,true,true,false],[.ptr 0 0,.ptr 2 32,.ptr 3 48,.val 5 (BT0),.own 6 96 (fx),.val 7 (bT),.val 9 (bT),.val 10 (bT),.slot 0 (ko) true none,.slot 32 (cL) true none,.slot 48 (cL) true none]⟩,
 ⟨290,[],[]⟩,
 ⟨290,[true,false,true,false],[.clo 1 339 [16],.val 0 (iP),.val 7 (bT),.val 8 (bT),.slot 16 (lQ) true none]⟩,
 ⟨291,[],[]⟩,
 ⟨292,[],[]⟩,
 ⟨292,[true,false,true,false],[.val 0 (BT0),.val 3 (bT)]⟩,
 ⟨293,[],[]⟩,
 ⟨293,[true,true],[.ptr 2 32,.val 1 (bT),.val 5 (BT1),.slot 32 (pw) true none]⟩,
 ⟨293,[true,true,true],[.ptr 2 32,.val 1 (bT),.val 5 (BT1),.val 6 (BT1),.slot 32 (pw) true none]⟩,
 ⟨293,[true,true,true,true],[.ptr 2 32,.val 1 (bT),.val 5 (BT1),.val 6 (BT1),.val 7 (BT1),.slot 32 (pw) true none]⟩,
 ⟨293,[true,true,true,true,true],[.ptr 2 32,.val 5 (BT1),.val 6 (BT1),.val 7 (BT1),.val 8 (BT1),.slot 32 (pw) true none]⟩,
 ⟨293,[true,true,true,true,true,true],[.val 4 (BT1)]⟩,
 ⟨294,[],[]⟩,
 ⟨294,[true,false],[.val 0 (dA),.own 1 16 (fx),.val 3 (BT1),.val 4 (BT1),.own 10 160 (ew)]⟩,
 ⟨295,[],[]⟩,
 ⟨295,[true,true,false,true,false],[.val 0 (px),.own 3 48 (ew),.val 4 (bT)]⟩,
 ⟨296,[],[]⟩,
 ⟨296,[true,false,true,false],[.val 0 (BT0),.val 1 (dh),.val 5 (bT)]⟩,
 ⟨297,[],[]⟩,
 ⟨298,[],[]⟩,
 ⟨298,[true,true,true,true],[.val 0 (BT0),.val 3 (pz),.val 4 (bT)]⟩,
 ⟨298,[true,true,true,true,true,true],[.val 0 (BT0),.val 3 (pz),.val 4 (bT),.val 5 (BT1)]⟩,
 ⟨298,[true,true,true,true,true,true,false,false],[.val 0 (BT0),.val 3 (pz),.val 4 (bT),.val 5 (BT1)]⟩,
 ⟨299,[],[]⟩,
 ⟨300,[],[]⟩]
def entR:List EntI:=[
 ⟨6,.skip,[],[.val (wg),.val (wh),.val (wi)],[BT1],[],[(32,1),(34,1),(37,1),(53,1),(58,1),(87,1),(89,1),(92,1)],0,[],false⟩,
 ⟨7,.skip,[],[.val (wg),.val (bT)],[bT],[],[],0,[],false⟩,
 ⟨27,.skip,[],[.val (wh),.val (bT)],[bT],[],[],0,[],false⟩,
 ⟨28,.skip,[],[.val (wi),.val (bT)],[bT],[],[],0,[],false⟩,
 ⟨9,.skip,[],[.val (wg)],[.leaf true (.nm 6)],[],[],0,[],false⟩,
 ⟨30,.skip,[],[.val (wh)],[BT5],[],[],0,[],false⟩,
 ⟨31,.skip,[],[.val (wi)],[nx],[],[],0,[],false⟩,
 ⟨29,.skip,[],[.val (BT6),.val (BT7),.val (nx)],[BT7],[],[(17,1),(21,1)],0,[],false⟩,
 ⟨32,.skip,[],[.val (BT6),.val (BT7),.val (nx)],[BT5],[],[],0,[],false⟩,
 ⟨11,.skip,[],[.val (BT7),.val (BT7)],[BT1],[],[],0,[],false⟩,
 ⟨12,.skip,[],[.val (BT6),.val (BT6)],[BT1],[],[],0,[],false⟩,
 ⟨13,.skip,[],[.own (.leaf true (.nm 6)),.val (bT)],[bT],[],[],0,[],false⟩,
 ⟨14,.skip,[],[.io (BT5),.val (bT)],[bT],[(32,.orig 0)],[],0,[],false⟩,
 ⟨15,.skip,[],[.val (BT7),.val (bT)],[bT],[],[],0,[],false⟩,
 ⟨33,.skip,[],[.val (dC),.val (bT)],[bT],[],[],0,[(122,15)],false⟩,
 ⟨34,.skip,[],[.val (sa),.val (bT)],[bT],[],[],0,[(122,17)],false⟩,
 ⟨59,.skip,[],[.val (.leaf false (.nm 12)),.val (bT)],[bT],[],[],0,[],false⟩,
 ⟨60,.skip,[],[.val (dB),.val (bT)],[bT],[],[],0,[],false⟩,
 ⟨37,.skip,[],[.val (dC)],[f9],[],[],0,[(58,21)],false⟩,
 ⟨38,.skip,[],[.val (sa)],[rZ],[],[],0,[(58,23)],false⟩,
 ⟨63,.skip,[],[.val (.leaf false (.nm 12))],[BT2],[],[],0,[],false⟩,
 ⟨64,.skip,[],[.val (dB)],[ew],[],[],0,[(58,26)],false⟩,
 ⟨61,.skip,[],[.val (BT6),.val (BT7)],[BT1],[],[],0,[(26,28)],false⟩,
 ⟨62,.skip,[],[.val (BT7)],[BT5],[],[],0,[],false⟩,
 ⟨55,.skip,[],[.val (nx)],[BT1],[],[],0,[],false⟩,
 ⟨56,.skip,[],[.val (BT6),.val (BT7),.val (nx)],[BT7],[],[(45,1)],0,[],false⟩,
 ⟨65,.skip,[],[.val (BT7)],[BT5],[],[],0,[],false⟩,
 ⟨66,.skip,[],[.val (BT6),.val (BT7)],[BT1],[],[],0,[],false⟩,
 ⟨67,.skip,[],[.val (nx)],[BT1],[],[],0,[],false⟩,
 ⟨68,.skip,[],[.val (BT6),.val (BT8),.val (BT0)],[BT2,BT0],[],[],0,[],false⟩,
 ⟨42,.skip,[],[.val (BT8),.val (BT8)],[BT1],[],[],0,[],false⟩,
 ⟨43,.skip,[],[.val (dB),.val (dB)],[BT1],[],[],0,[(58,38)],false⟩,
 ⟨44,.skip,[],[.val (dC),.val (dC)],[BT1],[],[],0,[(58,40)],false⟩,
 ⟨45,.skip,[],[.val (d5),.val (d5)],[BT1],[],[],0,[(58,42)],false⟩,
 ⟨46,.skip,[],[.own (f9),.val (bT)],[bT],[],[],0,[(26,44)],false⟩,
 ⟨47,.skip,[],[.own (rZ),.val (bT)],[bT],[],[],0,[(26,46)],false⟩,
 ⟨48,.skip,[],[.io (BT2),.val (bT)],[bT],[(32,.orig 0)],[],0,[],false⟩,
 ⟨49,.skip,[],[.io (ew),.val (bT)],[bT],[(0,.reg)],[],0,[(26,49)],false⟩,
 ⟨50,.skip,[],[.val (BT8),.val (bT)],[bT],[],[],0,[],false⟩,
 ⟨51,.skip,[],[.val (dB),.val (bT)],[bT],[],[],0,[(26,52)],false⟩,
 ⟨69,.skip,[],[.val (.leaf false (.nm 1)),.val (bT)],[bT],[],[],0,[],false⟩,
 ⟨97,.skip,[],[.val (sd),.val (bT)],[bT],[],[],0,[(122,55)],false⟩,
 ⟨98,.skip,[],[.val (se),.val (bT)],[bT],[],[],0,[(122,57)],false⟩,
 ⟨75,.skip,[],[.val (.leaf false (.nm 1))],[f8],[],[],0,[],false⟩,
 ⟨101,.skip,[],[.val (sd)],[ny],[],[],0,[(58,60)],false⟩,
 ⟨102,.skip,[],[.val (se)],[iM],[],[],0,[(58,62)],false⟩,
 ⟨94,.skip,[],[.val (bT),.val (bT),.val (bT)],[BT1],[],[],0,[],false⟩,
 ⟨35,.skip,[],[.val (BT6)],[BT1],[],[],0,[(26,65),(58,66)],false⟩,
 ⟨99,.skip,[],[.val (BT8),.val (bT),.val (bT)],[BT1],[],[],0,[(26,68),(58,69)],false⟩,
 ⟨100,.skip,[],[.val (BT8)],[BT2],[],[],0,[],false⟩,
 ⟨95,.skip,[],[.val (BT0)],[BT1],[],[],0,[(26,72)],false⟩,
 ⟨96,.skip,[],[.val (BT6),.val (BT8),.val (BT0)],[BT8,BT0],[],[(40,1)],0,[(31,74)],false⟩,
 ⟨81,.skip,[],[.val (BT8)],[BT2],[],[],0,[],false⟩,
 ⟨103,.skip,[],[.val (dB)],[ew],[],[],0,[],false⟩,
 ⟨39,.skip,[],[.val (BT6)],[BT1],[],[],0,[],false⟩,
 ⟨104,.skip,[],[.val (BT8),.val (bT),.val (bT)],[BT1],[],[],0,[(58,79)],false⟩,
 ⟨105,.skip,[],[.val (dB),.clo 106 []],[BT1],[],[],0,[],false⟩,
 ⟨107,.skip,[],[.val (bT),.val (bT),.val (bT)],[BT1],[],[],0,[],false⟩,
 ⟨108,.skip,[],[.val (BT0)],[BT1],[],[],0,[],false⟩,
 ⟨109,.skip,[],[.ptr (eg) (eg),.val (bT)],[],[(0,.box)],[],0,[],false⟩,
 ⟨83,.skip,[],[.ptr (.pr (BT2) (.pr (BT0) (.pr (BT0) (.pr (dS) (BH))))) (.pr (.hole 4) (.pr (BT0) (.pr (BT0) (.pr (dS) (BH))))),.val (BT8)],[BT2,BT0],[(0,.box)],[(4,5)],0,[],false⟩,
 ⟨82,.skip,[],[.ptr (eg) (eg),.val (d5)],[],[(0,.box)],[(28,1)],0,[(14,86),(115,87),(15007231,88)],false⟩,
 ⟨84,.skip,[],[.val (dS),.val (dS)],[BT1],[],[],0,[(58,90)],false⟩,
 ⟨85,.skip,[],[.val (gF),.val (gF)],[BT1],[],[],0,[(58,92)],false⟩,
 ⟨86,.skip,[],[.val (f8),.val (f8)],[BT1],[],[],0,[],false⟩,
 ⟨58,.skip,[],[.val (bT)],[BT0],[],[(12,1)],0,[(60,95)],false⟩,
 ⟨87,.skip,[],[.io (ny),.val (bT)],[bT],[(0,.reg)],[],0,[(26,97)],false⟩,
 ⟨88,.skip,[],[.io (iM),.val (bT)],[bT],[(0,.reg)],[],0,[(26,99)],false⟩,
 ⟨89,.skip,[],[.val (dS),.val (bT)],[bT],[],[],0,[(26,101)],false⟩,
 ⟨90,.skip,[],[.val (gF),.val (bT)],[bT],[],[],0,[(26,103)],false⟩,
 ⟨135,.skip,[],[.val (.leaf false (.nm 13)),.val (bT)],[bT],[],[],0,[],false⟩,
 ⟨136,.skip,[],[.val (.leaf false (.nm 14)),.val (bT)],[bT],[],[],0,[],false⟩,
 ⟨139,.skip,[],[.val (.leaf false (.nm 13))],[cG],[],[],0,[],false⟩,
 ⟨140,.skip,[],[.val (.leaf false (.nm 14))],[hY],[],[],0,[],false⟩,
 ⟨70,.skip,[],[.val (BT0)],[BT1],[],[],0,[(26,109)],false⟩,
 ⟨71,.skip,[],[.val (dC),.val (BT0)],[BT1],[],[],0,[(26,111)],false⟩,
 ⟨72,.skip,[],[.val (d5),.val (bT),.val (bT)],[BT1],[],[],0,[(122,113)],false⟩,
 ⟨137,.skip,[],[.val (cG)],[BT1],[],[],0,[],false⟩,
 ⟨138,.skip,[],[.val (hY),.val (bT),.val (BT0)],[BT1],[],[],0,[],false⟩,
 ⟨133,.skip,[],[.val (BT0)],[f9],[],[(31,1)],0,[(122,117)],false⟩,
 ⟨134,.skip,[],[.ptr (dU) (dU),.val (bT)],[],[(0,.box)],[],0,[],false⟩,
 ⟨113,.skip,[],[.ptr (dU) (dU),.val (d5)],[],[(0,.box)],[],0,[(30,120)],false⟩,
 ⟨114,.skip,[],[.ptr (.leaf false (.nm 18)) (.leaf false (.nm 18)),.val (BT8)],[BT8,BT0],[(0,.box)],[(14,1)],0,[],false⟩,
 ⟨123,.skip,[],[.val (dS)],[ny],[],[],0,[],false⟩,
 ⟨124,.skip,[],[.val (gF)],[iM],[],[],0,[],false⟩,
 ⟨76,.skip,[],[.val (dC)],[BT1],[],[],0,[(26,125)],false⟩,
 ⟨77,.skip,[],[.val (dC),.clo 78 [BT6]],[BT1],[(16,.box)],[],0,[],false⟩,
 ⟨80,.skip,[],[.val (d5),.val (bT),.val (bT)],[BT1],[],[],0,[],false⟩,
 ⟨141,.skip,[],[.val (dS),.clo 142 []],[BT1],[],[],0,[],false⟩,
 ⟨143,.skip,[],[.val (cG)],[BT1],[],[],0,[],false⟩,
 ⟨144,.skip,[],[.val (hY),.val (hY)],[bT],[],[],0,[],false⟩,
 ⟨145,.skip,[],[.val (dB),.clo 106 []],[bT],[],[],0,[(26,132)],false⟩,
 ⟨146,.skip,[],[.val (BT0),.val (BT0)],[BT1],[],[],0,[],false⟩,
 ⟨126,.skip,[],[.val (f8)],[bT],[],[],0,[(53,135),(7,136)],false⟩,
 ⟨125,.skip,[],[.ptr (eg) (eg),.val (bT)],[dS],[(0,.box)],[(26,2)],0,[],false⟩,
 ⟨127,.skip,[],[.val (cG)],[BT1],[],[],0,[(53,139)],false⟩,
 ⟨128,.skip,[],[.ptr (eg) (eg),.val (f8),.val (dS)],[],[(0,.box)],[],0,[],false⟩,
 ⟨129,.skip,[],[.ptr (eg) (eg),.val (f8),.val (dS)],[],[(0,.box)],[(112,1),(113,4)],0,[],false⟩,
 ⟨130,.skip,[],[.val (cG),.val (cG)],[BT1],[],[],0,[],false⟩,
 ⟨131,.skip,[],[.val (hY),.val (hY)],[BT1],[],[],0,[],false⟩,
 ⟨110,.skip,[],[.val (dh)],[BT1],[],[],0,[],false⟩,
 ⟨111,.skip,[],[.val (BT0)],[BT1],[],[(3,1),(7,1)],0,[],false⟩,
 ⟨112,.skip,[],[.val (f8),.val (bT),.val (bT),.val (bT)],[BT1],[],[(71,1),(86,1)],0,[(863,147),(3455,148),(13823,149),(221183,150)],false⟩,
 ⟨148,.skip,[],[.val (bT)],[BT1],[],[],0,[],false⟩,
 ⟨176,.skip,[],[.val (BT0)],[bT,BT1],[],[],0,[(60,153)],false⟩,
 ⟨150,.skip,[],[.ref (f7) (f7) (dU) (dU),.val (f8),.val (bT)],[bT,BT1],[(0,.box),(1,.box)],[(32,2)],0,[(127,155),(4153343,156)],false⟩,
 ⟨117,.skip,[],[.val (BT0)],[BT1],[],[],0,[],false⟩,
 ⟨118,.skip,[],[.val (dC),.clo 78 [BT6]],[bT],[(16,.box)],[],0,[(26,159)],false⟩,
 ⟨120,.skip,[],[.val (d5),.clo 121 [d5,bT,bT]],[BT1],[(16,.box),(17,.box),(18,.box)],[],0,[],false⟩,
 ⟨177,.skip,[],[.val (dS),.clo 142 []],[bT],[],[],0,[(26,162)],false⟩,
 ⟨155,.skip,[],[.val (bT)],[BT1],[],[],0,[],false⟩,
 ⟨178,.skip,[],[.val (BT0)],[bT,BT1],[],[],0,[],false⟩,
 ⟨179,.skip,[],[.val (BT0),.val (BT0)],[bT],[],[],0,[],false⟩,
 ⟨106,.skip,[],[.val (bT)],[BT1],[],[],0,[],false⟩,
 ⟨180,.skip,[],[.val (BT0),.val (BT0)],[bT],[],[],0,[],true⟩,
 ⟨158,.skip,[],[.ptr (eg) (eg),.val (cG)],[],[(0,.box)],[(18,1)],0,[],false⟩,
 ⟨159,.skip,[],[.ptr (eg) (eg),.val (cG),.val (cG)],[cG],[(0,.box)],[],0,[],false⟩,
 ⟨162,.skip,[],[.val (cG)],[BT0],[],[],0,[],false⟩,
 ⟨161,.skip,[],[.val (BT0)],[BT0],[],[],0,[],false⟩,
 ⟨160,.skip,[],[.ptr (eg) (eg),.val (bT),.val (BT0),.val (cG)],[],[(0,.box)],[],0,[],false⟩,
 ⟨163,.skip,[],[.val (BT8),.val (bT),.val (BT0)],[cG],[],[],0,[],false⟩,
 ⟨164,.skip,[],[.val (BT8),.val (bT),.val (BT0)],[BT2],[],[],0,[],false⟩,
 ⟨165,.skip,[],[.ptr (eg) (eg),.val (BT0)],[],[(0,.box)],[],0,[],false⟩,
 ⟨166,.skip,[],[.val (bT)],[cG],[],[],0,[],false⟩,
 ⟨167,.skip,[],[.val (BT0)],[cG],[],[],0,[],false⟩,
 ⟨169,.skip,[],[.val (cG)],[bT],[],[],0,[],false⟩,
 ⟨168,.skip,[],[.val (BT0),.val (bT)],[cG],[],[(11,1)],0,[],false⟩,
 ⟨170,.skip,[],[.val (BT0)],[dC],[],[(5,1)],0,[],false⟩,
 ⟨172,.skip,[],[.val (BT0),.val (BT0)],[BT1],[],[(9,1)],0,[],false⟩,
 ⟨171,.skip,[],[.val (BT1)],[cG],[],[],0,[],false⟩,
 ⟨173,.skip,[],[.val (cG)],[bT],[],[],0,[(53,184)],false⟩,
 ⟨174,.skip,[],[.val (BT0),.val (dS)],[cG],[],[(14,1),(24,4)],0,[(12,186)],false⟩,
 ⟨175,.skip,[],[.val (bT),.val (cG),.val (cG)],[cG,bT],[],[],0,[],false⟩,
 ⟨147,.skip,[],[],[dC],[],[(1,1)],0,[],false⟩,
 ⟨149,.skip,[],[.val (BT0)],[dI,BT1],[],[(9,1),(14,1),(33,1)],0,[],false⟩,
 ⟨208,.skip,[],[.val (BT0)],[bT,bT],[],[],0,[(28,191),(63,192),(508,193),(16342,194),(511,195)],false⟩,
 ⟨183,.skip,[],[.val (f8)],[bT],[],[],0,[(53,197)],false⟩,
 ⟨184,.skip,[],[.val (cG)],[BT1],[],[],0,[(53,199)],false⟩,
 ⟨185,.skip,[],[.ptr (dU) (dU),.val (BT0)],[],[(0,.box)],[],0,[],false⟩,
 ⟨186,.skip,[],[.val (cG)],[BT0],[],[],0,[],false⟩,
 ⟨187,.skip,[],[.ref (f7) (f7) (dU) (dU),.val (f8),.val (dS)],[],[(0,.box),(1,.box)],[],0,[],false⟩,
 ⟨188,.skip,[],[.ref (f7) (f7) (dU) (dU),.val (f8),.val (dS)],[],[(0,.box),(1,.box)],[],0,[(31,204)],false⟩,
 ⟨151,.skip,[],[.val (BT0),.val (bT)],[bT],[],[],0,[(28,206)],false⟩,
 ⟨152,.skip,[],[.val (BT0)],[BT1],[],[(14,1)],0,[(53,208)],false⟩,
 ⟨78,.skip,[],[.val (BT0),.ptr (BT6) (BT6)],[BT1],[(16,.box)],[],0,[],false⟩,
 ⟨153,.skip,[],[.val (d5),.clo 121 [d5,bT,bT]],[bT],[(16,.box),(17,.box),(18,.box)],[],0,[(26,211)],false⟩,
 ⟨142,.skip,[],[.val (cG)],[BT1],[],[],0,[],false⟩,
 ⟨202,.skip,[],[.val (BT0)],[bT,bT],[],[],0,[(31,214),(1023,215)],false⟩,
 ⟨209,.skip,[],[.val (BT0),.val (BT0)],[BT0],[],[],0,[],false⟩,
 ⟨210,.skip,[],[.val (BT0),.val (BT0)],[bT],[],[],0,[],false⟩,
 ⟨191,.skip,[],[.val (bT),.val (bT)],[bT,BT1],[],[],0,[],false⟩,
 ⟨193,.skip,[],[.val (bT)],[BT0],[],[],0,[(31,220)],false⟩,
 ⟨192,.skip,[],[.val (BT8),.val (bT),.val (BT0),.val (cG)],[BT2,BT1],[],[],0,[],false⟩,
 ⟨194,.skip,[],[.val (BT8),.val (bT),.val (BT0)],[bT],[],[],0,[],false⟩,
 ⟨195,.skip,[],[.own (iM),.val (bT),.val (bT)],[iM],[],[],0,[],true⟩,
 ⟨197,.skip,[],[.val (bT)],[bT],[],[],0,[],false⟩,
 ⟨196,.skip,[],[.val (BT0)],[cG],[],[],0,[],false⟩,
 ⟨199,.skip,[],[.val (BT0),.val (BT0)],[f9],[],[],0,[],false⟩,
 ⟨198,.skip,[],[.own (f9),.clo 200 []],[dC],[],[(38,2)],0,[(122,228)],false⟩,
 ⟨190,.skip,[],[.val (BT0)],[dI,BT1],[],[(9,1),(14,1),(31,1)],0,[],false⟩,
 ⟨201,.skip,[],[.val (dI),.val (BT0)],[BT1],[],[(10,1)],0,[],false⟩,
 ⟨203,.skip,[],[.val (BT0),.val (dh),.val (dh)],[BT0],[],[],0,[(58,232)],false⟩,
 ⟨204,.skip,[],[.val (BT0),.val (bT),.val (bT)],[BT0],[],[],0,[],false⟩,
 ⟨205,.skip,[],[.val (bT),.val (bT),.val (bT)],[bT,bT],[],[],0,[(15,235)],false⟩,
 ⟨207,.skip,[],[.val (cG),.val (cG)],[bT],[],[],0,[],false⟩,
 ⟨206,.skip,[],[.val (bT),.val (bT)],[BT1],[],[],0,[],false⟩,
 ⟨181,.skip,[],[.ptr (gE) (gE),.val (bT)],[cL],[(0,.box)],[],0,[(28,239)],false⟩,
 ⟨182,.skip,[],[.val (dI)],[bT],[],[],0,[(58,241)],false⟩,
 ⟨247,.skip,[],[.val (dh)],[BT1],[],[],0,[],false⟩,
 ⟨214,.skip,[],[.val (bT)],[BT0],[],[],0,[(4052,244),(127,245)],false⟩,
 ⟨215,.skip,[],[.ref (f7) (f7) (dU) (dU),.val (cG)],[],[(0,.box),(1,.box)],[(21,1)],0,[],false⟩,
 ⟨217,.skip,[],[.val (cG)],[bT],[],[],0,[(53,248)],false⟩,
 ⟨216,.skip,[],[.ptr (dU) (dU),.val (bT),.val (bT),.val (bT)],[cG],[(0,.box)],[],0,[(15,250)],false⟩,
 ⟨219,.skip,[],[.val (cG)],[BT0],[],[],0,[],false⟩,
 ⟨218,.skip,[],[.val (BT8),.val (bT),.val (BT0)],[cG],[],[],0,[],false⟩,
 ⟨220,.skip,[],[.ref (f7) (f7) (dU) (dU),.val (bT),.val (BT0),.val (cG)],[],[(0,.box),(1,.box)],[],0,[],false⟩,
 ⟨221,.skip,[],[.val (BT8),.val (bT),.val (BT0)],[BT2],[],[],0,[],false⟩,
 ⟨222,.skip,[],[.val (bT)],[cG],[],[],0,[],false⟩,
 ⟨223,.skip,[],[.ptr (dU) (dU),.val (cG)],[cG],[(0,.box)],[],0,[],false⟩,
 ⟨224,.skip,[],[.ptr (dU) (dU),.val (cG),.val (cG)],[cG],[(0,.box)],[],0,[],false⟩,
 ⟨225,.skip,[],[.val (BT0),.val (BT0)],[cG],[],[(9,1)],0,[],false⟩,
 ⟨226,.skip,[],[.val (BT1)],[cG],[],[],0,[],false⟩,
 ⟨227,.skip,[],[.val (BT0),.val (dS)],[cG],[],[(20,1)],0,[],false⟩,
 ⟨228,.skip,[],[.val (bT),.val (cG),.val (cG)],[cG],[],[(23,1)],0,[],false⟩,
 ⟨189,.skip,[],[.val (dh)],[BT1],[],[],0,[],false⟩,
 ⟨157,.skip,[],[],[dC],[],[(1,1)],0,[],false⟩,
 ⟨79,.skip,[],[.val (dC),.val (BT0)],[BT1],[],[],0,[],false⟩,
 ⟨121,.skip,[],[.val (f8),.ptr (d5) (d5),.ptr (bT) (bT),.ptr (bT) (bT)],[BT1],[(16,.box),(32,.box),(48,.box)],[],0,[],false⟩,
 ⟨241,.skip,[],[.val (BT0),.val (BT0)],[BT0],[],[],0,[],false⟩,
 ⟨242,.skip,[],[.val (BT0),.val (bT)],[bT],[],[],0,[(28,268)],false⟩,
 ⟨243,.skip,[],[.val (BT0),.val (BT0)],[bT,BT1],[],[],0,[],false⟩,
 ⟨249,.skip,[],[.val (BT0),.val (dh)],[BT0],[],[],0,[(12,271)],false⟩,
 ⟨248,.skip,[],[.val (BT0),.val (dh)],[BT0],[],[],0,[(12,273)],false⟩,
 ⟨255,.skip,[],[.val (BT0),.val (BT0)],[bT],[],[],0,[],true⟩,
 ⟨231,.skip,[],[.val (bT)],[bT,BT1],[],[],0,[],false⟩,
 ⟨235,.skip,[],[.val (bT)],[BT0],[],[],0,[],true⟩,
 ⟨236,.skip,[],[.val (BT0),.val (BT0)],[BT0],[],[],0,[],false⟩,
 ⟨232,.skip,[],[.val (gF),.clo 233 [hY]],[bT],[(16,.box)],[],0,[(26,279)],false⟩,
 ⟨234,.skip,[],[.own (iM),.val (bT),.own (iM)],[iM],[],[],0,[],true⟩,
 ⟨232,.skip,[],[.val (gF),.clo 237 [bT,BT0]],[bT],[(16,.box),(17,.box)],[],0,[(26,282)],false⟩,
 ⟨238,.skip,[],[.val (BT0),.val (BT0),.val (bT),.val (bT)],[f9],[],[],0,[(31,284),(2044,285)],false⟩,
 ⟨118,.skip,[],[.val (dC),.clo 200 []],[bT],[],[],0,[(26,287)],false⟩,
 ⟨200,.skip,[],[.val (BT0)],[BT1],[],[],0,[],false⟩,
 ⟨229,.skip,[],[.ptr (fP) (fP)],[cL],[(0,.box)],[],0,[(28,290)],false⟩,
 ⟨230,.skip,[],[.val (dI)],[bT],[],[],0,[(58,292)],false⟩,
 ⟨240,.skip,[],[.val (dI)],[dA],[],[(9,1)],0,[],false⟩,
 ⟨239,.skip,[],[.val (dA),.val (BT0)],[bT,bT,BT1],[],[],0,[(58,295)],false⟩,
 ⟨244,.skip,[],[.val (bT),.val (bT)],[bT,BT1],[],[],0,[],false⟩,
 ⟨245,.skip,[],[.val (bT),.val (bT)],[bT,BT1],[],[],0,[],false⟩,
 ⟨246,.skip,[],[.val (bT),.val (bT)],[bT,BT1],[],[],0,[],false⟩,
 ⟨212,.skip,[],[.ptr (gE) (gE),.val (bT)],[cL],[(0,.box)],[],0,[(28,300)],false⟩,
 ⟨213,.skip,[],[.ptr (gE) (gE),.val (dh)],[BT1],[(0,.box)],[],0,[],false⟩,
 ⟨115,.skip,[],[.val (bT),.val (bT)],[bT],[],[],0,[],false⟩,
 ⟨261,.skip,[],[.val (bT)],[bT],[],[],0,[],false⟩,
 ⟨262,.skip,[],[.val (bT)],[BT0],[],[(12,1)],0,[(60,305)],false⟩,
 ⟨263,.skip,[],[.val (bT),.val (bT)],[bT,BT1],[],[],0,[],false⟩,
 ⟨264,.skip,[],[.val (bT),.val (bT)],[bT,BT1],[],[],0,[],false⟩,
 ⟨265,.skip,[],[.val (bT),.val (bT)],[bT,BT1],[],[],0,[],false⟩,
 ⟨266,.skip,[],[.val (bT),.val (bT)],[bT,BT1],[],[],0,[],false⟩,
 ⟨267,.skip,[],[.val (BT8),.val (bT),.val (BT0)],[bT],[],[],0,[(26,311)],false⟩,
 ⟨268,.skip,[],[.val (BT8),.val (bT),.val (BT0),.val (cG)],[BT2,BT1],[],[(61,1)],0,[(508,313)],false⟩,
 ⟨269,.skip,[],[.val (BT0)],[cG],[],[],0,[(7,315)],false⟩,
 ⟨270,.skip,[],[.val (dI),.val (BT0)],[BT1],[],[(10,1)],0,[],false⟩,
 ⟨271,.skip,[],[.val (BT1)],[bT],[],[],0,[],false⟩,
 ⟨272,.skip,[],[.val (BT0),.val (dS)],[cG],[],[],0,[],false⟩,
 ⟨273,.skip,[],[.val (cG),.val (cG)],[bT],[],[],0,[],false⟩,
 ⟨119,.skip,[],[.val (dC),.val (BT0)],[bT],[],[],0,[(26,321)],false⟩,
 ⟨122,.skip,[],[.val (f8),.val (bT),.val (bT),.val (bT)],[BT1],[],[(101,1)],0,[(983,323),(3935,324),(15743,325),(251903,326)],false⟩,
 ⟨285,.skip,[],[.val (BT0)],[bT,.hole 1],[],[(16,1)],0,[],false⟩,
 ⟨233,.skip,[],[.val (hY),.ptr (hY) (hY)],[BT1],[(16,.box)],[],0,[],false⟩,
 ⟨237,.skip,[],[.val (hY),.ptr (bT) (bT),.ptr (BT0) (BT0)],[BT1],[(16,.box),(32,.box)],[],0,[],false⟩,
 ⟨279,.skip,[],[.val (BT0),.val (bT)],[f9],[],[],0,[(15,331),(250,332)],false⟩,
 ⟨280,.skip,[],[.val (BT0),.val (BT0)],[bT],[],[],0,[(62,334)],false⟩,
 ⟨274,.skip,[],[.ptr (fP) (fP)],[cL],[(0,.box)],[],0,[(28,336)],false⟩,
 ⟨275,.skip,[],[.ptr (fP) (fP),.val (dh)],[BT1],[(0,.box)],[],0,[],false⟩,
 ⟨283,.skip,[],[.val (dI)],[BT1],[],[],0,[],false⟩,
 ⟨284,.skip,[],[.own (eH),.val (dI)],[eH],[],[(18,1),(24,1),(34,1),(40,1),(46,1),(73,1),(83,1),(105,1),(113,1)],0,[(966650,340),(15,341)],false⟩,
 ⟨281,.skip,[],[.val (dA)],[BT1],[],[],0,[(58,343)],false⟩,
 ⟨282,.skip,[],[.val (dA),.val (BT0),.val (bT)],[bT],[],[(22,1),(31,1),(66,1)],0,[(62,345),(995,346),(31866,347)],false⟩,
 ⟨287,.skip,[],[.val (bT)],[cA],[],[],0,[],false⟩,
 ⟨286,.skip,[],[.val (cA),.val (cA)],[cA,cA],[],[],0,[],false⟩,
 ⟨288,.skip,[],[.val (cA),.val (cA),.val (cA)],[cA,cA],[],[],0,[(7,351),(15,352),(131068,353),(65535,354),(2097148,355),(1048575,356)],false⟩,
 ⟨260,.skip,[],[.ptr (gE) (gE),.val (bT)],[cL],[(0,.box)],[],0,[(28,358),(907,359)],false⟩,
 ⟨296,.skip,[],[.val (bT)],[bT,BT1],[],[],0,[],false⟩,
 ⟨298,.skip,[],[.val (dI)],[dA],[],[(6,1),(10,1)],0,[],false⟩,
 ⟨297,.skip,[],[.val (dA),.val (BT0)],[bT,bT,BT1],[],[],0,[(26,363)],false⟩,
 ⟨299,.skip,[],[.val (bT)],[bT],[],[],0,[],false⟩,
 ⟨300,.skip,[],[.val (BT0),.val (BT0)],[bT],[],[],0,[(26,366)],false⟩,
 ⟨301,.skip,[],[.val (BT0),.val (dh),.val (dh)],[BT0],[],[],0,[(58,368)],false⟩,
 ⟨302,.skip,[],[.val (dS)],[BT0],[],[],0,[(63,370)],false⟩,
 ⟨154,.skip,[],[.val (bT)],[BT0,BT0],[],[(6,1)],0,[(63,372),(2007,373),(32127,374)],false⟩,
 ⟨156,.skip,[],[.val (BT0)],[BT1],[],[(7,1)],0,[],false⟩,
 ⟨315,.skip,[],[.val (BT0)],[bT,.hole 1],[],[],0,[(235,377),(3770,378)],false⟩,
 ⟨307,.skip,[],[.val (BT0)],[bT],[],[],0,[],false⟩,
 ⟨290,.skip,[],[.val (BT0)],[pz,bT],[],[],0,[],false⟩,
 ⟨308,.skip,[],[.val (BT0),.val (dh)],[bT],[],[],0,[],true⟩,
 ⟨303,.skip,[],[.ptr (fP) (fP)],[dh,BT1],[(0,.box)],[],0,[],false⟩,
 ⟨304,.skip,[],[.ptr (fP) (fP)],[cL],[(0,.box)],[],0,[(14,384)],false⟩,
 ⟨313,.skip,[],[.val (dI),.val (bT)],[BT1],[],[],0,[(31,386),(983,387),(15743,388)],false⟩,
 ⟨314,.skip,[],[.own (eH),.val (iP)],[eH],[],[(28,1),(35,1),(39,1)],0,[(58,390),(250,391)],false⟩,
 ⟨309,.skip,[],[.val (rY),.val (bT),.val (BT1)],[BT1],[],[],0,[(7551,393)],false⟩,
 ⟨310,.skip,[],[.val (dA),.val (dB),.val (BT1),.val (BT1)],[dB],[],[],0,[(250,395),(506,396),(4051,397)],false⟩,
 ⟨311,.skip,[],[.val (dB),.val (bT)],[BT1],[],[],0,[],false⟩,
 ⟨312,.skip,[],[.val (rY),.val (dh)],[BT1],[],[],0,[],false⟩,
 ⟨317,.skip,[],[.val (cA)],[bT],[],[],0,[],false⟩,
 ⟨295,.skip,[],[.ptr (gE) (gE),.val (bT)],[cL],[(0,.box)],[],0,[(63,402)],false⟩,
 ⟨323,.skip,[],[.val (dI)],[BT1],[],[],0,[],false⟩,
 ⟨325,.skip,[],[.own (eH),.val (dI)],[eH],[],[(18,1),(32,1),(76,1),(105,1)],0,[(966650,405),(15,406)],false⟩,
 ⟨324,.skip,[],[.own (eH),.val (bT)],[eH],[],[(8,1)],0,[],false⟩,
 ⟨322,.skip,[],[.val (dA),.val (BT0),.val (bT)],[bT],[],[(23,1),(30,1),(76,1),(85,1)],0,[(250,409),(8009,410),(256314,411)],false⟩,
 ⟨116,.skip,[],[.val (bT),.val (bT)],[bT],[],[],0,[],false⟩,
 ⟨340,.skip,[],[.val (BT0),.val (bT),.val (bT)],[bT,.hole 1],[],[],0,[(31,414),(511,415)],false⟩,
 ⟨318,.skip,[],[.val (BT0)],[pz,bT],[],[],0,[],false⟩,
 ⟨326,.skip,[],[.ptr (fP) (fP)],[cL],[(0,.box)],[],0,[(1007615,418)],false⟩,
 ⟨327,.skip,[],[.val (dh)],[bT],[],[],0,[],false⟩,
 ⟨338,.skip,[],[.val (iP),.clo 339 [bT]],[BT1],[(16,.box)],[],0,[],false⟩,
 ⟨337,.skip,[],[.val (dI)],[BT1],[],[],0,[(26,422)],false⟩,
 ⟨333,.skip,[],[.val (bT),.ptr (dA) (dA),.ptr (fx) (fx),.ptr (ew) (ew)],[],[(16,.box),(32,.box),(48,.box)],[(22,1)],0,[],false⟩,
 ⟨334,.skip,[],[.io (ew)],[],[],[],0,[],true⟩,
 ⟨335,.skip,[],[.val (dB),.val (bT)],[bT],[],[],0,[(26,426)],false⟩,
 ⟨336,.skip,[],[.val (BT0),.val (dh)],[bT],[],[],0,[],false⟩,
 ⟨345,.skip,[],[.val (cA)],[bT],[],[],0,[(7,429),(15,430)],false⟩,
 ⟨321,.skip,[],[.ptr (gE) (gE)],[cL],[(0,.box)],[(171,1)],0,[(15,432),(252,433),(32303,434),(255,435),(64607,436),(8186,437),(516858,438)],false⟩,
 ⟨350,.skip,[],[.val (dI)],[BT1],[],[],0,[(26,440),(3935,441),(15743,442)],false⟩,
 ⟨351,.skip,[],[.own (eH),.val (iP)],[eH],[],[(29,1)],0,[(58,444),(250,445)],false⟩,
 ⟨347,.skip,[],[.val (dA)],[BT1],[],[],0,[(58,447)],false⟩,
 ⟨348,.skip,[],[.val (dA),.val (dB),.val (BT1),.val (BT1)],[ew],[],[],0,[(58,449)],false⟩,
 ⟨349,.skip,[],[.val (rY),.val (dh)],[BT1],[],[],0,[],false⟩,
 ⟨360,.skip,[],[.val (BT0),.val (bT),.val (bT)],[cA,.hole 1],[],[],0,[(63,452),(127,453),(511,454),(32762,455),(8387175,456)],false⟩,
 ⟨352,.skip,[],[.ptr (fP) (fP)],[cL],[(0,.box)],[(111,1)],0,[(2042,458),(130707,459),(8186,460),(522830,461)],false⟩,
 ⟨359,.skip,[],[.val (iP),.clo 339 [bT]],[bT],[(16,.box)],[],0,[(26,463)],false⟩,
 ⟨256,.skip,[],[.val (BT0),.val (dh)],[bT],[],[],0,[],false⟩,
 ⟨367,.skip,[],[.val (BT0)],[BT1],[],[],0,[(26,466)],false⟩,
 ⟨363,.skip,[],[.val (rY),.val (bT)],[BT1],[],[],0,[(7,468),(15,469),(31,470),(63,471),(127,472)],false⟩,
 ⟨364,.skip,[],[.val (dA),.io (fx),.val (bT),.val (BT1),.val (BT1)],[],[(16,.reg)],[(57,1),(66,1),(74,1),(82,1)],0,[(6,474)],false⟩,
 ⟨365,.skip,[],[.val (px)],[ew],[],[(18,1)],0,[(58,476)],false⟩,
 ⟨366,.skip,[],[.val (BT0),.val (dh)],[BT1],[],[],0,[(26,478)],false⟩,
 ⟨380,.skip,[],[.val (dh)],[dh],[],[],0,[],false⟩,
 ⟨381,.skip,[],[.val (BT0)],[BT1],[],[],0,[(31,481),(127,482),(508,483)],false⟩,
 ⟨339,.skip,[],[.val (dI),.ptr (bT) (bT)],[BT1],[(16,.box)],[],0,[],false⟩,
 ⟨293,.skip,[],[.val (BT0),.val (dh)],[bT],[],[],0,[],true⟩]
def Cl:lR:=[((180,[]),167),((195,[]),223),((255,[]),274),((235,[]),276),((234,[]),280),((308,[]),381),((334,[]),424),((293,[]),485)]
def Ck:lR:=[((6,[]),0),((7,[]),1),((27,[]),2),((28,[]),3),((9,[]),4),((30,[]),5),((31,[]),6),((29,[]),7),((32,[]),8),((11,[]),9),((12,[]),10),((13,[]),11),((14,[]),12),((15,[]),13),((33,[]),14),((34,[]),16),((59,[]),18),((60,[]),19),((37,[]),20),((38,[]),22),((63,[]),24),((64,[]),25),((61,[]),27),((62,[]),29),((55,[]),30),((56,[]),31),((65,[]),32),((66,[]),33),((67,[]),34),((68,[]),35),((42,[]),36),((43,[]),37),((44,[]),39),((45,[]),41),((46,[]),43),((47,[]),45),((48,[]),47),((49,[]),48),((50,[]),50),((51,[]),51),((69,[]),53),((97,[]),54),((98,[]),56),((75,[]),58),((101,[]),59),((102,[]),61),((94,[]),63),((35,[]),64),((99,[]),67),((100,[]),70),((95,[]),71),((96,[]),73),((81,[]),75),((103,[]),76),((39,[]),77),((104,[]),78),((105,[106]),80),((107,[]),81),((108,[]),82),((109,[]),83),((83,[]),84),((82,[]),85),((84,[]),89),((85,[]),91),((86,[]),93),((58,[]),94),((87,[]),96),((88,[]),98),((89,[]),100),((90,[]),102),((135,[]),104),((136,[]),105),((139,[]),106),((140,[]),107),((70,[]),108),((71,[]),110),((72,[]),112),((137,[]),114),((138,[]),115),((133,[]),116),((134,[]),118),((113,[]),119),((114,[]),121),((123,[]),122),((124,[]),123),((76,[]),124),((77,[78]),126),((80,[]),127),((141,[142]),128),((143,[]),129),((144,[]),130),((145,[106]),131),((146,[]),133),((126,[]),134),((125,[]),137),((127,[]),138),((128,[]),140),((129,[]),141),((130,[]),142),((131,[]),143),((110,[]),144),((111,[]),145),((112,[]),146),((148,[]),151),((176,[]),152),((150,[]),154),((117,[]),157),((118,[78]),158),((120,[121]),160),((177,[142]),161),((155,[]),163),((178,[]),164),((179,[]),165),((106,[]),166),((158,[]),168),((159,[]),169),((162,[]),170),((161,[]),171),((160,[]),172),((163,[]),173),((164,[]),174),((165,[]),175),((166,[]),176),((167,[]),177),((169,[]),178),((168,[]),179),((170,[]),180),((172,[]),181),((171,[]),182),((173,[]),183),((174,[]),185),((175,[]),187),((147,[]),188),((149,[]),189),((208,[]),190),((183,[]),196),((184,[]),198),((185,[]),200),((186,[]),201),((187,[]),202),((188,[]),203),((151,[]),205),((152,[]),207),((78,[]),209),((153,[121]),210),((142,[]),212),((202,[]),213),((209,[]),216),((210,[]),217),((191,[]),218),((193,[]),219),((192,[]),221),((194,[]),222),((197,[]),224),((196,[]),225),((199,[]),226),((198,[200]),227),((190,[]),229),((201,[]),230),((203,[]),231),((204,[]),233),((205,[]),234),((207,[]),236),((206,[]),237),((181,[]),238),((182,[]),240),((247,[]),242),((214,[]),243),((215,[]),246),((217,[]),247),((216,[]),249),((219,[]),251),((218,[]),252),((220,[]),253),((221,[]),254),((222,[]),255),((223,[]),256),((224,[]),257),((225,[]),258),((226,[]),259),((227,[]),260),((228,[]),261),((189,[]),262),((157,[]),263),((79,[]),264),((121,[]),265),((241,[]),266),((242,[]),267),((243,[]),269),((249,[]),270),((248,[]),272),((231,[]),275),((236,[]),277),((232,[233]),278),((232,[237]),281),((238,[]),283),((118,[200]),286),((200,[]),288),((229,[]),289),((230,[]),291),((240,[]),293),((239,[]),294),((244,[]),296),((245,[]),297),((246,[]),298),((212,[]),299),((213,[]),301),((115,[]),302),((261,[]),303),((262,[]),304),((263,[]),306),((264,[]),307),((265,[]),308),((266,[]),309),((267,[]),310),((268,[]),312),((269,[]),314),((270,[]),316),((271,[]),317),((272,[]),318),((273,[]),319),((119,[]),320),((122,[]),322),((285,[]),327),((233,[]),328),((237,[]),329),((279,[]),330),((280,[]),333),((274,[]),335),((275,[]),337),((283,[]),338),((284,[]),339),((281,[]),342),((282,[]),344),((287,[]),348),((286,[]),349),((288,[]),350),((260,[]),357),((296,[]),360),((298,[]),361),((297,[]),362),((299,[]),364),((300,[]),365),((301,[]),367),((302,[]),369),((154,[]),371),((156,[]),375),((315,[]),376),((307,[]),379),((290,[]),380),((303,[]),382),((304,[]),383),((313,[]),385),((314,[]),389),((309,[]),392),((310,[]),394),((311,[]),398),((312,[]),399),((317,[]),400),((295,[]),401),((323,[]),403),((325,[]),404),((324,[]),407),((322,[]),408),((116,[]),412),((340,[]),413),((318,[]),416),((326,[]),417),((327,[]),419),((338,[339]),420),((337,[]),421),((333,[]),423),((335,[]),425),((336,[]),427),((345,[]),428),((321,[]),431),((350,[]),439),((351,[]),443),((347,[]),446),((348,[]),448),((349,[]),450),((360,[]),451),((352,[]),457),((359,[339]),462),((256,[]),464),((367,[]),465),((363,[]),467),((364,[]),473),((365,[]),475),((366,[]),477),((380,[]),479),((381,[]),480),((339,[]),484)]
def zN(e:Nat):EntI:=entR.getD e ⟨0,.skip,[],[],[],[],[],0,[],true⟩
def fq(k:Nat):KeyI:=keyL.getD k ⟨0,[false],[]⟩
noncomputable def tab:Tab where
 G:=gam
 ty:=mA tyL
 ifc:=ub EZ
 key k:=tD zN (fq k)
 ent k:=fill Tryz.prog (zN k)
 call:=tY (Cl++Ck)
 tabs := [("internal/bytealg.MaxLen", .i64, []), ("internal/strconv.uint64pow10", .u64, Go.Lib.pow10Tab)]
 ext k:=match k with
  | 167=>fun x=>if List.length (α:=Int) x.1<4294967281 then some (cE x.1 x.2.1,())else none
  | 223=>fun x=>nD (α:=bq) x.1 x.2.1 x.2.2.1
  | 274=>fun x=>some (du x.1 x.2.1,())
  | 276=>fun x=>some (jP x.1,())
  | 280=>fun x=>oa (α:=bq) x.1 x.2.1 x.2.2.1
  | 381=>fun x=>some (eh x.1 x.2.1,())
  | 424=>fun x=>if List.length (α:=Int) x.1≤room then some (dV x.1,())else none
  | 485=>fun x=>some (dw x.1 x.2.1,())
  | _=>fun _=>none
end Go.Proofs.YthgknhkeifcflaaGreatDoor.E.TD
