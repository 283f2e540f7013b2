/- The table of M: structs,types,entries,keys. No condition. -/
import Derived.Test.YtemajhlhgphhjaaGreatDoorEG4
import Derived.Test.YtemajhlhgphhjaaGreatDoorProg
import Derived.KernelRfl
namespace Go.Proofs.YtemajhlhgphhjaaGreatDoor.E.TM
open Go.Proofs.YtemajhlhgphhjaaGreatDoor.E
set_option linter.unusedVariables false
set_option maxRecDepth 100000
structure bE where
 Code:Int
 N:Int
 S:(_root_.List Int)
def de:bE:=⟨0,0,[]⟩
structure bG where
 Vars:(_root_.List (_root_.List Int))
 Cells:(_root_.List (_root_.List Int))
 Start:(_root_.List bE)
 Main:(_root_.List bE)
def gh:bG:=⟨[],[],[],[]⟩
structure bL where
 Kind:Int
 N:Int
 S:(_root_.List Int)
def cA:bL:=⟨0,0,[]⟩
structure bA where
 Name:Int
 Key:(_root_.List Int)
 Val:bL
def cy:bA:=⟨0,[],cA⟩
structure bJ where
 Vars:(_root_.List bL)
 Cells:(_root_.List bA)
 Nr:Int
 Err:Int
def cG:bJ:=⟨[],[],0,0⟩
structure bC where
 State:bJ
 Done:(_root_.List Int)
 Out:(_root_.List Int)
def cQ:bC:=⟨cG,[],[]⟩
structure bN where
 b:(_root_.List Int)
 at_:Int
 bad:Bool
def ZM:bN:=⟨[],0,false⟩
structure bR where
 b:(_root_.List Int)
 at_:Int
 ok:Bool
def ZQ:bR:=⟨[],0,false⟩
structure bS where
 b:(_root_.List Int)
 i:Int
 h:Int
def ZR:bS:=⟨[],0,0⟩
structure bB where
 Who:Int
 Seq:Int
 Line:(_root_.List Int)
def Fg:bB:=⟨0,0,[]⟩
structure bH where
 Op:Int
 C:Int
 Set:(_root_.List Int)
 Not:Bool
 Kids:(_root_.List bH)
def ch:bH:=⟨0,0,[],false,[]⟩
structure bD where
 Op:Int
 N:Int
 S:(_root_.List Int)
 Kids:(_root_.List bD)
def cS:bD:=⟨0,0,[],[]⟩
structure bK where
 Kind:Int
 Text:(_root_.List Int)
 N:Int
 At:Int
def ly:bK:=⟨0,[],0,0⟩
structure bU where
 list:(_root_.List bK)
 at_:Int
 bad:Int
 has:Bool
 kept:bD
def ZT:bU:=⟨[],0,0,false,cS⟩
structure bI where
 Kind:Int
 Pat:bD
 Body:bD
def ci:bI:=⟨0,cS,cS⟩
structure bP where
 vars:(_root_.List (_root_.List Int))
 cells:(_root_.List (_root_.List Int))
 out:(_root_.List bE)
def ZO:bP:=⟨[],[],[]⟩
structure bO where
 s:bJ
 vars:(_root_.List (_root_.List Int))
 cells:(_root_.List (_root_.List Int))
 line:(_root_.List Int)
 fields:(_root_.List (_root_.List Int))
 out:(_root_.List Int)
 fuel:Int
 done:Bool
def ZN:bO:=⟨cG,[],[],[],[],[],0,false⟩
structure bT where
 s:(_root_.List Int)
 at_:Int
 bad:Bool
def ZS:bT:=⟨[],0,false⟩
structure bM where
 s:(_root_.List Int)
 bad:Bool
def ZL:bM:=⟨[],false⟩
structure bQ where
 l:Unit
 stack:(_root_.List bL)
def ZP:bQ:=⟨(),[]⟩
structure bF where
 Op:Int
 C:Int
 Set:(_root_.List Int)
 Not:Bool
 A:Int
 B:Int
def cN:bF:=⟨0,0,[],false,0,0⟩
def gT:Nat→Type
 | 0=>bG
 | 1=>bE
 | 2=>bJ
 | 3=>bL
 | 4=>bA
 | 5=>bC
 | 6=>bN
 | 7=>bR
 | 8=>bS
 | 9=>bB
 | 10=>bH
 | 11=>bD
 | 12=>bU
 | 13=>bK
 | 14=>bI
 | 15=>bP
 | 16=>bO
 | 17=>bT
 | 18=>bM
 | 19=>bQ
 | 20=>bF
 | _=>Unit
def gfs:Nat→List FT
 | 0=>[(.sl .str),(.sl .str),(.sl (.nm 1)),(.sl (.nm 1))]
 | 1=>[(.int .i64),(.int .i64),.str]
 | 2=>[(.sl (.nm 3)),(.sl (.nm 4)),(.int .i64),(.int .i64)]
 | 3=>[(.int .i64),(.int .i64),.str]
 | 4=>[(.int .i64),.str,(.nm 3)]
 | 5=>[(.nm 2),(.sl (.int .i64)),.str]
 | 6=>[(.sl (.int .u8)),(.int .i64),.bool]
 | 7=>[(.sl (.int .u8)),(.int .i64),.bool]
 | 8=>[(.sl (.int .u8)),(.int .i64),(.int .i64)]
 | 9=>[(.int .i64),(.int .i64),.str]
 | 10=>[(.int .i64),(.int .i64),.str,.bool,(.sl (.nm 10))]
 | 11=>[(.int .i64),(.int .i64),.str,(.sl (.nm 11))]
 | 12=>[(.sl (.nm 13)),(.int .i64),(.int .i64),.bool,(.nm 11)]
 | 13=>[(.int .i64),.str,(.int .i64),(.int .i64)]
 | 14=>[(.int .i64),(.nm 11),(.nm 11)]
 | 15=>[(.sl .str),(.sl .str),(.sl (.nm 1))]
 | 16=>[(.nm 2),(.sl .str),(.sl .str),.str,(.sl .str),.str,(.int .i64),.bool]
 | 17=>[.str,(.int .i64),.bool]
 | 18=>[.str,.bool]
 | 19=>[.ptr,(.sl (.nm 3))]
 | 20=>[(.int .i64),(.int .i64),.str,.bool,(.int .i64),(.int .i64)]
 | _=>[]
def gun:∀ n,gT n→Js gT (gfs n)
 | 0,x=>(x.Vars,(x.Cells,(x.Start,(x.Main,()))))
 | 1,x=>(x.Code,(x.N,(x.S,())))
 | 2,x=>(x.Vars,(x.Cells,(x.Nr,(x.Err,()))))
 | 3,x=>(x.Kind,(x.N,(x.S,())))
 | 4,x=>(x.Name,(x.Key,(x.Val,())))
 | 5,x=>(x.State,(x.Done,(x.Out,())))
 | 6,x=>(x.b,(x.at_,(x.bad,())))
 | 7,x=>(x.b,(x.at_,(x.ok,())))
 | 8,x=>(x.b,(x.i,(x.h,())))
 | 9,x=>(x.Who,(x.Seq,(x.Line,())))
 | 10,x=>(x.Op,(x.C,(x.Set,(x.Not,(x.Kids,())))))
 | 11,x=>(x.Op,(x.N,(x.S,(x.Kids,()))))
 | 12,x=>(x.list,(x.at_,(x.bad,(x.has,(x.kept,())))))
 | 13,x=>(x.Kind,(x.Text,(x.N,(x.At,()))))
 | 14,x=>(x.Kind,(x.Pat,(x.Body,())))
 | 15,x=>(x.vars,(x.cells,(x.out,())))
 | 16,x=>(x.s,(x.vars,(x.cells,(x.line,(x.fields,(x.out,(x.fuel,(x.done,()))))))))
 | 17,x=>(x.s,(x.at_,(x.bad,())))
 | 18,x=>(x.s,(x.bad,()))
 | 19,x=>(x.l,(x.stack,()))
 | 20,x=>(x.Op,(x.C,(x.Set,(x.Not,(x.A,(x.B,()))))))
 | (n+21),_=>()
def gpk:∀ n,Js gT (gfs n)→gT n
 | 0,y=>⟨y.1,y.2.1,y.2.2.1,y.2.2.2.1⟩
 | 1,y=>⟨y.1,y.2.1,y.2.2.1⟩
 | 2,y=>⟨y.1,y.2.1,y.2.2.1,y.2.2.2.1⟩
 | 3,y=>⟨y.1,y.2.1,y.2.2.1⟩
 | 4,y=>⟨y.1,y.2.1,y.2.2.1⟩
 | 5,y=>⟨y.1,y.2.1,y.2.2.1⟩
 | 6,y=>⟨y.1,y.2.1,y.2.2.1⟩
 | 7,y=>⟨y.1,y.2.1,y.2.2.1⟩
 | 8,y=>⟨y.1,y.2.1,y.2.2.1⟩
 | 9,y=>⟨y.1,y.2.1,y.2.2.1⟩
 | 10,y=>⟨y.1,y.2.1,y.2.2.1,y.2.2.2.1,y.2.2.2.2.1⟩
 | 11,y=>⟨y.1,y.2.1,y.2.2.1,y.2.2.2.1⟩
 | 12,y=>⟨y.1,y.2.1,y.2.2.1,y.2.2.2.1,y.2.2.2.2.1⟩
 | 13,y=>⟨y.1,y.2.1,y.2.2.1,y.2.2.2.1⟩
 | 14,y=>⟨y.1,y.2.1,y.2.2.1⟩
 | 15,y=>⟨y.1,y.2.1,y.2.2.1⟩
 | 16,y=>⟨y.1,y.2.1,y.2.2.1,y.2.2.2.1,y.2.2.2.2.1,y.2.2.2.2.2.1,y.2.2.2.2.2.2.1,y.2.2.2.2.2.2.2.1⟩
 | 17,y=>⟨y.1,y.2.1,y.2.2.1⟩
 | 18,y=>⟨y.1,y.2.1⟩
 | 19,y=>⟨y.1,y.2.1⟩
 | 20,y=>⟨y.1,y.2.1,y.2.2.1,y.2.2.2.1,y.2.2.2.2.1,y.2.2.2.2.2.1⟩
 | (n+21),_=>()
theorem OS:∀ n y,gun n (gpk n y)=y
 | 0,_=>rfl
 | 1,_=>rfl
 | 2,_=>rfl
 | 3,_=>rfl
 | 4,_=>rfl
 | 5,_=>rfl
 | 6,_=>rfl
 | 7,_=>rfl
 | 8,_=>rfl
 | 9,_=>rfl
 | 10,_=>rfl
 | 11,_=>rfl
 | 12,_=>rfl
 | 13,_=>rfl
 | 14,_=>rfl
 | 15,_=>rfl
 | 16,_=>rfl
 | 17,_=>rfl
 | 18,_=>rfl
 | 19,_=>rfl
 | 20,_=>rfl
 | (n+21),_=>rfl
theorem OQ:∀ n x,gpk n (gun n x)=x
 | 0,x=>by cases x;rfl
 | 1,x=>by cases x;rfl
 | 2,x=>by cases x;rfl
 | 3,x=>by cases x;rfl
 | 4,x=>by cases x;rfl
 | 5,x=>by cases x;rfl
 | 6,x=>by cases x;rfl
 | 7,x=>by cases x;rfl
 | 8,x=>by cases x;rfl
 | 9,x=>by cases x;rfl
 | 10,x=>by cases x;rfl
 | 11,x=>by cases x;rfl
 | 12,x=>by cases x;rfl
 | 13,x=>by cases x;rfl
 | 14,x=>by cases x;rfl
 | 15,x=>by cases x;rfl
 | 16,x=>by cases x;rfl
 | 17,x=>by cases x;rfl
 | 18,x=>by cases x;rfl
 | 19,x=>by cases x;rfl
 | 20,x=>by cases x;rfl
 | (n+21),_=>rfl
def gz:∀ n,gT n
 | 0=>gh
 | 1=>de
 | 2=>cG
 | 3=>cA
 | 4=>cy
 | 5=>cQ
 | 6=>ZM
 | 7=>ZQ
 | 8=>ZR
 | 9=>Fg
 | 10=>ch
 | 11=>cS
 | 12=>ZT
 | 13=>ly
 | 14=>ci
 | 15=>ZO
 | 16=>ZN
 | 17=>ZS
 | 18=>ZL
 | 19=>ZP
 | 20=>cN
 | (n+21)=>()
theorem OT:∀ n,gun n (gz n)=iH gz (gfs n)
 | 0=>rfl
 | 1=>rfl
 | 2=>rfl
 | 3=>rfl
 | 4=>rfl
 | 5=>rfl
 | 6=>rfl
 | 7=>rfl
 | 8=>rfl
 | 9=>rfl
 | 10=>rfl
 | 11=>rfl
 | 12=>rfl
 | 13=>rfl
 | 14=>rfl
 | 15=>rfl
 | 16=>rfl
 | 17=>rfl
 | 18=>rfl
 | 19=>rfl
 | 20=>rfl
 | (n+21)=>rfl
def gsz:Nat→Nat
 | 0=>4
 | 1=>3
 | 2=>4
 | 3=>3
 | 4=>5
 | 5=>6
 | 6=>3
 | 7=>3
 | 8=>3
 | 9=>3
 | 10=>5
 | 11=>4
 | 12=>8
 | 13=>4
 | 14=>9
 | 15=>3
 | 16=>11
 | 17=>3
 | 18=>2
 | 19=>2
 | 20=>6
 | _=>0
theorem OR:∀ n,gsz n=FT.szs gsz (gfs n)
 | 0=>rfl
 | 1=>rfl
 | 2=>rfl
 | 3=>rfl
 | 4=>rfl
 | 5=>rfl
 | 6=>rfl
 | 7=>rfl
 | 8=>rfl
 | 9=>rfl
 | 10=>rfl
 | 11=>rfl
 | 12=>rfl
 | 13=>rfl
 | 14=>rfl
 | 15=>rfl
 | 16=>rfl
 | 17=>rfl
 | 18=>rfl
 | 19=>rfl
 | 20=>rfl
 | (n+21)=>rfl
def gfl:Nat→Bool
 | 0=>false
 | 1=>true
 | 2=>false
 | 3=>true
 | 4=>true
 | 5=>false
 | 6=>false
 | 7=>false
 | 8=>false
 | 9=>true
 | 10=>false
 | 11=>false
 | 12=>false
 | 13=>true
 | 14=>false
 | 15=>false
 | 16=>false
 | 17=>true
 | 18=>true
 | 19=>false
 | 20=>true
 | _=>true
theorem OP:∀ n,gfl n=true→FT.flats gfl (gfs n)=true
 | 0,h=>by cases h
 | 1,h=>rfl
 | 2,h=>by cases h
 | 3,h=>rfl
 | 4,h=>rfl
 | 5,h=>by cases h
 | 6,h=>by cases h
 | 7,h=>by cases h
 | 8,h=>by cases h
 | 9,h=>rfl
 | 10,h=>by cases h
 | 11,h=>by cases h
 | 12,h=>by cases h
 | 13,h=>rfl
 | 14,h=>by cases h
 | 15,h=>by cases h
 | 16,h=>by cases h
 | 17,h=>rfl
 | 18,h=>rfl
 | 19,h=>by cases h
 | 20,h=>rfl
 | (n+21),_=>rfl
def gam:Gam:=⟨gT,gfs,gun,gpk,OS,OQ,gz,OT,gsz,OR,gfl,OP⟩
def tyL:List (Nat×FT):=[(2,(.int .i64)),(3,(.int .i64)),(4,.bool),(5,(.int .u8)),(6,(.int .u8)),(9,.str),(21,(.int .i32)),(22,(.sl (.int .u8))),(24,(.sl .str)),(25,(.sl (.nm 1))),(27,(.nm 0)),(28,(.sl (.nm 3))),(29,(.sl (.nm 4))),(31,(.nm 2)),(32,(.sl (.int .i64))),(34,(.nm 5)),(49,(.nm 3)),(52,(.nm 4)),(62,(.nm 6)),(71,(.nm 7)),(78,(.nm 8)),(79,(.int .u64)),(95,(.sl (.nm 9))),(108,(.nm 1)),(124,(.nm 9)),(139,(.sl (.nm 14))),(153,(.sl (.nm 10))),(155,(.nm 10)),(166,(.sl (.nm 13))),(170,(.sl (.nm 11))),(172,(.nm 11)),(174,(.nm 12)),(176,(.nm 13)),(179,(.nm 14)),(187,(.nm 15)),(190,.ptr),(192,(.nm 16)),(199,(.nm 17)),(204,(.nm 18)),(225,(.nm 19)),(244,(.int .i64)),(272,(.int .u64)),(280,(.sl (.sl .str))),(281,(.sl (.sl (.int .i64)))),(287,(.sl .bool)),(295,(.sl (.nm 20))),(313,(.nm 20))]
def Ib:List Nat:=[207]
def He:List Nat:=[]
abbrev BT0:BT:=.leaf false .str
abbrev BT1:BT:=.leaf false .bool
abbrev BT2:BT:=.leaf true (.nm 5)
abbrev BT3:BT:=.leaf true (.nm 0)
abbrev BT4:BT:=.leaf true (.nm 2)
abbrev BT5:BT:=.leaf true (.nm 3)
abbrev BT6:BT:=.leaf true (.nm 1)
abbrev BT7:BT:=.leaf false (.nm 5)
abbrev BT8:BT:=.leaf false (.nm 0)
abbrev BT9:BT:=.leaf false (.nm 6)
abbrev cH:BT:=.leaf false (.nm 8)
abbrev dQ:BT:=.leaf false (.nm 2)
abbrev gj:BT:=.leaf false (.nm 7)
abbrev qS:BT:=.leaf true (.nm 16)
abbrev gk:BT:=.leaf true (.nm 19)
abbrev gE:BT:=.leaf true (.nm 17)
abbrev cW:BT:=.leaf true (.nm 10)
abbrev kc:BT:=.leaf true (.nm 18)
abbrev qT:BT:=.leaf true (.nm 20)
abbrev dk:BT:=.leaf false (.nm 3)
abbrev uT:BT:=.leaf false (.nm 4)
abbrev uU:BT:=.leaf false (.nm 9)
abbrev lB:BT:=.leaf false (.nm 1)
abbrev cD:BT:=.leaf false (.nm 11)
abbrev fM:BT:=.leaf false (.nm 10)
abbrev cM:BT:=.leaf false (.nm 12)
abbrev gF:BT:=.leaf false (.nm 17)
abbrev fN:BT:=.leaf false (.nm 18)
abbrev eB:BT:=.leaf true (.sl .str)
abbrev dr:BT:=.leaf false (.sl .str)
abbrev dM:BT:=.leaf false (.int .u8)
abbrev iI:BT:=.leaf true (.sl .bool)
abbrev bV:BT:=.leaf false (.int .i64)
abbrev jn:BT:=.leaf false (.int .u64)
abbrev oN:BT:=.leaf false (.sl .bool)
abbrev uV:BT:=.leaf false (.int .i32)
abbrev Fj:BT:=.leaf true (.sl (.nm 1))
abbrev iJ:BT:=.leaf false (.sl (.nm 3))
abbrev fq:BT:=.leaf false (.sl (.nm 1))
abbrev uW:BT:=.leaf false (.sl (.nm 9))
abbrev qU:BT:=.leaf true (.sl (.nm 10))
abbrev iK:BT:=.leaf true (.sl (.nm 20))
abbrev fO:BT:=.leaf false (.sl (.nm 14))
abbrev qV:BT:=.leaf false (.sl (.nm 13))
abbrev uX:BT:=.leaf false (.sl (.nm 10))
abbrev gm:BT:=.leaf false (.sl (.nm 20))
abbrev fc:BT:=.leaf true (.sl (.int .u8))
abbrev dl:BT:=.leaf false (.sl (.int .u8))
abbrev lC:BT:=.leaf true (.sl (.int .i64))
abbrev uY:BT:=.leaf false (.sl (.sl .str))
abbrev fy:BT:=.leaf false (.sl (.int .i64))
abbrev uZ:BT:=.leaf false (.sl (.sl (.int .i64)))
abbrev Fl:BT:=.pr (.leaf false .str) (.pr (.leaf false (.int .i64)) (.pr (.leaf false .bool) (.un)))
abbrev dG:BT:=.pr (.leaf false (.sl .str)) (.pr (.leaf false (.sl .str)) (.pr (.leaf true (.sl (.nm 1))) (.un)))
abbrev kd:BT:=.pr (.leaf false (.int .i64)) (.pr (.leaf false (.int .i64)) (.pr (.leaf false .str) (.pr (.sp (.nm 11)) (.un))))
abbrev dX:BT:=.pr (.leaf true (.nm 2)) (.pr (.leaf true (.sl .str)) (.pr (.leaf true (.sl .str)) (.pr (.leaf false .str) (.pr (.leaf true (.sl .str)) (.pr (.leaf false .str) (.pr (.leaf false (.int .i64)) (.pr (.leaf false .bool) (.un))))))))
def keyL:List KeyI:=[
 ⟨0,[],[]⟩,
 ⟨0,[true,true,true,true,true,true],[.val 0 (dl)]⟩,
 ⟨1,[],[]⟩,
 ⟨2,[],[]⟩,
 ⟨3,[],[]⟩,
 ⟨3,[true,true,true,false,true,false],[.ptr 3 48,.own 5 80 (fc),.val 23 (iJ),.val 24 (bV),.val 25 (bV),.slot 48 (BT7) true none]⟩,
 ⟨3,[true,true,true,true,true,false,true,false],[.ptr 3 48,.own 5 80 (fc),.val 42 (.leaf false (.sl (.nm 4))),.val 43 (bV),.val 44 (bV),.slot 48 (BT7) true none]⟩,
 ⟨3,[true,true,true,true,true,true,true,true,false,true,false],[.ptr 3 48,.own 5 80 (fc),.val 76 (fy),.val 77 (bV),.val 78 (bV),.slot 48 (BT7) true none]⟩,
 ⟨4,[],[]⟩,
 ⟨5,[],[]⟩,
 ⟨6,[],[]⟩,
 ⟨6,[true,true,true,false,true,false],[.ptr 2 32,.ptr 4 64,.ptr 6 176,.ptr 7 112,.val 1 (dl),.val 14 (bV),.val 15 (bV),.slot 32 (BT8) true none,.slot 64 (BT2) true none,.slot 112 (BT2) true none,.slot 176 (BT9) true none]⟩,
 ⟨6,[true,true,true,true,false,true,false],[.ptr 2 32,.ptr 4 64,.ptr 6 176,.ptr 7 112,.val 1 (dl),.val 28 (bV),.val 29 (bV),.slot 32 (BT8) true none,.slot 64 (BT2) true none,.slot 112 (BT2) true none,.slot 176 (BT9) true none]⟩,
 ⟨6,[true,true,true,true,true,true,true,false,true,false],[.ptr 2 32,.ptr 4 64,.ptr 6 176,.ptr 7 112,.val 1 (dl),.val 57 (bV),.slot 32 (BT8) true none,.slot 64 (BT2) true none,.slot 112 (BT2) true none,.slot 176 (BT9) true none]⟩,
 ⟨7,[],[]⟩,
 ⟨8,[],[]⟩,
 ⟨9,[],[]⟩,
 ⟨10,[],[]⟩,
 ⟨10,[true,true,false,true,false],[.val 0 (dl),.val 3 (bV),.val 4 (bV)]⟩,
 ⟨11,[],[]⟩,
 ⟨11,[true,true,true],[.ptr 2 32,.ptr 3 48,.ptr 4 64,.ptr 5 80,.slot 0 (cH) true none,.slot 32 (BT3) true none,.slot 48 (BT2) true none,.slot 64 (BT8) true none,.slot 80 (.pr (dQ) (.pr (lC) (.pr (BT0) (.un)))) true none]⟩,
 ⟨11,[true,true,false,true,false,true,true,true,true,true,true,true,false,false],[.ptr 0 0,.ptr 2 32,.ptr 3 48,.ptr 4 64,.ptr 5 80,.slot 0 (cH) true none,.slot 32 (BT3) true none,.slot 48 (BT2) true none,.slot 64 (BT8) true none,.slot 80 (BT2) true none]⟩,
 ⟨12,[],[]⟩,
 ⟨12,[true,true,true,false,false],[.val 0 (bV),.own 3 48 (fc)]⟩,
 ⟨13,[],[]⟩,
 ⟨14,[],[]⟩,
 ⟨15,[],[]⟩,
 ⟨15,[true,false,true,false],[.ptr 2 32,.ptr 3 48,.val 5 (bV),.slot 32 (BT8) true none,.slot 48 (BT7) true none]⟩,
 ⟨16,[],[]⟩,
 ⟨16,[true,true,true,false,true,false],[.ptr 1 16,.ptr 3 48,.own 4 64 (fc),.val 5 (bV),.slot 16 (BT7) true none,.slot 48 (dQ) true none]⟩,
 ⟨16,[true,true,true,true,true,false,true,false],[.ptr 1 16,.ptr 3 48,.own 4 64 (fc),.val 6 (bV),.slot 16 (BT7) true none,.slot 48 (dQ) true none]⟩,
 ⟨16,[true,true,true,true,true,true,true,true,false,true,false],[.ptr 1 16,.own 4 64 (fc),.val 7 (bV),.slot 16 (BT7) true none]⟩,
 ⟨17,[],[]⟩,
 ⟨18,[],[]⟩,
 ⟨18,[true,true,false,true,false],[.ptr 3 48,.val 2 (bV),.val 38 (.leaf false (.sl (.nm 4))),.val 39 (bV),.val 40 (bV),.slot 48 (dQ) true none]⟩,
 ⟨19,[],[]⟩,
 ⟨20,[],[]⟩,
 ⟨21,[],[]⟩,
 ⟨22,[],[]⟩,
 ⟨23,[],[]⟩,
 ⟨23,[true,true,false,true,false],[.ptr 2 32,.ptr 3 48,.val 5 (bV),.slot 32 (dQ) true none,.slot 48 (dQ) true none]⟩,
 ⟨23,[true,true,true,false,true,false],[.ptr 2 32,.ptr 3 48,.val 6 (bV),.slot 32 (dQ) true none,.slot 48 (dQ) true none]⟩,
 ⟨24,[],[]⟩,
 ⟨24,[true,true,false,true,false],[.val 0 (fy),.val 1 (fy),.val 5 (bV)]⟩,
 ⟨25,[],[]⟩,
 ⟨26,[],[]⟩,
 ⟨27,[],[]⟩,
 ⟨27,[true,true,true,false,true,false],[.ptr 0 0,.ptr 2 32,.ptr 3 48,.val 4 (bV),.val 5 (bV),.slot 0 (gj) true none,.slot 32 (BT2) true none,.slot 48 (BT2) true none]⟩,
 ⟨27,[true,true,true,true,true,false,true,false],[.ptr 0 0,.ptr 2 32,.ptr 3 48,.val 4 (bV),.val 7 (bV),.slot 0 (gj) true none,.slot 32 (BT2) true none,.slot 48 (BT2) true none]⟩,
 ⟨27,[true,true,true,true,true,true,true,true,false,true,false],[.ptr 0 0,.ptr 2 32,.ptr 3 48,.val 9 (bV),.slot 0 (gj) true none,.slot 32 (BT2) true none,.slot 48 (BT2) true none]⟩,
 ⟨28,[],[]⟩,
 ⟨29,[],[]⟩,
 ⟨29,[true,true,true],[.ptr 6 96,.ptr 7 112,.slot 0 (cH) true none,.slot 96 (BT4) true none,.slot 112 (BT4) true none]⟩,
 ⟨29,[true,true,false,true,false,true,true,true,true,true,true,true,true,true,false,false],[.ptr 0 0,.ptr 6 96,.ptr 7 112,.slot 0 (cH) true none,.slot 96 (BT4) true none,.slot 112 (BT4) true none]⟩,
 ⟨30,[],[]⟩,
 ⟨31,[],[]⟩,
 ⟨31,[true,true,true],[.ptr 2 32,.ptr 3 48,.slot 0 (cH) true none,.slot 32 (BT3) true none,.slot 48 (.pr (eB) (.pr (eB) (.pr (Fj) (.pr (fq) (.un))))) true none]⟩,
 ⟨32,[],[]⟩,
 ⟨33,[],[]⟩,
 ⟨34,[],[]⟩,
 ⟨35,[],[]⟩,
 ⟨35,[true,false,true,false],[.ptr 1 16,.val 3 (bV),.slot 16 (BT8) true none]⟩,
 ⟨35,[true,true,false,true,false],[.ptr 1 16,.val 4 (bV),.slot 16 (BT8) true none]⟩,
 ⟨36,[],[]⟩,
 ⟨36,[true,false,true,false],[.ptr 3 48,.val 1 (bV),.val 2 (bV),.val 7 (bV),.slot 48 (dQ) true none]⟩,
 ⟨36,[true,true,false,true,false],[.ptr 3 48,.val 1 (bV),.val 2 (bV),.val 8 (bV),.slot 48 (dQ) true none]⟩,
 ⟨37,[],[]⟩,
 ⟨37,[true,true,true,false,false],[.val 0 (bV),.own 3 48 (fc)]⟩,
 ⟨38,[],[]⟩,
 ⟨39,[],[]⟩,
 ⟨40,[],[]⟩,
 ⟨40,[true,false,true,false],[.val 0 (dr),.val 5 (dr),.val 6 (bV),.val 7 (bV)]⟩,
 ⟨41,[],[]⟩,
 ⟨42,[],[]⟩,
 ⟨43,[],[]⟩,
 ⟨44,[],[]⟩,
 ⟨45,[],[]⟩,
 ⟨46,[],[]⟩,
 ⟨46,[true,false,true,false],[.clo 1 23 [],.val 0 (fy),.val 7 (bV),.val 8 (bV)]⟩,
 ⟨47,[],[]⟩,
 ⟨47,[true,true,true,false,true,false],[.val 0 (dl),.val 1 (bV),.val 7 (bV),.val 8 (bV)]⟩,
 ⟨48,[],[]⟩,
 ⟨48,[true,true,true,true],[.val 8 (bV),.val 9 (BT1),.val 10 (bV)]⟩,
 ⟨49,[],[]⟩,
 ⟨50,[],[]⟩,
 ⟨51,[],[]⟩,
 ⟨51,[true,true,true,false,true,false],[.ptr 0 0,.own 5 80 (.leaf true (.sl (.nm 9))),.val 6 (bV),.val 7 (bV),.slot 0 (cH) true none]⟩,
 ⟨52,[],[]⟩,
 ⟨52,[true,true,true,false,true,false],[.ptr 2 32,.ptr 4 64,.ptr 5 80,.val 1 (uW),.val 6 (bV),.slot 32 (BT8) true none,.slot 64 (BT2) true none,.slot 80 (BT2) true none]⟩,
 ⟨53,[],[]⟩,
 ⟨54,[],[]⟩,
 ⟨55,[],[]⟩,
 ⟨56,[],[]⟩,
 ⟨57,[],[]⟩,
 ⟨57,[true,true,false,true,false],[.ptr 0 0,.ptr 6 96,.ptr 7 112,.val 2 (bV),.val 8 (bV),.slot 0 (cH) true none,.slot 96 (BT4) true none,.slot 112 (BT4) true none]⟩,
 ⟨57,[true,true,true,false,true,false],[.ptr 0 0,.ptr 6 96,.ptr 7 112,.val 2 (bV),.val 9 (bV),.slot 0 (cH) true none,.slot 96 (BT4) true none,.slot 112 (BT4) true none]⟩,
 ⟨58,[],[]⟩,
 ⟨59,[],[]⟩,
 ⟨60,[],[]⟩,
 ⟨60,[true,true,true,false,false],[.val 0 (bV),.val 3 (BT0)]⟩,
 ⟨61,[],[]⟩,
 ⟨61,[true,true,true,true,true],[.val 5 (fq),.val 6 (bV),.val 7 (bV),.slot 0 (cH) true none]⟩,
 ⟨62,[],[]⟩,
 ⟨63,[],[]⟩,
 ⟨63,[true,false,true,false],[.val 0 (BT0),.val 3 (bV)]⟩,
 ⟨64,[],[]⟩,
 ⟨64,[true,false,true,false],[.val 0 (dr),.val 1 (BT0),.val 5 (bV)]⟩,
 ⟨65,[],[]⟩,
 ⟨65,[true,true,true,false,true,false],[.val 0 (fq),.val 1 (bV),.val 2 (bV),.val 7 (bV),.val 8 (bV)]⟩,
 ⟨66,[],[]⟩,
 ⟨67,[],[]⟩,
 ⟨68,[],[]⟩,
 ⟨69,[],[]⟩,
 ⟨70,[],[]⟩,
 ⟨70,[true,false,true,false],[.clo 1 46 [16],.val 0 (dr),.val 7 (bV),.val 8 (bV),.slot 16 (BT8) true none]⟩,
 ⟨71,[],[]⟩,
 ⟨72,[],[]⟩,
 ⟨72,[true,false,true,false],[.clo 1 50 [],.val 0 (iJ),.val 7 (bV),.val 8 (bV)]⟩,
 ⟨73,[],[]⟩,
 ⟨74,[],[]⟩,
 ⟨75,[],[]⟩,
 ⟨76,[],[]⟩,
 ⟨77,[],[]⟩,
 ⟨78,[],[]⟩,
 ⟨79,[],[]⟩,
 ⟨80,[],[]⟩,
 ⟨81,[],[]⟩,
 ⟨82,[],[]⟩,
 ⟨83,[],[]⟩,
 ⟨83,[true,true,false,true,false],[.val 0 (dl),.val 1 (bV),.val 7 (bV),.val 8 (bV)]⟩,
 ⟨84,[],[]⟩,
 ⟨85,[],[]⟩,
 ⟨86,[],[]⟩,
 ⟨87,[],[]⟩,
 ⟨88,[],[]⟩,
 ⟨88,[true,true,true,true,true,true,false,false],[.ptr 4 64,.ptr 7 112,.ptr 8 128,.ptr 10 160,.val 1 (bV),.val 2 (BT0),.val 11 (bV),.slot 64 (dQ) true none,.slot 112 (BT5) true none,.slot 128 (BT4) true none,.slot 160 (BT4) true none]⟩,
 ⟨89,[],[]⟩,
 ⟨90,[],[]⟩,
 ⟨91,[],[]⟩,
 ⟨92,[],[]⟩,
 ⟨93,[],[]⟩,
 ⟨93,[true,false,true,false,true,true,true,true,true],[.ptr 4 64,.val 1 (bV),.val 2 (bV),.val 3 (bV),.val 12 (bV),.val 28 (BT1),.slot 64 (BT6) true none]⟩,
 ⟨93,[true,false,true,false,true,true,true,true,true,true,true],[.ptr 4 64,.val 1 (bV),.val 3 (bV),.val 12 (bV),.val 46 (BT1),.slot 64 (BT6) true none]⟩,
 ⟨93,[true,false,true,false,true,true,true,true,true,true,true,true,true],[.ptr 4 64,.val 1 (bV),.val 12 (bV),.val 65 (BT1),.slot 64 (BT6) true none]⟩,
 ⟨93,[true,false,true,false,true,true,true,true,true,true,true,true,true,true,true,true,true],[.ptr 4 64,.val 1 (bV),.val 12 (bV),.val 91 (BT1),.slot 64 (BT6) true none]⟩,
 ⟨94,[],[]⟩,
 ⟨95,[],[]⟩,
 ⟨95,[true,true,true,false,false],[.val 0 (BT0),.val 4 (bV),.val 5 (bV)]⟩,
 ⟨96,[],[]⟩,
 ⟨96,[true,true,false,false],[.val 0 (BT0),.val 1 (bV),.val 5 (bV)]⟩,
 ⟨97,[],[]⟩,
 ⟨97,[true,false,true,false,true],[.val 0 (BT0),.val 4 (BT1)]⟩,
 ⟨98,[],[]⟩,
 ⟨99,[],[]⟩,
 ⟨99,[true,false,true,false],[.clo 1 80 [16,17,18],.val 0 (fq),.val 7 (bV),.val 8 (bV),.slot 16 (fq) true none,.slot 17 (.leaf true (.int .i64)) true none,.slot 18 (.leaf true (.int .i64)) true none]⟩,
 ⟨100,[],[]⟩,
 ⟨101,[],[]⟩,
 ⟨101,[true,true,true,true],[.val 0 (BT0),.val 4 (bV),.val 5 (BT1)]⟩,
 ⟨101,[true,true,true,true,true,true,true,true,true],[.val 4 (bV),.val 5 (BT1),.val 7 (BT0),.val 8 (BT0)]⟩,
 ⟨102,[],[]⟩,
 ⟨103,[],[]⟩,
 ⟨104,[],[]⟩,
 ⟨105,[],[]⟩,
 ⟨105,[true,true,true,true,true,true,true,false,false],[.ptr 7 368,.val 4 (fO),.own 8 128 (.sp (.nm 14)),.val 9 (bV),.slot 368 (.pr (qV) (.pr (bV) (.pr (bV) (.pr (BT1) (.pr (cD) (.un)))))) true none]⟩,
 ⟨106,[],[]⟩,
 ⟨106,[true,true,true,true,true,true,false,true,false],[.frz 5 336 (eB),.frz 6 337 (eB),.ptr 2 32,.ptr 7 432,.ptr 8 496,.val 0 (fO),.val 9 (bV),.slot 32 (BT3) true none,.slot 432 (dG) true none,.slot 496 (dG) true none]⟩,
 ⟨107,[],[]⟩,
 ⟨108,[],[]⟩,
 ⟨108,[true,true,false,true,false],[.ptr 0 0,.val 3 (BT0),.val 4 (bV),.slot 0 (cH) true none]⟩,
 ⟨109,[],[]⟩,
 ⟨110,[],[]⟩,
 ⟨110,[true,false,true,false],[.val 0 (BT0),.val 3 (bV)]⟩,
 ⟨111,[],[]⟩,
 ⟨112,[],[]⟩,
 ⟨112,[true,true,true,true],[.ptr 3 48,.ptr 4 64,.ptr 6 96,.ptr 8 272,.slot 48 (BT8) true none,.slot 64 (dQ) true none,.slot 96 (BT4) true none,.slot 272 (qS) true none]⟩,
 ⟨113,[],[]⟩,
 ⟨113,[true,true,true,true,true],[.val 8 (bV),.val 10 (bV)]⟩,
 ⟨114,[],[]⟩,
 ⟨115,[],[]⟩,
 ⟨116,[],[]⟩,
 ⟨117,[],[]⟩,
 ⟨117,[true,true],[.ptr 2 32,.val 0 (BT0),.slot 32 (BT5) true none]⟩,
 ⟨118,[],[]⟩,
 ⟨119,[],[]⟩,
 ⟨119,[true,false,true,false],[.ptr 3 48,.val 1 (bV),.val 2 (BT0),.val 7 (bV),.slot 48 (dQ) true none]⟩,
 ⟨120,[],[]⟩,
 ⟨121,[],[]⟩,
 ⟨122,[],[]⟩,
 ⟨123,[],[]⟩,
 ⟨123,[true,true,false,false],[.val 0 (BT0),.val 4 (bV)]⟩,
 ⟨123,[true,true,true,true,true],[.val 0 (BT0),.val 4 (bV),.val 5 (BT1)]⟩,
 ⟨123,[true,true,true,true,true,true,false,false],[.val 0 (BT0),.val 4 (bV),.val 5 (BT1),.val 6 (bV),.val 7 (bV)]⟩,
 ⟨123,[true,true,true,true,true,true,true,false,true,false,true,true,false],[.val 0 (BT0),.val 4 (bV),.val 5 (BT1),.val 6 (bV),.val 7 (bV),.val 8 (bV)]⟩,
 ⟨123,[true,true,true,true,true,true,true,true],[.val 4 (bV),.val 5 (BT1),.val 6 (bV),.val 7 (bV)]⟩,
 ⟨124,[],[]⟩,
 ⟨125,[],[]⟩,
 ⟨126,[],[]⟩,
 ⟨127,[],[]⟩,
 ⟨128,[],[]⟩,
 ⟨129,[],[]⟩,
 ⟨129,[true,true,false,false],[.val 0 (BT0),.val 1 (bV),.val 5 (bV)]⟩,
 ⟨130,[],[]⟩,
 ⟨131,[],[]⟩,
 ⟨131,[true,false,false],[.val 0 (BT0),.val 1 (dM)]⟩,
 ⟨132,[],[]⟩,
 ⟨132,[true,false,false],[.val 0 (BT0),.val 1 (dM)]⟩,
 ⟨133,[],[]⟩,
 ⟨134,[],[]⟩,
 ⟨134,[true,true,true,true,false,false],[.val 0 (BT0),.own 4 64 (.leaf true (.sl (.nm 13))),.val 5 (bV)]⟩,
 ⟨134,[true,true,true,true,false,false,false,true,false,true,false,true,false,false,false],[.val 0 (BT0),.own 4 64 (.leaf true (.sl (.nm 13))),.val 5 (bV)]⟩,
 ⟨135,[],[]⟩,
 ⟨136,[],[]⟩,
 ⟨137,[],[]⟩,
 ⟨137,[true,true,false,true,false],[.ptr 1 16,.val 3 (bV),.val 4 (bV),.slot 16 (cD) true none]⟩,
 ⟨138,[],[]⟩,
 ⟨138,[true,true,false,true,false],[.val 0 (fO),.val 3 (bV)]⟩,
 ⟨138,[true,true,true,true,true,false,true,false],[.val 0 (fO),.val 4 (dr),.val 5 (dr),.val 6 (bV)]⟩,
 ⟨138,[true,true,true,true,true,true,false,true,false],[.val 0 (fO),.val 7 (bV)]⟩,
 ⟨138,[true,true,true,true,true,true,true,false,true,false],[.val 0 (fO),.val 8 (bV)]⟩,
 ⟨139,[],[]⟩,
 ⟨139,[true,true,false,true,false],[.val 0 (fO),.own 4 64 (eB),.own 5 80 (eB),.val 6 (bV)]⟩,
 ⟨140,[],[]⟩,
 ⟨140,[true,true,false],[.ptr 0 0,.ptr 3 48,.val 4 (bV),.slot 0 (dG) true none,.slot 48 (cD) true none]⟩,
 ⟨141,[],[]⟩,
 ⟨141,[true,true,false,true],[.ptr 0 0,.ptr 3 48,.val 6 (bV),.val 24 (BT1),.slot 0 (dG) true none,.slot 48 (cD) true none]⟩,
 ⟨141,[true,true,false,true,true,true,true,true,true,true,true,false,true,false],[.ptr 0 0,.ptr 3 48,.val 4 (bV),.slot 0 (dG) true none,.slot 48 (cD) true none]⟩,
 ⟨142,[],[]⟩,
 ⟨143,[],[]⟩,
 ⟨143,[true,true,true,false],[.ptr 0 0,.ptr 4 176,.wrd 176 0,.val 1 (fq),.val 5 (bV),.val 6 (bV),.slot 0 (qS) true none,.slot 176 (gk) true none]⟩,
 ⟨144,[],[]⟩,
 ⟨145,[],[]⟩,
 ⟨145,[true,true,true,false,true,false],[.val 0 (BT0),.own 3 48 (eB),.val 4 (bV),.val 5 (bV)]⟩,
 ⟨146,[],[]⟩,
 ⟨147,[],[]⟩,
 ⟨147,[true,true,false,false],[.ptr 0 0,.ptr 4 64,.val 1 (bV),.own 5 80 (qU),.slot 0 (gE) true none,.slot 64 (cW) true none]⟩,
 ⟨148,[],[]⟩,
 ⟨148,[true,true,false,true,false],[.ptr 1 16,.val 3 (bV),.val 4 (bV),.slot 16 (fM) true none]⟩,
 ⟨149,[],[]⟩,
 ⟨150,[],[]⟩,
 ⟨150,[true,false,true,false],[.val 0 (dr),.val 1 (BT0),.val 7 (bV),.val 8 (bV)]⟩,
 ⟨151,[],[]⟩,
 ⟨151,[true,true,true,false,true,false,true,true,true],[.ptr 4 64,.val 1 (bV),.val 2 (bV),.val 3 (bV),.val 56 (bV),.val 62 (BT1),.slot 64 (BT6) true none]⟩,
 ⟨151,[true,true,true,false,true,false,true,true,true,true,true],[.ptr 4 64,.val 1 (bV),.val 3 (bV),.val 56 (bV),.val 75 (BT1),.slot 64 (BT6) true none]⟩,
 ⟨151,[true,true,true,false,true,false,true,true,true,true,true,true,true],[.ptr 4 64,.val 1 (bV),.val 56 (bV),.val 89 (BT1),.slot 64 (BT6) true none]⟩,
 ⟨151,[true,true,true,false,true,false,true,true,true,true,true,true,true,true,true,true,true],[.ptr 4 64,.val 1 (bV),.val 56 (bV),.val 106 (BT1),.slot 64 (BT6) true none]⟩,
 ⟨152,[],[]⟩,
 ⟨153,[],[]⟩,
 ⟨154,[],[]⟩,
 ⟨154,[true,true,false,false,true,false,true,false,false],[.ptr 6 96,.val 0 (BT0),.val 1 (bV),.val 10 (bV),.slot 96 (.leaf true (.nm 13)) true none]⟩,
 ⟨155,[],[]⟩,
 ⟨156,[],[]⟩,
 ⟨157,[],[]⟩,
 ⟨157,[true,true,true,false,false],[.ptr 0 0,.ptr 2 32,.ptr 3 48,.slot 0 (cM) true none,.slot 32 (kd) true none,.slot 48 (kd) true none]⟩,
 ⟨158,[],[]⟩,
 ⟨159,[],[]⟩,
 ⟨159,[true,true,false,true,false,true,true,true],[.ptr 0 0,.ptr 2 32,.ptr 4 64,.val 5 (bV),.slot 0 (cM) true none,.slot 32 (kd) true none,.slot 64 (cD) true none]⟩,
 ⟨160,[],[]⟩,
 ⟨161,[],[]⟩,
 ⟨161,[true,false,true,false],[.val 0 (fO),.val 3 (bV)]⟩,
 ⟨162,[],[]⟩,
 ⟨162,[true,true,false,true,false],[.ptr 1 16,.val 3 (bV),.slot 16 (cD) true none]⟩,
 ⟨163,[],[]⟩,
 ⟨163,[true,true,true],[.ptr 1 16,.val 3 (bV),.slot 16 (cD) true none]⟩,
 ⟨163,[true,true,true,false,true,false],[.ptr 1 16,.val 3 (bV),.val 4 (bV),.slot 16 (cD) true none]⟩,
 ⟨164,[],[]⟩,
 ⟨164,[true,true,true,false,true,false],[.ptr 1 16,.val 5 (bV),.slot 16 (cD) true none]⟩,
 ⟨165,[],[]⟩,
 ⟨165,[true,true],[.ptr 3 48,.own 1 720 (eB),.own 2 736 (eB),.slot 48 (cD) true none]⟩,
 ⟨165,[true,true,false,true,false],[.ptr 3 48,.own 1 720 (eB),.own 2 736 (eB),.val 8 (bV),.slot 48 (cD) true none]⟩,
 ⟨166,[],[]⟩,
 ⟨167,[],[]⟩,
 ⟨168,[],[]⟩,
 ⟨169,[],[]⟩,
 ⟨170,[],[]⟩,
 ⟨171,[],[]⟩,
 ⟨171,[true,true,true,true,true,true],[.wrd 0 1,.val 2 (bV),.slot 0 (.pr (.leaf false .ptr) (.pr (.leaf true (.sl (.nm 3))) (.un))) true none,.slot 1 (dX) true none]⟩,
 ⟨171,[true,true,true,true,true,false,true,false,true,true,true,true,true,true,true,true,true,true,true,true,true],[.ptr 0 0,.ptr 4 64,.wrd 0 1,.val 2 (bV),.val 9 (iJ),.val 93 (BT1),.slot 0 (gk) true none,.slot 1 (qS) true none,.slot 64 (BT6) true none]⟩,
 ⟨172,[],[]⟩,
 ⟨172,[true,true,false,false],[.ptr 0 0,.ptr 4 64,.val 1 (bV),.own 5 80 (qU),.slot 0 (gE) true none,.slot 64 (cW) true none]⟩,
 ⟨173,[],[]⟩,
 ⟨174,[],[]⟩,
 ⟨174,[true,true,true,true,true],[.val 0 (bV),.val 4 (dr),.val 5 (BT0)]⟩,
 ⟨174,[true,true,true,true,false,true,false,true,true,true],[.val 0 (bV),.val 4 (dr),.val 5 (BT0),.val 13 (bV),.val 16 (BT1)]⟩,
 ⟨174,[true,true,true,true,false,true,false,true,true,true,true,true,true,true],[.val 0 (bV),.val 4 (dr),.val 5 (BT0),.val 22 (BT1)]⟩,
 ⟨175,[],[]⟩,
 ⟨176,[],[]⟩,
 ⟨176,[true,true,false,true,false,true,true],[.val 0 (BT0),.val 5 (BT0)]⟩,
 ⟨176,[true,true,false,true,false,true,true,true,false,true,false],[.val 5 (BT0),.val 6 (bV),.val 47 (dl),.val 48 (bV),.val 49 (bV)]⟩,
 ⟨177,[],[]⟩,
 ⟨177,[true,true,false,false],[.val 0 (BT0),.val 1 (bV),.val 7 (bV)]⟩,
 ⟨177,[true,true,true,false,true,false,true,true,false,false],[.val 0 (BT0),.val 1 (bV),.val 7 (bV),.val 8 (bV)]⟩,
 ⟨177,[true,true,true,true],[.val 0 (BT0),.val 1 (bV),.val 7 (bV)]⟩,
 ⟨178,[],[]⟩,
 ⟨178,[true,true,false,true,false],[.val 0 (BT0),.own 7 112 (fc),.val 8 (bV)]⟩,
 ⟨179,[],[]⟩,
 ⟨180,[],[]⟩,
 ⟨180,[true,true,false,true,false],[.val 0 (BT0),.own 7 112 (fc),.val 8 (bV)]⟩,
 ⟨181,[],[]⟩,
 ⟨181,[true,true,false,true,false],[.val 0 (BT0),.val 1 (bV),.val 5 (dr),.val 6 (bV)]⟩,
 ⟨182,[],[]⟩,
 ⟨183,[],[]⟩,
 ⟨184,[],[]⟩,
 ⟨185,[],[]⟩,
 ⟨186,[],[]⟩,
 ⟨186,[true,true,false,true,false,true,true,true,true,true,true,true],[.ptr 1 16,.val 23 (bV),.val 44 (BT1),.slot 16 (cD) true none]⟩,
 ⟨187,[],[]⟩,
 ⟨188,[],[]⟩,
 ⟨188,[true,true,true,false,false],[.val 0 (dr),.val 1 (BT0),.val 5 (bV)]⟩,
 ⟨189,[],[]⟩,
 ⟨189,[true,true],[.ptr 0 0,.ptr 3 48,.slot 0 (dG) true none,.slot 48 (cD) true none]⟩,
 ⟨189,[true,true,false,true,false],[.ptr 0 0,.ptr 3 48,.val 4 (bV),.slot 0 (dG) true none,.slot 48 (cD) true none]⟩,
 ⟨190,[],[]⟩,
 ⟨191,[],[]⟩,
 ⟨192,[],[]⟩,
 ⟨192,[true,false,true,false],[.val 0 (dr),.val 1 (BT0),.val 5 (bV)]⟩,
 ⟨193,[],[]⟩,
 ⟨194,[],[]⟩,
 ⟨194,[true,false,true,false,true],[.ptr 1 16,.val 4 (bV),.val 5 (BT1),.slot 16 (BT6) true none]⟩,
 ⟨195,[],[]⟩,
 ⟨195,[true,false,true,false,true],[.ptr 1 16,.val 4 (bV),.val 5 (BT1),.slot 16 (BT5) true none]⟩,
 ⟨196,[],[]⟩,
 ⟨197,[],[]⟩,
 ⟨198,[],[]⟩,
 ⟨199,[],[]⟩,
 ⟨199,[true,true,true,true],[.ptr 0 0,.ptr 6 1,.ptr 7 112,.wrd 0 1,.slot 0 (gk) true none,.slot 1 (dX) true none,.slot 112 (BT5) true none]⟩,
 ⟨200,[],[]⟩,
 ⟨200,[true,true,false,false],[.ptr 0 0,.ptr 4 64,.ptr 5 80,.slot 0 (gE) true none,.slot 64 (cW) true none,.slot 80 (cW) true none]⟩,
 ⟨200,[true,true,false,false,false,true,false,true,true],[.ptr 0 0,.ptr 4 64,.ptr 5 80,.val 6 (bV),.slot 0 (gE) true none,.slot 64 (cW) true none,.slot 80 (cW) true none]⟩,
 ⟨201,[],[]⟩,
 ⟨202,[],[]⟩,
 ⟨202,[true,true,true,true],[.val 0 (BT0),.val 1 (bV),.val 2 (bV),.val 8 (BT1)]⟩,
 ⟨202,[true,true,true,true,true,true,true,true],[.val 2 (bV),.val 8 (BT1),.val 9 (jn)]⟩,
 ⟨203,[],[]⟩,
 ⟨204,[],[]⟩,
 ⟨205,[],[]⟩,
 ⟨205,[true,false,false,true,false,true,true,false,false],[.ptr 0 0,.ptr 2 32,.ptr 3 48,.slot 0 (cM) true none,.slot 32 (kd) true none,.slot 48 (kd) true none]⟩,
 ⟨206,[],[]⟩,
 ⟨206,[true,true,false,false],[.ptr 0 0,.val 1 (BT0),.own 5 80 (.sp (.nm 11)),.slot 0 (cM) true none]⟩,
 ⟨207,[],[]⟩,
 ⟨208,[],[]⟩,
 ⟨208,[true,true,true,false,true,false],[.ptr 0 0,.ptr 2 32,.ptr 4 64,.val 3 (dr),.val 5 (bV),.slot 0 (cM) true none,.slot 32 (kd) true none,.slot 64 (cD) true none]⟩,
 ⟨209,[],[]⟩,
 ⟨209,[true,true,false,false],[.ptr 0 0,.ptr 2 32,.ptr 3 48,.slot 0 (cM) true none,.slot 32 (kd) true none,.slot 48 (cD) true none]⟩,
 ⟨210,[],[]⟩,
 ⟨211,[],[]⟩,
 ⟨211,[true,true,true,true,false,false],[.ptr 0 0,.ptr 4 64,.ptr 7 112,.val 1 (bV),.val 5 (uY),.val 6 (uZ),.slot 0 (cM) true none,.slot 64 (cD) true none,.slot 112 (cD) true none]⟩,
 ⟨211,[true,true,true,true,false,false,false,true,false,true,false,false],[.ptr 0 0,.ptr 4 64,.ptr 7 112,.val 1 (bV),.val 5 (uY),.val 6 (uZ),.val 8 (bV),.slot 0 (cM) true none,.slot 64 (cD) true none,.slot 112 (cD) true none]⟩,
 ⟨211,[true,true,true,true,false,false,false,true,false,true,true,true,true,true,true],[.ptr 0 0,.ptr 4 64,.ptr 7 112,.val 1 (bV),.val 5 (uY),.val 6 (uZ),.val 8 (bV),.slot 0 (cM) true none,.slot 64 (cD) true none,.slot 112 (cD) true none]⟩,
 ⟨212,[],[]⟩,
 ⟨212,[true,true,false,true,false,true],[.ptr 1 16,.val 3 (bV),.val 9 (bV),.val 10 (BT1),.slot 16 (cD) true none]⟩,
 ⟨212,[true,true,false,true,false,true,true,true],[.ptr 1 16,.val 3 (bV),.val 9 (bV),.val 23 (BT1),.slot 16 (cD) true none]⟩,
 ⟨212,[true,true,false,true,false,true,true,true,true,true],[.ptr 1 16,.val 3 (bV),.val 9 (bV),.val 45 (BT1),.slot 16 (cD) true none]⟩,
 ⟨212,[true,true,false,true,false,true,true,true,true,true,true,true],[.ptr 1 16,.val 3 (bV),.val 9 (bV),.val 70 (BT1),.slot 16 (cD) true none]⟩,
 ⟨212,[true,true,false,true,false,true,true,true,true,true,true,true,true,true,true,true,true,true,false,false,true,false],[.ptr 1 16,.val 3 (bV),.val 4 (bV),.slot 16 (cD) true none]⟩,
 ⟨213,[],[]⟩,
 ⟨213,[true,false,true,false],[.val 0 (BT0),.val 3 (bV)]⟩,
 ⟨214,[],[]⟩,
 ⟨214,[true,true,true,true,true,false,true,false,true,false,false],[.val 0 (bV),.val 4 (BT0),.val 6 (BT0)]⟩,
 ⟨214,[true,true,true,true,true,true],[.val 0 (bV),.val 4 (BT0)]⟩,
 ⟨215,[],[]⟩,
 ⟨216,[],[]⟩,
 ⟨216,[true,false,true,false,true],[.ptr 1 16,.val 6 (bV),.val 7 (BT1),.slot 16 (BT5) true none]⟩,
 ⟨217,[],[]⟩,
 ⟨217,[true,true,true],[.ptr 0 0,.ptr 8 128,.val 9 (bV),.val 10 (BT1),.slot 0 (qS) true none,.slot 128 (BT5) true none]⟩,
 ⟨218,[],[]⟩,
 ⟨219,[],[]⟩,
 ⟨220,[],[]⟩,
 ⟨221,[],[]⟩,
 ⟨222,[],[]⟩,
 ⟨223,[],[]⟩,
 ⟨224,[],[]⟩,
 ⟨225,[],[]⟩,
 ⟨226,[],[]⟩,
 ⟨227,[],[]⟩,
 ⟨228,[],[]⟩,
 ⟨229,[],[]⟩,
 ⟨229,[true,true,true,true,true],[.ptr 4 64,.val 5 (dM),.slot 0 (gE) true none,.slot 64 (cW) true none]⟩,
 ⟨230,[],[]⟩,
 ⟨230,[true,true,false,false],[.ptr 0 0,.ptr 2 32,.own 3 48 (qU),.slot 0 (kc) true none,.slot 32 (cW) true none]⟩,
 ⟨231,[],[]⟩,
 ⟨231,[true,true,false,true,false],[.val 3 (bV),.val 7 (uX),.val 8 (bV),.val 9 (bV)]⟩,
 ⟨232,[],[]⟩,
 ⟨232,[true,true,true,true,true],[.val 0 (BT0),.val 1 (bV),.val 2 (bV),.val 8 (BT1),.val 9 (BT0)]⟩,
 ⟨232,[true,true,true,true,true,true],[.val 0 (BT0),.val 1 (bV),.val 2 (bV),.val 8 (BT1),.val 9 (BT0)]⟩,
 ⟨232,[true,true,true,true,true,true,true,true],[.val 0 (BT0),.val 1 (bV),.val 2 (bV),.val 8 (BT1),.val 9 (BT0),.val 10 (jn)]⟩,
 ⟨232,[true,true,true,true,true,true,true,true,true,true,true,false,true,false],[.val 1 (bV),.val 8 (BT1),.val 9 (BT0),.val 10 (jn),.val 11 (jn),.val 12 (BT1),.val 13 (jn),.val 99 (dl),.val 100 (bV),.val 101 (bV)]⟩,
 ⟨232,[true,true,true,true,true,true,true,true,true,true,true,false,true,false,false,true,true,false,false,true,true,true],[.val 1 (bV),.val 8 (BT1),.val 9 (BT0),.val 10 (jn),.val 11 (jn),.val 12 (BT1),.val 13 (jn),.val 16 (dM),.val 99 (dl),.val 100 (bV),.val 101 (bV)]⟩,
 ⟨233,[],[]⟩,
 ⟨233,[true,true,true,false,true,false,true],[.ptr 3 48,.val 12 (bV),.val 13 (BT1),.slot 0 (cM) true none,.slot 48 (.leaf true (.nm 13)) true none]⟩,
 ⟨234,[],[]⟩,
 ⟨235,[],[]⟩,
 ⟨235,[true,false,true,false],[.ptr 3 48,.val 2 (bV),.val 7 (bV),.slot 48 (cD) true none]⟩,
 ⟨236,[],[]⟩,
 ⟨236,[true,false,true,false],[.ptr 2 32,.val 5 (bV),.slot 32 (cD) true none]⟩,
 ⟨237,[],[]⟩,
 ⟨238,[],[]⟩,
 ⟨239,[],[]⟩,
 ⟨240,[],[]⟩,
 ⟨241,[],[]⟩,
 ⟨242,[],[]⟩,
 ⟨243,[],[]⟩,
 ⟨244,[],[]⟩,
 ⟨245,[],[]⟩,
 ⟨245,[true,true,true],[.ptr 0 0,.ptr 2 32,.ptr 3 48,.slot 0 (gE) true none,.slot 32 (cW) true none,.slot 48 (cW) true none]⟩,
 ⟨245,[true,true,true,true,true,false,false],[.ptr 0 0,.ptr 2 32,.ptr 3 48,.own 4 64 (iI),.val 5 (bV),.slot 0 (gE) true none,.slot 32 (cW) true none,.slot 48 (cW) true none]⟩,
 ⟨245,[true,true,true,true,true,false,false,false,true,false,true,true,true,true],[.ptr 0 0,.ptr 2 32,.ptr 3 48,.own 4 64 (iI),.val 5 (bV),.val 6 (bV),.val 7 (bV),.slot 0 (gE) true none,.slot 32 (cW) true none,.slot 48 (cW) true none]⟩,
 ⟨245,[true,true,true,true,true,true,true],[.ptr 0 0,.ptr 2 32,.ptr 3 48,.val 4 (oN),.slot 0 (gE) true none,.slot 32 (cW) true none,.slot 48 (cW) true none]⟩,
 ⟨245,[true,true,true,true,true,false,false,false,true,false,true,true,true,true,true],[.ptr 0 0,.ptr 2 32,.ptr 3 48,.own 4 64 (iI),.val 5 (bV),.val 6 (bV),.val 7 (bV),.slot 0 (gE) true none,.slot 32 (cW) true none,.slot 48 (cW) true none]⟩,
 ⟨245,[true,true,true,true,true,true,true,true,true,false,true,false],[.ptr 2 32,.ptr 3 48,.val 4 (oN),.own 9 144 (fc),.val 10 (bV),.slot 0 (gE) true none,.slot 32 (cW) true none,.slot 48 (cW) true none]⟩,
 ⟨245,[true,true,true,true,true,false,false,false,true,false,true,true,true,true,true,false,true,false],[.ptr 0 0,.ptr 2 32,.ptr 3 48,.own 4 64 (iI),.val 5 (bV),.val 7 (bV),.val 8 (bV),.slot 0 (gE) true none,.slot 32 (cW) true none,.slot 48 (cW) true none]⟩,
 ⟨246,[],[]⟩,
 ⟨246,[true,true,false,false],[.ptr 0 0,.ptr 2 32,.own 3 48 (qU),.slot 0 (kc) true none,.slot 32 (cW) true none]⟩,
 ⟨247,[],[]⟩,
 ⟨248,[],[]⟩,
 ⟨249,[],[]⟩,
 ⟨249,[true,true,true,true],[.val 0 (BT0),.val 3 (uV),.val 4 (bV)]⟩,
 ⟨249,[true,true,true,true,true,true],[.val 0 (BT0),.val 3 (uV),.val 4 (bV),.val 5 (BT1)]⟩,
 ⟨249,[true,true,true,true,true,true,false,false],[.val 0 (BT0),.val 3 (uV),.val 4 (bV),.val 5 (BT1)]⟩,
 ⟨250,[],[]⟩,
 ⟨251,[],[]⟩,
 ⟨252,[],[]⟩,
 ⟨252,[true,false,true,false],[.val 0 (gm),.val 1 (BT0),.val 7 (bV)]⟩,
 ⟨253,[],[]⟩,
 ⟨254,[],[]⟩,
 ⟨254,[true,false,true,false],[.val 0 (BT0),.val 1 (BT0),.val 5 (bV)]⟩,
 ⟨255,[],[]⟩,
 ⟨255,[true,true,false,true,false],[.val 1 (dM),.val 2 (dM),.own 7 112 (fc),.val 8 (bV)]⟩,
 ⟨256,[],[]⟩,
 ⟨256,[true,true,true,true,true],[.val 3 (BT0),.val 4 (bV),.val 5 (bV)]⟩,
 ⟨257,[],[]⟩,
 ⟨258,[],[]⟩,
 ⟨258,[true,true,false],[.ptr 0 0,.ptr 2 32,.ptr 3 48,.slot 0 (kc) true none,.slot 32 (cW) true none,.slot 48 (cW) true none]⟩,
 ⟨259,[],[]⟩,
 ⟨260,[],[]⟩,
 ⟨260,[true,true,false,true,false,true,true,true,true,true,true,true,true,true,true,true,false,true,false],[.ptr 3 48,.own 0 2064 (iK),.val 6 (bV),.slot 48 (fM) true none]⟩,
 ⟨260,[true,true,true],[.own 0 2064 (iK)]⟩,
 ⟨261,[],[]⟩,
 ⟨262,[],[]⟩,
 ⟨262,[true,true,true,true,false,true,false],[.val 0 (gm),.val 1 (BT0),.val 7 (fy),.val 8 (bV),.val 9 (bV)]⟩,
 ⟨262,[true,true,true,true,false,true,false,false,true,false,false,true],[.val 0 (gm),.val 1 (BT0),.val 7 (fy),.val 8 (bV),.val 9 (bV)]⟩,
 ⟨262,[true,true,true,true,false,true,false,false,true,false,false,true,true,true,false,true,false],[.val 0 (gm),.val 1 (BT0),.val 7 (fy),.val 8 (bV),.val 9 (bV),.own 10 160 (lC),.val 11 (bV)]⟩,
 ⟨263,[],[]⟩,
 ⟨263,[true,true,true,false,true,false,true,true,true,true,true,true,true,true,true,true,true,true,true],[.ptr 0 0,.ptr 2 32,.val 3 (dM),.val 70 (BT1),.slot 0 (kc) true none,.slot 32 (cW) true none]⟩,
 ⟨264,[],[]⟩,
 ⟨265,[],[]⟩,
 ⟨265,[true,false,true,false],[.ptr 1 16,.val 3 (bV),.slot 16 (fM) true none]⟩,
 ⟨265,[true,true,true,false,true,false,true,true,true,true,true],[.ptr 1 16,.val 4 (bV),.val 23 (bV),.val 62 (BT1),.slot 16 (fM) true none]⟩,
 ⟨265,[true,true,true,false,true,false,true,true,true,true,true,true,true],[.ptr 1 16,.val 4 (bV),.val 82 (BT1),.slot 16 (fM) true none]⟩,
 ⟨266,[],[]⟩,
 ⟨266,[true,true,false,true,false],[.own 0 1104 (iK),.val 1 (uX),.own 5 80 (lC),.val 6 (bV)]⟩,
 ⟨266,[true,true,true,true,false,true,false],[.own 0 1104 (iK),.val 5 (fy),.val 8 (bV)]⟩,
 ⟨267,[],[]⟩,
 ⟨267,[true,true,false,true,false],[.val 0 (gm),.val 3 (bV),.val 4 (bV)]⟩,
 ⟨268,[],[]⟩,
 ⟨268,[true,true,false,true,false],[.val 0 (gm),.val 1 (fy),.val 2 (BT1),.val 3 (BT1),.own 9 144 (iI),.val 10 (bV)]⟩,
 ⟨269,[],[]⟩,
 ⟨270,[],[]⟩,
 ⟨270,[true,true,true,true,true,true,true,false,true,false],[.ptr 0 0,.ptr 2 32,.ptr 3 48,.val 5 (BT0),.own 6 96 (iI),.val 7 (bV),.slot 0 (kc) true none,.slot 32 (cW) true none,.slot 48 (cW) true none]⟩,
 ⟨270,[true,true,true,true,true,true,true,false,true,false,false,true,false,false,true,true],[.ptr 0 0,.ptr 2 32,.ptr 3 48,.val 5 (BT0),.own 6 96 (iI),.val 7 (bV),.val 8 (bV),.val 9 (bV),.slot 0 (kc) true none,.slot 32 (cW) true none,.slot 48 (cW) true none]⟩,
 ⟨270,[true,true,true,true,true,true,true,true,true,false,true,false],[.ptr 2 32,.ptr 3 48,.own 11 176 (fc),.val 100 (oN),.val 101 (bV),.val 102 (bV),.slot 0 (kc) true none,.slot 32 (cW) true none,.slot 48 (cW) true none]⟩,
 ⟨270,[true,true,true,true,true,true,true,false,true,false,false,true,false,false,true,true,true,false],[.ptr 0 0,.ptr 2 32,.ptr 3 48,.val 5 (BT0),.own 6 96 (iI),.val 7 (bV),.val 9 (bV),.val 10 (bV),.slot 0 (kc) true none,.slot 32 (cW) true none,.slot 48 (cW) true none]⟩,
 ⟨271,[],[]⟩,
 ⟨271,[true,false,true,false],[.val 0 (BT0),.val 3 (bV)]⟩,
 ⟨272,[],[]⟩,
 ⟨272,[true,true],[.ptr 2 32,.val 1 (bV),.val 5 (BT1),.slot 32 (qT) true none]⟩,
 ⟨272,[true,true,true],[.ptr 2 32,.val 1 (bV),.val 5 (BT1),.val 6 (BT1),.slot 32 (qT) true none]⟩,
 ⟨272,[true,true,true,true],[.ptr 2 32,.val 1 (bV),.val 5 (BT1),.val 6 (BT1),.val 7 (BT1),.slot 32 (qT) true none]⟩,
 ⟨272,[true,true,true,true,true],[.ptr 2 32,.val 5 (BT1),.val 6 (BT1),.val 7 (BT1),.val 8 (BT1),.slot 32 (qT) true none]⟩,
 ⟨272,[true,true,true,true,true,true],[.val 4 (BT1)]⟩,
 ⟨273,[],[]⟩,
 ⟨273,[true,false],[.val 0 (gm),.own 1 16 (iI),.val 3 (BT1),.val 4 (BT1),.own 10 160 (lC)]⟩,
 ⟨274,[],[]⟩,
 ⟨274,[true,true,false,true,false],[.val 0 (oN),.own 3 48 (lC),.val 4 (bV)]⟩,
 ⟨275,[],[]⟩,
 ⟨275,[true,false,true,false],[.val 0 (BT0),.val 1 (dM),.val 5 (bV)]⟩,
 ⟨276,[],[]⟩,
 ⟨277,[],[]⟩,
 ⟨278,[],[]⟩]
def entR:List EntI:=[
 ⟨3,.skip,[],[.val (dl)],[BT1],[],[(18,1),(23,1),(28,1),(46,1),(60,1),(66,1),(72,1),(91,1)],0,[(127,1)],false⟩,
 ⟨4,.skip,[],[.val (dl)],[BT1],[],[],0,[],false⟩,
 ⟨5,.skip,[],[.val (dl)],[BT8,BT7],[],[(8,1),(9,1)],0,[],false⟩,
 ⟨6,.skip,[],[.val (BT8),.val (BT7)],[dl],[],[(38,1),(51,1),(56,1),(67,1),(73,1),(84,1),(90,1)],0,[(122,5),(506,6),(4090,7)],false⟩,
 ⟨7,.skip,[],[.val (BT8),.val (BT7)],[dl],[],[(9,1),(11,1)],0,[],false⟩,
 ⟨8,.skip,[],[.val (BT8),.val (BT7)],[BT1],[],[],0,[],false⟩,
 ⟨9,.skip,[],[.val (BT8),.val (dl)],[BT7,BT1],[],[(10,1),(22,1),(44,1),(63,1),(89,1)],0,[(122,11),(250,12),(2042,13)],false⟩,
 ⟨10,.skip,[],[.val (BT8),.val (BT7),.val (BT7)],[BT1],[],[],0,[],false⟩,
 ⟨11,.skip,[],[.val (dl)],[BT8,dl],[],[(8,1),(11,1),(18,1),(19,1)],0,[],false⟩,
 ⟨12,.skip,[],[.val (BT8),.val (dl)],[BT7,BT1],[],[(9,1),(12,1),(33,1)],0,[],false⟩,
 ⟨14,.skip,[],[.val (dl)],[.pr (.hole 0) (cH)],[],[(30,1)],0,[(58,18)],false⟩,
 ⟨13,.skip,[],[.ptr (cH) (cH)],[BT8,BT7],[(0,.box)],[(3,5),(22,1),(28,1),(36,1),(55,1)],0,[(15,20),(30204,21)],false⟩,
 ⟨15,.skip,[],[.val (bV)],[fc],[],[(15,1),(22,1)],0,[(60,23)],false⟩,
 ⟨16,.skip,[],[.own (fc),.val (dk)],[fc],[],[(8,1),(13,1),(18,1)],0,[],false⟩,
 ⟨17,.skip,[],[.val (BT0)],[dl],[],[],0,[],false⟩,
 ⟨18,.skip,[],[.val (BT8),.val (BT7)],[BT1],[],[],0,[(26,27)],false⟩,
 ⟨19,.skip,[],[.val (BT7)],[dl],[],[(27,1),(33,1),(49,1),(58,1),(67,1),(72,1),(77,1),(92,1),(97,1)],0,[(122,29),(506,30),(4090,31)],false⟩,
 ⟨20,.skip,[],[.val (BT8)],[BT1],[],[],0,[],false⟩,
 ⟨21,.skip,[],[.val (dQ),.val (bV),.val (bV)],[BT1],[],[],0,[(58,34)],false⟩,
 ⟨22,.skip,[],[.val (fy),.clo 23 []],[BT1],[],[],0,[],false⟩,
 ⟨25,.skip,[],[.ptr (BT9) (BT9),.val (bV)],[bV],[(0,.box)],[],0,[],false⟩,
 ⟨26,.skip,[],[.ptr (BT9) (BT9)],[dk],[(0,.box)],[],0,[],false⟩,
 ⟨27,.skip,[],[.ptr (BT9) (BT9)],[BT0],[(0,.box)],[],0,[],false⟩,
 ⟨28,.skip,[],[.val (dQ),.val (dQ)],[BT1],[],[],0,[(58,40),(122,41)],false⟩,
 ⟨29,.skip,[],[.val (fy),.val (fy)],[BT1],[],[],0,[(58,43)],false⟩,
 ⟨30,.skip,[],[.ptr (cH) (cH)],[BT8,BT2],[(0,.box)],[(6,1),(10,1)],0,[],false⟩,
 ⟨31,.skip,[],[.ptr (cH) (cH),.val (dl)],[dl],[(0,.box)],[(26,1)],0,[],false⟩,
 ⟨32,.skip,[],[.ptr (gj) (gj)],[BT7],[(0,.box)],[(31,1),(62,1),(83,1)],0,[(122,47),(506,48),(4090,49)],false⟩,
 ⟨33,.skip,[],[.ptr (cH) (cH),.val (bV)],[bV],[(0,.box)],[],0,[],false⟩,
 ⟨34,.skip,[],[.ptr (cH) (cH),.val (bV),.val (bV)],[dQ],[(0,.box)],[(23,1),(32,1),(45,1),(65,1)],0,[(15,52),(120828,53)],false⟩,
 ⟨35,.skip,[],[.ptr (cH) (cH),.val (fy)],[bV],[(0,.box)],[],0,[],false⟩,
 ⟨36,.skip,[],[.ptr (cH) (cH)],[BT8],[(0,.box)],[(12,1),(22,1),(24,1),(32,1),(34,1),(46,1)],0,[(15,56)],false⟩,
 ⟨24,.skip,[],[.val (bV),.val (bV),.val (bV)],[BT1],[],[],0,[],false⟩,
 ⟨37,.skip,[],[.val (bV)],[dl],[],[(13,1),(16,1)],0,[],false⟩,
 ⟨38,.skip,[],[.val (bV),.val (bV),.val (bV)],[BT1],[],[],0,[],false⟩,
 ⟨39,.skip,[],[.val (BT8)],[BT1],[],[],0,[(26,61),(58,62)],false⟩,
 ⟨40,.skip,[],[.val (dQ),.val (bV),.val (bV)],[BT1],[],[],0,[(26,64),(58,65)],false⟩,
 ⟨41,.skip,[],[.val (bV)],[fc],[],[(16,1),(23,1)],0,[(60,67)],false⟩,
 ⟨42,.skip,[],[.val (dk)],[dl],[],[(9,1),(14,1)],0,[],false⟩,
 ⟨43,.skip,[],[.val (BT0)],[dl],[],[],0,[],false⟩,
 ⟨44,.skip,[],[.val (dr)],[BT1],[],[],0,[(26,71)],false⟩,
 ⟨45,.skip,[],[.val (dr),.clo 46 [BT8]],[BT1],[(16,.box)],[],0,[],false⟩,
 ⟨48,.skip,[],[.val (fq),.val (bV),.val (bV)],[BT1],[],[],0,[],false⟩,
 ⟨49,.skip,[],[.val (iJ),.clo 50 []],[BT1],[],[],0,[],false⟩,
 ⟨51,.skip,[],[.val (dk)],[BT1],[],[],0,[],false⟩,
 ⟨52,.skip,[],[.val (uT),.val (uT)],[bV],[],[],0,[],false⟩,
 ⟨53,.skip,[],[.val (fy),.clo 23 []],[bV],[],[],0,[(26,78)],false⟩,
 ⟨54,.skip,[],[.val (dl),.val (bV)],[bV,bV,BT1],[],[],0,[(122,80)],false⟩,
 ⟨55,.skip,[],[.val (dl),.val (bV)],[bV,bV,BT1],[],[],0,[(31,82)],false⟩,
 ⟨56,.skip,[],[.val (dl),.val (bV)],[BT0,bV,BT1],[],[],0,[],false⟩,
 ⟨57,.skip,[],[.ptr (cH) (cH)],[BT3],[(0,.box)],[],0,[],false⟩,
 ⟨59,.skip,[],[.ptr (cH) (cH),.val (bV)],[uW],[(0,.box)],[(21,1)],0,[(122,86)],false⟩,
 ⟨58,.skip,[],[.val (BT8),.val (uW)],[BT2],[],[],0,[(122,88)],false⟩,
 ⟨60,.skip,[],[.ptr (gj) (gj)],[bV],[(0,.box)],[],0,[],false⟩,
 ⟨61,.skip,[],[.ptr (gj) (gj)],[dk],[(0,.box)],[],0,[],false⟩,
 ⟨62,.skip,[],[.ptr (gj) (gj)],[BT0],[(0,.box)],[],0,[],false⟩,
 ⟨63,.skip,[],[.ptr (cH) (cH)],[bV],[(0,.box)],[],0,[],false⟩,
 ⟨64,.skip,[],[.ptr (cH) (cH),.val (bV),.val (bV)],[BT4],[(0,.box)],[(48,1)],0,[(58,94),(122,95)],false⟩,
 ⟨65,.skip,[],[.ptr (cH) (cH)],[dk],[(0,.box)],[],0,[],false⟩,
 ⟨66,.skip,[],[.ptr (cH) (cH)],[BT0],[(0,.box)],[(4,1)],0,[],false⟩,
 ⟨67,.skip,[],[.val (bV)],[BT0],[],[(12,1)],0,[(60,99)],false⟩,
 ⟨68,.skip,[],[.ptr (cH) (cH)],[fq,bV,bV],[(0,.box)],[(41,1),(50,1)],0,[(63,101)],false⟩,
 ⟨69,.skip,[],[.ptr (cH) (cH),.val (dr)],[BT0],[(0,.box)],[],0,[],false⟩,
 ⟨70,.skip,[],[.val (BT0)],[BT1],[],[],0,[(26,104)],false⟩,
 ⟨71,.skip,[],[.val (dr),.val (BT0)],[BT1],[],[],0,[(26,106)],false⟩,
 ⟨72,.skip,[],[.val (fq),.val (bV),.val (bV)],[BT1],[],[],0,[(122,108)],false⟩,
 ⟨73,.skip,[],[.val (dk)],[BT1],[],[],0,[],false⟩,
 ⟨74,.skip,[],[.val (uT),.val (bV),.val (BT0)],[BT1],[],[],0,[],false⟩,
 ⟨75,.skip,[],[.val (bV)],[dl],[],[(10,1),(16,1),(19,1)],0,[],false⟩,
 ⟨76,.skip,[],[.val (BT0)],[BT1],[],[],0,[],false⟩,
 ⟨77,.skip,[],[.val (dr),.clo 46 [BT8]],[bV],[(16,.box)],[],0,[(26,114)],false⟩,
 ⟨79,.skip,[],[.val (fq),.clo 80 [fq,bV,bV]],[BT1],[(16,.box),(17,.box),(18,.box)],[],0,[],false⟩,
 ⟨82,.skip,[],[.val (iJ),.clo 50 []],[bV],[],[],0,[(26,117)],false⟩,
 ⟨83,.skip,[],[.val (bV)],[BT1],[],[],0,[],false⟩,
 ⟨84,.skip,[],[.val (BT0)],[bV,BT1],[],[],0,[],false⟩,
 ⟨85,.skip,[],[.val (BT0),.val (BT0)],[bV],[],[],0,[],false⟩,
 ⟨23,.skip,[],[.val (bV)],[BT1],[],[],0,[],false⟩,
 ⟨87,.skip,[],[.ptr (cH) (cH)],[BT0],[(0,.box)],[(4,1)],0,[],false⟩,
 ⟨86,.skip,[],[.val (BT0)],[BT3,bV],[],[(10,1)],0,[],false⟩,
 ⟨91,.skip,[],[.ptr (cH) (cH)],[uU],[(0,.box)],[],0,[],false⟩,
 ⟨88,.skip,[],[.val (BT8)],[BT2],[],[],0,[],false⟩,
 ⟨89,.skip,[],[.val (uU)],[BT1],[],[],0,[],false⟩,
 ⟨90,.skip,[],[.val (BT8),.val (BT7),.val (uU)],[BT2],[],[],0,[],false⟩,
 ⟨92,.skip,[],[.val (dl),.val (bV)],[bV,bV,BT1],[],[],0,[(58,129)],false⟩,
 ⟨93,.skip,[],[.ptr (gj) (gj)],[bV],[(0,.box)],[],0,[],false⟩,
 ⟨94,.skip,[],[.val (dl),.val (bV)],[BT0,bV,BT1],[],[],0,[],false⟩,
 ⟨95,.skip,[],[.val (bV)],[BT4],[],[],0,[],false⟩,
 ⟨96,.skip,[],[.ptr (cH) (cH)],[dk],[(0,.box)],[(16,1),(20,1)],0,[],false⟩,
 ⟨97,.skip,[],[.val (dQ),.val (bV),.val (BT0),.val (dk)],[BT4,BT1],[],[(61,1)],0,[(508,135)],false⟩,
 ⟨98,.skip,[],[.ptr (cH) (cH)],[bV],[(0,.box)],[(6,1)],0,[],false⟩,
 ⟨99,.skip,[],[.ptr (cH) (cH)],[Fj,bV,bV],[(0,.box)],[(9,1),(10,1)],0,[],false⟩,
 ⟨100,.skip,[],[.val (dM)],[BT1],[],[],0,[],false⟩,
 ⟨101,.skip,[],[.val (BT0)],[BT1],[],[(3,1),(7,1)],0,[],false⟩,
 ⟨102,.skip,[],[.val (lB),.val (bV),.val (bV),.val (bV)],[BT1],[],[(71,1),(86,1)],0,[(863,141),(3455,142),(13823,143),(221183,144)],false⟩,
 ⟨103,.skip,[],[.val (bV)],[BT1],[],[],0,[],false⟩,
 ⟨104,.skip,[],[.val (BT0)],[bV,BT1],[],[],0,[(60,147)],false⟩,
 ⟨105,.skip,[],[.val (BT0),.val (bV)],[bV],[],[],0,[(28,149)],false⟩,
 ⟨106,.skip,[],[.val (BT0)],[BT1],[],[(14,1)],0,[(53,151)],false⟩,
 ⟨46,.skip,[],[.val (BT0),.ptr (BT8) (BT8)],[BT1],[(16,.box)],[],0,[],false⟩,
 ⟨107,.skip,[],[.val (fq),.clo 80 [fq,bV,bV]],[bV],[(16,.box),(17,.box),(18,.box)],[],0,[(26,154)],false⟩,
 ⟨50,.skip,[],[.val (dk)],[BT1],[],[],0,[],false⟩,
 ⟨111,.skip,[],[.val (BT0)],[bV,bV],[],[],0,[(31,157),(1023,158)],false⟩,
 ⟨112,.skip,[],[.val (BT0),.val (BT0)],[BT0],[],[],0,[],false⟩,
 ⟨113,.skip,[],[.val (BT0),.val (BT0)],[bV],[],[],0,[],false⟩,
 ⟨116,.skip,[],[],[dr],[],[(1,1)],0,[],false⟩,
 ⟨114,.skip,[],[.val (BT0)],[fO,bV],[],[(11,6),(14,1),(24,7),(37,1),(40,6)],0,[(1020,163)],false⟩,
 ⟨115,.skip,[],[.val (fO)],[BT3,bV],[],[(21,8),(81,9)],0,[(1018,165)],false⟩,
 ⟨121,.skip,[],[.ptr (cH) (cH),.val (bV)],[BT1],[(0,.box)],[],0,[],false⟩,
 ⟨122,.skip,[],[.ptr (cH) (cH)],[BT0],[(0,.box)],[(13,1),(17,1)],0,[(58,168)],false⟩,
 ⟨117,.skip,[],[.val (BT8)],[BT4,BT0],[],[(11,1)],0,[],false⟩,
 ⟨118,.skip,[],[.val (BT0)],[BT1],[],[],0,[(26,171)],false⟩,
 ⟨119,.skip,[],[.val (BT7)],[BT2],[],[],0,[],false⟩,
 ⟨120,.skip,[],[.val (BT8),.val (dQ),.val (BT0)],[BT4,BT0],[],[],0,[(31,174)],false⟩,
 ⟨123,.skip,[],[.val (dl),.val (bV)],[bV,bV,BT1],[],[],0,[(63,176)],false⟩,
 ⟨125,.skip,[],[.val (bV),.val (bV)],[bV],[],[],0,[],false⟩,
 ⟨124,.skip,[],[.val (bV),.val (bV)],[bV],[],[],0,[],false⟩,
 ⟨126,.skip,[],[.ptr (cH) (cH)],[bV],[(0,.box)],[(4,1)],0,[],false⟩,
 ⟨127,.skip,[],[.val (BT0)],[dk],[],[],0,[(7,181)],false⟩,
 ⟨128,.skip,[],[.val (dQ)],[BT4],[],[],0,[],false⟩,
 ⟨129,.skip,[],[.val (dQ),.val (bV),.val (BT0)],[bV],[],[],0,[(26,184)],false⟩,
 ⟨130,.skip,[],[.ptr (cH) (cH)],[fO],[(0,.box)],[(8,1)],0,[],false⟩,
 ⟨131,.skip,[],[],[dr],[],[(1,1)],0,[],false⟩,
 ⟨132,.skip,[],[.val (BT0)],[fM,BT1],[],[(9,1),(14,1),(33,1)],0,[],false⟩,
 ⟨133,.skip,[],[.val (BT0)],[bV,bV],[],[],0,[(28,189),(63,190),(508,191),(16342,192),(511,193)],false⟩,
 ⟨134,.skip,[],[.val (dM)],[BT1],[],[],0,[],false⟩,
 ⟨110,.skip,[],[],[dr],[],[(1,1)],0,[],false⟩,
 ⟨47,.skip,[],[.val (dr),.val (BT0)],[BT1],[],[],0,[],false⟩,
 ⟨80,.skip,[],[.val (lB),.ptr (fq) (fq),.ptr (bV) (bV),.ptr (bV) (bV)],[BT1],[(16,.box),(32,.box),(48,.box)],[],0,[],false⟩,
 ⟨136,.skip,[],[.val (BT0),.val (BT0)],[BT0],[],[],0,[],false⟩,
 ⟨137,.skip,[],[.val (BT0),.val (bV)],[bV],[],[],0,[(28,200)],false⟩,
 ⟨138,.skip,[],[.val (BT0),.val (BT0)],[bV,BT1],[],[],0,[],false⟩,
 ⟨140,.skip,[],[.val (BT0),.val (dM)],[BT0],[],[],0,[(12,203)],false⟩,
 ⟨139,.skip,[],[.val (BT0),.val (dM)],[BT0],[],[],0,[(12,205)],false⟩,
 ⟨146,.skip,[],[.val (BT0),.val (BT0)],[bV],[],[],0,[],true⟩,
 ⟨147,.skip,[],[.val (BT0)],[qV,bV],[],[(56,1),(60,1),(67,1)],0,[(124,208),(63656,209)],false⟩,
 ⟨148,.skip,[],[.ptr (cM) (cM)],[.leaf false (.nm 13)],[(0,.box)],[],0,[],false⟩,
 ⟨149,.skip,[],[.ptr (cM) (cM)],[.leaf false (.nm 14)],[(0,.box)],[(10,1),(16,1),(19,1),(24,1),(26,1),(27,6)],0,[],false⟩,
 ⟨150,.skip,[],[.val (cD)],[bV],[],[],0,[(58,213)],false⟩,
 ⟨151,.skip,[],[.val (fO)],[bV],[],[(38,1)],0,[(58,215),(506,216),(1018,217),(2042,218)],false⟩,
 ⟨152,.skip,[],[.val (fO)],[eB,eB],[],[],0,[(58,220)],false⟩,
 ⟨153,.skip,[],[.ptr (dG) (dG),.val (cD)],[],[(0,.box)],[],0,[(14,222)],false⟩,
 ⟨154,.skip,[],[.ptr (dG) (dG),.val (cD)],[],[(0,.box)],[],0,[(29,224),(30714,225)],false⟩,
 ⟨155,.skip,[],[.ptr (dG) (dG),.val (bV),.val (bV),.val (BT0)],[bV],[(0,.box)],[(18,1)],0,[],false⟩,
 ⟨156,.skip,[],[.ptr (dX) (dX),.val (fq)],[],[(0,.box)],[],0,[(30,228)],false⟩,
 ⟨157,.skip,[],[.ptr (.pr (BT4) (.pr (dr) (.pr (dr) (.pr (BT0) (.pr (dr) (Fl)))))) (.pr (.hole 4) (.pr (dr) (.pr (dr) (.pr (BT0) (.pr (dr) (Fl)))))),.val (dQ)],[BT4,BT0],[(0,.box)],[(4,5)],0,[],false⟩,
 ⟨158,.skip,[],[.val (BT0)],[eB],[],[(31,1)],0,[(122,231)],false⟩,
 ⟨159,.skip,[],[.ptr (dX) (dX),.val (bV)],[],[(0,.box)],[],0,[],false⟩,
 ⟨160,.skip,[],[.ptr (gF) (gF),.val (bV)],[cW],[(0,.box)],[],0,[(28,234)],false⟩,
 ⟨161,.skip,[],[.val (fM)],[bV],[],[],0,[(58,236)],false⟩,
 ⟨162,.skip,[],[.val (dM)],[BT1],[],[],0,[],false⟩,
 ⟨78,.skip,[],[.val (dr),.val (BT0)],[bV],[],[],0,[(26,239)],false⟩,
 ⟨81,.skip,[],[.val (lB),.val (bV),.val (bV),.val (bV)],[BT1],[],[(101,1)],0,[(983,241),(3935,242),(15743,243),(251903,244)],false⟩,
 ⟨165,.skip,[],[.val (BT0)],[bV,.hole 1],[],[(16,1)],0,[],false⟩,
 ⟨166,.skip,[],[.val (bV)],[bV,BT1],[],[],0,[],false⟩,
 ⟨171,.skip,[],[.val (BT0),.val (bV),.val (qV)],[.leaf false (.nm 13),bV,BT1],[],[],0,[(916,248)],false⟩,
 ⟨172,.skip,[],[.ptr (cM) (cM),.val (BT0)],[BT1],[(0,.box)],[],0,[],false⟩,
 ⟨173,.skip,[],[.ptr (cM) (cM)],[],[(0,.box)],[],0,[],false⟩,
 ⟨174,.skip,[],[.ptr (cM) (cM)],[cD],[(0,.box)],[(2,7),(3,7),(4,7),(24,1),(25,6)],0,[(60,252)],false⟩,
 ⟨175,.skip,[],[.ptr (cM) (cM),.val (BT0)],[BT1],[(0,.box)],[],0,[],false⟩,
 ⟨176,.skip,[],[.ptr (cM) (cM)],[cD],[(0,.box)],[(2,7),(4,7),(6,7),(26,1),(38,1),(42,6),(52,1)],0,[(471,255)],false⟩,
 ⟨177,.skip,[],[.val (bV),.val (.leaf false (.sl (.nm 11)))],[kd],[],[(4,7),(6,7),(8,7)],0,[],false⟩,
 ⟨178,.skip,[],[.val (fO)],[BT1],[],[],0,[(26,258)],false⟩,
 ⟨179,.skip,[],[.val (cD)],[BT1],[],[],0,[(58,260)],false⟩,
 ⟨180,.skip,[],[.val (cD)],[BT1],[],[],0,[(15,262),(122,263)],false⟩,
 ⟨181,.skip,[],[.val (cD)],[BT1],[],[(12,1)],0,[(122,265)],false⟩,
 ⟨182,.skip,[],[.val (cD),.own (eB),.own (eB)],[eB,eB],[],[],0,[(7,267),(58,268)],false⟩,
 ⟨183,.skip,[],[.ptr (dG) (dG),.val (cD)],[],[(0,.box)],[],0,[],false⟩,
 ⟨184,.skip,[],[.ptr (dG) (dG),.val (cD)],[],[(0,.box)],[],0,[],false⟩,
 ⟨185,.skip,[],[.ptr (dG) (dG),.val (cD)],[],[(0,.box)],[],0,[],false⟩,
 ⟨186,.skip,[],[.ptr (dG) (dG),.val (cD)],[],[(0,.box)],[],0,[],false⟩,
 ⟨187,.skip,[],[.ptr (dG) (dG),.val (cD)],[],[(0,.box)],[],0,[],false⟩,
 ⟨188,.skip,[],[.ref (gk) (gk) (dX) (dX),.val (lB),.val (bV)],[bV,BT1],[(0,.box),(1,.box)],[(32,2)],0,[(127,275),(4153343,276)],false⟩,
 ⟨189,.skip,[],[.ptr (gF) (gF),.val (bV)],[cW],[(0,.box)],[],0,[(28,278)],false⟩,
 ⟨190,.skip,[],[.ptr (gF) (gF),.val (dM)],[BT1],[(0,.box)],[],0,[],false⟩,
 ⟨108,.skip,[],[.val (bV)],[BT0,BT0],[],[(6,1)],0,[(63,281),(2007,282),(32127,283)],false⟩,
 ⟨109,.skip,[],[.val (BT0)],[BT1],[],[(7,1)],0,[],false⟩,
 ⟨193,.skip,[],[.val (BT0)],[bV,.hole 1],[],[],0,[(235,286),(3770,287)],false⟩,
 ⟨198,.skip,[],[.val (BT0),.val (bV)],[bV,bV,BT1],[],[],0,[(28,289),(1964,290),(31,291)],false⟩,
 ⟨199,.skip,[],[.val (BT0),.val (bV)],[BT0,bV,BT1],[],[(47,1)],0,[(58,293)],false⟩,
 ⟨200,.skip,[],[.val (qV)],[BT1],[],[],0,[],false⟩,
 ⟨201,.skip,[],[.val (BT0),.val (bV)],[BT0,bV,BT1],[],[(52,1),(60,1)],0,[(58,296)],false⟩,
 ⟨202,.skip,[],[.val (BT0),.val (bV)],[BT0],[],[(8,1)],0,[(58,298)],false⟩,
 ⟨203,.skip,[],[.ptr (cM) (cM),.val (BT0)],[],[(0,.box)],[],0,[],false⟩,
 ⟨204,.skip,[],[.ptr (cM) (cM)],[cD],[(0,.box)],[(2,7),(3,7),(8,1),(13,1),(18,1),(20,1)],0,[],false⟩,
 ⟨205,.skip,[],[.ptr (cM) (cM)],[cD],[(0,.box)],[(2,7),(6,7),(15,1),(21,1),(29,1),(38,1),(43,1),(50,1),(54,1),(59,6),(60,1)],0,[],false⟩,
 ⟨206,.skip,[],[.ptr (cM) (cM),.val (bV)],[cD],[(0,.box)],[(4,7),(9,1),(13,1),(17,1),(20,1)],0,[],false⟩,
 ⟨208,.skip,[],[.val (cD)],[BT1],[],[(53,1)],0,[(7551,304)],false⟩,
 ⟨207,.skip,[],[.val (bV)],[BT1],[],[],0,[],false⟩,
 ⟨209,.skip,[],[.own (eB),.val (BT0)],[eB],[],[(32,1)],0,[(60,307)],false⟩,
 ⟨210,.skip,[],[.ptr (dG) (dG),.val (cD)],[],[(0,.box)],[],0,[(7,309),(58,310)],false⟩,
 ⟨211,.skip,[],[.ptr (dG) (dG),.val (cD)],[],[(0,.box)],[],0,[],false⟩,
 ⟨212,.skip,[],[.ptr (dG) (dG),.val (cD)],[],[(0,.box)],[],0,[],false⟩,
 ⟨213,.skip,[],[.val (dr),.val (BT0)],[bV],[],[],0,[(26,314)],false⟩,
 ⟨214,.skip,[],[.val (BT1)],[bV],[],[],0,[],false⟩,
 ⟨215,.skip,[],[.val (lB)],[bV],[],[],0,[(53,317)],false⟩,
 ⟨216,.skip,[],[.val (dk)],[BT1],[],[],0,[(53,319)],false⟩,
 ⟨217,.skip,[],[.ptr (dX) (dX),.val (BT0)],[],[(0,.box)],[],0,[],false⟩,
 ⟨218,.skip,[],[.val (dk)],[BT0],[],[],0,[],false⟩,
 ⟨219,.skip,[],[.ref (gk) (gk) (dX) (dX),.val (lB),.val (iJ)],[],[(0,.box),(1,.box)],[],0,[],false⟩,
 ⟨220,.skip,[],[.ref (gk) (gk) (dX) (dX),.val (lB),.val (iJ)],[],[(0,.box),(1,.box)],[],0,[(31,324)],false⟩,
 ⟨221,.skip,[],[.ptr (gF) (gF),.val (bV)],[cW],[(0,.box)],[],0,[(28,326),(907,327)],false⟩,
 ⟨135,.skip,[],[.val (BT0)],[fM,BT1],[],[(9,1),(14,1),(31,1)],0,[],false⟩,
 ⟨224,.skip,[],[.val (BT0),.val (bV),.val (bV)],[bV,.hole 1],[],[],0,[(31,330),(511,331)],false⟩,
 ⟨233,.skip,[],[.ptr (cM) (cM)],[],[(0,.box)],[],0,[],false⟩,
 ⟨234,.skip,[],[.ptr (cM) (cM),.val (bV)],[cD],[(0,.box)],[(4,7),(5,7),(6,7),(7,7),(13,1),(17,1),(21,6),(34,1),(35,6)],0,[],false⟩,
 ⟨235,.skip,[],[.ptr (cM) (cM)],[cD],[(0,.box)],[(2,7),(3,7),(5,7),(11,7),(36,1),(37,6),(46,1),(57,1),(62,6),(63,1),(65,1),(66,6)],0,[(812,335)],false⟩,
 ⟨236,.skip,[],[.ptr (cM) (cM),.val (BT0)],[.leaf false (.sl (.nm 11))],[(0,.box)],[(6,7),(25,1),(26,6)],0,[(28,337)],false⟩,
 ⟨237,.skip,[],[.ptr (cM) (cM)],[BT0],[(0,.box)],[],0,[],false⟩,
 ⟨238,.skip,[],[.ptr (cM) (cM)],[cD],[(0,.box)],[(2,7),(4,7),(6,7),(7,1),(9,1),(25,1),(30,6)],0,[(122,340)],false⟩,
 ⟨239,.skip,[],[.ptr (cM) (cM)],[cD],[(0,.box)],[(2,7),(3,7),(4,7),(6,1),(10,1),(13,6)],0,[(28,342)],false⟩,
 ⟨240,.skip,[],[.ptr (cM) (cM)],[cD],[(0,.box)],[(2,7),(9,1),(16,1),(17,6),(25,1),(26,6),(29,1)],0,[],false⟩,
 ⟨241,.skip,[],[.ptr (cM) (cM),.val (bV)],[cD],[(0,.box)],[(4,7),(7,7),(9,7),(10,1),(11,1),(12,1),(13,1),(14,1),(15,1),(16,1),(17,6),(18,1),(19,1),(20,1),(21,1),(22,1),(23,1),(24,1),(25,6),(29,1),(69,1),(79,6),(88,6)],0,[(124,345),(7956,346),(63679,347)],false⟩,
 ⟨242,.skip,[],[.val (cD)],[BT1],[],[],0,[(117,349),(471,350),(1887,351),(7551,352),(7733234,353)],false⟩,
 ⟨243,.skip,[],[.val (BT0)],[BT1],[],[],0,[(26,355)],false⟩,
 ⟨244,.skip,[],[.val (bV)],[BT0],[],[],0,[(4052,357),(127,358)],false⟩,
 ⟨245,.skip,[],[.ref (gk) (gk) (dX) (dX),.val (dk)],[],[(0,.box),(1,.box)],[(21,1)],0,[],false⟩,
 ⟨247,.skip,[],[.val (dk)],[bV],[],[],0,[(53,361)],false⟩,
 ⟨246,.skip,[],[.ptr (dX) (dX),.val (bV),.val (bV),.val (bV)],[dk],[(0,.box)],[],0,[(15,363)],false⟩,
 ⟨249,.skip,[],[.val (dk)],[BT0],[],[],0,[],false⟩,
 ⟨248,.skip,[],[.val (dQ),.val (bV),.val (BT0)],[dk],[],[],0,[],false⟩,
 ⟨250,.skip,[],[.ref (gk) (gk) (dX) (dX),.val (bV),.val (BT0),.val (dk)],[],[(0,.box),(1,.box)],[],0,[],false⟩,
 ⟨251,.skip,[],[.val (dQ),.val (bV),.val (BT0)],[BT4],[],[],0,[],false⟩,
 ⟨252,.skip,[],[.val (bV)],[dk],[],[],0,[],false⟩,
 ⟨253,.skip,[],[.ptr (dX) (dX),.val (dk)],[dk],[(0,.box)],[],0,[],false⟩,
 ⟨254,.skip,[],[.ptr (dX) (dX),.val (dk),.val (dk)],[dk],[(0,.box)],[],0,[],false⟩,
 ⟨255,.skip,[],[.val (BT0),.val (BT0)],[dk],[],[(9,1)],0,[],false⟩,
 ⟨256,.skip,[],[.val (BT1)],[dk],[],[],0,[],false⟩,
 ⟨257,.skip,[],[.val (BT0),.val (iJ)],[dk],[],[(20,1)],0,[],false⟩,
 ⟨258,.skip,[],[.val (bV),.val (dk),.val (dk)],[dk],[],[(23,1)],0,[],false⟩,
 ⟨259,.skip,[],[.ptr (gF) (gF),.val (bV)],[cW],[(0,.box)],[],0,[(63,376)],false⟩,
 ⟨163,.skip,[],[.ptr (fN) (fN)],[cW],[(0,.box)],[],0,[(28,378)],false⟩,
 ⟨164,.skip,[],[.val (fM)],[bV],[],[],0,[(58,380)],false⟩,
 ⟨262,.skip,[],[.val (BT0),.val (bV),.val (bV)],[jn,.hole 1],[],[],0,[(63,382),(127,383),(511,384),(32762,385),(8387175,386)],false⟩,
 ⟨267,.skip,[],[.ptr (cM) (cM)],[BT1],[(0,.box)],[(34,1)],0,[(245,388)],false⟩,
 ⟨268,.skip,[],[.ptr (cM) (cM)],[cD],[(0,.box)],[(2,7),(4,7),(23,1),(32,1),(39,1),(46,1),(50,1),(56,1),(57,6),(62,1)],0,[],false⟩,
 ⟨269,.skip,[],[.val (cD),.val (bV),.val (bV)],[BT1],[],[],0,[(26,391)],false⟩,
 ⟨270,.skip,[],[.val (cD),.val (bV)],[BT1],[],[],0,[(26,393)],false⟩,
 ⟨271,.skip,[],[.val (bV)],[bV],[],[],0,[],false⟩,
 ⟨272,.skip,[],[.val (bV),.val (bV)],[bV,BT1],[],[],0,[],false⟩,
 ⟨273,.skip,[],[.val (bV),.val (bV)],[bV,BT1],[],[],0,[],false⟩,
 ⟨274,.skip,[],[.val (bV),.val (bV)],[bV,BT1],[],[],0,[],false⟩,
 ⟨275,.skip,[],[.val (bV),.val (bV)],[bV,BT1],[],[],0,[],false⟩,
 ⟨276,.skip,[],[.val (fM),.val (BT0)],[BT1],[],[(10,1)],0,[],false⟩,
 ⟨277,.skip,[],[.val (BT0),.val (iJ)],[dk],[],[],0,[],false⟩,
 ⟨278,.skip,[],[.val (dk),.val (dk)],[bV],[],[],0,[],false⟩,
 ⟨279,.skip,[],[.ptr (gF) (gF)],[cW],[(0,.box)],[(171,1)],0,[(15,403),(252,404),(32303,405),(255,406),(64607,407),(8186,408),(516858,409)],false⟩,
 ⟨191,.skip,[],[.ptr (fN) (fN)],[cW],[(0,.box)],[],0,[(28,411)],false⟩,
 ⟨192,.skip,[],[.ptr (fN) (fN),.val (dM)],[BT1],[(0,.box)],[],0,[],false⟩,
 ⟨281,.skip,[],[.val (dM)],[dM],[],[],0,[],false⟩,
 ⟨282,.skip,[],[.val (BT0)],[BT1],[],[],0,[(31,415),(127,416),(508,417)],false⟩,
 ⟨285,.skip,[],[.val (bV)],[bV,BT1],[],[],0,[],false⟩,
 ⟨287,.skip,[],[.val (fM)],[gm],[],[(6,1),(10,1)],0,[],false⟩,
 ⟨286,.skip,[],[.val (gm),.val (BT0)],[bV,bV,BT1],[],[],0,[(26,421)],false⟩,
 ⟨288,.skip,[],[.val (bV)],[bV],[],[],0,[],false⟩,
 ⟨289,.skip,[],[.val (BT0),.val (BT0)],[bV],[],[],0,[(26,424)],false⟩,
 ⟨290,.skip,[],[.val (BT0),.val (dM),.val (dM)],[BT0],[],[],0,[(58,426)],false⟩,
 ⟨291,.skip,[],[.val (iJ)],[BT0],[],[],0,[(63,428)],false⟩,
 ⟨222,.skip,[],[.ptr (fN) (fN)],[dM,BT1],[(0,.box)],[],0,[],false⟩,
 ⟨223,.skip,[],[.ptr (fN) (fN)],[cW],[(0,.box)],[],0,[(14,431)],false⟩,
 ⟨294,.skip,[],[.val (fM)],[BT1],[],[],0,[],false⟩,
 ⟨296,.skip,[],[.own (iK),.val (fM)],[iK],[],[(18,1),(32,1),(76,1),(105,1)],0,[(966650,434),(15,435)],false⟩,
 ⟨295,.skip,[],[.own (iK),.val (bV)],[iK],[],[(8,1)],0,[],false⟩,
 ⟨293,.skip,[],[.val (gm),.val (BT0),.val (bV)],[bV],[],[(23,1),(30,1),(76,1),(85,1)],0,[(250,438),(8009,439),(256314,440)],false⟩,
 ⟨260,.skip,[],[.ptr (fN) (fN)],[cW],[(0,.box)],[],0,[(1007615,442)],false⟩,
 ⟨261,.skip,[],[.val (dM)],[bV],[],[],0,[],false⟩,
 ⟨304,.skip,[],[.val (fM)],[BT1],[],[],0,[(26,445),(3935,446),(15743,447)],false⟩,
 ⟨305,.skip,[],[.own (iK),.val (uX)],[iK],[],[(29,1)],0,[(58,449),(250,450)],false⟩,
 ⟨301,.skip,[],[.val (gm)],[BT1],[],[],0,[(58,452)],false⟩,
 ⟨302,.skip,[],[.val (gm),.val (fy),.val (BT1),.val (BT1)],[lC],[],[],0,[(58,454)],false⟩,
 ⟨303,.skip,[],[.val (.leaf false (.nm 20)),.val (dM)],[BT1],[],[],0,[],false⟩,
 ⟨280,.skip,[],[.ptr (fN) (fN)],[cW],[(0,.box)],[(111,1)],0,[(2042,457),(130707,458),(8186,459),(522830,460)],false⟩,
 ⟨315,.skip,[],[.val (BT0)],[BT1],[],[],0,[(26,462)],false⟩,
 ⟨311,.skip,[],[.val (.leaf false (.nm 20)),.val (bV)],[BT1],[],[],0,[(7,464),(15,465),(31,466),(63,467),(127,468)],false⟩,
 ⟨312,.skip,[],[.val (gm),.io (iI),.val (bV),.val (BT1),.val (BT1)],[],[(16,.reg)],[(57,1),(66,1),(74,1),(82,1)],0,[(6,470)],false⟩,
 ⟨313,.skip,[],[.val (oN)],[lC],[],[(18,1)],0,[(58,472)],false⟩,
 ⟨314,.skip,[],[.val (BT0),.val (dM)],[BT1],[],[],0,[(26,474)],false⟩,
 ⟨229,.skip,[],[.val (BT0),.val (dM)],[bV],[],[],0,[],false⟩,
 ⟨266,.skip,[],[.val (BT0),.val (dM)],[bV],[],[],0,[],false⟩,
 ⟨284,.skip,[],[.val (BT0),.val (dM)],[bV],[],[],0,[],true⟩]
def Gm:lD:=[((146,[]),206),((284,[]),477)]
def Gl:lD:=[((3,[]),0),((4,[]),2),((5,[]),3),((6,[]),4),((7,[]),8),((8,[]),9),((9,[]),10),((10,[]),14),((11,[]),15),((12,[]),16),((14,[]),17),((13,[]),19),((15,[]),22),((16,[]),24),((17,[]),25),((18,[]),26),((19,[]),28),((20,[]),32),((21,[]),33),((22,[23]),35),((25,[]),36),((26,[]),37),((27,[]),38),((28,[]),39),((29,[]),42),((30,[]),44),((31,[]),45),((32,[]),46),((33,[]),50),((34,[]),51),((35,[]),54),((36,[]),55),((24,[]),57),((37,[]),58),((38,[]),59),((39,[]),60),((40,[]),63),((41,[]),66),((42,[]),68),((43,[]),69),((44,[]),70),((45,[46]),72),((48,[]),73),((49,[50]),74),((51,[]),75),((52,[]),76),((53,[23]),77),((54,[]),79),((55,[]),81),((56,[]),83),((57,[]),84),((59,[]),85),((58,[]),87),((60,[]),89),((61,[]),90),((62,[]),91),((63,[]),92),((64,[]),93),((65,[]),96),((66,[]),97),((67,[]),98),((68,[]),100),((69,[]),102),((70,[]),103),((71,[]),105),((72,[]),107),((73,[]),109),((74,[]),110),((75,[]),111),((76,[]),112),((77,[46]),113),((79,[80]),115),((82,[50]),116),((83,[]),118),((84,[]),119),((85,[]),120),((23,[]),121),((87,[]),122),((86,[]),123),((91,[]),124),((88,[]),125),((89,[]),126),((90,[]),127),((92,[]),128),((93,[]),130),((94,[]),131),((95,[]),132),((96,[]),133),((97,[]),134),((98,[]),136),((99,[]),137),((100,[]),138),((101,[]),139),((102,[]),140),((103,[]),145),((104,[]),146),((105,[]),148),((106,[]),150),((46,[]),152),((107,[80]),153),((50,[]),155),((111,[]),156),((112,[]),159),((113,[]),160),((116,[]),161),((114,[]),162),((115,[]),164),((121,[]),166),((122,[]),167),((117,[]),169),((118,[]),170),((119,[]),172),((120,[]),173),((123,[]),175),((125,[]),177),((124,[]),178),((126,[]),179),((127,[]),180),((128,[]),182),((129,[]),183),((130,[]),185),((131,[]),186),((132,[]),187),((133,[]),188),((134,[]),194),((110,[]),195),((47,[]),196),((80,[]),197),((136,[]),198),((137,[]),199),((138,[]),201),((140,[]),202),((139,[]),204),((147,[]),207),((148,[]),210),((149,[]),211),((150,[]),212),((151,[]),214),((152,[]),219),((153,[]),221),((154,[]),223),((155,[]),226),((156,[]),227),((157,[]),229),((158,[]),230),((159,[]),232),((160,[]),233),((161,[]),235),((162,[]),237),((78,[]),238),((81,[]),240),((165,[]),245),((166,[]),246),((171,[]),247),((172,[]),249),((173,[]),250),((174,[]),251),((175,[]),253),((176,[]),254),((177,[]),256),((178,[]),257),((179,[]),259),((180,[]),261),((181,[]),264),((182,[]),266),((183,[]),269),((184,[]),270),((185,[]),271),((186,[]),272),((187,[]),273),((188,[]),274),((189,[]),277),((190,[]),279),((108,[]),280),((109,[]),284),((193,[]),285),((198,[]),288),((199,[]),292),((200,[]),294),((201,[]),295),((202,[]),297),((203,[]),299),((204,[]),300),((205,[]),301),((206,[]),302),((208,[]),303),((207,[]),305),((209,[]),306),((210,[]),308),((211,[]),311),((212,[]),312),((213,[]),313),((214,[]),315),((215,[]),316),((216,[]),318),((217,[]),320),((218,[]),321),((219,[]),322),((220,[]),323),((221,[]),325),((135,[]),328),((224,[]),329),((233,[]),332),((234,[]),333),((235,[]),334),((236,[]),336),((237,[]),338),((238,[]),339),((239,[]),341),((240,[]),343),((241,[]),344),((242,[]),348),((243,[]),354),((244,[]),356),((245,[]),359),((247,[]),360),((246,[]),362),((249,[]),364),((248,[]),365),((250,[]),366),((251,[]),367),((252,[]),368),((253,[]),369),((254,[]),370),((255,[]),371),((256,[]),372),((257,[]),373),((258,[]),374),((259,[]),375),((163,[]),377),((164,[]),379),((262,[]),381),((267,[]),387),((268,[]),389),((269,[]),390),((270,[]),392),((271,[]),394),((272,[]),395),((273,[]),396),((274,[]),397),((275,[]),398),((276,[]),399),((277,[]),400),((278,[]),401),((279,[]),402),((191,[]),410),((192,[]),412),((281,[]),413),((282,[]),414),((285,[]),418),((287,[]),419),((286,[]),420),((288,[]),422),((289,[]),423),((290,[]),425),((291,[]),427),((222,[]),429),((223,[]),430),((294,[]),432),((296,[]),433),((295,[]),436),((293,[]),437),((260,[]),441),((261,[]),443),((304,[]),444),((305,[]),448),((301,[]),451),((302,[]),453),((303,[]),455),((280,[]),456),((315,[]),461),((311,[]),463),((312,[]),469),((313,[]),471),((314,[]),473),((229,[]),475),((266,[]),476)]
def xS(e:Nat):EntI:=entR.getD e ⟨0,.skip,[],[],[],[],[],0,[],true⟩
def fw(k:Nat):KeyI:=keyL.getD k ⟨0,[false],[]⟩
noncomputable def tab:Tab where
 G:=gam
 ty:=mh tyL
 ifc:=mj Ib
 fnt:=mj He
 key k:=sj xS (fw k)
 ent k:=fill Tryz.prog (xS k)
 call:=sA (Gm++Gl)
 tabs:=[]
 ext k:=match k with
  | 206=>fun x=>some (eh x.1 x.2.1,())
  | 477=>fun x=>some (dN x.1 x.2.1,())
  | _=>fun _=>none
end Go.Proofs.YtemajhlhgphhjaaGreatDoor.E.TM
