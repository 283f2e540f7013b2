/- The table of D: structs,types,entries,keys. No condition. -/
import Derived.Test.YtmcjclfgedjgaaaGreatEG4
import Derived.Test.YtmcjclfgedjgaaaGreatProg
import Derived.KernelRfl
namespace Go.Proofs.YtmcjclfgedjgaaaGreat.E.TD
open Go.Proofs.YtmcjclfgedjgaaaGreat.E
set_option linter.unusedVariables false
set_option maxRecDepth 100000
structure bq where
 Bytes:(_root_.List Int)
 Sure:Int
def J8:bq:=⟨[],0⟩
structure bL where
 b:(_root_.List Int)
 i:Int
 h:Int
def Kd:bL:=⟨[],0,0⟩
structure bp where
 Who:Int
 Seq:Int
 Line:(_root_.List Int)
def qU:bp:=⟨0,0,[]⟩
structure bt where
 Term:Int
 C:bp
def iL:bt:=⟨0,qU⟩
structure bC where
 Kind:Int
 Term:Int
 Vote:Int
 Prev:Int
 List:(_root_.List bt)
 Snap:(_root_.List Int)
def J9:bC:=⟨0,0,0,0,[],[]⟩
structure bz where
 Code:Int
 N:Int
 S:(_root_.List Int)
def di:bz:=⟨0,0,[]⟩
structure bB where
 Vars:(_root_.List (_root_.List Int))
 Cells:(_root_.List (_root_.List Int))
 Start:(_root_.List bz)
 Main:(_root_.List bz)
def zt:bB:=⟨[],[],[],[]⟩
structure bH where
 Kind:Int
 N:Int
 S:(_root_.List Int)
def cj:bH:=⟨0,0,[]⟩
structure bo where
 Name:Int
 Key:(_root_.List Int)
 Val:bH
def dV:bo:=⟨0,[],cj⟩
structure bF where
 Vars:(_root_.List bH)
 Cells:(_root_.List bo)
 Nr:Int
 Err:Int
def fG:bF:=⟨[],[],0,0⟩
structure bv where
 State:bF
 Done:(_root_.List Int)
 Out:(_root_.List Int)
def qV:bv:=⟨fG,[],[]⟩
structure bw where
 Op:Int
 N:Int
 S:(_root_.List Int)
 Kids:(_root_.List bw)
def cl:bw:=⟨0,0,[],[]⟩
structure bG where
 Kind:Int
 Text:(_root_.List Int)
 N:Int
 At:Int
def gU:bG:=⟨0,[],0,0⟩
structure bN where
 list:(_root_.List bG)
 at_:Int
 bad:Int
 has:Bool
 kept:bw
def Kf:bN:=⟨[],0,0,false,cl⟩
structure bE where
 Kind:Int
 Pat:bw
 Body:bw
def bV:bE:=⟨0,cl,cl⟩
structure bJ where
 vars:(_root_.List (_root_.List Int))
 cells:(_root_.List (_root_.List Int))
 out:(_root_.List bz)
def Kb:bJ:=⟨[],[],[]⟩
structure bI where
 s:bF
 vars:(_root_.List (_root_.List Int))
 cells:(_root_.List (_root_.List Int))
 line:(_root_.List Int)
 fields:(_root_.List (_root_.List Int))
 out:(_root_.List Int)
 fuel:Int
 done:Bool
def Ka:bI:=⟨fG,[],[],[],[],[],0,false⟩
structure bD where
 Op:Int
 C:Int
 Set:(_root_.List Int)
 Not:Bool
 Kids:(_root_.List bD)
def cY:bD:=⟨0,0,[],false,[]⟩
structure bK where
 l:Unit
 stack:(_root_.List bH)
def Kc:bK:=⟨(),[]⟩
structure bM where
 s:(_root_.List Int)
 at_:Int
 bad:Bool
def Ke:bM:=⟨[],0,false⟩
structure bA where
 Op:Int
 C:Int
 Set:(_root_.List Int)
 Not:Bool
 A:Int
 B:Int
def cg:bA:=⟨0,0,[],false,0,0⟩
def gT:Nat→Type
 | 0=>bq
 | 1=>bL
 | 2=>bC
 | 3=>bt
 | 4=>bp
 | 5=>bB
 | 6=>bz
 | 7=>bF
 | 8=>bH
 | 9=>bo
 | 10=>bv
 | 11=>bw
 | 12=>bN
 | 13=>bG
 | 14=>bE
 | 15=>bJ
 | 16=>bI
 | 17=>bD
 | 18=>bK
 | 19=>bM
 | 20=>bA
 | _=>Unit
def gfs:Nat→List FT
 | 0=>[(.sl (.int .u8)),(.int .i64)]
 | 1=>[(.sl (.int .u8)),(.int .i64),(.int .i64)]
 | 2=>[(.int .i64),(.int .i64),(.int .i64),(.int .i64),(.sl (.nm 3)),.str]
 | 3=>[(.int .i64),(.nm 4)]
 | 4=>[(.int .i64),(.int .i64),.str]
 | 5=>[(.sl .str),(.sl .str),(.sl (.nm 6)),(.sl (.nm 6))]
 | 6=>[(.int .i64),(.int .i64),.str]
 | 7=>[(.sl (.nm 8)),(.sl (.nm 9)),(.int .i64),(.int .i64)]
 | 8=>[(.int .i64),(.int .i64),.str]
 | 9=>[(.int .i64),.str,(.nm 8)]
 | 10=>[(.nm 7),(.sl (.int .i64)),.str]
 | 11=>[(.int .i64),(.int .i64),.str,(.sl (.nm 11))]
 | 12=>[(.sl (.nm 13)),(.int .i64),(.int .i64),.bool,(.nm 11)]
 | 13=>[(.int .i64),.str,(.int .i64),(.int .i64)]
 | 14=>[(.int .i64),(.nm 11),(.nm 11)]
 | 15=>[(.sl .str),(.sl .str),(.sl (.nm 6))]
 | 16=>[(.nm 7),(.sl .str),(.sl .str),.str,(.sl .str),.str,(.int .i64),.bool]
 | 17=>[(.int .i64),(.int .i64),.str,.bool,(.sl (.nm 17))]
 | 18=>[.ptr,(.sl (.nm 8))]
 | 19=>[.str,(.int .i64),.bool]
 | 20=>[(.int .i64),(.int .i64),.str,.bool,(.int .i64),(.int .i64)]
 | _=>[]
def gun:∀ n,gT n→Js gT (gfs n)
 | 0,x=>(x.Bytes,(x.Sure,()))
 | 1,x=>(x.b,(x.i,(x.h,())))
 | 2,x=>(x.Kind,(x.Term,(x.Vote,(x.Prev,(x.List,(x.Snap,()))))))
 | 3,x=>(x.Term,(x.C,()))
 | 4,x=>(x.Who,(x.Seq,(x.Line,())))
 | 5,x=>(x.Vars,(x.Cells,(x.Start,(x.Main,()))))
 | 6,x=>(x.Code,(x.N,(x.S,())))
 | 7,x=>(x.Vars,(x.Cells,(x.Nr,(x.Err,()))))
 | 8,x=>(x.Kind,(x.N,(x.S,())))
 | 9,x=>(x.Name,(x.Key,(x.Val,())))
 | 10,x=>(x.State,(x.Done,(x.Out,())))
 | 11,x=>(x.Op,(x.N,(x.S,(x.Kids,()))))
 | 12,x=>(x.list,(x.at_,(x.bad,(x.has,(x.kept,())))))
 | 13,x=>(x.Kind,(x.Text,(x.N,(x.At,()))))
 | 14,x=>(x.Kind,(x.Pat,(x.Body,())))
 | 15,x=>(x.vars,(x.cells,(x.out,())))
 | 16,x=>(x.s,(x.vars,(x.cells,(x.line,(x.fields,(x.out,(x.fuel,(x.done,()))))))))
 | 17,x=>(x.Op,(x.C,(x.Set,(x.Not,(x.Kids,())))))
 | 18,x=>(x.l,(x.stack,()))
 | 19,x=>(x.s,(x.at_,(x.bad,())))
 | 20,x=>(x.Op,(x.C,(x.Set,(x.Not,(x.A,(x.B,()))))))
 | (n+21),_=>()
def gpk:∀ n,Js gT (gfs n)→gT n
 | 0,y=>⟨y.1,y.2.1⟩
 | 1,y=>⟨y.1,y.2.1,y.2.2.1⟩
 | 2,y=>⟨y.1,y.2.1,y.2.2.1,y.2.2.2.1,y.2.2.2.2.1,y.2.2.2.2.2.1⟩
 | 3,y=>⟨y.1,y.2.1⟩
 | 4,y=>⟨y.1,y.2.1,y.2.2.1⟩
 | 5,y=>⟨y.1,y.2.1,y.2.2.1,y.2.2.2.1⟩
 | 6,y=>⟨y.1,y.2.1,y.2.2.1⟩
 | 7,y=>⟨y.1,y.2.1,y.2.2.1,y.2.2.2.1⟩
 | 8,y=>⟨y.1,y.2.1,y.2.2.1⟩
 | 9,y=>⟨y.1,y.2.1,y.2.2.1⟩
 | 10,y=>⟨y.1,y.2.1,y.2.2.1⟩
 | 11,y=>⟨y.1,y.2.1,y.2.2.1,y.2.2.2.1⟩
 | 12,y=>⟨y.1,y.2.1,y.2.2.1,y.2.2.2.1,y.2.2.2.2.1⟩
 | 13,y=>⟨y.1,y.2.1,y.2.2.1,y.2.2.2.1⟩
 | 14,y=>⟨y.1,y.2.1,y.2.2.1⟩
 | 15,y=>⟨y.1,y.2.1,y.2.2.1⟩
 | 16,y=>⟨y.1,y.2.1,y.2.2.1,y.2.2.2.1,y.2.2.2.2.1,y.2.2.2.2.2.1,y.2.2.2.2.2.2.1,y.2.2.2.2.2.2.2.1⟩
 | 17,y=>⟨y.1,y.2.1,y.2.2.1,y.2.2.2.1,y.2.2.2.2.1⟩
 | 18,y=>⟨y.1,y.2.1⟩
 | 19,y=>⟨y.1,y.2.1,y.2.2.1⟩
 | 20,y=>⟨y.1,y.2.1,y.2.2.1,y.2.2.2.1,y.2.2.2.2.1,y.2.2.2.2.2.1⟩
 | (n+21),_=>()
theorem Bp:∀ n y,gun n (gpk n y)=y
 | 0,_=>rfl
 | 1,_=>rfl
 | 2,_=>rfl
 | 3,_=>rfl
 | 4,_=>rfl
 | 5,_=>rfl
 | 6,_=>rfl
 | 7,_=>rfl
 | 8,_=>rfl
 | 9,_=>rfl
 | 10,_=>rfl
 | 11,_=>rfl
 | 12,_=>rfl
 | 13,_=>rfl
 | 14,_=>rfl
 | 15,_=>rfl
 | 16,_=>rfl
 | 17,_=>rfl
 | 18,_=>rfl
 | 19,_=>rfl
 | 20,_=>rfl
 | (n+21),_=>rfl
theorem Bn:∀ n x,gpk n (gun n x)=x
 | 0,x=>by cases x;rfl
 | 1,x=>by cases x;rfl
 | 2,x=>by cases x;rfl
 | 3,x=>by cases x;rfl
 | 4,x=>by cases x;rfl
 | 5,x=>by cases x;rfl
 | 6,x=>by cases x;rfl
 | 7,x=>by cases x;rfl
 | 8,x=>by cases x;rfl
 | 9,x=>by cases x;rfl
 | 10,x=>by cases x;rfl
 | 11,x=>by cases x;rfl
 | 12,x=>by cases x;rfl
 | 13,x=>by cases x;rfl
 | 14,x=>by cases x;rfl
 | 15,x=>by cases x;rfl
 | 16,x=>by cases x;rfl
 | 17,x=>by cases x;rfl
 | 18,x=>by cases x;rfl
 | 19,x=>by cases x;rfl
 | 20,x=>by cases x;rfl
 | (n+21),_=>rfl
def gz:∀ n,gT n
 | 0=>J8
 | 1=>Kd
 | 2=>J9
 | 3=>iL
 | 4=>qU
 | 5=>zt
 | 6=>di
 | 7=>fG
 | 8=>cj
 | 9=>dV
 | 10=>qV
 | 11=>cl
 | 12=>Kf
 | 13=>gU
 | 14=>bV
 | 15=>Kb
 | 16=>Ka
 | 17=>cY
 | 18=>Kc
 | 19=>Ke
 | 20=>cg
 | (n+21)=>()
theorem Bq:∀ n,gun n (gz n)=gg gz (gfs n)
 | 0=>rfl
 | 1=>rfl
 | 2=>rfl
 | 3=>rfl
 | 4=>rfl
 | 5=>rfl
 | 6=>rfl
 | 7=>rfl
 | 8=>rfl
 | 9=>rfl
 | 10=>rfl
 | 11=>rfl
 | 12=>rfl
 | 13=>rfl
 | 14=>rfl
 | 15=>rfl
 | 16=>rfl
 | 17=>rfl
 | 18=>rfl
 | 19=>rfl
 | 20=>rfl
 | (n+21)=>rfl
def gsz:Nat→Nat
 | 0=>2
 | 1=>3
 | 2=>6
 | 3=>4
 | 4=>3
 | 5=>4
 | 6=>3
 | 7=>4
 | 8=>3
 | 9=>5
 | 10=>6
 | 11=>4
 | 12=>8
 | 13=>4
 | 14=>9
 | 15=>3
 | 16=>11
 | 17=>5
 | 18=>2
 | 19=>3
 | 20=>6
 | _=>0
theorem Bo:∀ n,gsz n=FT.szs gsz (gfs n)
 | 0=>rfl
 | 1=>rfl
 | 2=>rfl
 | 3=>rfl
 | 4=>rfl
 | 5=>rfl
 | 6=>rfl
 | 7=>rfl
 | 8=>rfl
 | 9=>rfl
 | 10=>rfl
 | 11=>rfl
 | 12=>rfl
 | 13=>rfl
 | 14=>rfl
 | 15=>rfl
 | 16=>rfl
 | 17=>rfl
 | 18=>rfl
 | 19=>rfl
 | 20=>rfl
 | (n+21)=>rfl
def gfl:Nat→Bool
 | 0=>false
 | 1=>false
 | 2=>false
 | 3=>true
 | 4=>true
 | 5=>false
 | 6=>true
 | 7=>false
 | 8=>true
 | 9=>true
 | 10=>false
 | 11=>false
 | 12=>false
 | 13=>true
 | 14=>false
 | 15=>false
 | 16=>false
 | 17=>false
 | 18=>false
 | 19=>true
 | 20=>true
 | _=>true
theorem Bm:∀ n,gfl n=true→FT.flats gfl (gfs n)=true
 | 0,h=>by cases h
 | 1,h=>by cases h
 | 2,h=>by cases h
 | 3,h=>rfl
 | 4,h=>rfl
 | 5,h=>by cases h
 | 6,h=>rfl
 | 7,h=>by cases h
 | 8,h=>rfl
 | 9,h=>rfl
 | 10,h=>by cases h
 | 11,h=>by cases h
 | 12,h=>by cases h
 | 13,h=>rfl
 | 14,h=>by cases h
 | 15,h=>by cases h
 | 16,h=>by cases h
 | 17,h=>by cases h
 | 18,h=>by cases h
 | 19,h=>rfl
 | 20,h=>rfl
 | (n+21),_=>rfl
def gam:Gam:=⟨gT,gfs,gun,gpk,Bp,Bn,gz,Bq,gsz,Bo,gfl,Bm⟩
def tyL:List (Nat×FT):=[(2,(.int .i64)),(3,(.int .i64)),(4,.bool),(5,(.int .u8)),(6,(.int .u8)),(9,.str),(22,(.sl (.int .u8))),(25,(.nm 0)),(40,(.sl (.int .i64))),(45,(.nm 1)),(49,(.sl (.nm 3))),(51,(.nm 2)),(56,(.sl .str)),(57,(.sl (.nm 6))),(59,(.nm 5)),(60,(.sl (.nm 8))),(61,(.sl (.nm 9))),(63,(.nm 7)),(65,(.nm 10)),(70,(.int .u64)),(73,(.nm 4)),(75,(.nm 3)),(80,(.sl (.nm 4))),(84,(.nm 8)),(86,(.nm 9)),(97,(.sl (.nm 14))),(110,(.sl (.nm 13))),(114,(.sl (.nm 11))),(116,(.nm 11)),(118,(.nm 12)),(120,(.nm 13)),(123,(.nm 14)),(131,(.nm 15)),(135,(.nm 6)),(138,.ptr),(141,(.nm 16)),(156,(.sl (.nm 17))),(158,(.nm 17)),(163,(.nm 18)),(179,(.nm 19)),(207,(.sl (.sl .str))),(208,(.sl (.sl (.int .i64)))),(219,(.sl .bool)),(224,(.sl (.nm 20))),(238,(.nm 20))]
def wt:List Nat:=[]
abbrev BT0:BT:=.leaf false .str
abbrev BT1:BT:=.leaf false .bool
abbrev BT2:BT:=.leaf true (.nm 7)
abbrev BT3:BT:=.leaf true (.nm 6)
abbrev BT4:BT:=.leaf true (.nm 8)
abbrev BT5:BT:=.leaf false (.nm 1)
abbrev BT6:BT:=.leaf false (.nm 7)
abbrev BT7:BT:=.leaf false (.nm 2)
abbrev BT8:BT:=.leaf false (.nm 5)
abbrev BT9:BT:=.leaf true (.nm 16)
abbrev ej:BT:=.leaf true (.nm 18)
abbrev eB:BT:=.leaf true (.nm 19)
abbrev cQ:BT:=.leaf true (.nm 17)
abbrev oJ:BT:=.leaf true (.nm 20)
abbrev dj:BT:=.leaf false (.nm 0)
abbrev cR:BT:=.leaf false (.nm 8)
abbrev qW:BT:=.leaf false (.nm 4)
abbrev jH:BT:=.leaf false (.nm 6)
abbrev eT:BT:=.leaf false (.nm 10)
abbrev b9:BT:=.leaf false (.nm 11)
abbrev cf:BT:=.leaf false (.nm 12)
abbrev eC:BT:=.leaf false (.nm 17)
abbrev eD:BT:=.leaf false (.nm 19)
abbrev uB:BT:=.leaf true (.sl .str)
abbrev cO:BT:=.leaf false (.sl .str)
abbrev eU:BT:=.leaf false (.int .u8)
abbrev gW:BT:=.leaf true (.sl .bool)
abbrev bP:BT:=.leaf false (.int .i64)
abbrev oK:BT:=.leaf false (.sl .bool)
abbrev qX:BT:=.leaf false (.sl (.nm 4))
abbrev qY:BT:=.leaf false (.sl (.nm 3))
abbrev oL:BT:=.leaf false (.sl (.nm 6))
abbrev iR:BT:=.leaf false (.sl (.nm 8))
abbrev fk:BT:=.leaf true (.sl (.nm 20))
abbrev ek:BT:=.leaf false (.sl (.nm 14))
abbrev oM:BT:=.leaf false (.sl (.nm 13))
abbrev em:BT:=.leaf false (.sl (.nm 20))
abbrev eE:BT:=.leaf true (.sl (.int .u8))
abbrev dd:BT:=.leaf false (.sl (.int .u8))
abbrev qZ:BT:=.leaf false (.sl (.sl .str))
abbrev iS:BT:=.leaf true (.sl (.int .i64))
abbrev gX:BT:=.leaf false (.sl (.int .i64))
abbrev q8:BT:=.leaf false (.sl (.sl (.int .i64)))
abbrev cN:BT:=.pr (.leaf false (.sl .str)) (.pr (.leaf false (.sl .str)) (.pr (.leaf true (.sl (.nm 6))) (.un)))
abbrev gh:BT:=.pr (.leaf false (.int .i64)) (.pr (.leaf false (.int .i64)) (.pr (.leaf false .str) (.pr (.sp (.nm 11)) (.un))))
abbrev cZ:BT:=.pr (.leaf true (.nm 7)) (.pr (.leaf true (.sl .str)) (.pr (.leaf true (.sl .str)) (.pr (.leaf false .str) (.pr (.leaf true (.sl .str)) (.pr (.leaf false .str) (.pr (.leaf false (.int .i64)) (.pr (.leaf false .bool) (.un))))))))
def keyL:List KeyI:=[
 ⟨0,[],[]⟩,
 ⟨1,[],[]⟩,
 ⟨2,[],[]⟩,
 ⟨3,[],[]⟩,
 ⟨4,[],[]⟩,
 ⟨5,[],[]⟩,
 ⟨6,[],[]⟩,
 ⟨7,[],[]⟩,
 ⟨8,[],[]⟩,
 ⟨9,[],[]⟩,
 ⟨10,[],[]⟩,
 ⟨11,[],[]⟩,
 ⟨12,[],[]⟩,
 ⟨13,[],[]⟩,
 ⟨14,[],[]⟩,
 ⟨14,[true,true,false,true,false],[.val 0 (dd),.val 3 (bP),.val 4 (bP)]⟩,
 ⟨15,[],[]⟩,
 ⟨16,[],[]⟩,
 ⟨17,[],[]⟩,
 ⟨18,[],[]⟩,
 ⟨19,[],[]⟩,
 ⟨20,[],[]⟩,
 ⟨21,[],[]⟩,
 ⟨21,[true,true,false,true,false],[.ptr 0 0,.own 3 48 (eE),.val 4 (bP),.slot 0 (BT5) true none]⟩,
 ⟨22,[],[]⟩,
 ⟨23,[],[]⟩,
 ⟨24,[],[]⟩,
 ⟨25,[],[]⟩,
 ⟨26,[],[]⟩,
 ⟨27,[],[]⟩,
 ⟨28,[],[]⟩,
 ⟨29,[],[]⟩,
 ⟨30,[],[]⟩,
 ⟨30,[true,true,true,false,true,false],[.ptr 1 16,.ptr 3 48,.own 4 64 (eE),.val 5 (bP),.slot 16 (eT) true none,.slot 48 (BT6) true none]⟩,
 ⟨30,[true,true,true,true,true,false,true,false],[.ptr 1 16,.ptr 3 48,.own 4 64 (eE),.val 6 (bP),.slot 16 (eT) true none,.slot 48 (BT6) true none]⟩,
 ⟨30,[true,true,true,true,true,true,true,true,false,true,false],[.ptr 1 16,.own 4 64 (eE),.val 7 (bP),.slot 16 (eT) true none]⟩,
 ⟨31,[],[]⟩,
 ⟨31,[true,true,true,false,true,false],[.ptr 0 0,.val 1 (bP),.own 7 112 (.leaf true (.sl (.nm 3))),.val 8 (bP),.val 9 (bP),.slot 0 (BT5) true none]⟩,
 ⟨32,[],[]⟩,
 ⟨33,[],[]⟩,
 ⟨33,[true,true,true,true,true,false,true,false],[.ptr 1 16,.own 3 48 (eE),.val 4 (bP),.slot 16 (BT7) true none]⟩,
 ⟨34,[],[]⟩,
 ⟨34,[true,true,true,false,false],[.val 0 (bP),.own 3 48 (eE)]⟩,
 ⟨35,[],[]⟩,
 ⟨36,[],[]⟩,
 ⟨37,[],[]⟩,
 ⟨37,[true,true,true,false,true,false],[.ptr 0 0,.own 5 80 (.leaf true (.sl (.nm 4))),.val 6 (bP),.val 7 (bP),.slot 0 (BT5) true none]⟩,
 ⟨38,[],[]⟩,
 ⟨38,[true,true,true,false,true,false],[.ptr 2 32,.ptr 4 64,.ptr 5 80,.val 1 (qX),.val 6 (bP),.slot 32 (BT8) true none,.slot 64 (.leaf true (.nm 10)) true none,.slot 80 (eT) true none]⟩,
 ⟨39,[],[]⟩,
 ⟨40,[],[]⟩,
 ⟨41,[],[]⟩,
 ⟨42,[],[]⟩,
 ⟨42,[true,false,true,false],[.val 0 (qY),.val 1 (bP),.val 5 (bP)]⟩,
 ⟨43,[],[]⟩,
 ⟨43,[true,true,false,true,false],[.val 0 (dd),.val 3 (bP),.val 4 (bP),.val 5 (bP)]⟩,
 ⟨44,[],[]⟩,
 ⟨45,[],[]⟩,
 ⟨46,[],[]⟩,
 ⟨46,[true,false,true,false],[.ptr 1 16,.val 3 (bP),.slot 16 (BT8) true none]⟩,
 ⟨46,[true,true,false,true,false],[.ptr 1 16,.val 4 (bP),.slot 16 (BT8) true none]⟩,
 ⟨47,[],[]⟩,
 ⟨48,[],[]⟩,
 ⟨49,[],[]⟩,
 ⟨50,[],[]⟩,
 ⟨51,[],[]⟩,
 ⟨52,[],[]⟩,
 ⟨52,[true,true,false,true,false],[.ptr 0 0,.val 3 (BT0),.val 4 (bP),.slot 0 (BT5) true none]⟩,
 ⟨53,[],[]⟩,
 ⟨54,[],[]⟩,
 ⟨55,[],[]⟩,
 ⟨55,[true,true,true,true,true,true,true,false,false],[.ptr 7 368,.val 4 (ek),.own 8 128 (.sp (.nm 14)),.val 9 (bP),.slot 368 (.pr (oM) (.pr (bP) (.pr (bP) (.pr (BT1) (.pr (b9) (.un)))))) true none]⟩,
 ⟨56,[],[]⟩,
 ⟨56,[true,true,true,true,true,true,false,true,false],[.ptr 2 32,.ptr 7 432,.ptr 8 496,.val 0 (ek),.val 5 (cO),.val 6 (cO),.val 9 (bP),.slot 32 (.leaf true (.nm 5)) true none,.slot 432 (cN) true none,.slot 496 (cN) true none]⟩,
 ⟨57,[],[]⟩,
 ⟨57,[true,false,true,false],[.val 0 (BT0),.val 3 (bP)]⟩,
 ⟨58,[],[]⟩,
 ⟨58,[true,false,true,false],[.val 0 (cO),.val 1 (BT0),.val 5 (bP)]⟩,
 ⟨59,[],[]⟩,
 ⟨59,[true,true,true,false,true,false],[.val 0 (oL),.val 1 (bP),.val 2 (bP),.val 7 (bP),.val 8 (bP)]⟩,
 ⟨60,[],[]⟩,
 ⟨61,[],[]⟩,
 ⟨62,[],[]⟩,
 ⟨62,[true,false,true,false],[.val 0 (BT0),.val 3 (bP)]⟩,
 ⟨63,[],[]⟩,
 ⟨64,[],[]⟩,
 ⟨64,[true,true,true,true],[.ptr 3 48,.ptr 4 64,.ptr 6 96,.ptr 8 272,.slot 48 (BT8) true none,.slot 64 (BT6) true none,.slot 96 (BT2) true none,.slot 272 (BT9) true none]⟩,
 ⟨65,[],[]⟩,
 ⟨65,[true,true,true,true,false,false],[.val 0 (BT0),.own 4 64 (.leaf true (.sl (.nm 13))),.val 5 (bP)]⟩,
 ⟨65,[true,true,true,true,false,false,false,true,false,true,false,true,false,false,false],[.val 0 (BT0),.own 4 64 (.leaf true (.sl (.nm 13))),.val 5 (bP)]⟩,
 ⟨66,[],[]⟩,
 ⟨67,[],[]⟩,
 ⟨68,[],[]⟩,
 ⟨68,[true,true,false,true,false],[.ptr 1 16,.val 3 (bP),.val 4 (bP),.slot 16 (b9) true none]⟩,
 ⟨69,[],[]⟩,
 ⟨69,[true,true,false,true,false],[.val 0 (ek),.val 3 (bP)]⟩,
 ⟨69,[true,true,true,true,true,false,true,false],[.val 0 (ek),.val 4 (cO),.val 5 (cO),.val 6 (bP)]⟩,
 ⟨69,[true,true,true,true,true,true,false,true,false],[.val 0 (ek),.val 7 (bP)]⟩,
 ⟨69,[true,true,true,true,true,true,true,false,true,false],[.val 0 (ek),.val 8 (bP)]⟩,
 ⟨70,[],[]⟩,
 ⟨70,[true,true,false,true,false],[.val 0 (ek),.val 4 (cO),.val 5 (cO),.val 6 (bP)]⟩,
 ⟨71,[],[]⟩,
 ⟨71,[true,true,false],[.ptr 0 0,.ptr 3 48,.val 4 (bP),.slot 0 (cN) true none,.slot 48 (b9) true none]⟩,
 ⟨72,[],[]⟩,
 ⟨72,[true,true,false,true],[.ptr 0 0,.ptr 3 48,.val 6 (bP),.val 24 (BT1),.slot 0 (cN) true none,.slot 48 (b9) true none]⟩,
 ⟨72,[true,true,false,true,true,true,true,true,true,true,true,false,true,false],[.ptr 0 0,.ptr 3 48,.val 4 (bP),.slot 0 (cN) true none,.slot 48 (b9) true none]⟩,
 ⟨73,[],[]⟩,
 ⟨74,[],[]⟩,
 ⟨75,[],[]⟩,
 ⟨76,[],[]⟩,
 ⟨76,[true,false,true,false,true,true,true,true,true],[.ptr 4 64,.val 1 (bP),.val 2 (bP),.val 3 (bP),.val 12 (bP),.val 28 (BT1),.slot 64 (BT3) true none]⟩,
 ⟨76,[true,false,true,false,true,true,true,true,true,true,true],[.ptr 4 64,.val 1 (bP),.val 3 (bP),.val 12 (bP),.val 46 (BT1),.slot 64 (BT3) true none]⟩,
 ⟨76,[true,false,true,false,true,true,true,true,true,true,true,true,true],[.ptr 4 64,.val 1 (bP),.val 12 (bP),.val 65 (BT1),.slot 64 (BT3) true none]⟩,
 ⟨76,[true,false,true,false,true,true,true,true,true,true,true,true,true,true,true,true,true],[.ptr 4 64,.val 1 (bP),.val 12 (bP),.val 91 (BT1),.slot 64 (BT3) true none]⟩,
 ⟨77,[],[]⟩,
 ⟨78,[],[]⟩,
 ⟨78,[true,true,true,false],[.ptr 0 0,.ptr 4 176,.wrd 176 0,.val 1 (oL),.val 5 (bP),.val 6 (bP),.slot 0 (BT9) true none,.slot 176 (ej) true none]⟩,
 ⟨79,[],[]⟩,
 ⟨80,[],[]⟩,
 ⟨80,[true,true,true,false,true,false],[.val 0 (BT0),.own 3 48 (uB),.val 4 (bP),.val 5 (bP)]⟩,
 ⟨81,[],[]⟩,
 ⟨82,[],[]⟩,
 ⟨82,[true,true,false,false,true,false,true,false,false],[.ptr 6 96,.val 0 (BT0),.val 1 (bP),.val 10 (bP),.slot 96 (.leaf true (.nm 13)) true none]⟩,
 ⟨83,[],[]⟩,
 ⟨84,[],[]⟩,
 ⟨85,[],[]⟩,
 ⟨85,[true,true,true,false,false],[.ptr 0 0,.ptr 2 32,.ptr 3 48,.slot 0 (cf) true none,.slot 32 (gh) true none,.slot 48 (gh) true none]⟩,
 ⟨86,[],[]⟩,
 ⟨87,[],[]⟩,
 ⟨87,[true,true,false,true,false,true,true,true],[.ptr 0 0,.ptr 2 32,.ptr 4 64,.val 5 (bP),.slot 0 (cf) true none,.slot 32 (gh) true none,.slot 64 (b9) true none]⟩,
 ⟨88,[],[]⟩,
 ⟨89,[],[]⟩,
 ⟨89,[true,false,true,false],[.val 0 (ek),.val 3 (bP)]⟩,
 ⟨90,[],[]⟩,
 ⟨90,[true,true,false,true,false],[.ptr 1 16,.val 3 (bP),.slot 16 (b9) true none]⟩,
 ⟨91,[],[]⟩,
 ⟨91,[true,true,true],[.ptr 1 16,.val 3 (bP),.slot 16 (b9) true none]⟩,
 ⟨91,[true,true,true,false,true,false],[.ptr 1 16,.val 3 (bP),.val 4 (bP),.slot 16 (b9) true none]⟩,
 ⟨92,[],[]⟩,
 ⟨92,[true,true,true,false,true,false],[.ptr 1 16,.val 5 (bP),.slot 16 (b9) true none]⟩,
 ⟨93,[],[]⟩,
 ⟨93,[true,true],[.ptr 3 48,.val 1 (cO),.val 2 (cO),.slot 48 (b9) true none]⟩,
 ⟨93,[true,true,false,true,false],[.ptr 3 48,.val 1 (cO),.val 2 (cO),.val 8 (bP),.slot 48 (b9) true none]⟩,
 ⟨94,[],[]⟩,
 ⟨95,[],[]⟩,
 ⟨96,[],[]⟩,
 ⟨97,[],[]⟩,
 ⟨98,[],[]⟩,
 ⟨99,[],[]⟩,
 ⟨100,[],[]⟩,
 ⟨101,[],[]⟩,
 ⟨102,[],[]⟩,
 ⟨102,[true,true,true,true,true,true],[.wrd 0 1,.val 2 (bP),.slot 0 (.pr (.leaf false .ptr) (.pr (.leaf true (.sl (.nm 8))) (.un))) true none,.slot 1 (cZ) true none]⟩,
 ⟨102,[true,true,true,true,true,false,true,false,true,true,true,true,true,true,true,true,true,true,true,true,true],[.ptr 0 0,.ptr 4 64,.wrd 0 1,.val 2 (bP),.val 9 (iR),.val 93 (BT1),.slot 0 (ej) true none,.slot 1 (BT9) true none,.slot 64 (BT3) true none]⟩,
 ⟨103,[],[]⟩,
 ⟨104,[],[]⟩,
 ⟨104,[true,true,false,false],[.val 0 (BT0),.val 1 (bP),.val 7 (bP)]⟩,
 ⟨104,[true,true,true,false,true,false,true,true,false,false],[.val 0 (BT0),.val 1 (bP),.val 7 (bP),.val 8 (bP)]⟩,
 ⟨104,[true,true,true,true],[.val 0 (BT0),.val 1 (bP),.val 7 (bP)]⟩,
 ⟨105,[],[]⟩,
 ⟨105,[true,true,false,true,false],[.val 0 (BT0),.own 7 112 (eE),.val 8 (bP)]⟩,
 ⟨106,[],[]⟩,
 ⟨107,[],[]⟩,
 ⟨107,[true,true,false,true,false],[.val 0 (BT0),.own 7 112 (eE),.val 8 (bP)]⟩,
 ⟨108,[],[]⟩,
 ⟨108,[true,true,false,true,false],[.val 0 (BT0),.val 1 (bP),.val 5 (cO),.val 6 (bP)]⟩,
 ⟨109,[],[]⟩,
 ⟨110,[],[]⟩,
 ⟨111,[],[]⟩,
 ⟨112,[],[]⟩,
 ⟨113,[],[]⟩,
 ⟨113,[true,true,false,true,false,true,true,true,true,true,true,true],[.ptr 1 16,.val 23 (bP),.val 44 (BT1),.slot 16 (b9) true none]⟩,
 ⟨114,[],[]⟩,
 ⟨115,[],[]⟩,
 ⟨115,[true,true,true,false,false],[.val 0 (cO),.val 1 (BT0),.val 5 (bP)]⟩,
 ⟨116,[],[]⟩,
 ⟨116,[true,true],[.ptr 0 0,.ptr 3 48,.slot 0 (cN) true none,.slot 48 (b9) true none]⟩,
 ⟨116,[true,true,false,true,false],[.ptr 0 0,.ptr 3 48,.val 4 (bP),.slot 0 (cN) true none,.slot 48 (b9) true none]⟩,
 ⟨117,[],[]⟩,
 ⟨118,[],[]⟩,
 ⟨119,[],[]⟩,
 ⟨119,[true,false,true,false],[.val 0 (cO),.val 1 (BT0),.val 5 (bP)]⟩,
 ⟨120,[],[]⟩,
 ⟨121,[],[]⟩,
 ⟨121,[true,true,false,false],[.ptr 0 0,.ptr 4 64,.val 1 (bP),.own 5 80 (.leaf true (.sl (.nm 17))),.slot 0 (eB) true none,.slot 64 (cQ) true none]⟩,
 ⟨122,[],[]⟩,
 ⟨122,[true,true,false,true,false],[.ptr 1 16,.val 3 (bP),.val 4 (bP),.slot 16 (eC) true none]⟩,
 ⟨123,[],[]⟩,
 ⟨123,[true,false,true,false,true],[.ptr 1 16,.val 4 (bP),.val 5 (BT1),.slot 16 (BT3) true none]⟩,
 ⟨124,[],[]⟩,
 ⟨124,[true,false,true,false,true],[.ptr 1 16,.val 4 (bP),.val 5 (BT1),.slot 16 (BT4) true none]⟩,
 ⟨125,[],[]⟩,
 ⟨126,[],[]⟩,
 ⟨127,[],[]⟩,
 ⟨128,[],[]⟩,
 ⟨128,[true,true,true,true],[.ptr 0 0,.ptr 6 1,.ptr 7 112,.wrd 0 1,.slot 0 (ej) true none,.slot 1 (cZ) true none,.slot 112 (BT4) true none]⟩,
 ⟨129,[],[]⟩,
 ⟨129,[true,true,false,false],[.val 0 (BT0),.val 4 (bP)]⟩,
 ⟨129,[true,true,true,true,true],[.val 0 (BT0),.val 4 (bP),.val 5 (BT1)]⟩,
 ⟨129,[true,true,true,true,true,true,false,false],[.val 0 (BT0),.val 4 (bP),.val 5 (BT1),.val 6 (bP),.val 7 (bP)]⟩,
 ⟨129,[true,true,true,true,true,true,true,false,true,false,true,true,false],[.val 0 (BT0),.val 4 (bP),.val 5 (BT1),.val 6 (bP),.val 7 (bP),.val 8 (bP)]⟩,
 ⟨129,[true,true,true,true,true,true,true,true],[.val 4 (bP),.val 5 (BT1),.val 6 (bP),.val 7 (bP)]⟩,
 ⟨130,[],[]⟩,
 ⟨131,[],[]⟩,
 ⟨132,[],[]⟩,
 ⟨132,[true,false,false,true,false,true,true,false,false],[.ptr 0 0,.ptr 2 32,.ptr 3 48,.slot 0 (cf) true none,.slot 32 (gh) true none,.slot 48 (gh) true none]⟩,
 ⟨133,[],[]⟩,
 ⟨133,[true,true,false,false],[.ptr 0 0,.val 1 (BT0),.own 5 80 (.sp (.nm 11)),.slot 0 (cf) true none]⟩,
 ⟨134,[],[]⟩,
 ⟨135,[],[]⟩,
 ⟨135,[true,true,true,false,true,false],[.ptr 0 0,.ptr 2 32,.ptr 4 64,.val 3 (cO),.val 5 (bP),.slot 0 (cf) true none,.slot 32 (gh) true none,.slot 64 (b9) true none]⟩,
 ⟨136,[],[]⟩,
 ⟨136,[true,true,false,false],[.ptr 0 0,.ptr 2 32,.ptr 3 48,.slot 0 (cf) true none,.slot 32 (gh) true none,.slot 48 (b9) true none]⟩,
 ⟨137,[],[]⟩,
 ⟨138,[],[]⟩,
 ⟨138,[true,true,true,true,false,false],[.ptr 0 0,.ptr 4 64,.ptr 7 112,.val 1 (bP),.val 5 (qZ),.val 6 (q8),.slot 0 (cf) true none,.slot 64 (b9) true none,.slot 112 (b9) true none]⟩,
 ⟨138,[true,true,true,true,false,false,false,true,false,true,false,false],[.ptr 0 0,.ptr 4 64,.ptr 7 112,.val 1 (bP),.val 5 (qZ),.val 6 (q8),.val 8 (bP),.slot 0 (cf) true none,.slot 64 (b9) true none,.slot 112 (b9) true none]⟩,
 ⟨138,[true,true,true,true,false,false,false,true,false,true,true,true,true,true,true],[.ptr 0 0,.ptr 4 64,.ptr 7 112,.val 1 (bP),.val 5 (qZ),.val 6 (q8),.val 8 (bP),.slot 0 (cf) true none,.slot 64 (b9) true none,.slot 112 (b9) true none]⟩,
 ⟨139,[],[]⟩,
 ⟨139,[true,true,false,true,false,true],[.ptr 1 16,.val 3 (bP),.val 9 (bP),.val 10 (BT1),.slot 16 (b9) true none]⟩,
 ⟨139,[true,true,false,true,false,true,true,true],[.ptr 1 16,.val 3 (bP),.val 9 (bP),.val 23 (BT1),.slot 16 (b9) true none]⟩,
 ⟨139,[true,true,false,true,false,true,true,true,true,true],[.ptr 1 16,.val 3 (bP),.val 9 (bP),.val 45 (BT1),.slot 16 (b9) true none]⟩,
 ⟨139,[true,true,false,true,false,true,true,true,true,true,true,true],[.ptr 1 16,.val 3 (bP),.val 9 (bP),.val 70 (BT1),.slot 16 (b9) true none]⟩,
 ⟨139,[true,true,false,true,false,true,true,true,true,true,true,true,true,true,true,true,true,true,false,false,true,false],[.ptr 1 16,.val 3 (bP),.val 4 (bP),.slot 16 (b9) true none]⟩,
 ⟨140,[],[]⟩,
 ⟨140,[true,false,true,false],[.val 0 (BT0),.val 3 (bP)]⟩,
 ⟨141,[],[]⟩,
 ⟨141,[true,true,false,false],[.ptr 0 0,.ptr 4 64,.val 1 (bP),.own 5 80 (.leaf true (.sl (.nm 17))),.slot 0 (eB) true none,.slot 64 (cQ) true none]⟩,
 ⟨142,[],[]⟩,
 ⟨143,[],[]⟩,
 ⟨143,[true,true,true,true,true,false,true,false,true,false,false],[.val 0 (bP),.val 4 (BT0),.val 6 (BT0)]⟩,
 ⟨143,[true,true,true,true,true,true],[.val 0 (bP),.val 4 (BT0)]⟩,
 ⟨144,[],[]⟩,
 ⟨145,[],[]⟩,
 ⟨145,[true,false,true,false,true],[.ptr 1 16,.val 6 (bP),.val 7 (BT1),.slot 16 (BT4) true none]⟩,
 ⟨146,[],[]⟩,
 ⟨146,[true,true,true],[.ptr 0 0,.ptr 8 128,.val 9 (bP),.val 10 (BT1),.slot 0 (BT9) true none,.slot 128 (BT4) true none]⟩,
 ⟨147,[],[]⟩,
 ⟨148,[],[]⟩,
 ⟨149,[],[]⟩,
 ⟨150,[],[]⟩,
 ⟨151,[],[]⟩,
 ⟨152,[],[]⟩,
 ⟨153,[],[]⟩,
 ⟨154,[],[]⟩,
 ⟨155,[],[]⟩,
 ⟨156,[],[]⟩,
 ⟨157,[],[]⟩,
 ⟨158,[],[]⟩,
 ⟨158,[true,true,true,false,true,false,true],[.ptr 3 48,.val 12 (bP),.val 13 (BT1),.slot 0 (cf) true none,.slot 48 (.leaf true (.nm 13)) true none]⟩,
 ⟨159,[],[]⟩,
 ⟨160,[],[]⟩,
 ⟨160,[true,false,true,false],[.ptr 3 48,.val 2 (bP),.val 7 (bP),.slot 48 (b9) true none]⟩,
 ⟨161,[],[]⟩,
 ⟨161,[true,false,true,false],[.ptr 2 32,.val 5 (bP),.slot 32 (b9) true none]⟩,
 ⟨162,[],[]⟩,
 ⟨162,[true,true,false,false],[.ptr 0 0,.ptr 4 64,.ptr 5 80,.slot 0 (eB) true none,.slot 64 (cQ) true none,.slot 80 (cQ) true none]⟩,
 ⟨162,[true,true,false,false,false,true,false,true,true],[.ptr 0 0,.ptr 4 64,.ptr 5 80,.val 6 (bP),.slot 0 (eB) true none,.slot 64 (cQ) true none,.slot 80 (cQ) true none]⟩,
 ⟨163,[],[]⟩,
 ⟨164,[],[]⟩,
 ⟨164,[true,true,true,false,false],[.val 0 (bP),.val 3 (BT0)]⟩,
 ⟨165,[],[]⟩,
 ⟨166,[],[]⟩,
 ⟨167,[],[]⟩,
 ⟨168,[],[]⟩,
 ⟨169,[],[]⟩,
 ⟨169,[true,false,true,false],[.ptr 3 48,.val 1 (bP),.val 2 (BT0),.val 7 (bP),.slot 48 (BT6) true none]⟩,
 ⟨170,[],[]⟩,
 ⟨170,[true,true,true,true,true,true,false,false],[.ptr 4 64,.ptr 7 112,.ptr 8 128,.ptr 10 160,.val 1 (bP),.val 2 (BT0),.val 11 (bP),.slot 64 (BT6) true none,.slot 112 (BT4) true none,.slot 128 (BT2) true none,.slot 160 (BT2) true none]⟩,
 ⟨171,[],[]⟩,
 ⟨171,[true,true],[.ptr 2 32,.val 0 (BT0),.slot 32 (BT4) true none]⟩,
 ⟨172,[],[]⟩,
 ⟨173,[],[]⟩,
 ⟨174,[],[]⟩,
 ⟨175,[],[]⟩,
 ⟨175,[true,true,true,true,true],[.ptr 4 64,.val 5 (eU),.slot 0 (eB) true none,.slot 64 (cQ) true none]⟩,
 ⟨176,[],[]⟩,
 ⟨177,[],[]⟩,
 ⟨178,[],[]⟩,
 ⟨178,[true,true,true,false,false],[.val 0 (BT0),.val 4 (bP),.val 5 (bP)]⟩,
 ⟨179,[],[]⟩,
 ⟨180,[],[]⟩,
 ⟨180,[true,false,true,false],[.val 0 (em),.val 1 (BT0),.val 7 (bP)]⟩,
 ⟨181,[],[]⟩,
 ⟨182,[],[]⟩,
 ⟨182,[true,false,true,false],[.val 0 (BT0),.val 1 (BT0),.val 5 (bP)]⟩,
 ⟨183,[],[]⟩,
 ⟨183,[true,true,false,true,false],[.val 1 (eU),.val 2 (eU),.own 7 112 (eE),.val 8 (bP)]⟩,
 ⟨184,[],[]⟩,
 ⟨184,[true,true,true,true,true],[.val 3 (BT0),.val 4 (bP),.val 5 (bP)]⟩,
 ⟨185,[],[]⟩,
 ⟨185,[true,true,true],[.ptr 0 0,.ptr 2 32,.ptr 3 48,.slot 0 (eB) true none,.slot 32 (cQ) true none,.slot 48 (cQ) true none]⟩,
 ⟨185,[true,true,true,true,true,false,false],[.ptr 0 0,.ptr 2 32,.ptr 3 48,.own 4 64 (gW),.val 5 (bP),.slot 0 (eB) true none,.slot 32 (cQ) true none,.slot 48 (cQ) true none]⟩,
 ⟨185,[true,true,true,true,true,false,false,false,true,false,true,true,true,true],[.ptr 0 0,.ptr 2 32,.ptr 3 48,.own 4 64 (gW),.val 5 (bP),.val 6 (bP),.val 7 (bP),.slot 0 (eB) true none,.slot 32 (cQ) true none,.slot 48 (cQ) true none]⟩,
 ⟨185,[true,true,true,true,true,true,true],[.ptr 0 0,.ptr 2 32,.ptr 3 48,.val 4 (oK),.slot 0 (eB) true none,.slot 32 (cQ) true none,.slot 48 (cQ) true none]⟩,
 ⟨185,[true,true,true,true,true,false,false,false,true,false,true,true,true,true,true],[.ptr 0 0,.ptr 2 32,.ptr 3 48,.own 4 64 (gW),.val 5 (bP),.val 6 (bP),.val 7 (bP),.slot 0 (eB) true none,.slot 32 (cQ) true none,.slot 48 (cQ) true none]⟩,
 ⟨185,[true,true,true,true,true,true,true,true,true,false,true,false],[.ptr 2 32,.ptr 3 48,.val 4 (oK),.own 9 144 (eE),.val 10 (bP),.slot 0 (eB) true none,.slot 32 (cQ) true none,.slot 48 (cQ) true none]⟩,
 ⟨185,[true,true,true,true,true,false,false,false,true,false,true,true,true,true,true,false,true,false],[.ptr 0 0,.ptr 2 32,.ptr 3 48,.own 4 64 (gW),.val 5 (bP),.val 7 (bP),.val 8 (bP),.slot 0 (eB) true none,.slot 32 (cQ) true none,.slot 48 (cQ) true none]⟩,
 ⟨186,[],[]⟩,
 ⟨187,[],[]⟩,
 ⟨187,[true,true,false,true,false,true,true,true,true,true,true,true,true,true,true,true,false,true,false],[.ptr 3 48,.own 0 2064 (fk),.val 6 (bP),.slot 48 (eC) true none]⟩,
 ⟨187,[true,true,true],[.own 0 2064 (fk)]⟩,
 ⟨188,[],[]⟩,
 ⟨189,[],[]⟩,
 ⟨189,[true,true,true,true,false,true,false],[.val 0 (em),.val 1 (BT0),.val 7 (gX),.val 8 (bP),.val 9 (bP)]⟩,
 ⟨189,[true,true,true,true,false,true,false,false,true,false,false,true],[.val 0 (em),.val 1 (BT0),.val 7 (gX),.val 8 (bP),.val 9 (bP)]⟩,
 ⟨189,[true,true,true,true,false,true,false,false,true,false,false,true,true,true,false,true,false],[.val 0 (em),.val 1 (BT0),.val 7 (gX),.val 8 (bP),.val 9 (bP),.own 10 160 (iS),.val 11 (bP)]⟩,
 ⟨190,[],[]⟩,
 ⟨190,[true,false,true,false],[.ptr 1 16,.val 3 (bP),.slot 16 (eC) true none]⟩,
 ⟨190,[true,true,true,false,true,false,true,true,true,true,true],[.ptr 1 16,.val 4 (bP),.val 23 (bP),.val 62 (BT1),.slot 16 (eC) true none]⟩,
 ⟨190,[true,true,true,false,true,false,true,true,true,true,true,true,true],[.ptr 1 16,.val 4 (bP),.val 82 (BT1),.slot 16 (eC) true none]⟩,
 ⟨191,[],[]⟩,
 ⟨191,[true,true,false,true,false],[.own 0 1104 (fk),.val 1 (.leaf false (.sl (.nm 17))),.own 5 80 (iS),.val 6 (bP)]⟩,
 ⟨191,[true,true,true,true,false,true,false],[.own 0 1104 (fk),.val 5 (gX),.val 8 (bP)]⟩,
 ⟨192,[],[]⟩,
 ⟨192,[true,true,false,true,false],[.val 0 (em),.val 3 (bP),.val 4 (bP)]⟩,
 ⟨193,[],[]⟩,
 ⟨193,[true,true,false,true,false],[.val 0 (em),.val 1 (gX),.val 2 (BT1),.val 3 (BT1),.own 9 144 (gW),.val 10 (bP)]⟩,
 ⟨194,[],[]⟩,
 ⟨195,[],[]⟩,
 ⟨195,[true,false,true,false],[.val 0 (BT0),.val 3 (bP)]⟩,
 ⟨196,[],[]⟩,
 ⟨196,[true,true],[.ptr 2 32,.val 1 (bP),.val 5 (BT1),.slot 32 (oJ) true none]⟩,
 ⟨196,[true,true,true],[.ptr 2 32,.val 1 (bP),.val 5 (BT1),.val 6 (BT1),.slot 32 (oJ) true none]⟩,
 ⟨196,[true,true,true,true],[.ptr 2 32,.val 1 (bP),.val 5 (BT1),.val 6 (BT1),.val 7 (BT1),.slot 32 (oJ) true none]⟩,
 ⟨196,[true,true,true,true,true],[.ptr 2 32,.val 5 (BT1),.val 6 (BT1),.val 7 (BT1),.val 8 (BT1),.slot 32 (oJ) true none]⟩,
 ⟨196,[true,true,true,true,true,true],[.val 4 (BT1)]⟩,
 ⟨197,[],[]⟩,
 ⟨197,[true,false],[.val 0 (em),.own 1 16 (gW),.val 3 (BT1),.val 4 (BT1),.own 10 160 (iS)]⟩,
 ⟨198,[],[]⟩,
 ⟨198,[true,true,false,true,false],[.val 0 (oK),.own 3 48 (iS),.val 4 (bP)]⟩,
 ⟨199,[],[]⟩,
 ⟨199,[true,false,true,false],[.val 0 (BT0),.val 1 (eU),.val 5 (bP)]⟩]
def entR:List EntI:=[
 ⟨3,.skip,[],[.val (dd)],[BT1],[],[(20,1),(25,1),(28,1),(31,1),(37,1),(43,1),(47,1),(49,1),(51,1),(75,1),(145,1),(146,1)],0,[],false⟩,
 ⟨4,.skip,[],[.val (dd)],[BT1],[],[],0,[],false⟩,
 ⟨5,.skip,[],[.val (dd)],[dj,bP],[],[(7,1),(9,1),(12,1)],0,[],false⟩,
 ⟨6,.skip,[],[.val (dj),.val (bP)],[dj],[],[(7,1)],0,[],false⟩,
 ⟨7,.skip,[],[.val (dj),.val (bP)],[dj],[],[(10,1),(30,1)],0,[],false⟩,
 ⟨8,.skip,[],[.val (dd)],[dj,dd],[],[(7,1),(9,1),(12,1)],0,[],false⟩,
 ⟨9,.skip,[],[.val (dj),.val (dd)],[dj,BT1],[],[],0,[],false⟩,
 ⟨10,.skip,[],[.val (dj),.val (dd)],[dj,BT1],[],[],0,[],false⟩,
 ⟨11,.skip,[],[.val (dd)],[dj],[],[(4,1),(5,1)],0,[],false⟩,
 ⟨12,.skip,[],[.val (dj)],[dj],[],[(5,1)],0,[],false⟩,
 ⟨13,.skip,[],[.val (dd)],[dj],[],[(4,1),(5,1)],0,[],false⟩,
 ⟨14,.skip,[],[.val (dj)],[dj],[],[(5,1)],0,[],false⟩,
 ⟨15,.skip,[],[.val (dj)],[BT1],[],[],0,[],false⟩,
 ⟨16,.skip,[],[.val (dj)],[BT1],[],[],0,[],false⟩,
 ⟨17,.skip,[],[.val (dd)],[.pr (.hole 0) (BT5)],[],[(30,1)],0,[(58,15)],false⟩,
 ⟨18,.skip,[],[.ptr (BT5) (BT5)],[dj],[(0,.box)],[(6,1),(13,1),(22,1)],0,[],false⟩,
 ⟨19,.skip,[],[.ptr (BT5) (BT5),.val (gX)],[bP],[(0,.box)],[],0,[],false⟩,
 ⟨20,.skip,[],[.val (dj)],[.leaf true (.nm 0)],[],[],0,[],false⟩,
 ⟨21,.skip,[],[.val (dj)],[.leaf true (.nm 0)],[],[],0,[],false⟩,
 ⟨23,.skip,[],[.val (bP),.val (bP)],[bP],[],[],0,[],false⟩,
 ⟨22,.skip,[],[.val (bP),.val (bP)],[bP],[],[],0,[],false⟩,
 ⟨24,.skip,[],[.ptr (BT5) (BT5)],[dd],[(0,.box)],[(14,1),(15,1)],0,[(58,23)],false⟩,
 ⟨25,.skip,[],[.val (bP),.val (bP),.val (bP)],[BT1],[],[],0,[],false⟩,
 ⟨26,.skip,[],[.val (bP),.val (bP),.val (bP)],[BT1],[],[],0,[],false⟩,
 ⟨27,.skip,[],[.ptr (BT5) (BT5),.val (bP)],[bP],[(0,.box)],[],0,[],false⟩,
 ⟨28,.skip,[],[.val (dd)],[eE],[],[],0,[],false⟩,
 ⟨30,.skip,[],[.ptr (BT5) (BT5)],[BT7],[(0,.box)],[(14,1),(19,1),(27,1),(29,1),(35,1),(36,1)],0,[],false⟩,
 ⟨29,.skip,[],[.val (BT7)],[dd],[],[(8,1),(10,1),(18,1)],0,[],false⟩,
 ⟨31,.skip,[],[.ptr (BT5) (BT5)],[bP],[(0,.box)],[],0,[],false⟩,
 ⟨36,.skip,[],[.ptr (BT5) (BT5)],[BT8,eT],[(0,.box)],[(6,1),(10,1),(11,1)],0,[],false⟩,
 ⟨37,.skip,[],[.val (eT)],[dd],[],[(27,1),(33,1),(49,1),(58,1),(67,1),(72,1),(77,1),(92,1),(97,1)],0,[(122,33),(506,34),(4090,35)],false⟩,
 ⟨38,.skip,[],[.ptr (BT5) (BT5),.val (bP),.val (bP)],[qY],[(0,.box)],[(29,1)],0,[(122,37)],false⟩,
 ⟨32,.skip,[],[.val (BT7)],[BT1],[],[],0,[],false⟩,
 ⟨33,.skip,[],[.val (BT7)],[dd],[],[(11,1),(17,1),(22,1),(28,1),(45,1),(52,1),(58,1),(64,1),(69,1)],0,[(506,40)],false⟩,
 ⟨34,.skip,[],[.val (bP)],[eE],[],[(16,1),(23,1)],0,[(60,42)],false⟩,
 ⟨35,.skip,[],[.val (dd)],[dd],[],[(17,1)],0,[],false⟩,
 ⟨42,.skip,[],[.ptr (BT5) (BT5)],[BT8],[(0,.box)],[(8,1)],0,[],false⟩,
 ⟨44,.skip,[],[.ptr (BT5) (BT5),.val (bP)],[qX],[(0,.box)],[(21,1)],0,[(122,46)],false⟩,
 ⟨43,.skip,[],[.val (BT8),.val (qX)],[eT],[],[(10,1),(12,1),(30,1)],0,[(122,48)],false⟩,
 ⟨45,.skip,[],[.val (cR)],[dd],[],[(9,1),(14,1)],0,[],false⟩,
 ⟨40,.skip,[],[.val (BT0)],[dd],[],[],0,[],false⟩,
 ⟨46,.skip,[],[.ptr (BT5) (BT5)],[qW],[(0,.box)],[],0,[],false⟩,
 ⟨39,.skip,[],[.val (qY),.val (bP)],[BT1],[],[],0,[(26,53)],false⟩,
 ⟨41,.skip,[],[.val (dd)],[bP],[],[],0,[(58,55)],false⟩,
 ⟨49,.skip,[],[.ptr (BT5) (BT5)],[BT0],[(0,.box)],[(4,1)],0,[],false⟩,
 ⟨48,.skip,[],[.val (BT0)],[BT8,bP],[],[(10,1),(15,1),(18,1)],0,[],false⟩,
 ⟨50,.skip,[],[.val (BT8)],[BT1],[],[],0,[(26,59),(58,60)],false⟩,
 ⟨51,.skip,[],[.val (BT8)],[eT],[],[(7,1),(16,1)],0,[],false⟩,
 ⟨47,.skip,[],[.val (qW)],[BT1],[],[],0,[],false⟩,
 ⟨52,.skip,[],[.val (BT8),.val (eT),.val (qW)],[eT],[],[(45,1)],0,[],false⟩,
 ⟨53,.skip,[],[.val (bP)],[dd],[],[(10,1),(16,1),(19,1)],0,[],false⟩,
 ⟨54,.skip,[],[.ptr (BT5) (BT5),.val (bP)],[BT1],[(0,.box)],[],0,[],false⟩,
 ⟨55,.skip,[],[.ptr (BT5) (BT5)],[BT0],[(0,.box)],[(13,1),(17,1)],0,[(58,67)],false⟩,
 ⟨60,.skip,[],[],[cO],[],[(1,1)],0,[],false⟩,
 ⟨59,.skip,[],[.ptr (BT5) (BT5),.val (cO)],[BT0],[(0,.box)],[],0,[],false⟩,
 ⟨57,.skip,[],[.val (BT0)],[ek,bP],[],[(11,6),(14,1),(24,7),(37,1),(40,6)],0,[(1020,71)],false⟩,
 ⟨58,.skip,[],[.val (ek)],[BT8,bP],[],[(17,1),(21,1),(96,1)],0,[(1018,73)],false⟩,
 ⟨61,.skip,[],[.val (BT0)],[BT1],[],[],0,[(26,75)],false⟩,
 ⟨62,.skip,[],[.val (cO),.val (BT0)],[BT1],[],[],0,[(26,77)],false⟩,
 ⟨63,.skip,[],[.val (oL),.val (bP),.val (bP)],[BT1],[],[],0,[(122,79)],false⟩,
 ⟨64,.skip,[],[.val (BT8)],[BT6,BT0],[],[(11,1),(24,1)],0,[],false⟩,
 ⟨65,.skip,[],[.val (bP)],[BT6],[],[(7,1)],0,[],false⟩,
 ⟨56,.skip,[],[.val (BT0)],[BT1],[],[],0,[(26,83)],false⟩,
 ⟨66,.skip,[],[.val (eT)],[.leaf true (.nm 10)],[],[],0,[],false⟩,
 ⟨67,.skip,[],[.val (BT8),.val (BT6),.val (BT0)],[BT6,BT0],[],[(40,1)],0,[(31,86)],false⟩,
 ⟨68,.skip,[],[.val (BT0)],[oM,bP],[],[(56,1),(60,1),(67,1)],0,[(124,88),(63656,89)],false⟩,
 ⟨69,.skip,[],[.ptr (cf) (cf)],[.leaf false (.nm 13)],[(0,.box)],[],0,[],false⟩,
 ⟨70,.skip,[],[.ptr (cf) (cf)],[.leaf false (.nm 14)],[(0,.box)],[(10,1),(16,1),(19,1),(24,1),(26,1),(27,6)],0,[],false⟩,
 ⟨71,.skip,[],[.val (b9)],[bP],[],[],0,[(58,93)],false⟩,
 ⟨72,.skip,[],[.val (ek)],[bP],[],[(38,1)],0,[(58,95),(506,96),(1018,97),(2042,98)],false⟩,
 ⟨73,.skip,[],[.val (ek)],[cO,cO],[],[(7,1),(8,1),(23,1),(34,1)],0,[(58,100)],false⟩,
 ⟨74,.skip,[],[.ptr (cN) (cN),.val (b9)],[],[(0,.box)],[],0,[(14,102)],false⟩,
 ⟨75,.skip,[],[.ptr (cN) (cN),.val (b9)],[],[(0,.box)],[],0,[(29,104),(30714,105)],false⟩,
 ⟨76,.skip,[],[.ptr (cN) (cN),.val (bP),.val (bP),.val (BT0)],[bP],[(0,.box)],[(18,1)],0,[],false⟩,
 ⟨77,.skip,[],[.val (eU)],[BT1],[],[],0,[],false⟩,
 ⟨78,.skip,[],[.val (BT0)],[BT1],[],[(3,1),(7,1)],0,[],false⟩,
 ⟨79,.skip,[],[.val (jH),.val (bP),.val (bP),.val (bP)],[BT1],[],[(71,1),(86,1)],0,[(863,110),(3455,111),(13823,112),(221183,113)],false⟩,
 ⟨80,.skip,[],[.val (BT6)],[BT2],[],[],0,[],false⟩,
 ⟨81,.skip,[],[.ptr (cZ) (cZ),.val (oL)],[],[(0,.box)],[],0,[(30,116)],false⟩,
 ⟨82,.skip,[],[.ptr (.leaf false (.nm 16)) (.leaf false (.nm 16)),.val (BT6)],[BT6,BT0],[(0,.box)],[(14,1)],0,[],false⟩,
 ⟨83,.skip,[],[.val (BT0)],[uB],[],[(31,1)],0,[(122,119)],false⟩,
 ⟨84,.skip,[],[.ptr (cZ) (cZ),.val (bP)],[],[(0,.box)],[],0,[],false⟩,
 ⟨85,.skip,[],[.val (BT0),.val (bP),.val (oM)],[.leaf false (.nm 13),bP,BT1],[],[],0,[(916,122)],false⟩,
 ⟨86,.skip,[],[.ptr (cf) (cf),.val (BT0)],[BT1],[(0,.box)],[],0,[],false⟩,
 ⟨87,.skip,[],[.ptr (cf) (cf)],[],[(0,.box)],[],0,[],false⟩,
 ⟨88,.skip,[],[.ptr (cf) (cf)],[b9],[(0,.box)],[(2,7),(3,7),(4,7),(24,1),(25,6)],0,[(60,126)],false⟩,
 ⟨89,.skip,[],[.ptr (cf) (cf),.val (BT0)],[BT1],[(0,.box)],[],0,[],false⟩,
 ⟨90,.skip,[],[.ptr (cf) (cf)],[b9],[(0,.box)],[(2,7),(4,7),(6,7),(26,1),(38,1),(42,6),(52,1)],0,[(471,129)],false⟩,
 ⟨91,.skip,[],[.val (bP),.val (.leaf false (.sl (.nm 11)))],[gh],[],[(4,7),(6,7),(8,7)],0,[],false⟩,
 ⟨92,.skip,[],[.val (ek)],[BT1],[],[],0,[(26,132)],false⟩,
 ⟨93,.skip,[],[.val (b9)],[BT1],[],[],0,[(58,134)],false⟩,
 ⟨94,.skip,[],[.val (b9)],[BT1],[],[],0,[(15,136),(122,137)],false⟩,
 ⟨95,.skip,[],[.val (b9)],[BT1],[],[(12,1)],0,[(122,139)],false⟩,
 ⟨96,.skip,[],[.val (b9),.val (cO),.val (cO)],[cO,cO],[],[(16,1),(23,1),(39,1)],0,[(7,141),(58,142)],false⟩,
 ⟨97,.skip,[],[.ptr (cN) (cN),.val (b9)],[],[(0,.box)],[],0,[],false⟩,
 ⟨98,.skip,[],[.ptr (cN) (cN),.val (b9)],[],[(0,.box)],[],0,[],false⟩,
 ⟨99,.skip,[],[.ptr (cN) (cN),.val (b9)],[],[(0,.box)],[],0,[],false⟩,
 ⟨100,.skip,[],[.ptr (cN) (cN),.val (b9)],[],[(0,.box)],[],0,[],false⟩,
 ⟨101,.skip,[],[.ptr (cN) (cN),.val (b9)],[],[(0,.box)],[],0,[],false⟩,
 ⟨102,.skip,[],[],[cO],[],[(1,1)],0,[],false⟩,
 ⟨103,.skip,[],[.val (bP)],[BT1],[],[],0,[],false⟩,
 ⟨104,.skip,[],[.val (BT0)],[eC,BT1],[],[(9,1),(14,1),(33,1)],0,[],false⟩,
 ⟨105,.skip,[],[.ref (ej) (ej) (cZ) (cZ),.val (jH),.val (bP)],[bP,BT1],[(0,.box),(1,.box)],[(32,2)],0,[(127,152),(4153343,153)],false⟩,
 ⟨106,.skip,[],[.val (eU)],[BT1],[],[],0,[],false⟩,
 ⟨107,.skip,[],[.val (BT0),.val (bP)],[bP,bP,BT1],[],[],0,[(28,156),(1964,157),(31,158)],false⟩,
 ⟨108,.skip,[],[.val (BT0),.val (bP)],[BT0,bP,BT1],[],[(47,1)],0,[(58,160)],false⟩,
 ⟨109,.skip,[],[.val (oM)],[BT1],[],[],0,[],false⟩,
 ⟨110,.skip,[],[.val (BT0),.val (bP)],[BT0,bP,BT1],[],[(52,1),(60,1)],0,[(58,163)],false⟩,
 ⟨111,.skip,[],[.val (BT0),.val (bP)],[BT0],[],[(8,1)],0,[(58,165)],false⟩,
 ⟨112,.skip,[],[.ptr (cf) (cf),.val (BT0)],[],[(0,.box)],[],0,[],false⟩,
 ⟨113,.skip,[],[.ptr (cf) (cf)],[b9],[(0,.box)],[(2,7),(3,7),(8,1),(13,1),(18,1),(20,1)],0,[],false⟩,
 ⟨114,.skip,[],[.ptr (cf) (cf)],[b9],[(0,.box)],[(2,7),(6,7),(15,1),(21,1),(29,1),(38,1),(43,1),(50,1),(54,1),(59,6),(60,1)],0,[],false⟩,
 ⟨115,.skip,[],[.ptr (cf) (cf),.val (bP)],[b9],[(0,.box)],[(4,7),(9,1),(13,1),(17,1),(20,1)],0,[],false⟩,
 ⟨117,.skip,[],[.val (b9)],[BT1],[],[(53,1)],0,[(7551,171)],false⟩,
 ⟨116,.skip,[],[.val (bP)],[BT1],[],[],0,[],false⟩,
 ⟨118,.skip,[],[.val (cO),.val (BT0)],[cO],[],[(32,1)],0,[(60,174)],false⟩,
 ⟨119,.skip,[],[.ptr (cN) (cN),.val (b9)],[],[(0,.box)],[],0,[(7,176),(58,177)],false⟩,
 ⟨120,.skip,[],[.ptr (cN) (cN),.val (b9)],[],[(0,.box)],[],0,[],false⟩,
 ⟨121,.skip,[],[.ptr (cN) (cN),.val (b9)],[],[(0,.box)],[],0,[],false⟩,
 ⟨122,.skip,[],[.val (cO),.val (BT0)],[bP],[],[],0,[(26,181)],false⟩,
 ⟨123,.skip,[],[.val (BT1)],[bP],[],[],0,[],false⟩,
 ⟨124,.skip,[],[.ptr (eD) (eD),.val (bP)],[cQ],[(0,.box)],[],0,[(28,184)],false⟩,
 ⟨125,.skip,[],[.val (eC)],[bP],[],[],0,[(58,186)],false⟩,
 ⟨126,.skip,[],[.val (jH)],[bP],[],[],0,[(53,188)],false⟩,
 ⟨127,.skip,[],[.val (cR)],[BT1],[],[],0,[(53,190)],false⟩,
 ⟨128,.skip,[],[.ptr (cZ) (cZ),.val (BT0)],[],[(0,.box)],[],0,[],false⟩,
 ⟨129,.skip,[],[.val (cR)],[BT0],[],[],0,[],false⟩,
 ⟨130,.skip,[],[.ref (ej) (ej) (cZ) (cZ),.val (jH),.val (iR)],[],[(0,.box),(1,.box)],[],0,[],false⟩,
 ⟨131,.skip,[],[.ref (ej) (ej) (cZ) (cZ),.val (jH),.val (iR)],[],[(0,.box),(1,.box)],[],0,[(31,195)],false⟩,
 ⟨132,.skip,[],[.val (BT0)],[bP,bP],[],[],0,[(28,197),(63,198),(508,199),(16342,200),(511,201)],false⟩,
 ⟨133,.skip,[],[.ptr (cf) (cf)],[],[(0,.box)],[],0,[],false⟩,
 ⟨134,.skip,[],[.ptr (cf) (cf),.val (bP)],[b9],[(0,.box)],[(4,7),(5,7),(6,7),(7,7),(13,1),(17,1),(21,6),(34,1),(35,6)],0,[],false⟩,
 ⟨135,.skip,[],[.ptr (cf) (cf)],[b9],[(0,.box)],[(2,7),(3,7),(5,7),(11,7),(36,1),(37,6),(46,1),(57,1),(62,6),(63,1),(65,1),(66,6)],0,[(812,205)],false⟩,
 ⟨136,.skip,[],[.ptr (cf) (cf),.val (BT0)],[.leaf false (.sl (.nm 11))],[(0,.box)],[(6,7),(25,1),(26,6)],0,[(28,207)],false⟩,
 ⟨137,.skip,[],[.ptr (cf) (cf)],[BT0],[(0,.box)],[],0,[],false⟩,
 ⟨138,.skip,[],[.ptr (cf) (cf)],[b9],[(0,.box)],[(2,7),(4,7),(6,7),(7,1),(9,1),(25,1),(30,6)],0,[(122,210)],false⟩,
 ⟨139,.skip,[],[.ptr (cf) (cf)],[b9],[(0,.box)],[(2,7),(3,7),(4,7),(6,1),(10,1),(13,6)],0,[(28,212)],false⟩,
 ⟨140,.skip,[],[.ptr (cf) (cf)],[b9],[(0,.box)],[(2,7),(9,1),(16,1),(17,6),(25,1),(26,6),(29,1)],0,[],false⟩,
 ⟨141,.skip,[],[.ptr (cf) (cf),.val (bP)],[b9],[(0,.box)],[(4,7),(7,7),(9,7),(10,1),(11,1),(12,1),(13,1),(14,1),(15,1),(16,1),(17,6),(18,1),(19,1),(20,1),(21,1),(22,1),(23,1),(24,1),(25,6),(29,1),(69,1),(79,6),(88,6)],0,[(124,215),(7956,216),(63679,217)],false⟩,
 ⟨142,.skip,[],[.val (b9)],[BT1],[],[],0,[(117,219),(471,220),(1887,221),(7551,222),(7733234,223)],false⟩,
 ⟨143,.skip,[],[.val (BT0)],[BT1],[],[],0,[(26,225)],false⟩,
 ⟨144,.skip,[],[.ptr (eD) (eD),.val (bP)],[cQ],[(0,.box)],[],0,[(28,227)],false⟩,
 ⟨145,.skip,[],[.ptr (eD) (eD),.val (eU)],[BT1],[(0,.box)],[],0,[],false⟩,
 ⟨146,.skip,[],[.val (bP)],[BT0],[],[],0,[(4052,230),(127,231)],false⟩,
 ⟨147,.skip,[],[.ref (ej) (ej) (cZ) (cZ),.val (cR)],[],[(0,.box),(1,.box)],[(21,1)],0,[],false⟩,
 ⟨149,.skip,[],[.val (cR)],[bP],[],[],0,[(53,234)],false⟩,
 ⟨148,.skip,[],[.ptr (cZ) (cZ),.val (bP),.val (bP),.val (bP)],[cR],[(0,.box)],[],0,[(15,236)],false⟩,
 ⟨151,.skip,[],[.val (cR)],[BT0],[],[],0,[],false⟩,
 ⟨150,.skip,[],[.val (BT6),.val (bP),.val (BT0)],[cR],[],[],0,[],false⟩,
 ⟨152,.skip,[],[.ref (ej) (ej) (cZ) (cZ),.val (bP),.val (BT0),.val (cR)],[],[(0,.box),(1,.box)],[],0,[],false⟩,
 ⟨153,.skip,[],[.val (BT6),.val (bP),.val (BT0)],[BT2],[],[],0,[],false⟩,
 ⟨154,.skip,[],[.val (bP)],[cR],[],[],0,[],false⟩,
 ⟨155,.skip,[],[.ptr (cZ) (cZ),.val (cR)],[cR],[(0,.box)],[],0,[],false⟩,
 ⟨156,.skip,[],[.ptr (cZ) (cZ),.val (cR),.val (cR)],[cR],[(0,.box)],[],0,[],false⟩,
 ⟨157,.skip,[],[.val (BT0),.val (BT0)],[cR],[],[(9,1)],0,[],false⟩,
 ⟨158,.skip,[],[.val (BT1)],[cR],[],[],0,[],false⟩,
 ⟨159,.skip,[],[.val (BT0),.val (iR)],[cR],[],[(20,1)],0,[],false⟩,
 ⟨160,.skip,[],[.val (bP),.val (cR),.val (cR)],[cR],[],[(23,1)],0,[],false⟩,
 ⟨161,.skip,[],[.ptr (cf) (cf)],[BT1],[(0,.box)],[(34,1)],0,[(245,249)],false⟩,
 ⟨162,.skip,[],[.ptr (cf) (cf)],[b9],[(0,.box)],[(2,7),(4,7),(23,1),(32,1),(39,1),(46,1),(50,1),(56,1),(57,6),(62,1)],0,[],false⟩,
 ⟨163,.skip,[],[.val (b9),.val (bP),.val (bP)],[BT1],[],[],0,[(26,252)],false⟩,
 ⟨164,.skip,[],[.val (b9),.val (bP)],[BT1],[],[],0,[(26,254)],false⟩,
 ⟨165,.skip,[],[.ptr (eD) (eD),.val (bP)],[cQ],[(0,.box)],[],0,[(28,256),(907,257)],false⟩,
 ⟨166,.skip,[],[.val (bP)],[bP],[],[],0,[],false⟩,
 ⟨167,.skip,[],[.val (bP)],[BT0],[],[(12,1)],0,[(60,260)],false⟩,
 ⟨168,.skip,[],[.val (bP),.val (bP)],[bP,BT1],[],[],0,[],false⟩,
 ⟨169,.skip,[],[.val (bP),.val (bP)],[bP,BT1],[],[],0,[],false⟩,
 ⟨170,.skip,[],[.val (bP),.val (bP)],[bP,BT1],[],[],0,[],false⟩,
 ⟨171,.skip,[],[.val (bP),.val (bP)],[bP,BT1],[],[],0,[],false⟩,
 ⟨172,.skip,[],[.val (BT6),.val (bP),.val (BT0)],[bP],[],[],0,[(26,266)],false⟩,
 ⟨173,.skip,[],[.val (BT6),.val (bP),.val (BT0),.val (cR)],[BT2,BT1],[],[(61,1)],0,[(508,268)],false⟩,
 ⟨174,.skip,[],[.val (BT0)],[cR],[],[],0,[(7,270)],false⟩,
 ⟨175,.skip,[],[.val (eC),.val (BT0)],[BT1],[],[(10,1)],0,[],false⟩,
 ⟨176,.skip,[],[.val (BT0),.val (iR)],[cR],[],[],0,[],false⟩,
 ⟨177,.skip,[],[.val (cR),.val (cR)],[bP],[],[],0,[],false⟩,
 ⟨178,.skip,[],[.ptr (eD) (eD),.val (bP)],[cQ],[(0,.box)],[],0,[(63,275)],false⟩,
 ⟨179,.skip,[],[.val (bP)],[bP,BT1],[],[],0,[],false⟩,
 ⟨180,.skip,[],[.val (.leaf false (.nm 9)),.val (bP),.val (BT0)],[BT1],[],[],0,[],false⟩,
 ⟨181,.skip,[],[.val (BT0)],[bP,BT1],[],[],0,[(60,279)],false⟩,
 ⟨183,.skip,[],[.val (eC)],[em],[],[(6,1),(10,1)],0,[],false⟩,
 ⟨182,.skip,[],[.val (em),.val (BT0)],[bP,bP,BT1],[],[],0,[(26,282)],false⟩,
 ⟨184,.skip,[],[.val (bP)],[bP],[],[],0,[],false⟩,
 ⟨185,.skip,[],[.val (BT0),.val (BT0)],[bP],[],[],0,[(26,285)],false⟩,
 ⟨186,.skip,[],[.val (BT0),.val (eU),.val (eU)],[BT0],[],[],0,[(58,287)],false⟩,
 ⟨187,.skip,[],[.val (iR)],[BT0],[],[],0,[(63,289)],false⟩,
 ⟨188,.skip,[],[.ptr (eD) (eD)],[cQ],[(0,.box)],[(171,1)],0,[(15,291),(252,292),(32303,293),(255,294),(64607,295),(8186,296),(516858,297)],false⟩,
 ⟨190,.skip,[],[.val (eC)],[BT1],[],[],0,[],false⟩,
 ⟨192,.skip,[],[.own (fk),.val (eC)],[fk],[],[(18,1),(32,1),(76,1),(105,1)],0,[(966650,300),(15,301)],false⟩,
 ⟨191,.skip,[],[.own (fk),.val (bP)],[fk],[],[(8,1)],0,[],false⟩,
 ⟨189,.skip,[],[.val (em),.val (BT0),.val (bP)],[bP],[],[(23,1),(30,1),(76,1),(85,1)],0,[(250,304),(8009,305),(256314,306)],false⟩,
 ⟨196,.skip,[],[.val (eC)],[BT1],[],[],0,[(26,308),(3935,309),(15743,310)],false⟩,
 ⟨197,.skip,[],[.own (fk),.val (.leaf false (.sl (.nm 17)))],[fk],[],[(29,1)],0,[(58,312),(250,313)],false⟩,
 ⟨193,.skip,[],[.val (em)],[BT1],[],[],0,[(58,315)],false⟩,
 ⟨194,.skip,[],[.val (em),.val (gX),.val (BT1),.val (BT1)],[iS],[],[],0,[(58,317)],false⟩,
 ⟨195,.skip,[],[.val (.leaf false (.nm 20)),.val (eU)],[BT1],[],[],0,[],false⟩,
 ⟨202,.skip,[],[.val (BT0)],[BT1],[],[],0,[(26,320)],false⟩,
 ⟨198,.skip,[],[.val (.leaf false (.nm 20)),.val (bP)],[BT1],[],[],0,[(7,322),(15,323),(31,324),(63,325),(127,326)],false⟩,
 ⟨199,.skip,[],[.val (em),.io (gW),.val (bP),.val (BT1),.val (BT1)],[],[(16,.reg)],[(57,1),(66,1),(74,1),(82,1)],0,[(6,328)],false⟩,
 ⟨200,.skip,[],[.val (oK)],[iS],[],[(18,1)],0,[(58,330)],false⟩,
 ⟨201,.skip,[],[.val (BT0),.val (eU)],[BT1],[],[],0,[(26,332)],false⟩]
def vi:gY:=[]
def vh:gY:=[((3,[]),0),((4,[]),1),((5,[]),2),((6,[]),3),((7,[]),4),((8,[]),5),((9,[]),6),((10,[]),7),((11,[]),8),((12,[]),9),((13,[]),10),((14,[]),11),((15,[]),12),((16,[]),13),((17,[]),14),((18,[]),16),((19,[]),17),((20,[]),18),((21,[]),19),((23,[]),20),((22,[]),21),((24,[]),22),((25,[]),24),((26,[]),25),((27,[]),26),((28,[]),27),((30,[]),28),((29,[]),29),((31,[]),30),((36,[]),31),((37,[]),32),((38,[]),36),((32,[]),38),((33,[]),39),((34,[]),41),((35,[]),43),((42,[]),44),((44,[]),45),((43,[]),47),((45,[]),49),((40,[]),50),((46,[]),51),((39,[]),52),((41,[]),54),((49,[]),56),((48,[]),57),((50,[]),58),((51,[]),61),((47,[]),62),((52,[]),63),((53,[]),64),((54,[]),65),((55,[]),66),((60,[]),68),((59,[]),69),((57,[]),70),((58,[]),72),((61,[]),74),((62,[]),76),((63,[]),78),((64,[]),80),((65,[]),81),((56,[]),82),((66,[]),84),((67,[]),85),((68,[]),87),((69,[]),90),((70,[]),91),((71,[]),92),((72,[]),94),((73,[]),99),((74,[]),101),((75,[]),103),((76,[]),106),((77,[]),107),((78,[]),108),((79,[]),109),((80,[]),114),((81,[]),115),((82,[]),117),((83,[]),118),((84,[]),120),((85,[]),121),((86,[]),123),((87,[]),124),((88,[]),125),((89,[]),127),((90,[]),128),((91,[]),130),((92,[]),131),((93,[]),133),((94,[]),135),((95,[]),138),((96,[]),140),((97,[]),143),((98,[]),144),((99,[]),145),((100,[]),146),((101,[]),147),((102,[]),148),((103,[]),149),((104,[]),150),((105,[]),151),((106,[]),154),((107,[]),155),((108,[]),159),((109,[]),161),((110,[]),162),((111,[]),164),((112,[]),166),((113,[]),167),((114,[]),168),((115,[]),169),((117,[]),170),((116,[]),172),((118,[]),173),((119,[]),175),((120,[]),178),((121,[]),179),((122,[]),180),((123,[]),182),((124,[]),183),((125,[]),185),((126,[]),187),((127,[]),189),((128,[]),191),((129,[]),192),((130,[]),193),((131,[]),194),((132,[]),196),((133,[]),202),((134,[]),203),((135,[]),204),((136,[]),206),((137,[]),208),((138,[]),209),((139,[]),211),((140,[]),213),((141,[]),214),((142,[]),218),((143,[]),224),((144,[]),226),((145,[]),228),((146,[]),229),((147,[]),232),((149,[]),233),((148,[]),235),((151,[]),237),((150,[]),238),((152,[]),239),((153,[]),240),((154,[]),241),((155,[]),242),((156,[]),243),((157,[]),244),((158,[]),245),((159,[]),246),((160,[]),247),((161,[]),248),((162,[]),250),((163,[]),251),((164,[]),253),((165,[]),255),((166,[]),258),((167,[]),259),((168,[]),261),((169,[]),262),((170,[]),263),((171,[]),264),((172,[]),265),((173,[]),267),((174,[]),269),((175,[]),271),((176,[]),272),((177,[]),273),((178,[]),274),((179,[]),276),((180,[]),277),((181,[]),278),((183,[]),280),((182,[]),281),((184,[]),283),((185,[]),284),((186,[]),286),((187,[]),288),((188,[]),290),((190,[]),298),((192,[]),299),((191,[]),302),((189,[]),303),((196,[]),307),((197,[]),311),((193,[]),314),((194,[]),316),((195,[]),318),((202,[]),319),((198,[]),321),((199,[]),327),((200,[]),329),((201,[]),331)]
def sM(e:Nat):EntI:=entR.getD e ⟨0,.skip,[],[],[],[],[],0,[],true⟩
def dT(k:Nat):KeyI:=keyL.getD k ⟨0,[false],[]⟩
noncomputable def tab:Tab where
 G:=gam
 ty:=ir tyL
 ifc:=pu wt
 key k:=po sM (dT k)
 ent k:=fill Tryz.prog (sM k)
 call:=pq (vi++vh)
 tabs:=[]
 ext _ _:=none
end Go.Proofs.YtmcjclfgedjgaaaGreat.E.TD
