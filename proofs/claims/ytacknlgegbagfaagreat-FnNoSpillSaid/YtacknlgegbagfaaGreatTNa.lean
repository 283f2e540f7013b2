/- The table of N: structs,types,entries,keys. No condition. -/
import Derived.Test.YtacknlgegbagfaaGreatEG4
import Derived.Test.YtacknlgegbagfaaGreatProg
import Derived.KernelRfl
namespace Go.Proofs.YtacknlgegbagfaaGreat.E.TN
open Go.Proofs.YtacknlgegbagfaaGreat.E
set_option linter.unusedVariables false
set_option maxRecDepth 100000
structure bp where
 Who:Int
 Seq:Int
 Line:(_root_.List Int)
def sb:bp:=⟨0,0,[]⟩
structure bq where
 Term:Int
 C:bp
def fm:bq:=⟨0,sb⟩
structure bB where
 Kind:Int
 Term:Int
 Vote:Int
 Prev:Int
 List:(_root_.List bq)
 Snap:(_root_.List Int)
def pf:bB:=⟨0,0,0,0,[],[]⟩
structure bH where
 b:(_root_.List Int)
 at_:Int
 bad:Bool
def Mp:bH:=⟨[],0,false⟩
structure bL where
 b:(_root_.List Int)
 at_:Int
 ok:Bool
def Mt:bL:=⟨[],0,false⟩
structure bM where
 b:(_root_.List Int)
 i:Int
 h:Int
def Mu:bM:=⟨[],0,0⟩
structure bw where
 Code:Int
 N:Int
 S:(_root_.List Int)
def dr:bw:=⟨0,0,[]⟩
structure bA where
 Vars:(_root_.List (_root_.List Int))
 Cells:(_root_.List (_root_.List Int))
 Start:(_root_.List bw)
 Main:(_root_.List bw)
def Bc:bA:=⟨[],[],[],[]⟩
structure bG where
 Kind:Int
 N:Int
 S:(_root_.List Int)
def cl:bG:=⟨0,0,[]⟩
structure bo where
 Name:Int
 Key:(_root_.List Int)
 Val:bG
def em:bo:=⟨0,[],cl⟩
structure bE where
 Vars:(_root_.List bG)
 Cells:(_root_.List bo)
 Nr:Int
 Err:Int
def f7:bE:=⟨[],[],0,0⟩
structure bt where
 State:bE
 Done:(_root_.List Int)
 Out:(_root_.List Int)
def sc:bt:=⟨f7,[],[]⟩
structure bv where
 Op:Int
 N:Int
 S:(_root_.List Int)
 Kids:(_root_.List bv)
def co:bv:=⟨0,0,[],[]⟩
structure bF where
 Kind:Int
 Text:(_root_.List Int)
 N:Int
 At:Int
def iy:bF:=⟨0,[],0,0⟩
structure bO where
 list:(_root_.List bF)
 at_:Int
 bad:Int
 has:Bool
 kept:bv
def Mw:bO:=⟨[],0,0,false,co⟩
structure bD where
 Kind:Int
 Pat:bv
 Body:bv
def bZ:bD:=⟨0,co,co⟩
structure bJ where
 vars:(_root_.List (_root_.List Int))
 cells:(_root_.List (_root_.List Int))
 out:(_root_.List bw)
def Mr:bJ:=⟨[],[],[]⟩
structure bI where
 s:bE
 vars:(_root_.List (_root_.List Int))
 cells:(_root_.List (_root_.List Int))
 line:(_root_.List Int)
 fields:(_root_.List (_root_.List Int))
 out:(_root_.List Int)
 fuel:Int
 done:Bool
def Mq:bI:=⟨f7,[],[],[],[],[],0,false⟩
structure bC where
 Op:Int
 C:Int
 Set:(_root_.List Int)
 Not:Bool
 Kids:(_root_.List bC)
def dh:bC:=⟨0,0,[],false,[]⟩
structure bK where
 l:Unit
 stack:(_root_.List bG)
def Ms:bK:=⟨(),[]⟩
structure bN where
 s:(_root_.List Int)
 at_:Int
 bad:Bool
def Mv:bN:=⟨[],0,false⟩
structure bz where
 Op:Int
 C:Int
 Set:(_root_.List Int)
 Not:Bool
 A:Int
 B:Int
def ci:bz:=⟨0,0,[],false,0,0⟩
def gT:Nat→Type
 | 0=>bB
 | 1=>bq
 | 2=>bp
 | 3=>bH
 | 4=>bL
 | 5=>bM
 | 6=>bA
 | 7=>bw
 | 8=>bE
 | 9=>bG
 | 10=>bo
 | 11=>bt
 | 12=>bv
 | 13=>bO
 | 14=>bF
 | 15=>bD
 | 16=>bJ
 | 17=>bI
 | 18=>bC
 | 19=>bK
 | 20=>bN
 | 21=>bz
 | _=>Unit
def gfs:Nat→List FT
 | 0=>[(.int .i64),(.int .i64),(.int .i64),(.int .i64),(.sl (.nm 1)),.str]
 | 1=>[(.int .i64),(.nm 2)]
 | 2=>[(.int .i64),(.int .i64),.str]
 | 3=>[(.sl (.int .u8)),(.int .i64),.bool]
 | 4=>[(.sl (.int .u8)),(.int .i64),.bool]
 | 5=>[(.sl (.int .u8)),(.int .i64),(.int .i64)]
 | 6=>[(.sl .str),(.sl .str),(.sl (.nm 7)),(.sl (.nm 7))]
 | 7=>[(.int .i64),(.int .i64),.str]
 | 8=>[(.sl (.nm 9)),(.sl (.nm 10)),(.int .i64),(.int .i64)]
 | 9=>[(.int .i64),(.int .i64),.str]
 | 10=>[(.int .i64),.str,(.nm 9)]
 | 11=>[(.nm 8),(.sl (.int .i64)),.str]
 | 12=>[(.int .i64),(.int .i64),.str,(.sl (.nm 12))]
 | 13=>[(.sl (.nm 14)),(.int .i64),(.int .i64),.bool,(.nm 12)]
 | 14=>[(.int .i64),.str,(.int .i64),(.int .i64)]
 | 15=>[(.int .i64),(.nm 12),(.nm 12)]
 | 16=>[(.sl .str),(.sl .str),(.sl (.nm 7))]
 | 17=>[(.nm 8),(.sl .str),(.sl .str),.str,(.sl .str),.str,(.int .i64),.bool]
 | 18=>[(.int .i64),(.int .i64),.str,.bool,(.sl (.nm 18))]
 | 19=>[.ptr,(.sl (.nm 9))]
 | 20=>[.str,(.int .i64),.bool]
 | 21=>[(.int .i64),(.int .i64),.str,.bool,(.int .i64),(.int .i64)]
 | _=>[]
def gun:∀ n,gT n→Js gT (gfs n)
 | 0,x=>(x.Kind,(x.Term,(x.Vote,(x.Prev,(x.List,(x.Snap,()))))))
 | 1,x=>(x.Term,(x.C,()))
 | 2,x=>(x.Who,(x.Seq,(x.Line,())))
 | 3,x=>(x.b,(x.at_,(x.bad,())))
 | 4,x=>(x.b,(x.at_,(x.ok,())))
 | 5,x=>(x.b,(x.i,(x.h,())))
 | 6,x=>(x.Vars,(x.Cells,(x.Start,(x.Main,()))))
 | 7,x=>(x.Code,(x.N,(x.S,())))
 | 8,x=>(x.Vars,(x.Cells,(x.Nr,(x.Err,()))))
 | 9,x=>(x.Kind,(x.N,(x.S,())))
 | 10,x=>(x.Name,(x.Key,(x.Val,())))
 | 11,x=>(x.State,(x.Done,(x.Out,())))
 | 12,x=>(x.Op,(x.N,(x.S,(x.Kids,()))))
 | 13,x=>(x.list,(x.at_,(x.bad,(x.has,(x.kept,())))))
 | 14,x=>(x.Kind,(x.Text,(x.N,(x.At,()))))
 | 15,x=>(x.Kind,(x.Pat,(x.Body,())))
 | 16,x=>(x.vars,(x.cells,(x.out,())))
 | 17,x=>(x.s,(x.vars,(x.cells,(x.line,(x.fields,(x.out,(x.fuel,(x.done,()))))))))
 | 18,x=>(x.Op,(x.C,(x.Set,(x.Not,(x.Kids,())))))
 | 19,x=>(x.l,(x.stack,()))
 | 20,x=>(x.s,(x.at_,(x.bad,())))
 | 21,x=>(x.Op,(x.C,(x.Set,(x.Not,(x.A,(x.B,()))))))
 | (n+22),_=>()
def gpk:∀ n,Js gT (gfs n)→gT n
 | 0,y=>⟨y.1,y.2.1,y.2.2.1,y.2.2.2.1,y.2.2.2.2.1,y.2.2.2.2.2.1⟩
 | 1,y=>⟨y.1,y.2.1⟩
 | 2,y=>⟨y.1,y.2.1,y.2.2.1⟩
 | 3,y=>⟨y.1,y.2.1,y.2.2.1⟩
 | 4,y=>⟨y.1,y.2.1,y.2.2.1⟩
 | 5,y=>⟨y.1,y.2.1,y.2.2.1⟩
 | 6,y=>⟨y.1,y.2.1,y.2.2.1,y.2.2.2.1⟩
 | 7,y=>⟨y.1,y.2.1,y.2.2.1⟩
 | 8,y=>⟨y.1,y.2.1,y.2.2.1,y.2.2.2.1⟩
 | 9,y=>⟨y.1,y.2.1,y.2.2.1⟩
 | 10,y=>⟨y.1,y.2.1,y.2.2.1⟩
 | 11,y=>⟨y.1,y.2.1,y.2.2.1⟩
 | 12,y=>⟨y.1,y.2.1,y.2.2.1,y.2.2.2.1⟩
 | 13,y=>⟨y.1,y.2.1,y.2.2.1,y.2.2.2.1,y.2.2.2.2.1⟩
 | 14,y=>⟨y.1,y.2.1,y.2.2.1,y.2.2.2.1⟩
 | 15,y=>⟨y.1,y.2.1,y.2.2.1⟩
 | 16,y=>⟨y.1,y.2.1,y.2.2.1⟩
 | 17,y=>⟨y.1,y.2.1,y.2.2.1,y.2.2.2.1,y.2.2.2.2.1,y.2.2.2.2.2.1,y.2.2.2.2.2.2.1,y.2.2.2.2.2.2.2.1⟩
 | 18,y=>⟨y.1,y.2.1,y.2.2.1,y.2.2.2.1,y.2.2.2.2.1⟩
 | 19,y=>⟨y.1,y.2.1⟩
 | 20,y=>⟨y.1,y.2.1,y.2.2.1⟩
 | 21,y=>⟨y.1,y.2.1,y.2.2.1,y.2.2.2.1,y.2.2.2.2.1,y.2.2.2.2.2.1⟩
 | (n+22),_=>()
theorem Dd:∀ n y,gun n (gpk n y)=y
 | 0,_=>rfl
 | 1,_=>rfl
 | 2,_=>rfl
 | 3,_=>rfl
 | 4,_=>rfl
 | 5,_=>rfl
 | 6,_=>rfl
 | 7,_=>rfl
 | 8,_=>rfl
 | 9,_=>rfl
 | 10,_=>rfl
 | 11,_=>rfl
 | 12,_=>rfl
 | 13,_=>rfl
 | 14,_=>rfl
 | 15,_=>rfl
 | 16,_=>rfl
 | 17,_=>rfl
 | 18,_=>rfl
 | 19,_=>rfl
 | 20,_=>rfl
 | 21,_=>rfl
 | (n+22),_=>rfl
theorem Da:∀ n x,gpk n (gun n x)=x
 | 0,x=>by cases x;rfl
 | 1,x=>by cases x;rfl
 | 2,x=>by cases x;rfl
 | 3,x=>by cases x;rfl
 | 4,x=>by cases x;rfl
 | 5,x=>by cases x;rfl
 | 6,x=>by cases x;rfl
 | 7,x=>by cases x;rfl
 | 8,x=>by cases x;rfl
 | 9,x=>by cases x;rfl
 | 10,x=>by cases x;rfl
 | 11,x=>by cases x;rfl
 | 12,x=>by cases x;rfl
 | 13,x=>by cases x;rfl
 | 14,x=>by cases x;rfl
 | 15,x=>by cases x;rfl
 | 16,x=>by cases x;rfl
 | 17,x=>by cases x;rfl
 | 18,x=>by cases x;rfl
 | 19,x=>by cases x;rfl
 | 20,x=>by cases x;rfl
 | 21,x=>by cases x;rfl
 | (n+22),_=>rfl
def gz:∀ n,gT n
 | 0=>pf
 | 1=>fm
 | 2=>sb
 | 3=>Mp
 | 4=>Mt
 | 5=>Mu
 | 6=>Bc
 | 7=>dr
 | 8=>f7
 | 9=>cl
 | 10=>em
 | 11=>sc
 | 12=>co
 | 13=>Mw
 | 14=>iy
 | 15=>bZ
 | 16=>Mr
 | 17=>Mq
 | 18=>dh
 | 19=>Ms
 | 20=>Mv
 | 21=>ci
 | (n+22)=>()
theorem De:∀ n,gun n (gz n)=gL gz (gfs n)
 | 0=>rfl
 | 1=>rfl
 | 2=>rfl
 | 3=>rfl
 | 4=>rfl
 | 5=>rfl
 | 6=>rfl
 | 7=>rfl
 | 8=>rfl
 | 9=>rfl
 | 10=>rfl
 | 11=>rfl
 | 12=>rfl
 | 13=>rfl
 | 14=>rfl
 | 15=>rfl
 | 16=>rfl
 | 17=>rfl
 | 18=>rfl
 | 19=>rfl
 | 20=>rfl
 | 21=>rfl
 | (n+22)=>rfl
def gsz:Nat→Nat
 | 0=>6
 | 1=>4
 | 2=>3
 | 3=>3
 | 4=>3
 | 5=>3
 | 6=>4
 | 7=>3
 | 8=>4
 | 9=>3
 | 10=>5
 | 11=>6
 | 12=>4
 | 13=>8
 | 14=>4
 | 15=>9
 | 16=>3
 | 17=>11
 | 18=>5
 | 19=>2
 | 20=>3
 | 21=>6
 | _=>0
theorem Db:∀ n,gsz n=FT.szs gsz (gfs n)
 | 0=>rfl
 | 1=>rfl
 | 2=>rfl
 | 3=>rfl
 | 4=>rfl
 | 5=>rfl
 | 6=>rfl
 | 7=>rfl
 | 8=>rfl
 | 9=>rfl
 | 10=>rfl
 | 11=>rfl
 | 12=>rfl
 | 13=>rfl
 | 14=>rfl
 | 15=>rfl
 | 16=>rfl
 | 17=>rfl
 | 18=>rfl
 | 19=>rfl
 | 20=>rfl
 | 21=>rfl
 | (n+22)=>rfl
def gfl:Nat→Bool
 | 0=>false
 | 1=>true
 | 2=>true
 | 3=>false
 | 4=>false
 | 5=>false
 | 6=>false
 | 7=>true
 | 8=>false
 | 9=>true
 | 10=>true
 | 11=>false
 | 12=>false
 | 13=>false
 | 14=>true
 | 15=>false
 | 16=>false
 | 17=>false
 | 18=>false
 | 19=>false
 | 20=>true
 | 21=>true
 | _=>true
theorem C9:∀ n,gfl n=true→FT.flats gfl (gfs n)=true
 | 0,h=>by cases h
 | 1,h=>rfl
 | 2,h=>rfl
 | 3,h=>by cases h
 | 4,h=>by cases h
 | 5,h=>by cases h
 | 6,h=>by cases h
 | 7,h=>rfl
 | 8,h=>by cases h
 | 9,h=>rfl
 | 10,h=>rfl
 | 11,h=>by cases h
 | 12,h=>by cases h
 | 13,h=>by cases h
 | 14,h=>rfl
 | 15,h=>by cases h
 | 16,h=>by cases h
 | 17,h=>by cases h
 | 18,h=>by cases h
 | 19,h=>by cases h
 | 20,h=>rfl
 | 21,h=>rfl
 | (n+22),_=>rfl
def gam:Gam:=⟨gT,gfs,gun,gpk,Dd,Da,gz,De,gsz,Db,gfl,C9⟩
def tyL:List (Nat×FT):=[(2,(.int .i64)),(3,(.int .i64)),(4,.bool),(5,(.int .u8)),(6,(.int .u8)),(9,.str),(22,(.sl (.int .u8))),(29,(.sl (.nm 1))),(31,(.nm 0)),(46,(.sl (.int .i64))),(49,(.nm 2)),(51,(.nm 1)),(53,(.int .u64)),(58,(.nm 3)),(63,(.nm 4)),(69,(.nm 5)),(71,(.sl .str)),(72,(.sl (.nm 7))),(74,(.nm 6)),(75,(.sl (.nm 9))),(76,(.sl (.nm 10))),(78,(.nm 8)),(80,(.nm 11)),(98,(.sl (.nm 2))),(102,(.nm 9)),(104,(.nm 10)),(117,(.sl (.nm 15))),(130,(.sl (.nm 14))),(134,(.sl (.nm 12))),(136,(.nm 12)),(138,(.nm 13)),(140,(.nm 14)),(143,(.nm 15)),(152,(.nm 16)),(156,(.nm 7)),(159,.ptr),(162,(.nm 17)),(176,(.sl (.nm 18))),(178,(.nm 18)),(183,(.nm 19)),(198,(.nm 20)),(229,(.sl (.sl .str))),(230,(.sl (.sl (.int .i64)))),(240,(.sl .bool)),(245,(.sl (.nm 21))),(258,(.nm 21))]
def xU:List Nat:=[]
abbrev BT0:BT:=.leaf false .str
abbrev BT1:BT:=.leaf false .bool
abbrev BT2:BT:=.leaf true (.nm 0)
abbrev BT3:BT:=.leaf true (.nm 8)
abbrev BT4:BT:=.leaf true (.nm 7)
abbrev BT5:BT:=.leaf true (.nm 9)
abbrev BT6:BT:=.leaf false (.nm 0)
abbrev BT7:BT:=.leaf false (.nm 5)
abbrev BT8:BT:=.leaf false (.nm 3)
abbrev BT9:BT:=.leaf false (.nm 4)
abbrev ef:BT:=.leaf false (.nm 8)
abbrev eC:BT:=.leaf false (.nm 6)
abbrev pi:BT:=.leaf true (.nm 17)
abbrev eE:BT:=.leaf true (.nm 19)
abbrev eT:BT:=.leaf true (.nm 20)
abbrev cW:BT:=.leaf true (.nm 18)
abbrev pj:BT:=.leaf true (.nm 21)
abbrev cX:BT:=.leaf false (.nm 9)
abbrev pl:BT:=.leaf false (.nm 2)
abbrev j7:BT:=.leaf false (.nm 7)
abbrev fp:BT:=.leaf false (.nm 11)
abbrev cg:BT:=.leaf false (.nm 12)
abbrev ch:BT:=.leaf false (.nm 13)
abbrev eU:BT:=.leaf false (.nm 18)
abbrev eV:BT:=.leaf false (.nm 20)
abbrev vT:BT:=.leaf true (.sl .str)
abbrev cU:BT:=.leaf false (.sl .str)
abbrev eF:BT:=.leaf false (.int .u8)
abbrev iA:BT:=.leaf true (.sl .bool)
abbrev bP:BT:=.leaf false (.int .i64)
abbrev pn:BT:=.leaf false (.sl .bool)
abbrev f8:BT:=.leaf false (.sl (.nm 1))
abbrev sd:BT:=.leaf false (.sl (.nm 2))
abbrev po:BT:=.leaf false (.sl (.nm 7))
abbrev jq:BT:=.leaf false (.sl (.nm 9))
abbrev fM:BT:=.leaf true (.sl (.nm 21))
abbrev eG:BT:=.leaf false (.sl (.nm 15))
abbrev pp:BT:=.leaf false (.sl (.nm 14))
abbrev eH:BT:=.leaf false (.sl (.nm 21))
abbrev dA:BT:=.leaf true (.sl (.int .u8))
abbrev cK:BT:=.leaf false (.sl (.int .u8))
abbrev se:BT:=.leaf false (.sl (.sl .str))
abbrev jr:BT:=.leaf true (.sl (.int .i64))
abbrev f9:BT:=.leaf false (.sl (.int .i64))
abbrev sf:BT:=.leaf false (.sl (.sl (.int .i64)))
abbrev cS:BT:=.pr (.leaf false (.sl .str)) (.pr (.leaf false (.sl .str)) (.pr (.leaf true (.sl (.nm 7))) (.un)))
abbrev gM:BT:=.pr (.leaf false (.int .i64)) (.pr (.leaf false (.int .i64)) (.pr (.leaf false .str) (.pr (.sp (.nm 12)) (.un))))
abbrev di:BT:=.pr (.leaf true (.nm 8)) (.pr (.leaf true (.sl .str)) (.pr (.leaf true (.sl .str)) (.pr (.leaf false .str) (.pr (.leaf true (.sl .str)) (.pr (.leaf false .str) (.pr (.leaf false (.int .i64)) (.pr (.leaf false .bool) (.un))))))))
def keyL:List KeyI:=[
 ⟨0,[],[]⟩,
 ⟨1,[],[]⟩,
 ⟨2,[],[]⟩,
 ⟨3,[],[]⟩,
 ⟨4,[],[]⟩,
 ⟨5,[],[]⟩,
 ⟨6,[],[]⟩,
 ⟨6,[true,true,true,false,true,false],[.ptr 1 16,.own 3 48 (dA),.val 28 (f9),.val 29 (bP),.val 30 (bP),.slot 16 (BT6) true none]⟩,
 ⟨6,[true,true,true,true,false,true,false],[.ptr 1 16,.own 3 48 (dA),.val 40 (f8),.val 41 (bP),.val 42 (bP),.slot 16 (BT6) true none]⟩,
 ⟨6,[true,true,true,true,false,true,false,false,true,true,false,false,true,false,true,false],[.ptr 1 16,.ptr 7 112,.own 3 48 (dA),.val 40 (f8),.val 41 (bP),.val 42 (bP),.val 55 (f9),.val 56 (bP),.val 57 (bP),.slot 16 (BT6) true none,.slot 112 (.leaf true (.nm 1)) true none]⟩,
 ⟨7,[],[]⟩,
 ⟨7,[true,true,false,true,false],[.val 0 (cK),.val 3 (bP),.val 4 (bP)]⟩,
 ⟨8,[],[]⟩,
 ⟨9,[],[]⟩,
 ⟨10,[],[]⟩,
 ⟨10,[true,true,false,true,false],[.ptr 0 0,.own 3 48 (dA),.val 4 (bP),.slot 0 (BT7) true none]⟩,
 ⟨11,[],[]⟩,
 ⟨12,[],[]⟩,
 ⟨13,[],[]⟩,
 ⟨13,[true,true,true,false,true,false],[.val 0 (cK),.val 1 (bP),.val 7 (bP),.val 8 (bP)]⟩,
 ⟨14,[],[]⟩,
 ⟨14,[true,true,true,true,true,false,true,false],[.ptr 0 0,.ptr 2 32,.ptr 3 48,.val 19 (bP),.val 20 (bP),.slot 0 (BT8) true none,.slot 32 (BT2) true none,.slot 48 (BT2) true none]⟩,
 ⟨15,[],[]⟩,
 ⟨15,[true,true,false,true,false],[.val 0 (cK),.val 1 (cK),.val 12 (bP),.val 13 (bP)]⟩,
 ⟨16,[],[]⟩,
 ⟨16,[true,true,false,true,false],[.val 0 (cK),.val 1 (bP),.val 7 (bP),.val 8 (bP)]⟩,
 ⟨17,[],[]⟩,
 ⟨18,[],[]⟩,
 ⟨18,[true,true,true,true,true,true,true,false,true,false],[.ptr 0 0,.ptr 2 32,.ptr 3 48,.val 4 (bP),.val 5 (bP),.slot 0 (BT9) true none,.slot 32 (BT2) true none,.slot 48 (BT2) true none]⟩,
 ⟨19,[],[]⟩,
 ⟨20,[],[]⟩,
 ⟨21,[],[]⟩,
 ⟨21,[true,true,true,false,false],[.val 0 (bP),.own 3 48 (dA)]⟩,
 ⟨22,[],[]⟩,
 ⟨23,[],[]⟩,
 ⟨23,[true,true,false,true,false],[.val 3 (bP),.val 4 (bP),.val 7 (cK),.val 8 (bP),.val 9 (bP)]⟩,
 ⟨24,[],[]⟩,
 ⟨25,[],[]⟩,
 ⟨26,[],[]⟩,
 ⟨26,[true,true,true,false,true,false],[.ptr 1 16,.ptr 3 48,.own 4 64 (dA),.val 5 (bP),.slot 16 (fp) true none,.slot 48 (ef) true none]⟩,
 ⟨26,[true,true,true,true,true,false,true,false],[.ptr 1 16,.ptr 3 48,.own 4 64 (dA),.val 6 (bP),.slot 16 (fp) true none,.slot 48 (ef) true none]⟩,
 ⟨26,[true,true,true,true,true,true,true,true,false,true,false],[.ptr 1 16,.own 4 64 (dA),.val 7 (bP),.slot 16 (fp) true none]⟩,
 ⟨27,[],[]⟩,
 ⟨27,[true,true,true,false,true,false],[.ptr 0 0,.val 1 (bP),.own 7 112 (.leaf true (.sl (.nm 1))),.val 8 (bP),.val 9 (bP),.slot 0 (BT7) true none]⟩,
 ⟨28,[],[]⟩,
 ⟨28,[true,true,true,true,true,false,true,false],[.ptr 1 16,.own 3 48 (dA),.val 4 (bP),.slot 16 (BT6) true none]⟩,
 ⟨29,[],[]⟩,
 ⟨29,[true,true,true,false,false],[.val 0 (bP),.own 3 48 (dA)]⟩,
 ⟨30,[],[]⟩,
 ⟨31,[],[]⟩,
 ⟨32,[],[]⟩,
 ⟨33,[],[]⟩,
 ⟨33,[true,true,false,true,false],[.val 0 (cK),.val 3 (bP),.val 4 (bP),.val 5 (bP)]⟩,
 ⟨34,[],[]⟩,
 ⟨35,[],[]⟩,
 ⟨36,[],[]⟩,
 ⟨37,[],[]⟩,
 ⟨37,[true,false,true,false],[.val 0 (f8),.val 1 (bP),.val 5 (bP)]⟩,
 ⟨38,[],[]⟩,
 ⟨39,[],[]⟩,
 ⟨40,[],[]⟩,
 ⟨41,[],[]⟩,
 ⟨42,[],[]⟩,
 ⟨43,[],[]⟩,
 ⟨43,[true,true,true,false,true,false],[.ptr 0 0,.own 5 80 (.leaf true (.sl (.nm 2))),.val 6 (bP),.val 7 (bP),.slot 0 (BT7) true none]⟩,
 ⟨44,[],[]⟩,
 ⟨44,[true,true,true,false,true,false],[.ptr 2 32,.ptr 4 64,.ptr 5 80,.val 1 (sd),.val 6 (bP),.slot 32 (eC) true none,.slot 64 (.leaf true (.nm 11)) true none,.slot 80 (fp) true none]⟩,
 ⟨45,[],[]⟩,
 ⟨46,[],[]⟩,
 ⟨47,[],[]⟩,
 ⟨48,[],[]⟩,
 ⟨49,[],[]⟩,
 ⟨50,[],[]⟩,
 ⟨51,[],[]⟩,
 ⟨52,[],[]⟩,
 ⟨53,[],[]⟩,
 ⟨54,[],[]⟩,
 ⟨54,[true,false,true,false],[.ptr 1 16,.val 3 (bP),.slot 16 (eC) true none]⟩,
 ⟨54,[true,true,false,true,false],[.ptr 1 16,.val 4 (bP),.slot 16 (eC) true none]⟩,
 ⟨55,[],[]⟩,
 ⟨56,[],[]⟩,
 ⟨57,[],[]⟩,
 ⟨58,[],[]⟩,
 ⟨59,[],[]⟩,
 ⟨59,[true,true,false,true,false],[.ptr 0 0,.val 3 (BT0),.val 4 (bP),.slot 0 (BT7) true none]⟩,
 ⟨60,[],[]⟩,
 ⟨60,[true,false,true,false],[.val 0 (BT0),.val 3 (bP)]⟩,
 ⟨61,[],[]⟩,
 ⟨61,[true,false,true,false],[.clo 1 59 [16],.val 0 (f8),.val 7 (bP),.val 8 (bP),.slot 16 (.leaf true (.int .i64)) true none]⟩,
 ⟨62,[],[]⟩,
 ⟨63,[],[]⟩,
 ⟨64,[],[]⟩,
 ⟨64,[true,true,true,true,true,true,true,false,false],[.ptr 7 368,.val 4 (eG),.own 8 128 (.sp (.nm 15)),.val 9 (bP),.slot 368 (.pr (pp) (.pr (bP) (.pr (bP) (.pr (BT1) (.pr (cg) (.un)))))) true none]⟩,
 ⟨65,[],[]⟩,
 ⟨65,[true,true,true,true,true,true,false,true,false],[.ptr 2 32,.ptr 7 432,.ptr 8 496,.val 0 (eG),.val 5 (cU),.val 6 (cU),.val 9 (bP),.slot 32 (.leaf true (.nm 6)) true none,.slot 432 (cS) true none,.slot 496 (cS) true none]⟩,
 ⟨66,[],[]⟩,
 ⟨66,[true,false,true,false],[.val 0 (BT0),.val 3 (bP)]⟩,
 ⟨67,[],[]⟩,
 ⟨67,[true,false,true,false],[.val 0 (cU),.val 1 (BT0),.val 5 (bP)]⟩,
 ⟨68,[],[]⟩,
 ⟨68,[true,true,true,false,true,false],[.val 0 (po),.val 1 (bP),.val 2 (bP),.val 7 (bP),.val 8 (bP)]⟩,
 ⟨69,[],[]⟩,
 ⟨70,[],[]⟩,
 ⟨71,[],[]⟩,
 ⟨72,[],[]⟩,
 ⟨72,[true,true,true,true],[.ptr 3 48,.ptr 4 64,.ptr 6 96,.ptr 8 272,.slot 48 (eC) true none,.slot 64 (ef) true none,.slot 96 (BT3) true none,.slot 272 (pi) true none]⟩,
 ⟨73,[],[]⟩,
 ⟨74,[],[]⟩,
 ⟨74,[true,true,true,true,false,false],[.val 0 (BT0),.own 4 64 (.leaf true (.sl (.nm 14))),.val 5 (bP)]⟩,
 ⟨74,[true,true,true,true,false,false,false,true,false,true,false,true,false,false,false],[.val 0 (BT0),.own 4 64 (.leaf true (.sl (.nm 14))),.val 5 (bP)]⟩,
 ⟨75,[],[]⟩,
 ⟨76,[],[]⟩,
 ⟨77,[],[]⟩,
 ⟨77,[true,true,false,true,false],[.ptr 1 16,.val 3 (bP),.val 4 (bP),.slot 16 (cg) true none]⟩,
 ⟨78,[],[]⟩,
 ⟨79,[],[]⟩,
 ⟨79,[true,true,false,true,false],[.val 0 (eG),.val 3 (bP)]⟩,
 ⟨79,[true,true,true,true,true,false,true,false],[.val 0 (eG),.val 4 (cU),.val 5 (cU),.val 6 (bP)]⟩,
 ⟨79,[true,true,true,true,true,true,false,true,false],[.val 0 (eG),.val 7 (bP)]⟩,
 ⟨79,[true,true,true,true,true,true,true,false,true,false],[.val 0 (eG),.val 8 (bP)]⟩,
 ⟨80,[],[]⟩,
 ⟨80,[true,true,false,true,false],[.val 0 (eG),.val 4 (cU),.val 5 (cU),.val 6 (bP)]⟩,
 ⟨81,[],[]⟩,
 ⟨81,[true,true,false],[.ptr 0 0,.ptr 3 48,.val 4 (bP),.slot 0 (cS) true none,.slot 48 (cg) true none]⟩,
 ⟨82,[],[]⟩,
 ⟨82,[true,true,false,true],[.ptr 0 0,.ptr 3 48,.val 6 (bP),.val 24 (BT1),.slot 0 (cS) true none,.slot 48 (cg) true none]⟩,
 ⟨82,[true,true,false,true,true,true,true,true,true,true,true,false,true,false],[.ptr 0 0,.ptr 3 48,.val 4 (bP),.slot 0 (cS) true none,.slot 48 (cg) true none]⟩,
 ⟨83,[],[]⟩,
 ⟨84,[],[]⟩,
 ⟨85,[],[]⟩,
 ⟨86,[],[]⟩,
 ⟨86,[true,false,true,false,true,true,true,true,true],[.ptr 4 64,.val 1 (bP),.val 2 (bP),.val 3 (bP),.val 12 (bP),.val 28 (BT1),.slot 64 (BT4) true none]⟩,
 ⟨86,[true,false,true,false,true,true,true,true,true,true,true],[.ptr 4 64,.val 1 (bP),.val 3 (bP),.val 12 (bP),.val 46 (BT1),.slot 64 (BT4) true none]⟩,
 ⟨86,[true,false,true,false,true,true,true,true,true,true,true,true,true],[.ptr 4 64,.val 1 (bP),.val 12 (bP),.val 65 (BT1),.slot 64 (BT4) true none]⟩,
 ⟨86,[true,false,true,false,true,true,true,true,true,true,true,true,true,true,true,true,true],[.ptr 4 64,.val 1 (bP),.val 12 (bP),.val 91 (BT1),.slot 64 (BT4) true none]⟩,
 ⟨87,[],[]⟩,
 ⟨88,[],[]⟩,
 ⟨88,[true,true,true,false],[.ptr 0 0,.ptr 4 176,.wrd 176 0,.val 1 (po),.val 5 (bP),.val 6 (bP),.slot 0 (pi) true none,.slot 176 (eE) true none]⟩,
 ⟨89,[],[]⟩,
 ⟨90,[],[]⟩,
 ⟨91,[],[]⟩,
 ⟨91,[true,true,true,false,true,false],[.val 0 (BT0),.own 3 48 (vT),.val 4 (bP),.val 5 (bP)]⟩,
 ⟨92,[],[]⟩,
 ⟨93,[],[]⟩,
 ⟨94,[],[]⟩,
 ⟨94,[true,true,false,false,true,false,true,false,false],[.ptr 6 96,.val 0 (BT0),.val 1 (bP),.val 10 (bP),.slot 96 (.leaf true (.nm 14)) true none]⟩,
 ⟨95,[],[]⟩,
 ⟨96,[],[]⟩,
 ⟨97,[],[]⟩,
 ⟨97,[true,true,true,false,false],[.ptr 0 0,.ptr 2 32,.ptr 3 48,.slot 0 (ch) true none,.slot 32 (gM) true none,.slot 48 (gM) true none]⟩,
 ⟨98,[],[]⟩,
 ⟨99,[],[]⟩,
 ⟨99,[true,true,false,true,false,true,true,true],[.ptr 0 0,.ptr 2 32,.ptr 4 64,.val 5 (bP),.slot 0 (ch) true none,.slot 32 (gM) true none,.slot 64 (cg) true none]⟩,
 ⟨100,[],[]⟩,
 ⟨101,[],[]⟩,
 ⟨101,[true,false,true,false],[.val 0 (eG),.val 3 (bP)]⟩,
 ⟨102,[],[]⟩,
 ⟨102,[true,true,false,true,false],[.ptr 1 16,.val 3 (bP),.slot 16 (cg) true none]⟩,
 ⟨103,[],[]⟩,
 ⟨103,[true,true,true],[.ptr 1 16,.val 3 (bP),.slot 16 (cg) true none]⟩,
 ⟨103,[true,true,true,false,true,false],[.ptr 1 16,.val 3 (bP),.val 4 (bP),.slot 16 (cg) true none]⟩,
 ⟨104,[],[]⟩,
 ⟨104,[true,true,true,false,true,false],[.ptr 1 16,.val 5 (bP),.slot 16 (cg) true none]⟩,
 ⟨105,[],[]⟩,
 ⟨105,[true,true],[.ptr 3 48,.val 1 (cU),.val 2 (cU),.slot 48 (cg) true none]⟩,
 ⟨105,[true,true,false,true,false],[.ptr 3 48,.val 1 (cU),.val 2 (cU),.val 8 (bP),.slot 48 (cg) true none]⟩,
 ⟨106,[],[]⟩,
 ⟨107,[],[]⟩,
 ⟨108,[],[]⟩,
 ⟨109,[],[]⟩,
 ⟨110,[],[]⟩,
 ⟨111,[],[]⟩,
 ⟨112,[],[]⟩,
 ⟨113,[],[]⟩,
 ⟨114,[],[]⟩,
 ⟨114,[true,true,true,true,true,true],[.wrd 0 1,.val 2 (bP),.slot 0 (.pr (.leaf false .ptr) (.pr (.leaf true (.sl (.nm 9))) (.un))) true none,.slot 1 (di) true none]⟩,
 ⟨114,[true,true,true,true,true,false,true,false,true,true,true,true,true,true,true,true,true,true,true,true,true],[.ptr 0 0,.ptr 4 64,.wrd 0 1,.val 2 (bP),.val 9 (jq),.val 93 (BT1),.slot 0 (eE) true none,.slot 1 (pi) true none,.slot 64 (BT4) true none]⟩,
 ⟨115,[],[]⟩,
 ⟨116,[],[]⟩,
 ⟨117,[],[]⟩,
 ⟨117,[true,true,false,false],[.val 0 (BT0),.val 1 (bP),.val 7 (bP)]⟩,
 ⟨117,[true,true,true,false,true,false,true,true,false,false],[.val 0 (BT0),.val 1 (bP),.val 7 (bP),.val 8 (bP)]⟩,
 ⟨117,[true,true,true,true],[.val 0 (BT0),.val 1 (bP),.val 7 (bP)]⟩,
 ⟨118,[],[]⟩,
 ⟨118,[true,true,false,true,false],[.val 0 (BT0),.own 7 112 (dA),.val 8 (bP)]⟩,
 ⟨119,[],[]⟩,
 ⟨120,[],[]⟩,
 ⟨120,[true,true,false,true,false],[.val 0 (BT0),.own 7 112 (dA),.val 8 (bP)]⟩,
 ⟨121,[],[]⟩,
 ⟨121,[true,true,false,true,false],[.val 0 (BT0),.val 1 (bP),.val 5 (cU),.val 6 (bP)]⟩,
 ⟨122,[],[]⟩,
 ⟨123,[],[]⟩,
 ⟨124,[],[]⟩,
 ⟨125,[],[]⟩,
 ⟨126,[],[]⟩,
 ⟨126,[true,true,false,true,false,true,true,true,true,true,true,true],[.ptr 1 16,.val 23 (bP),.val 44 (BT1),.slot 16 (cg) true none]⟩,
 ⟨127,[],[]⟩,
 ⟨128,[],[]⟩,
 ⟨128,[true,true,true,false,false],[.val 0 (cU),.val 1 (BT0),.val 5 (bP)]⟩,
 ⟨129,[],[]⟩,
 ⟨129,[true,true],[.ptr 0 0,.ptr 3 48,.slot 0 (cS) true none,.slot 48 (cg) true none]⟩,
 ⟨129,[true,true,false,true,false],[.ptr 0 0,.ptr 3 48,.val 4 (bP),.slot 0 (cS) true none,.slot 48 (cg) true none]⟩,
 ⟨130,[],[]⟩,
 ⟨131,[],[]⟩,
 ⟨132,[],[]⟩,
 ⟨132,[true,false,true,false],[.val 0 (cU),.val 1 (BT0),.val 5 (bP)]⟩,
 ⟨133,[],[]⟩,
 ⟨134,[],[]⟩,
 ⟨134,[true,true,false,false],[.ptr 0 0,.ptr 4 64,.val 1 (bP),.own 5 80 (.leaf true (.sl (.nm 18))),.slot 0 (eT) true none,.slot 64 (cW) true none]⟩,
 ⟨135,[],[]⟩,
 ⟨135,[true,true,false,true,false],[.ptr 1 16,.val 3 (bP),.val 4 (bP),.slot 16 (eU) true none]⟩,
 ⟨136,[],[]⟩,
 ⟨136,[true,false,true,false,true],[.ptr 1 16,.val 4 (bP),.val 5 (BT1),.slot 16 (BT4) true none]⟩,
 ⟨137,[],[]⟩,
 ⟨137,[true,false,true,false,true],[.ptr 1 16,.val 4 (bP),.val 5 (BT1),.slot 16 (BT5) true none]⟩,
 ⟨138,[],[]⟩,
 ⟨139,[],[]⟩,
 ⟨140,[],[]⟩,
 ⟨141,[],[]⟩,
 ⟨141,[true,true,true,true],[.ptr 0 0,.ptr 6 1,.ptr 7 112,.wrd 0 1,.slot 0 (eE) true none,.slot 1 (di) true none,.slot 112 (BT5) true none]⟩,
 ⟨142,[],[]⟩,
 ⟨143,[],[]⟩,
 ⟨143,[true,true,false,false],[.val 0 (BT0),.val 4 (bP)]⟩,
 ⟨143,[true,true,true,true,true],[.val 0 (BT0),.val 4 (bP),.val 5 (BT1)]⟩,
 ⟨143,[true,true,true,true,true,true,false,false],[.val 0 (BT0),.val 4 (bP),.val 5 (BT1),.val 6 (bP),.val 7 (bP)]⟩,
 ⟨143,[true,true,true,true,true,true,true,false,true,false,true,true,false],[.val 0 (BT0),.val 4 (bP),.val 5 (BT1),.val 6 (bP),.val 7 (bP),.val 8 (bP)]⟩,
 ⟨143,[true,true,true,true,true,true,true,true],[.val 4 (bP),.val 5 (BT1),.val 6 (bP),.val 7 (bP)]⟩,
 ⟨144,[],[]⟩,
 ⟨145,[],[]⟩,
 ⟨146,[],[]⟩,
 ⟨146,[true,false,false,true,false,true,true,false,false],[.ptr 0 0,.ptr 2 32,.ptr 3 48,.slot 0 (ch) true none,.slot 32 (gM) true none,.slot 48 (gM) true none]⟩,
 ⟨147,[],[]⟩,
 ⟨147,[true,true,false,false],[.ptr 0 0,.val 1 (BT0),.own 5 80 (.sp (.nm 12)),.slot 0 (ch) true none]⟩,
 ⟨148,[],[]⟩,
 ⟨149,[],[]⟩,
 ⟨149,[true,true,true,false,true,false],[.ptr 0 0,.ptr 2 32,.ptr 4 64,.val 3 (cU),.val 5 (bP),.slot 0 (ch) true none,.slot 32 (gM) true none,.slot 64 (cg) true none]⟩,
 ⟨150,[],[]⟩,
 ⟨150,[true,true,false,false],[.ptr 0 0,.ptr 2 32,.ptr 3 48,.slot 0 (ch) true none,.slot 32 (gM) true none,.slot 48 (cg) true none]⟩,
 ⟨151,[],[]⟩,
 ⟨152,[],[]⟩,
 ⟨152,[true,true,true,true,false,false],[.ptr 0 0,.ptr 4 64,.ptr 7 112,.val 1 (bP),.val 5 (se),.val 6 (sf),.slot 0 (ch) true none,.slot 64 (cg) true none,.slot 112 (cg) true none]⟩,
 ⟨152,[true,true,true,true,false,false,false,true,false,true,false,false],[.ptr 0 0,.ptr 4 64,.ptr 7 112,.val 1 (bP),.val 5 (se),.val 6 (sf),.val 8 (bP),.slot 0 (ch) true none,.slot 64 (cg) true none,.slot 112 (cg) true none]⟩,
 ⟨152,[true,true,true,true,false,false,false,true,false,true,true,true,true,true,true],[.ptr 0 0,.ptr 4 64,.ptr 7 112,.val 1 (bP),.val 5 (se),.val 6 (sf),.val 8 (bP),.slot 0 (ch) true none,.slot 64 (cg) true none,.slot 112 (cg) true none]⟩,
 ⟨153,[],[]⟩,
 ⟨153,[true,true,false,true,false,true],[.ptr 1 16,.val 3 (bP),.val 9 (bP),.val 10 (BT1),.slot 16 (cg) true none]⟩,
 ⟨153,[true,true,false,true,false,true,true,true],[.ptr 1 16,.val 3 (bP),.val 9 (bP),.val 23 (BT1),.slot 16 (cg) true none]⟩,
 ⟨153,[true,true,false,true,false,true,true,true,true,true],[.ptr 1 16,.val 3 (bP),.val 9 (bP),.val 45 (BT1),.slot 16 (cg) true none]⟩,
 ⟨153,[true,true,false,true,false,true,true,true,true,true,true,true],[.ptr 1 16,.val 3 (bP),.val 9 (bP),.val 70 (BT1),.slot 16 (cg) true none]⟩,
 ⟨153,[true,true,false,true,false,true,true,true,true,true,true,true,true,true,true,true,true,true,false,false,true,false],[.ptr 1 16,.val 3 (bP),.val 4 (bP),.slot 16 (cg) true none]⟩,
 ⟨154,[],[]⟩,
 ⟨154,[true,false,true,false],[.val 0 (BT0),.val 3 (bP)]⟩,
 ⟨155,[],[]⟩,
 ⟨155,[true,true,false,false],[.ptr 0 0,.ptr 4 64,.val 1 (bP),.own 5 80 (.leaf true (.sl (.nm 18))),.slot 0 (eT) true none,.slot 64 (cW) true none]⟩,
 ⟨156,[],[]⟩,
 ⟨157,[],[]⟩,
 ⟨157,[true,true,true,true,true,false,true,false,true,false,false],[.val 0 (bP),.val 4 (BT0),.val 6 (BT0)]⟩,
 ⟨157,[true,true,true,true,true,true],[.val 0 (bP),.val 4 (BT0)]⟩,
 ⟨158,[],[]⟩,
 ⟨159,[],[]⟩,
 ⟨159,[true,false,true,false,true],[.ptr 1 16,.val 6 (bP),.val 7 (BT1),.slot 16 (BT5) true none]⟩,
 ⟨160,[],[]⟩,
 ⟨160,[true,true,true],[.ptr 0 0,.ptr 8 128,.val 9 (bP),.val 10 (BT1),.slot 0 (pi) true none,.slot 128 (BT5) true none]⟩,
 ⟨161,[],[]⟩,
 ⟨162,[],[]⟩,
 ⟨163,[],[]⟩,
 ⟨164,[],[]⟩,
 ⟨165,[],[]⟩,
 ⟨166,[],[]⟩,
 ⟨167,[],[]⟩,
 ⟨168,[],[]⟩,
 ⟨169,[],[]⟩,
 ⟨170,[],[]⟩,
 ⟨171,[],[]⟩,
 ⟨172,[],[]⟩,
 ⟨173,[],[]⟩,
 ⟨173,[true,true,true,false,true,false,true],[.ptr 3 48,.val 12 (bP),.val 13 (BT1),.slot 0 (ch) true none,.slot 48 (.leaf true (.nm 14)) true none]⟩,
 ⟨174,[],[]⟩,
 ⟨175,[],[]⟩,
 ⟨175,[true,false,true,false],[.ptr 3 48,.val 2 (bP),.val 7 (bP),.slot 48 (cg) true none]⟩,
 ⟨176,[],[]⟩,
 ⟨176,[true,false,true,false],[.ptr 2 32,.val 5 (bP),.slot 32 (cg) true none]⟩,
 ⟨177,[],[]⟩,
 ⟨177,[true,true,false,false],[.ptr 0 0,.ptr 4 64,.ptr 5 80,.slot 0 (eT) true none,.slot 64 (cW) true none,.slot 80 (cW) true none]⟩,
 ⟨177,[true,true,false,false,false,true,false,true,true],[.ptr 0 0,.ptr 4 64,.ptr 5 80,.val 6 (bP),.slot 0 (eT) true none,.slot 64 (cW) true none,.slot 80 (cW) true none]⟩,
 ⟨178,[],[]⟩,
 ⟨179,[],[]⟩,
 ⟨179,[true,true,true,false,false],[.val 0 (bP),.val 3 (BT0)]⟩,
 ⟨180,[],[]⟩,
 ⟨181,[],[]⟩,
 ⟨182,[],[]⟩,
 ⟨183,[],[]⟩,
 ⟨184,[],[]⟩,
 ⟨184,[true,false,true,false],[.ptr 3 48,.val 1 (bP),.val 2 (BT0),.val 7 (bP),.slot 48 (ef) true none]⟩,
 ⟨185,[],[]⟩,
 ⟨185,[true,true,true,true,true,true,false,false],[.ptr 4 64,.ptr 7 112,.ptr 8 128,.ptr 10 160,.val 1 (bP),.val 2 (BT0),.val 11 (bP),.slot 64 (ef) true none,.slot 112 (BT5) true none,.slot 128 (BT3) true none,.slot 160 (BT3) true none]⟩,
 ⟨186,[],[]⟩,
 ⟨186,[true,true],[.ptr 2 32,.val 0 (BT0),.slot 32 (BT5) true none]⟩,
 ⟨187,[],[]⟩,
 ⟨188,[],[]⟩,
 ⟨189,[],[]⟩,
 ⟨190,[],[]⟩,
 ⟨191,[],[]⟩,
 ⟨191,[true,true,true,true,true],[.ptr 4 64,.val 5 (eF),.slot 0 (eT) true none,.slot 64 (cW) true none]⟩,
 ⟨192,[],[]⟩,
 ⟨193,[],[]⟩,
 ⟨194,[],[]⟩,
 ⟨194,[true,true,true,false,false],[.val 0 (BT0),.val 4 (bP),.val 5 (bP)]⟩,
 ⟨195,[],[]⟩,
 ⟨196,[],[]⟩,
 ⟨196,[true,false,true,false],[.val 0 (eH),.val 1 (BT0),.val 7 (bP)]⟩,
 ⟨197,[],[]⟩,
 ⟨198,[],[]⟩,
 ⟨198,[true,false,true,false],[.val 0 (BT0),.val 1 (BT0),.val 5 (bP)]⟩,
 ⟨199,[],[]⟩,
 ⟨199,[true,true,false,true,false],[.val 1 (eF),.val 2 (eF),.own 7 112 (dA),.val 8 (bP)]⟩,
 ⟨200,[],[]⟩,
 ⟨200,[true,true,true,true,true],[.val 3 (BT0),.val 4 (bP),.val 5 (bP)]⟩,
 ⟨201,[],[]⟩,
 ⟨202,[],[]⟩,
 ⟨202,[true,true,true],[.ptr 0 0,.ptr 2 32,.ptr 3 48,.slot 0 (eT) true none,.slot 32 (cW) true none,.slot 48 (cW) true none]⟩,
 ⟨202,[true,true,true,true,true,false,false],[.ptr 0 0,.ptr 2 32,.ptr 3 48,.own 4 64 (iA),.val 5 (bP),.slot 0 (eT) true none,.slot 32 (cW) true none,.slot 48 (cW) true none]⟩,
 ⟨202,[true,true,true,true,true,false,false,false,true,false,true,true,true,true],[.ptr 0 0,.ptr 2 32,.ptr 3 48,.own 4 64 (iA),.val 5 (bP),.val 6 (bP),.val 7 (bP),.slot 0 (eT) true none,.slot 32 (cW) true none,.slot 48 (cW) true none]⟩,
 ⟨202,[true,true,true,true,true,true,true],[.ptr 0 0,.ptr 2 32,.ptr 3 48,.val 4 (pn),.slot 0 (eT) true none,.slot 32 (cW) true none,.slot 48 (cW) true none]⟩,
 ⟨202,[true,true,true,true,true,false,false,false,true,false,true,true,true,true,true],[.ptr 0 0,.ptr 2 32,.ptr 3 48,.own 4 64 (iA),.val 5 (bP),.val 6 (bP),.val 7 (bP),.slot 0 (eT) true none,.slot 32 (cW) true none,.slot 48 (cW) true none]⟩,
 ⟨202,[true,true,true,true,true,true,true,true,true,false,true,false],[.ptr 2 32,.ptr 3 48,.val 4 (pn),.own 9 144 (dA),.val 10 (bP),.slot 0 (eT) true none,.slot 32 (cW) true none,.slot 48 (cW) true none]⟩,
 ⟨202,[true,true,true,true,true,false,false,false,true,false,true,true,true,true,true,false,true,false],[.ptr 0 0,.ptr 2 32,.ptr 3 48,.own 4 64 (iA),.val 5 (bP),.val 7 (bP),.val 8 (bP),.slot 0 (eT) true none,.slot 32 (cW) true none,.slot 48 (cW) true none]⟩,
 ⟨203,[],[]⟩,
 ⟨204,[],[]⟩,
 ⟨204,[true,true,false,true,false,true,true,true,true,true,true,true,true,true,true,true,false,true,false],[.ptr 3 48,.own 0 2064 (fM),.val 6 (bP),.slot 48 (eU) true none]⟩,
 ⟨204,[true,true,true],[.own 0 2064 (fM)]⟩,
 ⟨205,[],[]⟩,
 ⟨206,[],[]⟩,
 ⟨206,[true,true,true,true,false,true,false],[.val 0 (eH),.val 1 (BT0),.val 7 (f9),.val 8 (bP),.val 9 (bP)]⟩,
 ⟨206,[true,true,true,true,false,true,false,false,true,false,false,true],[.val 0 (eH),.val 1 (BT0),.val 7 (f9),.val 8 (bP),.val 9 (bP)]⟩,
 ⟨206,[true,true,true,true,false,true,false,false,true,false,false,true,true,true,false,true,false],[.val 0 (eH),.val 1 (BT0),.val 7 (f9),.val 8 (bP),.val 9 (bP),.own 10 160 (jr),.val 11 (bP)]⟩,
 ⟨207,[],[]⟩,
 ⟨208,[],[]⟩,
 ⟨208,[true,false,true,false],[.ptr 1 16,.val 3 (bP),.slot 16 (eU) true none]⟩,
 ⟨208,[true,true,true,false,true,false,true,true,true,true,true],[.ptr 1 16,.val 4 (bP),.val 23 (bP),.val 62 (BT1),.slot 16 (eU) true none]⟩,
 ⟨208,[true,true,true,false,true,false,true,true,true,true,true,true,true],[.ptr 1 16,.val 4 (bP),.val 82 (BT1),.slot 16 (eU) true none]⟩,
 ⟨209,[],[]⟩,
 ⟨209,[true,true,false,true,false],[.own 0 1104 (fM),.val 1 (.leaf false (.sl (.nm 18))),.own 5 80 (jr),.val 6 (bP)]⟩,
 ⟨209,[true,true,true,true,false,true,false],[.own 0 1104 (fM),.val 5 (f9),.val 8 (bP)]⟩,
 ⟨210,[],[]⟩,
 ⟨210,[true,true,false,true,false],[.val 0 (eH),.val 3 (bP),.val 4 (bP)]⟩,
 ⟨211,[],[]⟩,
 ⟨211,[true,true,false,true,false],[.val 0 (eH),.val 1 (f9),.val 2 (BT1),.val 3 (BT1),.own 9 144 (iA),.val 10 (bP)]⟩,
 ⟨212,[],[]⟩,
 ⟨213,[],[]⟩,
 ⟨213,[true,false,true,false],[.val 0 (BT0),.val 3 (bP)]⟩,
 ⟨214,[],[]⟩,
 ⟨214,[true,true],[.ptr 2 32,.val 1 (bP),.val 5 (BT1),.slot 32 (pj) true none]⟩,
 ⟨214,[true,true,true],[.ptr 2 32,.val 1 (bP),.val 5 (BT1),.val 6 (BT1),.slot 32 (pj) true none]⟩,
 ⟨214,[true,true,true,true],[.ptr 2 32,.val 1 (bP),.val 5 (BT1),.val 6 (BT1),.val 7 (BT1),.slot 32 (pj) true none]⟩,
 ⟨214,[true,true,true,true,true],[.ptr 2 32,.val 5 (BT1),.val 6 (BT1),.val 7 (BT1),.val 8 (BT1),.slot 32 (pj) true none]⟩,
 ⟨214,[true,true,true,true,true,true],[.val 4 (BT1)]⟩,
 ⟨215,[],[]⟩,
 ⟨215,[true,false],[.val 0 (eH),.own 1 16 (iA),.val 3 (BT1),.val 4 (BT1),.own 10 160 (jr)]⟩,
 ⟨216,[],[]⟩,
 ⟨216,[true,true,false,true,false],[.val 0 (pn),.own 3 48 (jr),.val 4 (bP)]⟩,
 ⟨217,[],[]⟩,
 ⟨217,[true,false,true,false],[.val 0 (BT0),.val 1 (eF),.val 5 (bP)]⟩]
def entR:List EntI:=[
 ⟨4,.skip,[],[.val (cK)],[BT1],[],[(19,1),(25,1),(32,1),(60,1),(65,1),(77,1),(80,1)],0,[],false⟩,
 ⟨6,.skip,[],[.val (cK)],[BT1],[],[],0,[],false⟩,
 ⟨12,.skip,[],[.val (cK)],[cK,bP],[],[(7,1),(10,1),(13,1),(15,1),(20,1)],0,[],false⟩,
 ⟨13,.skip,[],[.val (cK),.val (bP)],[BT2,bP,BT1],[],[(38,1),(60,1)],0,[],false⟩,
 ⟨14,.skip,[],[.val (cK),.val (bP)],[BT6,bP,BT1],[],[(31,1),(39,1),(52,1),(54,1),(57,1),(77,1)],0,[],false⟩,
 ⟨11,.skip,[],[.val (cK),.val (bP)],[bP],[],[],0,[],false⟩,
 ⟨10,.skip,[],[.val (BT6)],[dA],[],[(28,1),(36,1),(55,1),(63,1),(70,1),(76,1),(97,1)],0,[(122,7),(250,8),(128202,9)],false⟩,
 ⟨24,.skip,[],[.val (cK)],[.pr (.hole 0) (BT7)],[],[(30,1)],0,[(58,11)],false⟩,
 ⟨29,.skip,[],[.ptr (BT7) (BT7)],[BT6],[(0,.box)],[(14,1),(19,1),(27,1),(29,1),(35,1),(36,1)],0,[],false⟩,
 ⟨18,.skip,[],[.val (BT6)],[dA],[],[(10,1),(18,1)],0,[],false⟩,
 ⟨26,.skip,[],[.ptr (BT7) (BT7)],[cK],[(0,.box)],[(14,1),(15,1)],0,[(58,15)],false⟩,
 ⟨25,.skip,[],[.ptr (BT7) (BT7),.own (dA)],[dA],[(0,.box)],[(23,2),(26,1),(32,2)],0,[],false⟩,
 ⟨30,.skip,[],[.ptr (BT7) (BT7),.val (f9)],[bP],[(0,.box)],[],0,[],false⟩,
 ⟨23,.skip,[],[.val (cK),.val (bP)],[bP,bP,BT1],[],[],0,[(122,19)],false⟩,
 ⟨31,.skip,[],[.ptr (BT8) (BT8)],[BT2],[(0,.box)],[(41,1)],0,[(506,21)],false⟩,
 ⟨32,.skip,[],[.val (cK),.val (cK)],[BT1],[],[],0,[(58,23)],false⟩,
 ⟨33,.skip,[],[.val (cK),.val (bP)],[bP,bP,BT1],[],[],0,[(58,25)],false⟩,
 ⟨34,.skip,[],[.val (cK)],[cK],[],[(17,1)],0,[],false⟩,
 ⟨35,.skip,[],[.ptr (BT9) (BT9)],[BT6],[(0,.box)],[(54,1)],0,[(2042,28)],false⟩,
 ⟨20,.skip,[],[.val (BT6)],[BT1],[],[],0,[],false⟩,
 ⟨19,.skip,[],[.val (BT6)],[BT1],[],[],0,[],false⟩,
 ⟨27,.skip,[],[.val (bP)],[dA],[],[(15,1),(22,1)],0,[(60,32)],false⟩,
 ⟨28,.skip,[],[.val (BT0)],[cK],[],[],0,[],false⟩,
 ⟨21,.skip,[],[.val (cK)],[bP],[],[],0,[(58,35)],false⟩,
 ⟨46,.skip,[],[.ptr (BT7) (BT7),.val (bP)],[bP],[(0,.box)],[],0,[],false⟩,
 ⟨47,.skip,[],[.ptr (BT7) (BT7)],[eC,fp],[(0,.box)],[(6,1),(10,1),(11,1)],0,[],false⟩,
 ⟨48,.skip,[],[.val (fp)],[cK],[],[(27,1),(33,1),(49,1),(58,1),(67,1),(72,1),(77,1),(92,1),(97,1)],0,[(122,39),(506,40),(4090,41)],false⟩,
 ⟨49,.skip,[],[.ptr (BT7) (BT7),.val (bP),.val (bP)],[f8],[(0,.box)],[(29,1)],0,[(122,43)],false⟩,
 ⟨38,.skip,[],[.val (BT6)],[cK],[],[(11,1),(17,1),(22,1),(28,1),(45,1),(52,1),(58,1),(64,1),(69,1)],0,[(506,45)],false⟩,
 ⟨39,.skip,[],[.val (bP)],[dA],[],[(16,1),(23,1)],0,[(60,47)],false⟩,
 ⟨45,.skip,[],[.val (bP),.val (bP),.val (bP)],[BT1],[],[],0,[],false⟩,
 ⟨50,.skip,[],[.ptr (BT8) (BT8),.val (bP)],[bP],[(0,.box)],[],0,[],false⟩,
 ⟨51,.skip,[],[.ptr (BT8) (BT8)],[BT0],[(0,.box)],[],0,[],false⟩,
 ⟨22,.skip,[],[.val (cK)],[bP],[],[],0,[(58,52)],false⟩,
 ⟨52,.skip,[],[.ptr (BT9) (BT9)],[bP],[(0,.box)],[],0,[],false⟩,
 ⟨53,.skip,[],[.ptr (BT9) (BT9)],[BT0],[(0,.box)],[],0,[],false⟩,
 ⟨43,.skip,[],[.val (bP),.val (bP),.val (bP)],[BT1],[],[],0,[],false⟩,
 ⟨44,.skip,[],[.val (f8),.val (bP)],[BT1],[],[],0,[(26,57)],false⟩,
 ⟨40,.skip,[],[.val (bP)],[BT1],[],[],0,[],false⟩,
 ⟨41,.skip,[],[.val (f8),.val (bP)],[BT1],[],[],0,[],false⟩,
 ⟨42,.skip,[],[.val (bP)],[BT1],[],[],0,[],false⟩,
 ⟨62,.skip,[],[.ptr (BT7) (BT7)],[bP],[(0,.box)],[],0,[],false⟩,
 ⟨63,.skip,[],[.ptr (BT7) (BT7)],[eC],[(0,.box)],[(8,1)],0,[],false⟩,
 ⟨65,.skip,[],[.ptr (BT7) (BT7),.val (bP)],[sd],[(0,.box)],[(21,1)],0,[(122,64)],false⟩,
 ⟨64,.skip,[],[.val (eC),.val (sd)],[fp],[],[(10,1),(12,1),(30,1)],0,[(122,66)],false⟩,
 ⟨66,.skip,[],[.val (cX)],[cK],[],[(9,1),(14,1)],0,[],false⟩,
 ⟨57,.skip,[],[.val (BT0)],[cK],[],[],0,[],false⟩,
 ⟨55,.skip,[],[.ptr (BT7) (BT7)],[pl],[(0,.box)],[],0,[],false⟩,
 ⟨67,.skip,[],[.val (cK),.val (bP)],[BT0,bP,BT1],[],[],0,[],false⟩,
 ⟨68,.skip,[],[.val (cK),.val (bP)],[BT0,bP,BT1],[],[],0,[],false⟩,
 ⟨61,.skip,[],[.val (pl)],[BT1],[],[],0,[],false⟩,
 ⟨58,.skip,[],[.val (f8),.clo 59 [bP]],[BT1],[(16,.box)],[],0,[],false⟩,
 ⟨75,.skip,[],[.ptr (BT7) (BT7)],[BT0],[(0,.box)],[(4,1)],0,[],false⟩,
 ⟨74,.skip,[],[.val (BT0)],[eC,bP],[],[(10,1),(15,1),(18,1)],0,[],false⟩,
 ⟨76,.skip,[],[.val (eC)],[BT1],[],[],0,[(26,77),(58,78)],false⟩,
 ⟨77,.skip,[],[.val (eC)],[fp],[],[(7,1),(16,1)],0,[],false⟩,
 ⟨78,.skip,[],[.val (eC),.val (fp),.val (pl)],[fp],[],[(45,1)],0,[],false⟩,
 ⟨79,.skip,[],[.val (bP)],[cK],[],[(10,1),(16,1),(19,1)],0,[],false⟩,
 ⟨56,.skip,[],[.ptr (BT7) (BT7),.val (bP)],[BT1],[(0,.box)],[],0,[],false⟩,
 ⟨70,.skip,[],[.ptr (BT7) (BT7)],[BT0],[(0,.box)],[(13,1),(17,1)],0,[(58,84)],false⟩,
 ⟨73,.skip,[],[.val (BT0)],[BT1],[],[],0,[(26,86)],false⟩,
 ⟨71,.skip,[],[.val (f8),.clo 59 [bP]],[bP],[(16,.box)],[],0,[(26,88)],false⟩,
 ⟨83,.skip,[],[],[cU],[],[(1,1)],0,[],false⟩,
 ⟨69,.skip,[],[.ptr (BT7) (BT7),.val (cU)],[BT0],[(0,.box)],[],0,[],false⟩,
 ⟨81,.skip,[],[.val (BT0)],[eG,bP],[],[(11,6),(14,1),(24,7),(37,1),(40,6)],0,[(1020,92)],false⟩,
 ⟨82,.skip,[],[.val (eG)],[eC,bP],[],[(17,1),(21,1),(96,1)],0,[(1018,94)],false⟩,
 ⟨84,.skip,[],[.val (BT0)],[BT1],[],[],0,[(26,96)],false⟩,
 ⟨85,.skip,[],[.val (cU),.val (BT0)],[BT1],[],[],0,[(26,98)],false⟩,
 ⟨86,.skip,[],[.val (po),.val (bP),.val (bP)],[BT1],[],[],0,[(122,100)],false⟩,
 ⟨87,.skip,[],[.val (eC)],[ef,BT0],[],[(11,1),(24,1)],0,[],false⟩,
 ⟨88,.skip,[],[.val (bP)],[ef],[],[(7,1)],0,[],false⟩,
 ⟨89,.skip,[],[.val (fp)],[.leaf true (.nm 11)],[],[],0,[],false⟩,
 ⟨90,.skip,[],[.val (eC),.val (ef),.val (BT0)],[ef,BT0],[],[(40,1)],0,[(31,105)],false⟩,
 ⟨59,.skip,[],[.val (.leaf false (.nm 1)),.ptr (bP) (bP)],[BT1],[(16,.box)],[],0,[],false⟩,
 ⟨92,.skip,[],[.val (BT0)],[pp,bP],[],[(56,1),(60,1),(67,1)],0,[(124,108),(63656,109)],false⟩,
 ⟨93,.skip,[],[.ptr (ch) (ch)],[.leaf false (.nm 14)],[(0,.box)],[],0,[],false⟩,
 ⟨94,.skip,[],[.ptr (ch) (ch)],[.leaf false (.nm 15)],[(0,.box)],[(10,1),(16,1),(19,1),(24,1),(26,1),(27,6)],0,[],false⟩,
 ⟨96,.skip,[],[.val (cg)],[bP],[],[],0,[(58,113)],false⟩,
 ⟨95,.skip,[],[.val (bP),.val (bP)],[bP],[],[],0,[],false⟩,
 ⟨97,.skip,[],[.val (eG)],[bP],[],[(38,1)],0,[(58,116),(506,117),(1018,118),(2042,119)],false⟩,
 ⟨98,.skip,[],[.val (eG)],[cU,cU],[],[(7,1),(8,1),(23,1),(34,1)],0,[(58,121)],false⟩,
 ⟨99,.skip,[],[.ptr (cS) (cS),.val (cg)],[],[(0,.box)],[],0,[(14,123)],false⟩,
 ⟨100,.skip,[],[.ptr (cS) (cS),.val (cg)],[],[(0,.box)],[],0,[(29,125),(30714,126)],false⟩,
 ⟨101,.skip,[],[.ptr (cS) (cS),.val (bP),.val (bP),.val (BT0)],[bP],[(0,.box)],[(18,1)],0,[],false⟩,
 ⟨102,.skip,[],[.val (eF)],[BT1],[],[],0,[],false⟩,
 ⟨103,.skip,[],[.val (BT0)],[BT1],[],[(3,1),(7,1)],0,[],false⟩,
 ⟨104,.skip,[],[.val (j7),.val (bP),.val (bP),.val (bP)],[BT1],[],[(71,1),(86,1)],0,[(863,131),(3455,132),(13823,133),(221183,134)],false⟩,
 ⟨105,.skip,[],[.val (ef)],[BT3],[],[],0,[],false⟩,
 ⟨106,.skip,[],[.ptr (di) (di),.val (po)],[],[(0,.box)],[],0,[(30,137)],false⟩,
 ⟨107,.skip,[],[.ptr (.leaf false (.nm 17)) (.leaf false (.nm 17)),.val (ef)],[ef,BT0],[(0,.box)],[(14,1)],0,[],false⟩,
 ⟨108,.skip,[],[.val (bP),.val (bP)],[bP],[],[],0,[],false⟩,
 ⟨109,.skip,[],[.val (BT0)],[vT],[],[(31,1)],0,[(122,141)],false⟩,
 ⟨110,.skip,[],[.ptr (di) (di),.val (bP)],[],[(0,.box)],[],0,[],false⟩,
 ⟨60,.skip,[],[.val (pl)],[BT1],[],[],0,[],false⟩,
 ⟨112,.skip,[],[.val (BT0),.val (bP),.val (pp)],[.leaf false (.nm 14),bP,BT1],[],[],0,[(916,145)],false⟩,
 ⟨113,.skip,[],[.ptr (ch) (ch),.val (BT0)],[BT1],[(0,.box)],[],0,[],false⟩,
 ⟨114,.skip,[],[.ptr (ch) (ch)],[],[(0,.box)],[],0,[],false⟩,
 ⟨115,.skip,[],[.ptr (ch) (ch)],[cg],[(0,.box)],[(2,7),(3,7),(4,7),(24,1),(25,6)],0,[(60,149)],false⟩,
 ⟨116,.skip,[],[.ptr (ch) (ch),.val (BT0)],[BT1],[(0,.box)],[],0,[],false⟩,
 ⟨117,.skip,[],[.ptr (ch) (ch)],[cg],[(0,.box)],[(2,7),(4,7),(6,7),(26,1),(38,1),(42,6),(52,1)],0,[(471,152)],false⟩,
 ⟨118,.skip,[],[.val (bP),.val (.leaf false (.sl (.nm 12)))],[gM],[],[(4,7),(6,7),(8,7)],0,[],false⟩,
 ⟨119,.skip,[],[.val (eG)],[BT1],[],[],0,[(26,155)],false⟩,
 ⟨120,.skip,[],[.val (cg)],[BT1],[],[],0,[(58,157)],false⟩,
 ⟨121,.skip,[],[.val (cg)],[BT1],[],[],0,[(15,159),(122,160)],false⟩,
 ⟨122,.skip,[],[.val (cg)],[BT1],[],[(12,1)],0,[(122,162)],false⟩,
 ⟨123,.skip,[],[.val (cg),.val (cU),.val (cU)],[cU,cU],[],[(16,1),(23,1),(39,1)],0,[(7,164),(58,165)],false⟩,
 ⟨124,.skip,[],[.ptr (cS) (cS),.val (cg)],[],[(0,.box)],[],0,[],false⟩,
 ⟨125,.skip,[],[.ptr (cS) (cS),.val (cg)],[],[(0,.box)],[],0,[],false⟩,
 ⟨126,.skip,[],[.ptr (cS) (cS),.val (cg)],[],[(0,.box)],[],0,[],false⟩,
 ⟨127,.skip,[],[.ptr (cS) (cS),.val (cg)],[],[(0,.box)],[],0,[],false⟩,
 ⟨128,.skip,[],[.ptr (cS) (cS),.val (cg)],[],[(0,.box)],[],0,[],false⟩,
 ⟨129,.skip,[],[],[cU],[],[(1,1)],0,[],false⟩,
 ⟨130,.skip,[],[.val (bP)],[BT1],[],[],0,[],false⟩,
 ⟨131,.skip,[],[.val (BT0)],[eU,BT1],[],[(9,1),(14,1),(33,1)],0,[],false⟩,
 ⟨132,.skip,[],[.ref (eE) (eE) (di) (di),.val (j7),.val (bP)],[bP,BT1],[(0,.box),(1,.box)],[(32,2)],0,[(127,175),(4153343,176)],false⟩,
 ⟨72,.skip,[],[.val (BT0)],[BT1],[],[],0,[],false⟩,
 ⟨137,.skip,[],[.val (eF)],[BT1],[],[],0,[],false⟩,
 ⟨138,.skip,[],[.val (BT0),.val (bP)],[bP,bP,BT1],[],[],0,[(28,180),(1964,181),(31,182)],false⟩,
 ⟨139,.skip,[],[.val (BT0),.val (bP)],[BT0,bP,BT1],[],[(47,1)],0,[(58,184)],false⟩,
 ⟨140,.skip,[],[.val (pp)],[BT1],[],[],0,[],false⟩,
 ⟨141,.skip,[],[.val (BT0),.val (bP)],[BT0,bP,BT1],[],[(52,1),(60,1)],0,[(58,187)],false⟩,
 ⟨142,.skip,[],[.val (BT0),.val (bP)],[BT0],[],[(8,1)],0,[(58,189)],false⟩,
 ⟨143,.skip,[],[.ptr (ch) (ch),.val (BT0)],[],[(0,.box)],[],0,[],false⟩,
 ⟨144,.skip,[],[.ptr (ch) (ch)],[cg],[(0,.box)],[(2,7),(3,7),(8,1),(13,1),(18,1),(20,1)],0,[],false⟩,
 ⟨145,.skip,[],[.ptr (ch) (ch)],[cg],[(0,.box)],[(2,7),(6,7),(15,1),(21,1),(29,1),(38,1),(43,1),(50,1),(54,1),(59,6),(60,1)],0,[],false⟩,
 ⟨146,.skip,[],[.ptr (ch) (ch),.val (bP)],[cg],[(0,.box)],[(4,7),(9,1),(13,1),(17,1),(20,1)],0,[],false⟩,
 ⟨148,.skip,[],[.val (cg)],[BT1],[],[(53,1)],0,[(7551,195)],false⟩,
 ⟨147,.skip,[],[.val (bP)],[BT1],[],[],0,[],false⟩,
 ⟨149,.skip,[],[.val (cU),.val (BT0)],[cU],[],[(32,1)],0,[(60,198)],false⟩,
 ⟨150,.skip,[],[.ptr (cS) (cS),.val (cg)],[],[(0,.box)],[],0,[(7,200),(58,201)],false⟩,
 ⟨151,.skip,[],[.ptr (cS) (cS),.val (cg)],[],[(0,.box)],[],0,[],false⟩,
 ⟨152,.skip,[],[.ptr (cS) (cS),.val (cg)],[],[(0,.box)],[],0,[],false⟩,
 ⟨153,.skip,[],[.val (cU),.val (BT0)],[bP],[],[],0,[(26,205)],false⟩,
 ⟨154,.skip,[],[.val (BT1)],[bP],[],[],0,[],false⟩,
 ⟨155,.skip,[],[.ptr (eV) (eV),.val (bP)],[cW],[(0,.box)],[],0,[(28,208)],false⟩,
 ⟨156,.skip,[],[.val (eU)],[bP],[],[],0,[(58,210)],false⟩,
 ⟨157,.skip,[],[.val (j7)],[bP],[],[],0,[(53,212)],false⟩,
 ⟨158,.skip,[],[.val (cX)],[BT1],[],[],0,[(53,214)],false⟩,
 ⟨159,.skip,[],[.ptr (di) (di),.val (BT0)],[],[(0,.box)],[],0,[],false⟩,
 ⟨160,.skip,[],[.val (cX)],[BT0],[],[],0,[],false⟩,
 ⟨161,.skip,[],[.ref (eE) (eE) (di) (di),.val (j7),.val (jq)],[],[(0,.box),(1,.box)],[],0,[],false⟩,
 ⟨162,.skip,[],[.ref (eE) (eE) (di) (di),.val (j7),.val (jq)],[],[(0,.box),(1,.box)],[],0,[(31,219)],false⟩,
 ⟨80,.skip,[],[.val (BT0),.val (BT0)],[BT1],[],[],0,[],false⟩,
 ⟨165,.skip,[],[.val (BT0)],[bP,bP],[],[],0,[(28,222),(63,223),(508,224),(16342,225),(511,226)],false⟩,
 ⟨166,.skip,[],[.ptr (ch) (ch)],[],[(0,.box)],[],0,[],false⟩,
 ⟨167,.skip,[],[.ptr (ch) (ch),.val (bP)],[cg],[(0,.box)],[(4,7),(5,7),(6,7),(7,7),(13,1),(17,1),(21,6),(34,1),(35,6)],0,[],false⟩,
 ⟨168,.skip,[],[.ptr (ch) (ch)],[cg],[(0,.box)],[(2,7),(3,7),(5,7),(11,7),(36,1),(37,6),(46,1),(57,1),(62,6),(63,1),(65,1),(66,6)],0,[(812,230)],false⟩,
 ⟨169,.skip,[],[.ptr (ch) (ch),.val (BT0)],[.leaf false (.sl (.nm 12))],[(0,.box)],[(6,7),(25,1),(26,6)],0,[(28,232)],false⟩,
 ⟨170,.skip,[],[.ptr (ch) (ch)],[BT0],[(0,.box)],[],0,[],false⟩,
 ⟨171,.skip,[],[.ptr (ch) (ch)],[cg],[(0,.box)],[(2,7),(4,7),(6,7),(7,1),(9,1),(25,1),(30,6)],0,[(122,235)],false⟩,
 ⟨172,.skip,[],[.ptr (ch) (ch)],[cg],[(0,.box)],[(2,7),(3,7),(4,7),(6,1),(10,1),(13,6)],0,[(28,237)],false⟩,
 ⟨173,.skip,[],[.ptr (ch) (ch)],[cg],[(0,.box)],[(2,7),(9,1),(16,1),(17,6),(25,1),(26,6),(29,1)],0,[],false⟩,
 ⟨174,.skip,[],[.ptr (ch) (ch),.val (bP)],[cg],[(0,.box)],[(4,7),(7,7),(9,7),(10,1),(11,1),(12,1),(13,1),(14,1),(15,1),(16,1),(17,6),(18,1),(19,1),(20,1),(21,1),(22,1),(23,1),(24,1),(25,6),(29,1),(69,1),(79,6),(88,6)],0,[(124,240),(7956,241),(63679,242)],false⟩,
 ⟨175,.skip,[],[.val (cg)],[BT1],[],[],0,[(117,244),(471,245),(1887,246),(7551,247),(7733234,248)],false⟩,
 ⟨176,.skip,[],[.val (BT0)],[BT1],[],[],0,[(26,250)],false⟩,
 ⟨177,.skip,[],[.ptr (eV) (eV),.val (bP)],[cW],[(0,.box)],[],0,[(28,252)],false⟩,
 ⟨178,.skip,[],[.ptr (eV) (eV),.val (eF)],[BT1],[(0,.box)],[],0,[],false⟩,
 ⟨179,.skip,[],[.val (bP)],[BT0],[],[],0,[(4052,255),(127,256)],false⟩,
 ⟨180,.skip,[],[.ref (eE) (eE) (di) (di),.val (cX)],[],[(0,.box),(1,.box)],[(21,1)],0,[],false⟩,
 ⟨182,.skip,[],[.val (cX)],[bP],[],[],0,[(53,259)],false⟩,
 ⟨181,.skip,[],[.ptr (di) (di),.val (bP),.val (bP),.val (bP)],[cX],[(0,.box)],[],0,[(15,261)],false⟩,
 ⟨184,.skip,[],[.val (cX)],[BT0],[],[],0,[],false⟩,
 ⟨183,.skip,[],[.val (ef),.val (bP),.val (BT0)],[cX],[],[],0,[],false⟩,
 ⟨185,.skip,[],[.ref (eE) (eE) (di) (di),.val (bP),.val (BT0),.val (cX)],[],[(0,.box),(1,.box)],[],0,[],false⟩,
 ⟨186,.skip,[],[.val (ef),.val (bP),.val (BT0)],[BT3],[],[],0,[],false⟩,
 ⟨187,.skip,[],[.val (bP)],[cX],[],[],0,[],false⟩,
 ⟨188,.skip,[],[.ptr (di) (di),.val (cX)],[cX],[(0,.box)],[],0,[],false⟩,
 ⟨189,.skip,[],[.ptr (di) (di),.val (cX),.val (cX)],[cX],[(0,.box)],[],0,[],false⟩,
 ⟨190,.skip,[],[.val (BT0),.val (BT0)],[cX],[],[(9,1)],0,[],false⟩,
 ⟨191,.skip,[],[.val (BT1)],[cX],[],[],0,[],false⟩,
 ⟨192,.skip,[],[.val (BT0),.val (jq)],[cX],[],[(20,1)],0,[],false⟩,
 ⟨193,.skip,[],[.val (bP),.val (cX),.val (cX)],[cX],[],[(23,1)],0,[],false⟩,
 ⟨91,.skip,[],[.val (BT0),.val (BT0)],[bP],[],[],0,[],false⟩,
 ⟨194,.skip,[],[.ptr (ch) (ch)],[BT1],[(0,.box)],[(34,1)],0,[(245,275)],false⟩,
 ⟨195,.skip,[],[.ptr (ch) (ch)],[cg],[(0,.box)],[(2,7),(4,7),(23,1),(32,1),(39,1),(46,1),(50,1),(56,1),(57,6),(62,1)],0,[],false⟩,
 ⟨196,.skip,[],[.val (cg),.val (bP),.val (bP)],[BT1],[],[],0,[(26,278)],false⟩,
 ⟨197,.skip,[],[.val (cg),.val (bP)],[BT1],[],[],0,[(26,280)],false⟩,
 ⟨198,.skip,[],[.ptr (eV) (eV),.val (bP)],[cW],[(0,.box)],[],0,[(28,282),(907,283)],false⟩,
 ⟨199,.skip,[],[.val (bP)],[bP],[],[],0,[],false⟩,
 ⟨200,.skip,[],[.val (bP)],[BT0],[],[(12,1)],0,[(60,286)],false⟩,
 ⟨201,.skip,[],[.val (bP),.val (bP)],[bP,BT1],[],[],0,[],false⟩,
 ⟨202,.skip,[],[.val (bP),.val (bP)],[bP,BT1],[],[],0,[],false⟩,
 ⟨203,.skip,[],[.val (bP),.val (bP)],[bP,BT1],[],[],0,[],false⟩,
 ⟨204,.skip,[],[.val (bP),.val (bP)],[bP,BT1],[],[],0,[],false⟩,
 ⟨205,.skip,[],[.val (ef),.val (bP),.val (BT0)],[bP],[],[],0,[(26,292)],false⟩,
 ⟨206,.skip,[],[.val (ef),.val (bP),.val (BT0),.val (cX)],[BT3,BT1],[],[(61,1)],0,[(508,294)],false⟩,
 ⟨207,.skip,[],[.val (BT0)],[cX],[],[],0,[(7,296)],false⟩,
 ⟨208,.skip,[],[.val (eU),.val (BT0)],[BT1],[],[(10,1)],0,[],false⟩,
 ⟨209,.skip,[],[.val (BT0),.val (jq)],[cX],[],[],0,[],false⟩,
 ⟨210,.skip,[],[.val (cX),.val (cX)],[bP],[],[],0,[],false⟩,
 ⟨111,.skip,[],[.val (BT0),.val (BT0)],[bP],[],[],0,[],false⟩,
 ⟨211,.skip,[],[.ptr (eV) (eV),.val (bP)],[cW],[(0,.box)],[],0,[(63,302)],false⟩,
 ⟨212,.skip,[],[.val (bP)],[bP,BT1],[],[],0,[],false⟩,
 ⟨213,.skip,[],[.val (.leaf false (.nm 10)),.val (bP),.val (BT0)],[BT1],[],[],0,[],false⟩,
 ⟨214,.skip,[],[.val (BT0)],[bP,BT1],[],[],0,[(60,306)],false⟩,
 ⟨216,.skip,[],[.val (eU)],[eH],[],[(6,1),(10,1)],0,[],false⟩,
 ⟨215,.skip,[],[.val (eH),.val (BT0)],[bP,bP,BT1],[],[],0,[(26,309)],false⟩,
 ⟨217,.skip,[],[.val (bP)],[bP],[],[],0,[],false⟩,
 ⟨218,.skip,[],[.val (BT0),.val (BT0)],[bP],[],[],0,[(26,312)],false⟩,
 ⟨219,.skip,[],[.val (BT0),.val (eF),.val (eF)],[BT0],[],[],0,[(58,314)],false⟩,
 ⟨220,.skip,[],[.val (jq)],[BT0],[],[],0,[(63,316)],false⟩,
 ⟨133,.skip,[],[.val (BT0),.val (eF)],[bP],[],[],0,[],false⟩,
 ⟨221,.skip,[],[.ptr (eV) (eV)],[cW],[(0,.box)],[(171,1)],0,[(15,319),(252,320),(32303,321),(255,322),(64607,323),(8186,324),(516858,325)],false⟩,
 ⟨223,.skip,[],[.val (eU)],[BT1],[],[],0,[],false⟩,
 ⟨225,.skip,[],[.own (fM),.val (eU)],[fM],[],[(18,1),(32,1),(76,1),(105,1)],0,[(966650,328),(15,329)],false⟩,
 ⟨224,.skip,[],[.own (fM),.val (bP)],[fM],[],[(8,1)],0,[],false⟩,
 ⟨222,.skip,[],[.val (eH),.val (BT0),.val (bP)],[bP],[],[(23,1),(30,1),(76,1),(85,1)],0,[(250,332),(8009,333),(256314,334)],false⟩,
 ⟨163,.skip,[],[.val (BT0),.val (eF)],[bP],[],[],0,[],true⟩,
 ⟨229,.skip,[],[.val (eU)],[BT1],[],[],0,[(26,337),(3935,338),(15743,339)],false⟩,
 ⟨230,.skip,[],[.own (fM),.val (.leaf false (.sl (.nm 18)))],[fM],[],[(29,1)],0,[(58,341),(250,342)],false⟩,
 ⟨226,.skip,[],[.val (eH)],[BT1],[],[],0,[(58,344)],false⟩,
 ⟨227,.skip,[],[.val (eH),.val (f9),.val (BT1),.val (BT1)],[jr],[],[],0,[(58,346)],false⟩,
 ⟨228,.skip,[],[.val (.leaf false (.nm 21)),.val (eF)],[BT1],[],[],0,[],false⟩,
 ⟨235,.skip,[],[.val (BT0)],[BT1],[],[],0,[(26,349)],false⟩,
 ⟨231,.skip,[],[.val (.leaf false (.nm 21)),.val (bP)],[BT1],[],[],0,[(7,351),(15,352),(31,353),(63,354),(127,355)],false⟩,
 ⟨232,.skip,[],[.val (eH),.io (iA),.val (bP),.val (BT1),.val (BT1)],[],[(16,.reg)],[(57,1),(66,1),(74,1),(82,1)],0,[(6,357)],false⟩,
 ⟨233,.skip,[],[.val (pn)],[jr],[],[(18,1)],0,[(58,359)],false⟩,
 ⟨234,.skip,[],[.val (BT0),.val (eF)],[BT1],[],[],0,[(26,361)],false⟩]
def wD:iB:=[((163,[]),335)]
def wC:iB:=[((4,[]),0),((6,[]),1),((12,[]),2),((13,[]),3),((14,[]),4),((11,[]),5),((10,[]),6),((24,[]),10),((29,[]),12),((18,[]),13),((26,[]),14),((25,[]),16),((30,[]),17),((23,[]),18),((31,[]),20),((32,[]),22),((33,[]),24),((34,[]),26),((35,[]),27),((20,[]),29),((19,[]),30),((27,[]),31),((28,[]),33),((21,[]),34),((46,[]),36),((47,[]),37),((48,[]),38),((49,[]),42),((38,[]),44),((39,[]),46),((45,[]),48),((50,[]),49),((51,[]),50),((22,[]),51),((52,[]),53),((53,[]),54),((43,[]),55),((44,[]),56),((40,[]),58),((41,[]),59),((42,[]),60),((62,[]),61),((63,[]),62),((65,[]),63),((64,[]),65),((66,[]),67),((57,[]),68),((55,[]),69),((67,[]),70),((68,[]),71),((61,[]),72),((58,[59]),73),((75,[]),74),((74,[]),75),((76,[]),76),((77,[]),79),((78,[]),80),((79,[]),81),((56,[]),82),((70,[]),83),((73,[]),85),((71,[59]),87),((83,[]),89),((69,[]),90),((81,[]),91),((82,[]),93),((84,[]),95),((85,[]),97),((86,[]),99),((87,[]),101),((88,[]),102),((89,[]),103),((90,[]),104),((59,[]),106),((92,[]),107),((93,[]),110),((94,[]),111),((96,[]),112),((95,[]),114),((97,[]),115),((98,[]),120),((99,[]),122),((100,[]),124),((101,[]),127),((102,[]),128),((103,[]),129),((104,[]),130),((105,[]),135),((106,[]),136),((107,[]),138),((108,[]),139),((109,[]),140),((110,[]),142),((60,[]),143),((112,[]),144),((113,[]),146),((114,[]),147),((115,[]),148),((116,[]),150),((117,[]),151),((118,[]),153),((119,[]),154),((120,[]),156),((121,[]),158),((122,[]),161),((123,[]),163),((124,[]),166),((125,[]),167),((126,[]),168),((127,[]),169),((128,[]),170),((129,[]),171),((130,[]),172),((131,[]),173),((132,[]),174),((72,[]),177),((137,[]),178),((138,[]),179),((139,[]),183),((140,[]),185),((141,[]),186),((142,[]),188),((143,[]),190),((144,[]),191),((145,[]),192),((146,[]),193),((148,[]),194),((147,[]),196),((149,[]),197),((150,[]),199),((151,[]),202),((152,[]),203),((153,[]),204),((154,[]),206),((155,[]),207),((156,[]),209),((157,[]),211),((158,[]),213),((159,[]),215),((160,[]),216),((161,[]),217),((162,[]),218),((80,[]),220),((165,[]),221),((166,[]),227),((167,[]),228),((168,[]),229),((169,[]),231),((170,[]),233),((171,[]),234),((172,[]),236),((173,[]),238),((174,[]),239),((175,[]),243),((176,[]),249),((177,[]),251),((178,[]),253),((179,[]),254),((180,[]),257),((182,[]),258),((181,[]),260),((184,[]),262),((183,[]),263),((185,[]),264),((186,[]),265),((187,[]),266),((188,[]),267),((189,[]),268),((190,[]),269),((191,[]),270),((192,[]),271),((193,[]),272),((91,[]),273),((194,[]),274),((195,[]),276),((196,[]),277),((197,[]),279),((198,[]),281),((199,[]),284),((200,[]),285),((201,[]),287),((202,[]),288),((203,[]),289),((204,[]),290),((205,[]),291),((206,[]),293),((207,[]),295),((208,[]),297),((209,[]),298),((210,[]),299),((111,[]),300),((211,[]),301),((212,[]),303),((213,[]),304),((214,[]),305),((216,[]),307),((215,[]),308),((217,[]),310),((218,[]),311),((219,[]),313),((220,[]),315),((133,[]),317),((221,[]),318),((223,[]),326),((225,[]),327),((224,[]),330),((222,[]),331),((229,[]),336),((230,[]),340),((226,[]),343),((227,[]),345),((228,[]),347),((235,[]),348),((231,[]),350),((232,[]),356),((233,[]),358),((234,[]),360)]
def uf(e:Nat):EntI:=entR.getD e ⟨0,.skip,[],[],[],[],[],0,[],true⟩
def ej(k:Nat):KeyI:=keyL.getD k ⟨0,[false],[]⟩
noncomputable def tab:Tab where
 G:=gam
 ty:=i6 tyL
 ifc:=qo xU
 key k:=qj uf (ej k)
 ent k:=fill Tryz.prog (uf k)
 call:=qm (wD++wC)
 tabs:=[]
 ext k:=match k with
  | 335=>fun x=>some (cY x.1 x.2.1,())
  | _=>fun _=>none
end Go.Proofs.YtacknlgegbagfaaGreat.E.TN
