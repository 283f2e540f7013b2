/- The table of T: structs,types,entries,keys. No condition. -/
import Derived.Test.YtacknlgegbagfaaGreatEG4
import Derived.Test.YtacknlgegbagfaaGreatProg
import Derived.KernelRfl
namespace Go.Proofs.YtacknlgegbagfaaGreat.E.TT
open Go.Proofs.YtacknlgegbagfaaGreat.E
set_option linter.unusedVariables false
set_option maxRecDepth 100000
structure bp where
 Who:Int
 Seq:Int
 Line:(_root_.List Int)
def sj:bp:=⟨0,0,[]⟩
structure bq where
 Term:Int
 C:bp
def fp:bq:=⟨0,sj⟩
structure bB where
 Kind:Int
 Term:Int
 Vote:Int
 Prev:Int
 List:(_root_.List bq)
 Snap:(_root_.List Int)
def iy:bB:=⟨0,0,0,0,[],[]⟩
structure bH where
 b:(_root_.List Int)
 at_:Int
 bad:Bool
def MR:bH:=⟨[],0,false⟩
structure bL where
 b:(_root_.List Int)
 at_:Int
 ok:Bool
def MV:bL:=⟨[],0,false⟩
structure bM where
 b:(_root_.List Int)
 i:Int
 h:Int
def MW:bM:=⟨[],0,0⟩
structure bw where
 Code:Int
 N:Int
 S:(_root_.List Int)
def du:bw:=⟨0,0,[]⟩
structure bA where
 Vars:(_root_.List (_root_.List Int))
 Cells:(_root_.List (_root_.List Int))
 Start:(_root_.List bw)
 Main:(_root_.List bw)
def Bx:bA:=⟨[],[],[],[]⟩
structure bG where
 Kind:Int
 N:Int
 S:(_root_.List Int)
def cl:bG:=⟨0,0,[]⟩
structure bo where
 Name:Int
 Key:(_root_.List Int)
 Val:bG
def en:bo:=⟨0,[],cl⟩
structure bE where
 Vars:(_root_.List bG)
 Cells:(_root_.List bo)
 Nr:Int
 Err:Int
def f8:bE:=⟨[],[],0,0⟩
structure bt where
 State:bE
 Done:(_root_.List Int)
 Out:(_root_.List Int)
def sk:bt:=⟨f8,[],[]⟩
structure bv where
 Op:Int
 N:Int
 S:(_root_.List Int)
 Kids:(_root_.List bv)
def co:bv:=⟨0,0,[],[]⟩
structure bF where
 Kind:Int
 Text:(_root_.List Int)
 N:Int
 At:Int
def iz:bF:=⟨0,[],0,0⟩
structure bO where
 list:(_root_.List bF)
 at_:Int
 bad:Int
 has:Bool
 kept:bv
def MY:bO:=⟨[],0,0,false,co⟩
structure bD where
 Kind:Int
 Pat:bv
 Body:bv
def bZ:bD:=⟨0,co,co⟩
structure bJ where
 vars:(_root_.List (_root_.List Int))
 cells:(_root_.List (_root_.List Int))
 out:(_root_.List bw)
def MT:bJ:=⟨[],[],[]⟩
structure bI where
 s:bE
 vars:(_root_.List (_root_.List Int))
 cells:(_root_.List (_root_.List Int))
 line:(_root_.List Int)
 fields:(_root_.List (_root_.List Int))
 out:(_root_.List Int)
 fuel:Int
 done:Bool
def MS:bI:=⟨f8,[],[],[],[],[],0,false⟩
structure bC where
 Op:Int
 C:Int
 Set:(_root_.List Int)
 Not:Bool
 Kids:(_root_.List bC)
def dh:bC:=⟨0,0,[],false,[]⟩
structure bK where
 l:Unit
 stack:(_root_.List bG)
def MU:bK:=⟨(),[]⟩
structure bN where
 s:(_root_.List Int)
 at_:Int
 bad:Bool
def MX:bN:=⟨[],0,false⟩
structure bz where
 Op:Int
 C:Int
 Set:(_root_.List Int)
 Not:Bool
 A:Int
 B:Int
def ci:bz:=⟨0,0,[],false,0,0⟩
def gT:Nat→Type
 | 0=>bB
 | 1=>bq
 | 2=>bp
 | 3=>bH
 | 4=>bL
 | 5=>bM
 | 6=>bA
 | 7=>bw
 | 8=>bE
 | 9=>bG
 | 10=>bo
 | 11=>bt
 | 12=>bv
 | 13=>bO
 | 14=>bF
 | 15=>bD
 | 16=>bJ
 | 17=>bI
 | 18=>bC
 | 19=>bK
 | 20=>bN
 | 21=>bz
 | _=>Unit
def gfs:Nat→List FT
 | 0=>[(.int .i64),(.int .i64),(.int .i64),(.int .i64),(.sl (.nm 1)),.str]
 | 1=>[(.int .i64),(.nm 2)]
 | 2=>[(.int .i64),(.int .i64),.str]
 | 3=>[(.sl (.int .u8)),(.int .i64),.bool]
 | 4=>[(.sl (.int .u8)),(.int .i64),.bool]
 | 5=>[(.sl (.int .u8)),(.int .i64),(.int .i64)]
 | 6=>[(.sl .str),(.sl .str),(.sl (.nm 7)),(.sl (.nm 7))]
 | 7=>[(.int .i64),(.int .i64),.str]
 | 8=>[(.sl (.nm 9)),(.sl (.nm 10)),(.int .i64),(.int .i64)]
 | 9=>[(.int .i64),(.int .i64),.str]
 | 10=>[(.int .i64),.str,(.nm 9)]
 | 11=>[(.nm 8),(.sl (.int .i64)),.str]
 | 12=>[(.int .i64),(.int .i64),.str,(.sl (.nm 12))]
 | 13=>[(.sl (.nm 14)),(.int .i64),(.int .i64),.bool,(.nm 12)]
 | 14=>[(.int .i64),.str,(.int .i64),(.int .i64)]
 | 15=>[(.int .i64),(.nm 12),(.nm 12)]
 | 16=>[(.sl .str),(.sl .str),(.sl (.nm 7))]
 | 17=>[(.nm 8),(.sl .str),(.sl .str),.str,(.sl .str),.str,(.int .i64),.bool]
 | 18=>[(.int .i64),(.int .i64),.str,.bool,(.sl (.nm 18))]
 | 19=>[.ptr,(.sl (.nm 9))]
 | 20=>[.str,(.int .i64),.bool]
 | 21=>[(.int .i64),(.int .i64),.str,.bool,(.int .i64),(.int .i64)]
 | _=>[]
def gun:∀ n,gT n→Js gT (gfs n)
 | 0,x=>(x.Kind,(x.Term,(x.Vote,(x.Prev,(x.List,(x.Snap,()))))))
 | 1,x=>(x.Term,(x.C,()))
 | 2,x=>(x.Who,(x.Seq,(x.Line,())))
 | 3,x=>(x.b,(x.at_,(x.bad,())))
 | 4,x=>(x.b,(x.at_,(x.ok,())))
 | 5,x=>(x.b,(x.i,(x.h,())))
 | 6,x=>(x.Vars,(x.Cells,(x.Start,(x.Main,()))))
 | 7,x=>(x.Code,(x.N,(x.S,())))
 | 8,x=>(x.Vars,(x.Cells,(x.Nr,(x.Err,()))))
 | 9,x=>(x.Kind,(x.N,(x.S,())))
 | 10,x=>(x.Name,(x.Key,(x.Val,())))
 | 11,x=>(x.State,(x.Done,(x.Out,())))
 | 12,x=>(x.Op,(x.N,(x.S,(x.Kids,()))))
 | 13,x=>(x.list,(x.at_,(x.bad,(x.has,(x.kept,())))))
 | 14,x=>(x.Kind,(x.Text,(x.N,(x.At,()))))
 | 15,x=>(x.Kind,(x.Pat,(x.Body,())))
 | 16,x=>(x.vars,(x.cells,(x.out,())))
 | 17,x=>(x.s,(x.vars,(x.cells,(x.line,(x.fields,(x.out,(x.fuel,(x.done,()))))))))
 | 18,x=>(x.Op,(x.C,(x.Set,(x.Not,(x.Kids,())))))
 | 19,x=>(x.l,(x.stack,()))
 | 20,x=>(x.s,(x.at_,(x.bad,())))
 | 21,x=>(x.Op,(x.C,(x.Set,(x.Not,(x.A,(x.B,()))))))
 | (n+22),_=>()
def gpk:∀ n,Js gT (gfs n)→gT n
 | 0,y=>⟨y.1,y.2.1,y.2.2.1,y.2.2.2.1,y.2.2.2.2.1,y.2.2.2.2.2.1⟩
 | 1,y=>⟨y.1,y.2.1⟩
 | 2,y=>⟨y.1,y.2.1,y.2.2.1⟩
 | 3,y=>⟨y.1,y.2.1,y.2.2.1⟩
 | 4,y=>⟨y.1,y.2.1,y.2.2.1⟩
 | 5,y=>⟨y.1,y.2.1,y.2.2.1⟩
 | 6,y=>⟨y.1,y.2.1,y.2.2.1,y.2.2.2.1⟩
 | 7,y=>⟨y.1,y.2.1,y.2.2.1⟩
 | 8,y=>⟨y.1,y.2.1,y.2.2.1,y.2.2.2.1⟩
 | 9,y=>⟨y.1,y.2.1,y.2.2.1⟩
 | 10,y=>⟨y.1,y.2.1,y.2.2.1⟩
 | 11,y=>⟨y.1,y.2.1,y.2.2.1⟩
 | 12,y=>⟨y.1,y.2.1,y.2.2.1,y.2.2.2.1⟩
 | 13,y=>⟨y.1,y.2.1,y.2.2.1,y.2.2.2.1,y.2.2.2.2.1⟩
 | 14,y=>⟨y.1,y.2.1,y.2.2.1,y.2.2.2.1⟩
 | 15,y=>⟨y.1,y.2.1,y.2.2.1⟩
 | 16,y=>⟨y.1,y.2.1,y.2.2.1⟩
 | 17,y=>⟨y.1,y.2.1,y.2.2.1,y.2.2.2.1,y.2.2.2.2.1,y.2.2.2.2.2.1,y.2.2.2.2.2.2.1,y.2.2.2.2.2.2.2.1⟩
 | 18,y=>⟨y.1,y.2.1,y.2.2.1,y.2.2.2.1,y.2.2.2.2.1⟩
 | 19,y=>⟨y.1,y.2.1⟩
 | 20,y=>⟨y.1,y.2.1,y.2.2.1⟩
 | 21,y=>⟨y.1,y.2.1,y.2.2.1,y.2.2.2.1,y.2.2.2.2.1,y.2.2.2.2.2.1⟩
 | (n+22),_=>()
theorem DA:∀ n y,gun n (gpk n y)=y
 | 0,_=>rfl
 | 1,_=>rfl
 | 2,_=>rfl
 | 3,_=>rfl
 | 4,_=>rfl
 | 5,_=>rfl
 | 6,_=>rfl
 | 7,_=>rfl
 | 8,_=>rfl
 | 9,_=>rfl
 | 10,_=>rfl
 | 11,_=>rfl
 | 12,_=>rfl
 | 13,_=>rfl
 | 14,_=>rfl
 | 15,_=>rfl
 | 16,_=>rfl
 | 17,_=>rfl
 | 18,_=>rfl
 | 19,_=>rfl
 | 20,_=>rfl
 | 21,_=>rfl
 | (n+22),_=>rfl
theorem Dy:∀ n x,gpk n (gun n x)=x
 | 0,x=>by cases x;rfl
 | 1,x=>by cases x;rfl
 | 2,x=>by cases x;rfl
 | 3,x=>by cases x;rfl
 | 4,x=>by cases x;rfl
 | 5,x=>by cases x;rfl
 | 6,x=>by cases x;rfl
 | 7,x=>by cases x;rfl
 | 8,x=>by cases x;rfl
 | 9,x=>by cases x;rfl
 | 10,x=>by cases x;rfl
 | 11,x=>by cases x;rfl
 | 12,x=>by cases x;rfl
 | 13,x=>by cases x;rfl
 | 14,x=>by cases x;rfl
 | 15,x=>by cases x;rfl
 | 16,x=>by cases x;rfl
 | 17,x=>by cases x;rfl
 | 18,x=>by cases x;rfl
 | 19,x=>by cases x;rfl
 | 20,x=>by cases x;rfl
 | 21,x=>by cases x;rfl
 | (n+22),_=>rfl
def gz:∀ n,gT n
 | 0=>iy
 | 1=>fp
 | 2=>sj
 | 3=>MR
 | 4=>MV
 | 5=>MW
 | 6=>Bx
 | 7=>du
 | 8=>f8
 | 9=>cl
 | 10=>en
 | 11=>sk
 | 12=>co
 | 13=>MY
 | 14=>iz
 | 15=>bZ
 | 16=>MT
 | 17=>MS
 | 18=>dh
 | 19=>MU
 | 20=>MX
 | 21=>ci
 | (n+22)=>()
theorem DB:∀ n,gun n (gz n)=gK gz (gfs n)
 | 0=>rfl
 | 1=>rfl
 | 2=>rfl
 | 3=>rfl
 | 4=>rfl
 | 5=>rfl
 | 6=>rfl
 | 7=>rfl
 | 8=>rfl
 | 9=>rfl
 | 10=>rfl
 | 11=>rfl
 | 12=>rfl
 | 13=>rfl
 | 14=>rfl
 | 15=>rfl
 | 16=>rfl
 | 17=>rfl
 | 18=>rfl
 | 19=>rfl
 | 20=>rfl
 | 21=>rfl
 | (n+22)=>rfl
def gsz:Nat→Nat
 | 0=>6
 | 1=>4
 | 2=>3
 | 3=>3
 | 4=>3
 | 5=>3
 | 6=>4
 | 7=>3
 | 8=>4
 | 9=>3
 | 10=>5
 | 11=>6
 | 12=>4
 | 13=>8
 | 14=>4
 | 15=>9
 | 16=>3
 | 17=>11
 | 18=>5
 | 19=>2
 | 20=>3
 | 21=>6
 | _=>0
theorem Dz:∀ n,gsz n=FT.szs gsz (gfs n)
 | 0=>rfl
 | 1=>rfl
 | 2=>rfl
 | 3=>rfl
 | 4=>rfl
 | 5=>rfl
 | 6=>rfl
 | 7=>rfl
 | 8=>rfl
 | 9=>rfl
 | 10=>rfl
 | 11=>rfl
 | 12=>rfl
 | 13=>rfl
 | 14=>rfl
 | 15=>rfl
 | 16=>rfl
 | 17=>rfl
 | 18=>rfl
 | 19=>rfl
 | 20=>rfl
 | 21=>rfl
 | (n+22)=>rfl
def gfl:Nat→Bool
 | 0=>false
 | 1=>true
 | 2=>true
 | 3=>false
 | 4=>false
 | 5=>false
 | 6=>false
 | 7=>true
 | 8=>false
 | 9=>true
 | 10=>true
 | 11=>false
 | 12=>false
 | 13=>false
 | 14=>true
 | 15=>false
 | 16=>false
 | 17=>false
 | 18=>false
 | 19=>false
 | 20=>true
 | 21=>true
 | _=>true
theorem Dx:∀ n,gfl n=true→FT.flats gfl (gfs n)=true
 | 0,h=>by cases h
 | 1,h=>rfl
 | 2,h=>rfl
 | 3,h=>by cases h
 | 4,h=>by cases h
 | 5,h=>by cases h
 | 6,h=>by cases h
 | 7,h=>rfl
 | 8,h=>by cases h
 | 9,h=>rfl
 | 10,h=>rfl
 | 11,h=>by cases h
 | 12,h=>by cases h
 | 13,h=>by cases h
 | 14,h=>rfl
 | 15,h=>by cases h
 | 16,h=>by cases h
 | 17,h=>by cases h
 | 18,h=>by cases h
 | 19,h=>by cases h
 | 20,h=>rfl
 | 21,h=>rfl
 | (n+22),_=>rfl
def gam:Gam:=⟨gT,gfs,gun,gpk,DA,Dy,gz,DB,gsz,Dz,gfl,Dx⟩
def tyL:List (Nat×FT):=[(2,(.int .i64)),(3,(.int .i64)),(4,.bool),(5,(.int .u8)),(6,(.int .u8)),(9,.str),(22,(.sl (.int .u8))),(25,(.sl (.nm 0))),(29,(.sl (.nm 1))),(31,(.nm 0)),(46,(.sl (.int .i64))),(49,(.nm 2)),(51,(.nm 1)),(53,(.int .u64)),(58,(.nm 3)),(63,(.nm 4)),(69,(.nm 5)),(71,(.sl .str)),(72,(.sl (.nm 7))),(74,(.nm 6)),(75,(.sl (.nm 9))),(76,(.sl (.nm 10))),(78,(.nm 8)),(80,(.nm 11)),(98,(.sl (.nm 2))),(102,(.nm 9)),(104,(.nm 10)),(117,(.sl (.nm 15))),(130,(.sl (.nm 14))),(134,(.sl (.nm 12))),(136,(.nm 12)),(138,(.nm 13)),(140,(.nm 14)),(143,(.nm 15)),(152,(.nm 16)),(156,(.nm 7)),(159,.ptr),(162,(.nm 17)),(176,(.sl (.nm 18))),(178,(.nm 18)),(183,(.nm 19)),(198,(.nm 20)),(229,(.sl (.sl .str))),(230,(.sl (.sl (.int .i64)))),(240,(.sl .bool)),(245,(.sl (.nm 21))),(258,(.nm 21))]
def yg:List Nat:=[]
abbrev BT0:BT:=.leaf false .str
abbrev BT1:BT:=.leaf false .bool
abbrev BT2:BT:=.leaf true (.nm 0)
abbrev BT3:BT:=.leaf true (.nm 8)
abbrev BT4:BT:=.leaf true (.nm 7)
abbrev BT5:BT:=.leaf true (.nm 9)
abbrev BT6:BT:=.leaf false (.nm 0)
abbrev BT7:BT:=.leaf false (.nm 5)
abbrev BT8:BT:=.leaf false (.nm 3)
abbrev BT9:BT:=.leaf false (.nm 4)
abbrev eh:BT:=.leaf false (.nm 8)
abbrev eD:BT:=.leaf false (.nm 6)
abbrev pp:BT:=.leaf true (.nm 17)
abbrev eF:BT:=.leaf true (.nm 19)
abbrev eU:BT:=.leaf true (.nm 20)
abbrev cX:BT:=.leaf true (.nm 18)
abbrev pq:BT:=.leaf true (.nm 21)
abbrev cY:BT:=.leaf false (.nm 9)
abbrev pt:BT:=.leaf false (.nm 2)
abbrev kd:BT:=.leaf false (.nm 7)
abbrev fq:BT:=.leaf false (.nm 11)
abbrev cg:BT:=.leaf false (.nm 12)
abbrev ch:BT:=.leaf false (.nm 13)
abbrev eV:BT:=.leaf false (.nm 18)
abbrev eW:BT:=.leaf false (.nm 20)
abbrev wg:BT:=.leaf true (.sl .str)
abbrev cT:BT:=.leaf false (.sl .str)
abbrev eG:BT:=.leaf false (.int .u8)
abbrev iB:BT:=.leaf true (.sl .bool)
abbrev bP:BT:=.leaf false (.int .i64)
abbrev pu:BT:=.leaf false (.sl .bool)
abbrev ke:BT:=.leaf false (.sl (.nm 0))
abbrev f9:BT:=.leaf false (.sl (.nm 1))
abbrev sm:BT:=.leaf false (.sl (.nm 2))
abbrev pv:BT:=.leaf false (.sl (.nm 7))
abbrev js:BT:=.leaf false (.sl (.nm 9))
abbrev fN:BT:=.leaf true (.sl (.nm 21))
abbrev eH:BT:=.leaf false (.sl (.nm 15))
abbrev pw:BT:=.leaf false (.sl (.nm 14))
abbrev eI:BT:=.leaf false (.sl (.nm 21))
abbrev dN:BT:=.leaf true (.sl (.int .u8))
abbrev cC:BT:=.leaf false (.sl (.int .u8))
abbrev sn:BT:=.leaf false (.sl (.sl .str))
abbrev jt:BT:=.leaf true (.sl (.int .i64))
abbrev ga:BT:=.leaf false (.sl (.int .i64))
abbrev sq:BT:=.leaf false (.sl (.sl (.int .i64)))
abbrev cS:BT:=.pr (.leaf false (.sl .str)) (.pr (.leaf false (.sl .str)) (.pr (.leaf true (.sl (.nm 7))) (.un)))
abbrev gL:BT:=.pr (.leaf false (.int .i64)) (.pr (.leaf false (.int .i64)) (.pr (.leaf false .str) (.pr (.sp (.nm 12)) (.un))))
abbrev di:BT:=.pr (.leaf true (.nm 8)) (.pr (.leaf true (.sl .str)) (.pr (.leaf true (.sl .str)) (.pr (.leaf false .str) (.pr (.leaf true (.sl .str)) (.pr (.leaf false .str) (.pr (.leaf false (.int .i64)) (.pr (.leaf false .bool) (.un))))))))
def keyL:List KeyI:=[
 ⟨0,[],[]⟩,
 ⟨0,[true,true,true,true,true,true,true,false,true,false],[.val 0 (cC),.val 3 (cC),.val 4 (ke),.val 5 (bP),.own 8 128 (dN),.val 9 (bP)]⟩,
 ⟨0,[true,true,true,true,true,true,true,true,true,true,true,true,false,true,false],[.val 4 (ke),.val 5 (bP),.val 10 (bP),.val 11 (ke),.val 13 (bP)]⟩,
 ⟨1,[],[]⟩,
 ⟨2,[],[]⟩,
 ⟨3,[],[]⟩,
 ⟨3,[true,true,true,false],[.val 0 (cC),.own 4 64 (.leaf true (.sl (.nm 0))),.val 5 (bP)]⟩,
 ⟨4,[],[]⟩,
 ⟨4,[true,true,true,false,false],[.val 0 (cC),.own 4 64 (.leaf true (.sl (.nm 0))),.val 5 (bP)]⟩,
 ⟨5,[],[]⟩,
 ⟨5,[true,true,true,false,true,false],[.ptr 1 16,.own 3 48 (dN),.val 28 (ga),.val 29 (bP),.val 30 (bP),.slot 16 (BT6) true none]⟩,
 ⟨5,[true,true,true,true,false,true,false],[.ptr 1 16,.own 3 48 (dN),.val 40 (f9),.val 41 (bP),.val 42 (bP),.slot 16 (BT6) true none]⟩,
 ⟨5,[true,true,true,true,false,true,false,false,true,true,false,false,true,false,true,false],[.ptr 1 16,.ptr 7 112,.own 3 48 (dN),.val 40 (f9),.val 41 (bP),.val 42 (bP),.val 55 (ga),.val 56 (bP),.val 57 (bP),.slot 16 (BT6) true none,.slot 112 (.leaf true (.nm 1)) true none]⟩,
 ⟨6,[],[]⟩,
 ⟨7,[],[]⟩,
 ⟨7,[true,true,false,true,false],[.val 0 (cC),.val 3 (bP),.val 4 (bP)]⟩,
 ⟨8,[],[]⟩,
 ⟨8,[true,true,false,true,false],[.ptr 0 0,.own 3 48 (dN),.val 4 (bP),.slot 0 (BT7) true none]⟩,
 ⟨9,[],[]⟩,
 ⟨10,[],[]⟩,
 ⟨11,[],[]⟩,
 ⟨12,[],[]⟩,
 ⟨13,[],[]⟩,
 ⟨13,[true,true,true,false,false],[.val 0 (bP),.own 3 48 (dN)]⟩,
 ⟨14,[],[]⟩,
 ⟨15,[],[]⟩,
 ⟨15,[true,true,false,true,false],[.val 3 (bP),.val 4 (bP),.val 7 (cC),.val 8 (bP),.val 9 (bP)]⟩,
 ⟨16,[],[]⟩,
 ⟨17,[],[]⟩,
 ⟨18,[],[]⟩,
 ⟨19,[],[]⟩,
 ⟨20,[],[]⟩,
 ⟨20,[true,true,true,false,true,false],[.val 0 (cC),.val 1 (bP),.val 7 (bP),.val 8 (bP)]⟩,
 ⟨21,[],[]⟩,
 ⟨21,[true,true,true,true,true,false,true,false],[.ptr 0 0,.ptr 2 32,.ptr 3 48,.val 19 (bP),.val 20 (bP),.slot 0 (BT8) true none,.slot 32 (BT2) true none,.slot 48 (BT2) true none]⟩,
 ⟨22,[],[]⟩,
 ⟨22,[true,true,false,true,false],[.val 0 (cC),.val 1 (cC),.val 12 (bP),.val 13 (bP)]⟩,
 ⟨23,[],[]⟩,
 ⟨23,[true,true,false,true,false],[.val 0 (cC),.val 1 (bP),.val 7 (bP),.val 8 (bP)]⟩,
 ⟨24,[],[]⟩,
 ⟨25,[],[]⟩,
 ⟨25,[true,true,true,true,true,true,true,false,true,false],[.ptr 0 0,.ptr 2 32,.ptr 3 48,.val 4 (bP),.val 5 (bP),.slot 0 (BT9) true none,.slot 32 (BT2) true none,.slot 48 (BT2) true none]⟩,
 ⟨26,[],[]⟩,
 ⟨27,[],[]⟩,
 ⟨28,[],[]⟩,
 ⟨29,[],[]⟩,
 ⟨30,[],[]⟩,
 ⟨31,[],[]⟩,
 ⟨32,[],[]⟩,
 ⟨33,[],[]⟩,
 ⟨33,[true,true,true,false,true,false],[.ptr 1 16,.ptr 3 48,.own 4 64 (dN),.val 5 (bP),.slot 16 (fq) true none,.slot 48 (eh) true none]⟩,
 ⟨33,[true,true,true,true,true,false,true,false],[.ptr 1 16,.ptr 3 48,.own 4 64 (dN),.val 6 (bP),.slot 16 (fq) true none,.slot 48 (eh) true none]⟩,
 ⟨33,[true,true,true,true,true,true,true,true,false,true,false],[.ptr 1 16,.own 4 64 (dN),.val 7 (bP),.slot 16 (fq) true none]⟩,
 ⟨34,[],[]⟩,
 ⟨34,[true,true,true,false,true,false],[.ptr 0 0,.val 1 (bP),.own 7 112 (.leaf true (.sl (.nm 1))),.val 8 (bP),.val 9 (bP),.slot 0 (BT7) true none]⟩,
 ⟨35,[],[]⟩,
 ⟨35,[true,true,true,true,true,false,true,false],[.ptr 1 16,.own 3 48 (dN),.val 4 (bP),.slot 16 (BT6) true none]⟩,
 ⟨36,[],[]⟩,
 ⟨36,[true,true,true,false,false],[.val 0 (bP),.own 3 48 (dN)]⟩,
 ⟨37,[],[]⟩,
 ⟨38,[],[]⟩,
 ⟨39,[],[]⟩,
 ⟨39,[true,true,false,true,false],[.val 0 (cC),.val 3 (bP),.val 4 (bP),.val 5 (bP)]⟩,
 ⟨40,[],[]⟩,
 ⟨41,[],[]⟩,
 ⟨42,[],[]⟩,
 ⟨43,[],[]⟩,
 ⟨43,[true,false,true,false],[.val 0 (f9),.val 1 (bP),.val 5 (bP)]⟩,
 ⟨44,[],[]⟩,
 ⟨45,[],[]⟩,
 ⟨46,[],[]⟩,
 ⟨46,[true,true,true,false,true,false],[.ptr 0 0,.own 5 80 (.leaf true (.sl (.nm 2))),.val 6 (bP),.val 7 (bP),.slot 0 (BT7) true none]⟩,
 ⟨47,[],[]⟩,
 ⟨47,[true,true,true,false,true,false],[.ptr 2 32,.ptr 4 64,.ptr 5 80,.val 1 (sm),.val 6 (bP),.slot 32 (eD) true none,.slot 64 (.leaf true (.nm 11)) true none,.slot 80 (fq) true none]⟩,
 ⟨48,[],[]⟩,
 ⟨49,[],[]⟩,
 ⟨50,[],[]⟩,
 ⟨51,[],[]⟩,
 ⟨52,[],[]⟩,
 ⟨53,[],[]⟩,
 ⟨54,[],[]⟩,
 ⟨54,[true,false,true,false],[.clo 1 59 [16],.val 0 (f9),.val 7 (bP),.val 8 (bP),.slot 16 (.leaf true (.int .i64)) true none]⟩,
 ⟨55,[],[]⟩,
 ⟨56,[],[]⟩,
 ⟨57,[],[]⟩,
 ⟨57,[true,false,true,false],[.ptr 1 16,.val 3 (bP),.slot 16 (eD) true none]⟩,
 ⟨57,[true,true,false,true,false],[.ptr 1 16,.val 4 (bP),.slot 16 (eD) true none]⟩,
 ⟨58,[],[]⟩,
 ⟨59,[],[]⟩,
 ⟨60,[],[]⟩,
 ⟨61,[],[]⟩,
 ⟨62,[],[]⟩,
 ⟨62,[true,true,false,true,false],[.ptr 0 0,.val 3 (BT0),.val 4 (bP),.slot 0 (BT7) true none]⟩,
 ⟨63,[],[]⟩,
 ⟨63,[true,false,true,false],[.val 0 (BT0),.val 3 (bP)]⟩,
 ⟨64,[],[]⟩,
 ⟨65,[],[]⟩,
 ⟨66,[],[]⟩,
 ⟨67,[],[]⟩,
 ⟨67,[true,true,true,true,true,true,true,false,false],[.ptr 7 368,.val 4 (eH),.own 8 128 (.sp (.nm 15)),.val 9 (bP),.slot 368 (.pr (pw) (.pr (bP) (.pr (bP) (.pr (BT1) (.pr (cg) (.un)))))) true none]⟩,
 ⟨68,[],[]⟩,
 ⟨68,[true,true,true,true,true,true,false,true,false],[.ptr 2 32,.ptr 7 432,.ptr 8 496,.val 0 (eH),.val 5 (cT),.val 6 (cT),.val 9 (bP),.slot 32 (.leaf true (.nm 6)) true none,.slot 432 (cS) true none,.slot 496 (cS) true none]⟩,
 ⟨69,[],[]⟩,
 ⟨69,[true,false,true,false],[.val 0 (BT0),.val 3 (bP)]⟩,
 ⟨70,[],[]⟩,
 ⟨70,[true,false,true,false],[.val 0 (cT),.val 1 (BT0),.val 5 (bP)]⟩,
 ⟨71,[],[]⟩,
 ⟨71,[true,true,true,false,true,false],[.val 0 (pv),.val 1 (bP),.val 2 (bP),.val 7 (bP),.val 8 (bP)]⟩,
 ⟨72,[],[]⟩,
 ⟨73,[],[]⟩,
 ⟨74,[],[]⟩,
 ⟨75,[],[]⟩,
 ⟨75,[true,true,true,true],[.ptr 3 48,.ptr 4 64,.ptr 6 96,.ptr 8 272,.slot 48 (eD) true none,.slot 64 (eh) true none,.slot 96 (BT3) true none,.slot 272 (pp) true none]⟩,
 ⟨76,[],[]⟩,
 ⟨77,[],[]⟩,
 ⟨77,[true,true,true,true,false,false],[.val 0 (BT0),.own 4 64 (.leaf true (.sl (.nm 14))),.val 5 (bP)]⟩,
 ⟨77,[true,true,true,true,false,false,false,true,false,true,false,true,false,false,false],[.val 0 (BT0),.own 4 64 (.leaf true (.sl (.nm 14))),.val 5 (bP)]⟩,
 ⟨78,[],[]⟩,
 ⟨79,[],[]⟩,
 ⟨80,[],[]⟩,
 ⟨80,[true,true,false,true,false],[.ptr 1 16,.val 3 (bP),.val 4 (bP),.slot 16 (cg) true none]⟩,
 ⟨81,[],[]⟩,
 ⟨82,[],[]⟩,
 ⟨82,[true,true,false,true,false],[.val 0 (eH),.val 3 (bP)]⟩,
 ⟨82,[true,true,true,true,true,false,true,false],[.val 0 (eH),.val 4 (cT),.val 5 (cT),.val 6 (bP)]⟩,
 ⟨82,[true,true,true,true,true,true,false,true,false],[.val 0 (eH),.val 7 (bP)]⟩,
 ⟨82,[true,true,true,true,true,true,true,false,true,false],[.val 0 (eH),.val 8 (bP)]⟩,
 ⟨83,[],[]⟩,
 ⟨83,[true,true,false,true,false],[.val 0 (eH),.val 4 (cT),.val 5 (cT),.val 6 (bP)]⟩,
 ⟨84,[],[]⟩,
 ⟨84,[true,true,false],[.ptr 0 0,.ptr 3 48,.val 4 (bP),.slot 0 (cS) true none,.slot 48 (cg) true none]⟩,
 ⟨85,[],[]⟩,
 ⟨85,[true,true,false,true],[.ptr 0 0,.ptr 3 48,.val 6 (bP),.val 24 (BT1),.slot 0 (cS) true none,.slot 48 (cg) true none]⟩,
 ⟨85,[true,true,false,true,true,true,true,true,true,true,true,false,true,false],[.ptr 0 0,.ptr 3 48,.val 4 (bP),.slot 0 (cS) true none,.slot 48 (cg) true none]⟩,
 ⟨86,[],[]⟩,
 ⟨87,[],[]⟩,
 ⟨88,[],[]⟩,
 ⟨89,[],[]⟩,
 ⟨89,[true,false,true,false,true,true,true,true,true],[.ptr 4 64,.val 1 (bP),.val 2 (bP),.val 3 (bP),.val 12 (bP),.val 28 (BT1),.slot 64 (BT4) true none]⟩,
 ⟨89,[true,false,true,false,true,true,true,true,true,true,true],[.ptr 4 64,.val 1 (bP),.val 3 (bP),.val 12 (bP),.val 46 (BT1),.slot 64 (BT4) true none]⟩,
 ⟨89,[true,false,true,false,true,true,true,true,true,true,true,true,true],[.ptr 4 64,.val 1 (bP),.val 12 (bP),.val 65 (BT1),.slot 64 (BT4) true none]⟩,
 ⟨89,[true,false,true,false,true,true,true,true,true,true,true,true,true,true,true,true,true],[.ptr 4 64,.val 1 (bP),.val 12 (bP),.val 91 (BT1),.slot 64 (BT4) true none]⟩,
 ⟨90,[],[]⟩,
 ⟨91,[],[]⟩,
 ⟨91,[true,true,true,false],[.ptr 0 0,.ptr 4 176,.wrd 176 0,.val 1 (pv),.val 5 (bP),.val 6 (bP),.slot 0 (pp) true none,.slot 176 (eF) true none]⟩,
 ⟨92,[],[]⟩,
 ⟨93,[],[]⟩,
 ⟨94,[],[]⟩,
 ⟨94,[true,true,true,false,true,false],[.val 0 (BT0),.own 3 48 (wg),.val 4 (bP),.val 5 (bP)]⟩,
 ⟨95,[],[]⟩,
 ⟨96,[],[]⟩,
 ⟨97,[],[]⟩,
 ⟨97,[true,true,false,false,true,false,true,false,false],[.ptr 6 96,.val 0 (BT0),.val 1 (bP),.val 10 (bP),.slot 96 (.leaf true (.nm 14)) true none]⟩,
 ⟨98,[],[]⟩,
 ⟨99,[],[]⟩,
 ⟨100,[],[]⟩,
 ⟨100,[true,true,true,false,false],[.ptr 0 0,.ptr 2 32,.ptr 3 48,.slot 0 (ch) true none,.slot 32 (gL) true none,.slot 48 (gL) true none]⟩,
 ⟨101,[],[]⟩,
 ⟨102,[],[]⟩,
 ⟨102,[true,true,false,true,false,true,true,true],[.ptr 0 0,.ptr 2 32,.ptr 4 64,.val 5 (bP),.slot 0 (ch) true none,.slot 32 (gL) true none,.slot 64 (cg) true none]⟩,
 ⟨103,[],[]⟩,
 ⟨104,[],[]⟩,
 ⟨104,[true,false,true,false],[.val 0 (eH),.val 3 (bP)]⟩,
 ⟨105,[],[]⟩,
 ⟨105,[true,true,false,true,false],[.ptr 1 16,.val 3 (bP),.slot 16 (cg) true none]⟩,
 ⟨106,[],[]⟩,
 ⟨106,[true,true,true],[.ptr 1 16,.val 3 (bP),.slot 16 (cg) true none]⟩,
 ⟨106,[true,true,true,false,true,false],[.ptr 1 16,.val 3 (bP),.val 4 (bP),.slot 16 (cg) true none]⟩,
 ⟨107,[],[]⟩,
 ⟨107,[true,true,true,false,true,false],[.ptr 1 16,.val 5 (bP),.slot 16 (cg) true none]⟩,
 ⟨108,[],[]⟩,
 ⟨108,[true,true],[.ptr 3 48,.val 1 (cT),.val 2 (cT),.slot 48 (cg) true none]⟩,
 ⟨108,[true,true,false,true,false],[.ptr 3 48,.val 1 (cT),.val 2 (cT),.val 8 (bP),.slot 48 (cg) true none]⟩,
 ⟨109,[],[]⟩,
 ⟨110,[],[]⟩,
 ⟨111,[],[]⟩,
 ⟨112,[],[]⟩,
 ⟨113,[],[]⟩,
 ⟨114,[],[]⟩,
 ⟨115,[],[]⟩,
 ⟨116,[],[]⟩,
 ⟨117,[],[]⟩,
 ⟨117,[true,true,true,true,true,true],[.wrd 0 1,.val 2 (bP),.slot 0 (.pr (.leaf false .ptr) (.pr (.leaf true (.sl (.nm 9))) (.un))) true none,.slot 1 (di) true none]⟩,
 ⟨117,[true,true,true,true,true,false,true,false,true,true,true,true,true,true,true,true,true,true,true,true,true],[.ptr 0 0,.ptr 4 64,.wrd 0 1,.val 2 (bP),.val 9 (js),.val 93 (BT1),.slot 0 (eF) true none,.slot 1 (pp) true none,.slot 64 (BT4) true none]⟩,
 ⟨118,[],[]⟩,
 ⟨119,[],[]⟩,
 ⟨120,[],[]⟩,
 ⟨120,[true,true,false,false],[.val 0 (BT0),.val 1 (bP),.val 7 (bP)]⟩,
 ⟨120,[true,true,true,false,true,false,true,true,false,false],[.val 0 (BT0),.val 1 (bP),.val 7 (bP),.val 8 (bP)]⟩,
 ⟨120,[true,true,true,true],[.val 0 (BT0),.val 1 (bP),.val 7 (bP)]⟩,
 ⟨121,[],[]⟩,
 ⟨121,[true,true,false,true,false],[.val 0 (BT0),.own 7 112 (dN),.val 8 (bP)]⟩,
 ⟨122,[],[]⟩,
 ⟨123,[],[]⟩,
 ⟨123,[true,true,false,true,false],[.val 0 (BT0),.own 7 112 (dN),.val 8 (bP)]⟩,
 ⟨124,[],[]⟩,
 ⟨124,[true,true,false,true,false],[.val 0 (BT0),.val 1 (bP),.val 5 (cT),.val 6 (bP)]⟩,
 ⟨125,[],[]⟩,
 ⟨126,[],[]⟩,
 ⟨127,[],[]⟩,
 ⟨128,[],[]⟩,
 ⟨129,[],[]⟩,
 ⟨129,[true,true,false,true,false,true,true,true,true,true,true,true],[.ptr 1 16,.val 23 (bP),.val 44 (BT1),.slot 16 (cg) true none]⟩,
 ⟨130,[],[]⟩,
 ⟨131,[],[]⟩,
 ⟨131,[true,true,true,false,false],[.val 0 (cT),.val 1 (BT0),.val 5 (bP)]⟩,
 ⟨132,[],[]⟩,
 ⟨132,[true,true],[.ptr 0 0,.ptr 3 48,.slot 0 (cS) true none,.slot 48 (cg) true none]⟩,
 ⟨132,[true,true,false,true,false],[.ptr 0 0,.ptr 3 48,.val 4 (bP),.slot 0 (cS) true none,.slot 48 (cg) true none]⟩,
 ⟨133,[],[]⟩,
 ⟨134,[],[]⟩,
 ⟨135,[],[]⟩,
 ⟨135,[true,false,true,false],[.val 0 (cT),.val 1 (BT0),.val 5 (bP)]⟩,
 ⟨136,[],[]⟩,
 ⟨137,[],[]⟩,
 ⟨137,[true,true,false,false],[.ptr 0 0,.ptr 4 64,.val 1 (bP),.own 5 80 (.leaf true (.sl (.nm 18))),.slot 0 (eU) true none,.slot 64 (cX) true none]⟩,
 ⟨138,[],[]⟩,
 ⟨138,[true,true,false,true,false],[.ptr 1 16,.val 3 (bP),.val 4 (bP),.slot 16 (eV) true none]⟩,
 ⟨139,[],[]⟩,
 ⟨139,[true,false,true,false,true],[.ptr 1 16,.val 4 (bP),.val 5 (BT1),.slot 16 (BT4) true none]⟩,
 ⟨140,[],[]⟩,
 ⟨140,[true,false,true,false,true],[.ptr 1 16,.val 4 (bP),.val 5 (BT1),.slot 16 (BT5) true none]⟩,
 ⟨141,[],[]⟩,
 ⟨142,[],[]⟩,
 ⟨143,[],[]⟩,
 ⟨144,[],[]⟩,
 ⟨144,[true,true,true,true],[.ptr 0 0,.ptr 6 1,.ptr 7 112,.wrd 0 1,.slot 0 (eF) true none,.slot 1 (di) true none,.slot 112 (BT5) true none]⟩,
 ⟨145,[],[]⟩,
 ⟨146,[],[]⟩,
 ⟨146,[true,true,false,false],[.val 0 (BT0),.val 4 (bP)]⟩,
 ⟨146,[true,true,true,true,true],[.val 0 (BT0),.val 4 (bP),.val 5 (BT1)]⟩,
 ⟨146,[true,true,true,true,true,true,false,false],[.val 0 (BT0),.val 4 (bP),.val 5 (BT1),.val 6 (bP),.val 7 (bP)]⟩,
 ⟨146,[true,true,true,true,true,true,true,false,true,false,true,true,false],[.val 0 (BT0),.val 4 (bP),.val 5 (BT1),.val 6 (bP),.val 7 (bP),.val 8 (bP)]⟩,
 ⟨146,[true,true,true,true,true,true,true,true],[.val 4 (bP),.val 5 (BT1),.val 6 (bP),.val 7 (bP)]⟩,
 ⟨147,[],[]⟩,
 ⟨148,[],[]⟩,
 ⟨149,[],[]⟩,
 ⟨149,[true,false,false,true,false,true,true,false,false],[.ptr 0 0,.ptr 2 32,.ptr 3 48,.slot 0 (ch) true none,.slot 32 (gL) true none,.slot 48 (gL) true none]⟩,
 ⟨150,[],[]⟩,
 ⟨150,[true,true,false,false],[.ptr 0 0,.val 1 (BT0),.own 5 80 (.sp (.nm 12)),.slot 0 (ch) true none]⟩,
 ⟨151,[],[]⟩,
 ⟨152,[],[]⟩,
 ⟨152,[true,true,true,false,true,false],[.ptr 0 0,.ptr 2 32,.ptr 4 64,.val 3 (cT),.val 5 (bP),.slot 0 (ch) true none,.slot 32 (gL) true none,.slot 64 (cg) true none]⟩,
 ⟨153,[],[]⟩,
 ⟨153,[true,true,false,false],[.ptr 0 0,.ptr 2 32,.ptr 3 48,.slot 0 (ch) true none,.slot 32 (gL) true none,.slot 48 (cg) true none]⟩,
 ⟨154,[],[]⟩,
 ⟨155,[],[]⟩,
 ⟨155,[true,true,true,true,false,false],[.ptr 0 0,.ptr 4 64,.ptr 7 112,.val 1 (bP),.val 5 (sn),.val 6 (sq),.slot 0 (ch) true none,.slot 64 (cg) true none,.slot 112 (cg) true none]⟩,
 ⟨155,[true,true,true,true,false,false,false,true,false,true,false,false],[.ptr 0 0,.ptr 4 64,.ptr 7 112,.val 1 (bP),.val 5 (sn),.val 6 (sq),.val 8 (bP),.slot 0 (ch) true none,.slot 64 (cg) true none,.slot 112 (cg) true none]⟩,
 ⟨155,[true,true,true,true,false,false,false,true,false,true,true,true,true,true,true],[.ptr 0 0,.ptr 4 64,.ptr 7 112,.val 1 (bP),.val 5 (sn),.val 6 (sq),.val 8 (bP),.slot 0 (ch) true none,.slot 64 (cg) true none,.slot 112 (cg) true none]⟩,
 ⟨156,[],[]⟩,
 ⟨156,[true,true,false,true,false,true],[.ptr 1 16,.val 3 (bP),.val 9 (bP),.val 10 (BT1),.slot 16 (cg) true none]⟩,
 ⟨156,[true,true,false,true,false,true,true,true],[.ptr 1 16,.val 3 (bP),.val 9 (bP),.val 23 (BT1),.slot 16 (cg) true none]⟩,
 ⟨156,[true,true,false,true,false,true,true,true,true,true],[.ptr 1 16,.val 3 (bP),.val 9 (bP),.val 45 (BT1),.slot 16 (cg) true none]⟩,
 ⟨156,[true,true,false,true,false,true,true,true,true,true,true,true],[.ptr 1 16,.val 3 (bP),.val 9 (bP),.val 70 (BT1),.slot 16 (cg) true none]⟩,
 ⟨156,[true,true,false,true,false,true,true,true,true,true,true,true,true,true,true,true,true,true,false,false,true,false],[.ptr 1 16,.val 3 (bP),.val 4 (bP),.slot 16 (cg) true none]⟩,
 ⟨157,[],[]⟩,
 ⟨157,[true,false,true,false],[.val 0 (BT0),.val 3 (bP)]⟩,
 ⟨158,[],[]⟩,
 ⟨158,[true,true,false,false],[.ptr 0 0,.ptr 4 64,.val 1 (bP),.own 5 80 (.leaf true (.sl (.nm 18))),.slot 0 (eU) true none,.slot 64 (cX) true none]⟩,
 ⟨159,[],[]⟩,
 ⟨160,[],[]⟩,
 ⟨160,[true,true,true,true,true,false,true,false,true,false,false],[.val 0 (bP),.val 4 (BT0),.val 6 (BT0)]⟩,
 ⟨160,[true,true,true,true,true,true],[.val 0 (bP),.val 4 (BT0)]⟩,
 ⟨161,[],[]⟩,
 ⟨162,[],[]⟩,
 ⟨162,[true,false,true,false,true],[.ptr 1 16,.val 6 (bP),.val 7 (BT1),.slot 16 (BT5) true none]⟩,
 ⟨163,[],[]⟩,
 ⟨163,[true,true,true],[.ptr 0 0,.ptr 8 128,.val 9 (bP),.val 10 (BT1),.slot 0 (pp) true none,.slot 128 (BT5) true none]⟩,
 ⟨164,[],[]⟩,
 ⟨165,[],[]⟩,
 ⟨166,[],[]⟩,
 ⟨167,[],[]⟩,
 ⟨168,[],[]⟩,
 ⟨169,[],[]⟩,
 ⟨170,[],[]⟩,
 ⟨171,[],[]⟩,
 ⟨172,[],[]⟩,
 ⟨173,[],[]⟩,
 ⟨174,[],[]⟩,
 ⟨175,[],[]⟩,
 ⟨176,[],[]⟩,
 ⟨176,[true,true,true,false,true,false,true],[.ptr 3 48,.val 12 (bP),.val 13 (BT1),.slot 0 (ch) true none,.slot 48 (.leaf true (.nm 14)) true none]⟩,
 ⟨177,[],[]⟩,
 ⟨178,[],[]⟩,
 ⟨178,[true,false,true,false],[.ptr 3 48,.val 2 (bP),.val 7 (bP),.slot 48 (cg) true none]⟩,
 ⟨179,[],[]⟩,
 ⟨179,[true,false,true,false],[.ptr 2 32,.val 5 (bP),.slot 32 (cg) true none]⟩,
 ⟨180,[],[]⟩,
 ⟨180,[true,true,false,false],[.ptr 0 0,.ptr 4 64,.ptr 5 80,.slot 0 (eU) true none,.slot 64 (cX) true none,.slot 80 (cX) true none]⟩,
 ⟨180,[true,true,false,false,false,true,false,true,true],[.ptr 0 0,.ptr 4 64,.ptr 5 80,.val 6 (bP),.slot 0 (eU) true none,.slot 64 (cX) true none,.slot 80 (cX) true none]⟩,
 ⟨181,[],[]⟩,
 ⟨182,[],[]⟩,
 ⟨182,[true,true,true,false,false],[.val 0 (bP),.val 3 (BT0)]⟩,
 ⟨183,[],[]⟩,
 ⟨184,[],[]⟩,
 ⟨185,[],[]⟩,
 ⟨186,[],[]⟩,
 ⟨187,[],[]⟩,
 ⟨187,[true,false,true,false],[.ptr 3 48,.val 1 (bP),.val 2 (BT0),.val 7 (bP),.slot 48 (eh) true none]⟩,
 ⟨188,[],[]⟩,
 ⟨188,[true,true,true,true,true,true,false,false],[.ptr 4 64,.ptr 7 112,.ptr 8 128,.ptr 10 160,.val 1 (bP),.val 2 (BT0),.val 11 (bP),.slot 64 (eh) true none,.slot 112 (BT5) true none,.slot 128 (BT3) true none,.slot 160 (BT3) true none]⟩,
 ⟨189,[],[]⟩,
 ⟨189,[true,true],[.ptr 2 32,.val 0 (BT0),.slot 32 (BT5) true none]⟩,
 ⟨190,[],[]⟩,
 ⟨191,[],[]⟩,
 ⟨192,[],[]⟩,
 ⟨193,[],[]⟩,
 ⟨194,[],[]⟩,
 ⟨194,[true,true,true,true,true],[.ptr 4 64,.val 5 (eG),.slot 0 (eU) true none,.slot 64 (cX) true none]⟩,
 ⟨195,[],[]⟩,
 ⟨196,[],[]⟩,
 ⟨197,[],[]⟩,
 ⟨197,[true,true,true,false,false],[.val 0 (BT0),.val 4 (bP),.val 5 (bP)]⟩,
 ⟨198,[],[]⟩,
 ⟨199,[],[]⟩,
 ⟨199,[true,false,true,false],[.val 0 (eI),.val 1 (BT0),.val 7 (bP)]⟩,
 ⟨200,[],[]⟩,
 ⟨201,[],[]⟩,
 ⟨201,[true,false,true,false],[.val 0 (BT0),.val 1 (BT0),.val 5 (bP)]⟩,
 ⟨202,[],[]⟩,
 ⟨202,[true,true,false,true,false],[.val 1 (eG),.val 2 (eG),.own 7 112 (dN),.val 8 (bP)]⟩,
 ⟨203,[],[]⟩,
 ⟨203,[true,true,true,true,true],[.val 3 (BT0),.val 4 (bP),.val 5 (bP)]⟩,
 ⟨204,[],[]⟩,
 ⟨205,[],[]⟩,
 ⟨205,[true,true,true],[.ptr 0 0,.ptr 2 32,.ptr 3 48,.slot 0 (eU) true none,.slot 32 (cX) true none,.slot 48 (cX) true none]⟩,
 ⟨205,[true,true,true,true,true,false,false],[.ptr 0 0,.ptr 2 32,.ptr 3 48,.own 4 64 (iB),.val 5 (bP),.slot 0 (eU) true none,.slot 32 (cX) true none,.slot 48 (cX) true none]⟩,
 ⟨205,[true,true,true,true,true,false,false,false,true,false,true,true,true,true],[.ptr 0 0,.ptr 2 32,.ptr 3 48,.own 4 64 (iB),.val 5 (bP),.val 6 (bP),.val 7 (bP),.slot 0 (eU) true none,.slot 32 (cX) true none,.slot 48 (cX) true none]⟩,
 ⟨205,[true,true,true,true,true,true,true],[.ptr 0 0,.ptr 2 32,.ptr 3 48,.val 4 (pu),.slot 0 (eU) true none,.slot 32 (cX) true none,.slot 48 (cX) true none]⟩,
 ⟨205,[true,true,true,true,true,false,false,false,true,false,true,true,true,true,true],[.ptr 0 0,.ptr 2 32,.ptr 3 48,.own 4 64 (iB),.val 5 (bP),.val 6 (bP),.val 7 (bP),.slot 0 (eU) true none,.slot 32 (cX) true none,.slot 48 (cX) true none]⟩,
 ⟨205,[true,true,true,true,true,true,true,true,true,false,true,false],[.ptr 2 32,.ptr 3 48,.val 4 (pu),.own 9 144 (dN),.val 10 (bP),.slot 0 (eU) true none,.slot 32 (cX) true none,.slot 48 (cX) true none]⟩,
 ⟨205,[true,true,true,true,true,false,false,false,true,false,true,true,true,true,true,false,true,false],[.ptr 0 0,.ptr 2 32,.ptr 3 48,.own 4 64 (iB),.val 5 (bP),.val 7 (bP),.val 8 (bP),.slot 0 (eU) true none,.slot 32 (cX) true none,.slot 48 (cX) true none]⟩,
 ⟨206,[],[]⟩,
 ⟨207,[],[]⟩,
 ⟨207,[true,true,false,true,false,true,true,true,true,true,true,true,true,true,true,true,false,true,false],[.ptr 3 48,.own 0 2064 (fN),.val 6 (bP),.slot 48 (eV) true none]⟩,
 ⟨207,[true,true,true],[.own 0 2064 (fN)]⟩,
 ⟨208,[],[]⟩,
 ⟨209,[],[]⟩,
 ⟨209,[true,true,true,true,false,true,false],[.val 0 (eI),.val 1 (BT0),.val 7 (ga),.val 8 (bP),.val 9 (bP)]⟩,
 ⟨209,[true,true,true,true,false,true,false,false,true,false,false,true],[.val 0 (eI),.val 1 (BT0),.val 7 (ga),.val 8 (bP),.val 9 (bP)]⟩,
 ⟨209,[true,true,true,true,false,true,false,false,true,false,false,true,true,true,false,true,false],[.val 0 (eI),.val 1 (BT0),.val 7 (ga),.val 8 (bP),.val 9 (bP),.own 10 160 (jt),.val 11 (bP)]⟩,
 ⟨210,[],[]⟩,
 ⟨210,[true,false,true,false],[.ptr 1 16,.val 3 (bP),.slot 16 (eV) true none]⟩,
 ⟨210,[true,true,true,false,true,false,true,true,true,true,true],[.ptr 1 16,.val 4 (bP),.val 23 (bP),.val 62 (BT1),.slot 16 (eV) true none]⟩,
 ⟨210,[true,true,true,false,true,false,true,true,true,true,true,true,true],[.ptr 1 16,.val 4 (bP),.val 82 (BT1),.slot 16 (eV) true none]⟩,
 ⟨211,[],[]⟩,
 ⟨211,[true,true,false,true,false],[.own 0 1104 (fN),.val 1 (.leaf false (.sl (.nm 18))),.own 5 80 (jt),.val 6 (bP)]⟩,
 ⟨211,[true,true,true,true,false,true,false],[.own 0 1104 (fN),.val 5 (ga),.val 8 (bP)]⟩,
 ⟨212,[],[]⟩,
 ⟨212,[true,true,false,true,false],[.val 0 (eI),.val 3 (bP),.val 4 (bP)]⟩,
 ⟨213,[],[]⟩,
 ⟨213,[true,true,false,true,false],[.val 0 (eI),.val 1 (ga),.val 2 (BT1),.val 3 (BT1),.own 9 144 (iB),.val 10 (bP)]⟩,
 ⟨214,[],[]⟩,
 ⟨215,[],[]⟩,
 ⟨215,[true,false,true,false],[.val 0 (BT0),.val 3 (bP)]⟩,
 ⟨216,[],[]⟩,
 ⟨216,[true,true],[.ptr 2 32,.val 1 (bP),.val 5 (BT1),.slot 32 (pq) true none]⟩,
 ⟨216,[true,true,true],[.ptr 2 32,.val 1 (bP),.val 5 (BT1),.val 6 (BT1),.slot 32 (pq) true none]⟩,
 ⟨216,[true,true,true,true],[.ptr 2 32,.val 1 (bP),.val 5 (BT1),.val 6 (BT1),.val 7 (BT1),.slot 32 (pq) true none]⟩,
 ⟨216,[true,true,true,true,true],[.ptr 2 32,.val 5 (BT1),.val 6 (BT1),.val 7 (BT1),.val 8 (BT1),.slot 32 (pq) true none]⟩,
 ⟨216,[true,true,true,true,true,true],[.val 4 (BT1)]⟩,
 ⟨217,[],[]⟩,
 ⟨217,[true,false],[.val 0 (eI),.own 1 16 (iB),.val 3 (BT1),.val 4 (BT1),.own 10 160 (jt)]⟩,
 ⟨218,[],[]⟩,
 ⟨218,[true,true,false,true,false],[.val 0 (pu),.own 3 48 (jt),.val 4 (bP)]⟩,
 ⟨219,[],[]⟩,
 ⟨219,[true,false,true,false],[.val 0 (BT0),.val 1 (eG),.val 5 (bP)]⟩]
def entR:List EntI:=[
 ⟨3,.skip,[],[.val (cC)],[BT1],[],[(17,1),(20,1),(25,1),(50,1),(69,1),(92,1),(98,1)],0,[(2042,1),(65530,2)],false⟩,
 ⟨6,.skip,[],[.val (cC)],[BT1],[],[],0,[],false⟩,
 ⟨7,.skip,[],[.val (cC)],[cC],[],[(5,1),(8,1),(9,1)],0,[],false⟩,
 ⟨8,.skip,[],[.val (cC)],[ke,bP],[],[],0,[(30,6)],false⟩,
 ⟨9,.skip,[],[.val (cC)],[ke,bP],[],[],0,[(60,8)],false⟩,
 ⟨10,.skip,[],[.val (BT6)],[dN],[],[(28,1),(36,1),(55,1),(63,1),(70,1),(76,1),(97,1)],0,[(122,10),(250,11),(128202,12)],false⟩,
 ⟨11,.skip,[],[.val (cC),.val (bP)],[bP],[],[],0,[],false⟩,
 ⟨24,.skip,[],[.val (cC)],[.pr (.hole 0) (BT7)],[],[(30,1)],0,[(58,15)],false⟩,
 ⟨26,.skip,[],[.ptr (BT7) (BT7)],[cC],[(0,.box)],[(14,1),(15,1)],0,[(58,17)],false⟩,
 ⟨25,.skip,[],[.ptr (BT7) (BT7),.val (cC)],[cC],[(0,.box)],[(26,1)],0,[],false⟩,
 ⟨13,.skip,[],[.val (cC),.val (bP)],[BT2,bP,BT1],[],[(38,1),(60,1)],0,[],false⟩,
 ⟨14,.skip,[],[.val (cC),.val (bP)],[BT2,bP,BT1],[],[(39,1),(54,1)],0,[],false⟩,
 ⟨19,.skip,[],[.val (BT6)],[BT1],[],[],0,[],false⟩,
 ⟨27,.skip,[],[.val (bP)],[dN],[],[(15,1),(22,1)],0,[(60,23)],false⟩,
 ⟨28,.skip,[],[.val (BT0)],[cC],[],[],0,[],false⟩,
 ⟨21,.skip,[],[.val (cC)],[bP],[],[],0,[(58,26)],false⟩,
 ⟨46,.skip,[],[.ptr (BT7) (BT7),.val (bP)],[bP],[(0,.box)],[],0,[],false⟩,
 ⟨29,.skip,[],[.ptr (BT7) (BT7)],[BT6],[(0,.box)],[(14,1),(19,1),(27,1),(29,1),(35,1),(36,1)],0,[],false⟩,
 ⟨18,.skip,[],[.val (BT6)],[cC],[],[(8,1),(10,1),(18,1)],0,[],false⟩,
 ⟨30,.skip,[],[.ptr (BT7) (BT7),.val (ga)],[bP],[(0,.box)],[],0,[],false⟩,
 ⟨23,.skip,[],[.val (cC),.val (bP)],[bP,bP,BT1],[],[],0,[(122,32)],false⟩,
 ⟨31,.skip,[],[.ptr (BT8) (BT8)],[BT2],[(0,.box)],[(41,1)],0,[(506,34)],false⟩,
 ⟨32,.skip,[],[.val (cC),.val (cC)],[BT1],[],[],0,[(58,36)],false⟩,
 ⟨33,.skip,[],[.val (cC),.val (bP)],[bP,bP,BT1],[],[],0,[(58,38)],false⟩,
 ⟨34,.skip,[],[.val (cC)],[cC],[],[(17,1)],0,[],false⟩,
 ⟨35,.skip,[],[.ptr (BT9) (BT9)],[BT2],[(0,.box)],[(54,1)],0,[(2042,41)],false⟩,
 ⟨20,.skip,[],[.val (BT6)],[BT1],[],[],0,[],false⟩,
 ⟨40,.skip,[],[.val (bP)],[BT1],[],[],0,[],false⟩,
 ⟨41,.skip,[],[.val (f9),.val (bP)],[BT1],[],[],0,[],false⟩,
 ⟨42,.skip,[],[.val (bP)],[BT1],[],[],0,[],false⟩,
 ⟨45,.skip,[],[.val (bP),.val (bP),.val (bP)],[BT1],[],[],0,[],false⟩,
 ⟨62,.skip,[],[.ptr (BT7) (BT7)],[bP],[(0,.box)],[],0,[],false⟩,
 ⟨47,.skip,[],[.ptr (BT7) (BT7)],[eD,fq],[(0,.box)],[(6,1),(10,1),(11,1)],0,[],false⟩,
 ⟨48,.skip,[],[.val (fq)],[cC],[],[(27,1),(33,1),(49,1),(58,1),(67,1),(72,1),(77,1),(92,1),(97,1)],0,[(122,50),(506,51),(4090,52)],false⟩,
 ⟨49,.skip,[],[.ptr (BT7) (BT7),.val (bP),.val (bP)],[f9],[(0,.box)],[(29,1)],0,[(122,54)],false⟩,
 ⟨38,.skip,[],[.val (BT6)],[cC],[],[(11,1),(17,1),(22,1),(28,1),(45,1),(52,1),(58,1),(64,1),(69,1)],0,[(506,56)],false⟩,
 ⟨39,.skip,[],[.val (bP)],[dN],[],[(16,1),(23,1)],0,[(60,58)],false⟩,
 ⟨50,.skip,[],[.ptr (BT8) (BT8),.val (bP)],[bP],[(0,.box)],[],0,[],false⟩,
 ⟨51,.skip,[],[.ptr (BT8) (BT8)],[BT0],[(0,.box)],[],0,[],false⟩,
 ⟨22,.skip,[],[.val (cC)],[bP],[],[],0,[(58,62)],false⟩,
 ⟨52,.skip,[],[.ptr (BT9) (BT9)],[bP],[(0,.box)],[],0,[],false⟩,
 ⟨53,.skip,[],[.ptr (BT9) (BT9)],[BT0],[(0,.box)],[],0,[],false⟩,
 ⟨43,.skip,[],[.val (bP),.val (bP),.val (bP)],[BT1],[],[],0,[],false⟩,
 ⟨44,.skip,[],[.val (f9),.val (bP)],[BT1],[],[],0,[(26,67)],false⟩,
 ⟨58,.skip,[],[.val (f9),.clo 59 [bP]],[BT1],[(16,.box)],[],0,[],false⟩,
 ⟨63,.skip,[],[.ptr (BT7) (BT7)],[eD],[(0,.box)],[(8,1)],0,[],false⟩,
 ⟨65,.skip,[],[.ptr (BT7) (BT7),.val (bP)],[sm],[(0,.box)],[(21,1)],0,[(122,71)],false⟩,
 ⟨64,.skip,[],[.val (eD),.val (sm)],[fq],[],[(10,1),(12,1),(30,1)],0,[(122,73)],false⟩,
 ⟨66,.skip,[],[.val (cY)],[cC],[],[(9,1),(14,1)],0,[],false⟩,
 ⟨57,.skip,[],[.val (BT0)],[cC],[],[],0,[],false⟩,
 ⟨55,.skip,[],[.ptr (BT7) (BT7)],[pt],[(0,.box)],[],0,[],false⟩,
 ⟨67,.skip,[],[.val (cC),.val (bP)],[BT0,bP,BT1],[],[],0,[],false⟩,
 ⟨68,.skip,[],[.val (cC),.val (bP)],[BT0,bP,BT1],[],[],0,[],false⟩,
 ⟨61,.skip,[],[.val (pt)],[BT1],[],[],0,[],false⟩,
 ⟨71,.skip,[],[.val (f9),.clo 59 [bP]],[bP],[(16,.box)],[],0,[(26,81)],false⟩,
 ⟨75,.skip,[],[.ptr (BT7) (BT7)],[BT0],[(0,.box)],[(4,1)],0,[],false⟩,
 ⟨74,.skip,[],[.val (BT0)],[eD,bP],[],[(10,1),(15,1),(18,1)],0,[],false⟩,
 ⟨76,.skip,[],[.val (eD)],[BT1],[],[],0,[(26,85),(58,86)],false⟩,
 ⟨77,.skip,[],[.val (eD)],[fq],[],[(7,1),(16,1)],0,[],false⟩,
 ⟨78,.skip,[],[.val (eD),.val (fq),.val (pt)],[fq],[],[(45,1)],0,[],false⟩,
 ⟨79,.skip,[],[.val (bP)],[cC],[],[(10,1),(16,1),(19,1)],0,[],false⟩,
 ⟨56,.skip,[],[.ptr (BT7) (BT7),.val (bP)],[BT1],[(0,.box)],[],0,[],false⟩,
 ⟨70,.skip,[],[.ptr (BT7) (BT7)],[BT0],[(0,.box)],[(13,1),(17,1)],0,[(58,92)],false⟩,
 ⟨73,.skip,[],[.val (BT0)],[BT1],[],[],0,[(26,94)],false⟩,
 ⟨59,.skip,[],[.val (.leaf false (.nm 1)),.ptr (bP) (bP)],[BT1],[(16,.box)],[],0,[],false⟩,
 ⟨83,.skip,[],[],[cT],[],[(1,1)],0,[],false⟩,
 ⟨69,.skip,[],[.ptr (BT7) (BT7),.val (cT)],[BT0],[(0,.box)],[],0,[],false⟩,
 ⟨81,.skip,[],[.val (BT0)],[eH,bP],[],[(11,6),(14,1),(24,7),(37,1),(40,6)],0,[(1020,99)],false⟩,
 ⟨82,.skip,[],[.val (eH)],[eD,bP],[],[(17,1),(21,1),(96,1)],0,[(1018,101)],false⟩,
 ⟨84,.skip,[],[.val (BT0)],[BT1],[],[],0,[(26,103)],false⟩,
 ⟨85,.skip,[],[.val (cT),.val (BT0)],[BT1],[],[],0,[(26,105)],false⟩,
 ⟨86,.skip,[],[.val (pv),.val (bP),.val (bP)],[BT1],[],[],0,[(122,107)],false⟩,
 ⟨87,.skip,[],[.val (eD)],[eh,BT0],[],[(11,1),(24,1)],0,[],false⟩,
 ⟨88,.skip,[],[.val (bP)],[eh],[],[(7,1)],0,[],false⟩,
 ⟨89,.skip,[],[.val (fq)],[.leaf true (.nm 11)],[],[],0,[],false⟩,
 ⟨90,.skip,[],[.val (eD),.val (eh),.val (BT0)],[eh,BT0],[],[(40,1)],0,[(31,112)],false⟩,
 ⟨60,.skip,[],[.val (pt)],[BT1],[],[],0,[],false⟩,
 ⟨92,.skip,[],[.val (BT0)],[pw,bP],[],[(56,1),(60,1),(67,1)],0,[(124,115),(63656,116)],false⟩,
 ⟨93,.skip,[],[.ptr (ch) (ch)],[.leaf false (.nm 14)],[(0,.box)],[],0,[],false⟩,
 ⟨94,.skip,[],[.ptr (ch) (ch)],[.leaf false (.nm 15)],[(0,.box)],[(10,1),(16,1),(19,1),(24,1),(26,1),(27,6)],0,[],false⟩,
 ⟨96,.skip,[],[.val (cg)],[bP],[],[],0,[(58,120)],false⟩,
 ⟨95,.skip,[],[.val (bP),.val (bP)],[bP],[],[],0,[],false⟩,
 ⟨97,.skip,[],[.val (eH)],[bP],[],[(38,1)],0,[(58,123),(506,124),(1018,125),(2042,126)],false⟩,
 ⟨98,.skip,[],[.val (eH)],[cT,cT],[],[(7,1),(8,1),(23,1),(34,1)],0,[(58,128)],false⟩,
 ⟨99,.skip,[],[.ptr (cS) (cS),.val (cg)],[],[(0,.box)],[],0,[(14,130)],false⟩,
 ⟨100,.skip,[],[.ptr (cS) (cS),.val (cg)],[],[(0,.box)],[],0,[(29,132),(30714,133)],false⟩,
 ⟨101,.skip,[],[.ptr (cS) (cS),.val (bP),.val (bP),.val (BT0)],[bP],[(0,.box)],[(18,1)],0,[],false⟩,
 ⟨102,.skip,[],[.val (eG)],[BT1],[],[],0,[],false⟩,
 ⟨103,.skip,[],[.val (BT0)],[BT1],[],[(3,1),(7,1)],0,[],false⟩,
 ⟨104,.skip,[],[.val (kd),.val (bP),.val (bP),.val (bP)],[BT1],[],[(71,1),(86,1)],0,[(863,138),(3455,139),(13823,140),(221183,141)],false⟩,
 ⟨105,.skip,[],[.val (eh)],[BT3],[],[],0,[],false⟩,
 ⟨106,.skip,[],[.ptr (di) (di),.val (pv)],[],[(0,.box)],[],0,[(30,144)],false⟩,
 ⟨107,.skip,[],[.ptr (.leaf false (.nm 17)) (.leaf false (.nm 17)),.val (eh)],[eh,BT0],[(0,.box)],[(14,1)],0,[],false⟩,
 ⟨108,.skip,[],[.val (bP),.val (bP)],[bP],[],[],0,[],false⟩,
 ⟨109,.skip,[],[.val (BT0)],[wg],[],[(31,1)],0,[(122,148)],false⟩,
 ⟨110,.skip,[],[.ptr (di) (di),.val (bP)],[],[(0,.box)],[],0,[],false⟩,
 ⟨72,.skip,[],[.val (BT0)],[BT1],[],[],0,[],false⟩,
 ⟨112,.skip,[],[.val (BT0),.val (bP),.val (pw)],[.leaf false (.nm 14),bP,BT1],[],[],0,[(916,152)],false⟩,
 ⟨113,.skip,[],[.ptr (ch) (ch),.val (BT0)],[BT1],[(0,.box)],[],0,[],false⟩,
 ⟨114,.skip,[],[.ptr (ch) (ch)],[],[(0,.box)],[],0,[],false⟩,
 ⟨115,.skip,[],[.ptr (ch) (ch)],[cg],[(0,.box)],[(2,7),(3,7),(4,7),(24,1),(25,6)],0,[(60,156)],false⟩,
 ⟨116,.skip,[],[.ptr (ch) (ch),.val (BT0)],[BT1],[(0,.box)],[],0,[],false⟩,
 ⟨117,.skip,[],[.ptr (ch) (ch)],[cg],[(0,.box)],[(2,7),(4,7),(6,7),(26,1),(38,1),(42,6),(52,1)],0,[(471,159)],false⟩,
 ⟨118,.skip,[],[.val (bP),.val (.leaf false (.sl (.nm 12)))],[gL],[],[(4,7),(6,7),(8,7)],0,[],false⟩,
 ⟨119,.skip,[],[.val (eH)],[BT1],[],[],0,[(26,162)],false⟩,
 ⟨120,.skip,[],[.val (cg)],[BT1],[],[],0,[(58,164)],false⟩,
 ⟨121,.skip,[],[.val (cg)],[BT1],[],[],0,[(15,166),(122,167)],false⟩,
 ⟨122,.skip,[],[.val (cg)],[BT1],[],[(12,1)],0,[(122,169)],false⟩,
 ⟨123,.skip,[],[.val (cg),.val (cT),.val (cT)],[cT,cT],[],[(16,1),(23,1),(39,1)],0,[(7,171),(58,172)],false⟩,
 ⟨124,.skip,[],[.ptr (cS) (cS),.val (cg)],[],[(0,.box)],[],0,[],false⟩,
 ⟨125,.skip,[],[.ptr (cS) (cS),.val (cg)],[],[(0,.box)],[],0,[],false⟩,
 ⟨126,.skip,[],[.ptr (cS) (cS),.val (cg)],[],[(0,.box)],[],0,[],false⟩,
 ⟨127,.skip,[],[.ptr (cS) (cS),.val (cg)],[],[(0,.box)],[],0,[],false⟩,
 ⟨128,.skip,[],[.ptr (cS) (cS),.val (cg)],[],[(0,.box)],[],0,[],false⟩,
 ⟨129,.skip,[],[],[cT],[],[(1,1)],0,[],false⟩,
 ⟨130,.skip,[],[.val (bP)],[BT1],[],[],0,[],false⟩,
 ⟨131,.skip,[],[.val (BT0)],[eV,BT1],[],[(9,1),(14,1),(33,1)],0,[],false⟩,
 ⟨132,.skip,[],[.ref (eF) (eF) (di) (di),.val (kd),.val (bP)],[bP,BT1],[(0,.box),(1,.box)],[(32,2)],0,[(127,182),(4153343,183)],false⟩,
 ⟨80,.skip,[],[.val (BT0),.val (BT0)],[BT1],[],[],0,[],false⟩,
 ⟨137,.skip,[],[.val (eG)],[BT1],[],[],0,[],false⟩,
 ⟨138,.skip,[],[.val (BT0),.val (bP)],[bP,bP,BT1],[],[],0,[(28,187),(1964,188),(31,189)],false⟩,
 ⟨139,.skip,[],[.val (BT0),.val (bP)],[BT0,bP,BT1],[],[(47,1)],0,[(58,191)],false⟩,
 ⟨140,.skip,[],[.val (pw)],[BT1],[],[],0,[],false⟩,
 ⟨141,.skip,[],[.val (BT0),.val (bP)],[BT0,bP,BT1],[],[(52,1),(60,1)],0,[(58,194)],false⟩,
 ⟨142,.skip,[],[.val (BT0),.val (bP)],[BT0],[],[(8,1)],0,[(58,196)],false⟩,
 ⟨143,.skip,[],[.ptr (ch) (ch),.val (BT0)],[],[(0,.box)],[],0,[],false⟩,
 ⟨144,.skip,[],[.ptr (ch) (ch)],[cg],[(0,.box)],[(2,7),(3,7),(8,1),(13,1),(18,1),(20,1)],0,[],false⟩,
 ⟨145,.skip,[],[.ptr (ch) (ch)],[cg],[(0,.box)],[(2,7),(6,7),(15,1),(21,1),(29,1),(38,1),(43,1),(50,1),(54,1),(59,6),(60,1)],0,[],false⟩,
 ⟨146,.skip,[],[.ptr (ch) (ch),.val (bP)],[cg],[(0,.box)],[(4,7),(9,1),(13,1),(17,1),(20,1)],0,[],false⟩,
 ⟨148,.skip,[],[.val (cg)],[BT1],[],[(53,1)],0,[(7551,202)],false⟩,
 ⟨147,.skip,[],[.val (bP)],[BT1],[],[],0,[],false⟩,
 ⟨149,.skip,[],[.val (cT),.val (BT0)],[cT],[],[(32,1)],0,[(60,205)],false⟩,
 ⟨150,.skip,[],[.ptr (cS) (cS),.val (cg)],[],[(0,.box)],[],0,[(7,207),(58,208)],false⟩,
 ⟨151,.skip,[],[.ptr (cS) (cS),.val (cg)],[],[(0,.box)],[],0,[],false⟩,
 ⟨152,.skip,[],[.ptr (cS) (cS),.val (cg)],[],[(0,.box)],[],0,[],false⟩,
 ⟨153,.skip,[],[.val (cT),.val (BT0)],[bP],[],[],0,[(26,212)],false⟩,
 ⟨154,.skip,[],[.val (BT1)],[bP],[],[],0,[],false⟩,
 ⟨155,.skip,[],[.ptr (eW) (eW),.val (bP)],[cX],[(0,.box)],[],0,[(28,215)],false⟩,
 ⟨156,.skip,[],[.val (eV)],[bP],[],[],0,[(58,217)],false⟩,
 ⟨157,.skip,[],[.val (kd)],[bP],[],[],0,[(53,219)],false⟩,
 ⟨158,.skip,[],[.val (cY)],[BT1],[],[],0,[(53,221)],false⟩,
 ⟨159,.skip,[],[.ptr (di) (di),.val (BT0)],[],[(0,.box)],[],0,[],false⟩,
 ⟨160,.skip,[],[.val (cY)],[BT0],[],[],0,[],false⟩,
 ⟨161,.skip,[],[.ref (eF) (eF) (di) (di),.val (kd),.val (js)],[],[(0,.box),(1,.box)],[],0,[],false⟩,
 ⟨162,.skip,[],[.ref (eF) (eF) (di) (di),.val (kd),.val (js)],[],[(0,.box),(1,.box)],[],0,[(31,226)],false⟩,
 ⟨91,.skip,[],[.val (BT0),.val (BT0)],[bP],[],[],0,[],false⟩,
 ⟨165,.skip,[],[.val (BT0)],[bP,bP],[],[],0,[(28,229),(63,230),(508,231),(16342,232),(511,233)],false⟩,
 ⟨166,.skip,[],[.ptr (ch) (ch)],[],[(0,.box)],[],0,[],false⟩,
 ⟨167,.skip,[],[.ptr (ch) (ch),.val (bP)],[cg],[(0,.box)],[(4,7),(5,7),(6,7),(7,7),(13,1),(17,1),(21,6),(34,1),(35,6)],0,[],false⟩,
 ⟨168,.skip,[],[.ptr (ch) (ch)],[cg],[(0,.box)],[(2,7),(3,7),(5,7),(11,7),(36,1),(37,6),(46,1),(57,1),(62,6),(63,1),(65,1),(66,6)],0,[(812,237)],false⟩,
 ⟨169,.skip,[],[.ptr (ch) (ch),.val (BT0)],[.leaf false (.sl (.nm 12))],[(0,.box)],[(6,7),(25,1),(26,6)],0,[(28,239)],false⟩,
 ⟨170,.skip,[],[.ptr (ch) (ch)],[BT0],[(0,.box)],[],0,[],false⟩,
 ⟨171,.skip,[],[.ptr (ch) (ch)],[cg],[(0,.box)],[(2,7),(4,7),(6,7),(7,1),(9,1),(25,1),(30,6)],0,[(122,242)],false⟩,
 ⟨172,.skip,[],[.ptr (ch) (ch)],[cg],[(0,.box)],[(2,7),(3,7),(4,7),(6,1),(10,1),(13,6)],0,[(28,244)],false⟩,
 ⟨173,.skip,[],[.ptr (ch) (ch)],[cg],[(0,.box)],[(2,7),(9,1),(16,1),(17,6),(25,1),(26,6),(29,1)],0,[],false⟩,
 ⟨174,.skip,[],[.ptr (ch) (ch),.val (bP)],[cg],[(0,.box)],[(4,7),(7,7),(9,7),(10,1),(11,1),(12,1),(13,1),(14,1),(15,1),(16,1),(17,6),(18,1),(19,1),(20,1),(21,1),(22,1),(23,1),(24,1),(25,6),(29,1),(69,1),(79,6),(88,6)],0,[(124,247),(7956,248),(63679,249)],false⟩,
 ⟨175,.skip,[],[.val (cg)],[BT1],[],[],0,[(117,251),(471,252),(1887,253),(7551,254),(7733234,255)],false⟩,
 ⟨176,.skip,[],[.val (BT0)],[BT1],[],[],0,[(26,257)],false⟩,
 ⟨177,.skip,[],[.ptr (eW) (eW),.val (bP)],[cX],[(0,.box)],[],0,[(28,259)],false⟩,
 ⟨178,.skip,[],[.ptr (eW) (eW),.val (eG)],[BT1],[(0,.box)],[],0,[],false⟩,
 ⟨179,.skip,[],[.val (bP)],[BT0],[],[],0,[(4052,262),(127,263)],false⟩,
 ⟨180,.skip,[],[.ref (eF) (eF) (di) (di),.val (cY)],[],[(0,.box),(1,.box)],[(21,1)],0,[],false⟩,
 ⟨182,.skip,[],[.val (cY)],[bP],[],[],0,[(53,266)],false⟩,
 ⟨181,.skip,[],[.ptr (di) (di),.val (bP),.val (bP),.val (bP)],[cY],[(0,.box)],[],0,[(15,268)],false⟩,
 ⟨184,.skip,[],[.val (cY)],[BT0],[],[],0,[],false⟩,
 ⟨183,.skip,[],[.val (eh),.val (bP),.val (BT0)],[cY],[],[],0,[],false⟩,
 ⟨185,.skip,[],[.ref (eF) (eF) (di) (di),.val (bP),.val (BT0),.val (cY)],[],[(0,.box),(1,.box)],[],0,[],false⟩,
 ⟨186,.skip,[],[.val (eh),.val (bP),.val (BT0)],[BT3],[],[],0,[],false⟩,
 ⟨187,.skip,[],[.val (bP)],[cY],[],[],0,[],false⟩,
 ⟨188,.skip,[],[.ptr (di) (di),.val (cY)],[cY],[(0,.box)],[],0,[],false⟩,
 ⟨189,.skip,[],[.ptr (di) (di),.val (cY),.val (cY)],[cY],[(0,.box)],[],0,[],false⟩,
 ⟨190,.skip,[],[.val (BT0),.val (BT0)],[cY],[],[(9,1)],0,[],false⟩,
 ⟨191,.skip,[],[.val (BT1)],[cY],[],[],0,[],false⟩,
 ⟨192,.skip,[],[.val (BT0),.val (js)],[cY],[],[(20,1)],0,[],false⟩,
 ⟨193,.skip,[],[.val (bP),.val (cY),.val (cY)],[cY],[],[(23,1)],0,[],false⟩,
 ⟨111,.skip,[],[.val (BT0),.val (BT0)],[bP],[],[],0,[],false⟩,
 ⟨194,.skip,[],[.ptr (ch) (ch)],[BT1],[(0,.box)],[(34,1)],0,[(245,282)],false⟩,
 ⟨195,.skip,[],[.ptr (ch) (ch)],[cg],[(0,.box)],[(2,7),(4,7),(23,1),(32,1),(39,1),(46,1),(50,1),(56,1),(57,6),(62,1)],0,[],false⟩,
 ⟨196,.skip,[],[.val (cg),.val (bP),.val (bP)],[BT1],[],[],0,[(26,285)],false⟩,
 ⟨197,.skip,[],[.val (cg),.val (bP)],[BT1],[],[],0,[(26,287)],false⟩,
 ⟨198,.skip,[],[.ptr (eW) (eW),.val (bP)],[cX],[(0,.box)],[],0,[(28,289),(907,290)],false⟩,
 ⟨199,.skip,[],[.val (bP)],[bP],[],[],0,[],false⟩,
 ⟨200,.skip,[],[.val (bP)],[BT0],[],[(12,1)],0,[(60,293)],false⟩,
 ⟨201,.skip,[],[.val (bP),.val (bP)],[bP,BT1],[],[],0,[],false⟩,
 ⟨202,.skip,[],[.val (bP),.val (bP)],[bP,BT1],[],[],0,[],false⟩,
 ⟨203,.skip,[],[.val (bP),.val (bP)],[bP,BT1],[],[],0,[],false⟩,
 ⟨204,.skip,[],[.val (bP),.val (bP)],[bP,BT1],[],[],0,[],false⟩,
 ⟨205,.skip,[],[.val (eh),.val (bP),.val (BT0)],[bP],[],[],0,[(26,299)],false⟩,
 ⟨206,.skip,[],[.val (eh),.val (bP),.val (BT0),.val (cY)],[BT3,BT1],[],[(61,1)],0,[(508,301)],false⟩,
 ⟨207,.skip,[],[.val (BT0)],[cY],[],[],0,[(7,303)],false⟩,
 ⟨208,.skip,[],[.val (eV),.val (BT0)],[BT1],[],[(10,1)],0,[],false⟩,
 ⟨209,.skip,[],[.val (BT0),.val (js)],[cY],[],[],0,[],false⟩,
 ⟨210,.skip,[],[.val (cY),.val (cY)],[bP],[],[],0,[],false⟩,
 ⟨133,.skip,[],[.val (BT0),.val (eG)],[bP],[],[],0,[],false⟩,
 ⟨211,.skip,[],[.ptr (eW) (eW),.val (bP)],[cX],[(0,.box)],[],0,[(63,309)],false⟩,
 ⟨212,.skip,[],[.val (bP)],[bP,BT1],[],[],0,[],false⟩,
 ⟨213,.skip,[],[.val (.leaf false (.nm 10)),.val (bP),.val (BT0)],[BT1],[],[],0,[],false⟩,
 ⟨214,.skip,[],[.val (BT0)],[bP,BT1],[],[],0,[(60,313)],false⟩,
 ⟨216,.skip,[],[.val (eV)],[eI],[],[(6,1),(10,1)],0,[],false⟩,
 ⟨215,.skip,[],[.val (eI),.val (BT0)],[bP,bP,BT1],[],[],0,[(26,316)],false⟩,
 ⟨217,.skip,[],[.val (bP)],[bP],[],[],0,[],false⟩,
 ⟨218,.skip,[],[.val (BT0),.val (BT0)],[bP],[],[],0,[(26,319)],false⟩,
 ⟨219,.skip,[],[.val (BT0),.val (eG),.val (eG)],[BT0],[],[],0,[(58,321)],false⟩,
 ⟨220,.skip,[],[.val (js)],[BT0],[],[],0,[(63,323)],false⟩,
 ⟨163,.skip,[],[.val (BT0),.val (eG)],[bP],[],[],0,[],true⟩,
 ⟨221,.skip,[],[.ptr (eW) (eW)],[cX],[(0,.box)],[(171,1)],0,[(15,326),(252,327),(32303,328),(255,329),(64607,330),(8186,331),(516858,332)],false⟩,
 ⟨223,.skip,[],[.val (eV)],[BT1],[],[],0,[],false⟩,
 ⟨225,.skip,[],[.own (fN),.val (eV)],[fN],[],[(18,1),(32,1),(76,1),(105,1)],0,[(966650,335),(15,336)],false⟩,
 ⟨224,.skip,[],[.own (fN),.val (bP)],[fN],[],[(8,1)],0,[],false⟩,
 ⟨222,.skip,[],[.val (eI),.val (BT0),.val (bP)],[bP],[],[(23,1),(30,1),(76,1),(85,1)],0,[(250,339),(8009,340),(256314,341)],false⟩,
 ⟨229,.skip,[],[.val (eV)],[BT1],[],[],0,[(26,343),(3935,344),(15743,345)],false⟩,
 ⟨230,.skip,[],[.own (fN),.val (.leaf false (.sl (.nm 18)))],[fN],[],[(29,1)],0,[(58,347),(250,348)],false⟩,
 ⟨226,.skip,[],[.val (eI)],[BT1],[],[],0,[(58,350)],false⟩,
 ⟨227,.skip,[],[.val (eI),.val (ga),.val (BT1),.val (BT1)],[jt],[],[],0,[(58,352)],false⟩,
 ⟨228,.skip,[],[.val (.leaf false (.nm 21)),.val (eG)],[BT1],[],[],0,[],false⟩,
 ⟨235,.skip,[],[.val (BT0)],[BT1],[],[],0,[(26,355)],false⟩,
 ⟨231,.skip,[],[.val (.leaf false (.nm 21)),.val (bP)],[BT1],[],[],0,[(7,357),(15,358),(31,359),(63,360),(127,361)],false⟩,
 ⟨232,.skip,[],[.val (eI),.io (iB),.val (bP),.val (BT1),.val (BT1)],[],[(16,.reg)],[(57,1),(66,1),(74,1),(82,1)],0,[(6,363)],false⟩,
 ⟨233,.skip,[],[.val (pu)],[jt],[],[(18,1)],0,[(58,365)],false⟩,
 ⟨234,.skip,[],[.val (BT0),.val (eG)],[BT1],[],[],0,[(26,367)],false⟩]
def wS:iC:=[((163,[]),324)]
def wR:iC:=[((3,[]),0),((6,[]),3),((7,[]),4),((8,[]),5),((9,[]),7),((10,[]),9),((11,[]),13),((24,[]),14),((26,[]),16),((25,[]),18),((13,[]),19),((14,[]),20),((19,[]),21),((27,[]),22),((28,[]),24),((21,[]),25),((46,[]),27),((29,[]),28),((18,[]),29),((30,[]),30),((23,[]),31),((31,[]),33),((32,[]),35),((33,[]),37),((34,[]),39),((35,[]),40),((20,[]),42),((40,[]),43),((41,[]),44),((42,[]),45),((45,[]),46),((62,[]),47),((47,[]),48),((48,[]),49),((49,[]),53),((38,[]),55),((39,[]),57),((50,[]),59),((51,[]),60),((22,[]),61),((52,[]),63),((53,[]),64),((43,[]),65),((44,[]),66),((58,[59]),68),((63,[]),69),((65,[]),70),((64,[]),72),((66,[]),74),((57,[]),75),((55,[]),76),((67,[]),77),((68,[]),78),((61,[]),79),((71,[59]),80),((75,[]),82),((74,[]),83),((76,[]),84),((77,[]),87),((78,[]),88),((79,[]),89),((56,[]),90),((70,[]),91),((73,[]),93),((59,[]),95),((83,[]),96),((69,[]),97),((81,[]),98),((82,[]),100),((84,[]),102),((85,[]),104),((86,[]),106),((87,[]),108),((88,[]),109),((89,[]),110),((90,[]),111),((60,[]),113),((92,[]),114),((93,[]),117),((94,[]),118),((96,[]),119),((95,[]),121),((97,[]),122),((98,[]),127),((99,[]),129),((100,[]),131),((101,[]),134),((102,[]),135),((103,[]),136),((104,[]),137),((105,[]),142),((106,[]),143),((107,[]),145),((108,[]),146),((109,[]),147),((110,[]),149),((72,[]),150),((112,[]),151),((113,[]),153),((114,[]),154),((115,[]),155),((116,[]),157),((117,[]),158),((118,[]),160),((119,[]),161),((120,[]),163),((121,[]),165),((122,[]),168),((123,[]),170),((124,[]),173),((125,[]),174),((126,[]),175),((127,[]),176),((128,[]),177),((129,[]),178),((130,[]),179),((131,[]),180),((132,[]),181),((80,[]),184),((137,[]),185),((138,[]),186),((139,[]),190),((140,[]),192),((141,[]),193),((142,[]),195),((143,[]),197),((144,[]),198),((145,[]),199),((146,[]),200),((148,[]),201),((147,[]),203),((149,[]),204),((150,[]),206),((151,[]),209),((152,[]),210),((153,[]),211),((154,[]),213),((155,[]),214),((156,[]),216),((157,[]),218),((158,[]),220),((159,[]),222),((160,[]),223),((161,[]),224),((162,[]),225),((91,[]),227),((165,[]),228),((166,[]),234),((167,[]),235),((168,[]),236),((169,[]),238),((170,[]),240),((171,[]),241),((172,[]),243),((173,[]),245),((174,[]),246),((175,[]),250),((176,[]),256),((177,[]),258),((178,[]),260),((179,[]),261),((180,[]),264),((182,[]),265),((181,[]),267),((184,[]),269),((183,[]),270),((185,[]),271),((186,[]),272),((187,[]),273),((188,[]),274),((189,[]),275),((190,[]),276),((191,[]),277),((192,[]),278),((193,[]),279),((111,[]),280),((194,[]),281),((195,[]),283),((196,[]),284),((197,[]),286),((198,[]),288),((199,[]),291),((200,[]),292),((201,[]),294),((202,[]),295),((203,[]),296),((204,[]),297),((205,[]),298),((206,[]),300),((207,[]),302),((208,[]),304),((209,[]),305),((210,[]),306),((133,[]),307),((211,[]),308),((212,[]),310),((213,[]),311),((214,[]),312),((216,[]),314),((215,[]),315),((217,[]),317),((218,[]),318),((219,[]),320),((220,[]),322),((221,[]),325),((223,[]),333),((225,[]),334),((224,[]),337),((222,[]),338),((229,[]),342),((230,[]),346),((226,[]),349),((227,[]),351),((228,[]),353),((235,[]),354),((231,[]),356),((232,[]),362),((233,[]),364),((234,[]),366)]
def uw(e:Nat):EntI:=entR.getD e ⟨0,.skip,[],[],[],[],[],0,[],true⟩
def ek(k:Nat):KeyI:=keyL.getD k ⟨0,[false],[]⟩
noncomputable def tab:Tab where
 G:=gam
 ty:=i7 tyL
 ifc:=qu yg
 key k:=qo uw (ek k)
 ent k:=fill Tryz.prog (uw k)
 call:=qr (wS++wR)
 tabs:=[]
 ext k:=match k with
  | 324=>fun x=>some (cZ x.1 x.2.1,())
  | _=>fun _=>none
end Go.Proofs.YtacknlgegbagfaaGreat.E.TT
