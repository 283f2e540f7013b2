/- The table of R: structs,types,entries,keys. No condition. -/
import Derived.Test.YtacknlgegbagfaaGreatEG4
import Derived.Test.YtacknlgegbagfaaGreatProg
import Derived.KernelRfl
namespace Go.Proofs.YtacknlgegbagfaaGreat.E.TR
open Go.Proofs.YtacknlgegbagfaaGreat.E
set_option linter.unusedVariables false
set_option maxRecDepth 100000
structure bp where
 Who:Int
 Seq:Int
 Line:(_root_.List Int)
def sJ:bp:=⟨0,0,[]⟩
structure bq where
 Term:Int
 C:bp
def fF:bq:=⟨0,sJ⟩
structure bB where
 Kind:Int
 Term:Int
 Vote:Int
 Prev:Int
 List:(_root_.List bq)
 Snap:(_root_.List Int)
def eN:bB:=⟨0,0,0,0,[],[]⟩
structure bH where
 b:(_root_.List Int)
 at_:Int
 bad:Bool
def Ni:bH:=⟨[],0,false⟩
structure bL where
 b:(_root_.List Int)
 at_:Int
 ok:Bool
def Nm:bL:=⟨[],0,false⟩
structure bM where
 b:(_root_.List Int)
 i:Int
 h:Int
def Nn:bM:=⟨[],0,0⟩
structure bw where
 Code:Int
 N:Int
 S:(_root_.List Int)
def dI:bw:=⟨0,0,[]⟩
structure bA where
 Vars:(_root_.List (_root_.List Int))
 Cells:(_root_.List (_root_.List Int))
 Start:(_root_.List bw)
 Main:(_root_.List bw)
def B9:bA:=⟨[],[],[],[]⟩
structure bG where
 Kind:Int
 N:Int
 S:(_root_.List Int)
def cq:bG:=⟨0,0,[]⟩
structure bo where
 Name:Int
 Key:(_root_.List Int)
 Val:bG
def eA:bo:=⟨0,[],cq⟩
structure bE where
 Vars:(_root_.List bG)
 Cells:(_root_.List bo)
 Nr:Int
 Err:Int
def gr:bE:=⟨[],[],0,0⟩
structure bt where
 State:bE
 Done:(_root_.List Int)
 Out:(_root_.List Int)
def sK:bt:=⟨gr,[],[]⟩
structure bv where
 Op:Int
 N:Int
 S:(_root_.List Int)
 Kids:(_root_.List bv)
def ct:bv:=⟨0,0,[],[]⟩
structure bF where
 Kind:Int
 Text:(_root_.List Int)
 N:Int
 At:Int
def iS:bF:=⟨0,[],0,0⟩
structure bO where
 list:(_root_.List bF)
 at_:Int
 bad:Int
 has:Bool
 kept:bv
def Nq:bO:=⟨[],0,0,false,ct⟩
structure bD where
 Kind:Int
 Pat:bv
 Body:bv
def b8:bD:=⟨0,ct,ct⟩
structure bJ where
 vars:(_root_.List (_root_.List Int))
 cells:(_root_.List (_root_.List Int))
 out:(_root_.List bw)
def Nk:bJ:=⟨[],[],[]⟩
structure bI where
 s:bE
 vars:(_root_.List (_root_.List Int))
 cells:(_root_.List (_root_.List Int))
 line:(_root_.List Int)
 fields:(_root_.List (_root_.List Int))
 out:(_root_.List Int)
 fuel:Int
 done:Bool
def Nj:bI:=⟨gr,[],[],[],[],[],0,false⟩
structure bC where
 Op:Int
 C:Int
 Set:(_root_.List Int)
 Not:Bool
 Kids:(_root_.List bC)
def du:bC:=⟨0,0,[],false,[]⟩
structure bK where
 l:Unit
 stack:(_root_.List bG)
def Nl:bK:=⟨(),[]⟩
structure bN where
 s:(_root_.List Int)
 at_:Int
 bad:Bool
def Np:bN:=⟨[],0,false⟩
structure bz where
 Op:Int
 C:Int
 Set:(_root_.List Int)
 Not:Bool
 A:Int
 B:Int
def cl:bz:=⟨0,0,[],false,0,0⟩
def gT:Nat→Type
 | 0=>bB
 | 1=>bq
 | 2=>bp
 | 3=>bH
 | 4=>bL
 | 5=>bM
 | 6=>bA
 | 7=>bw
 | 8=>bE
 | 9=>bG
 | 10=>bo
 | 11=>bt
 | 12=>bv
 | 13=>bO
 | 14=>bF
 | 15=>bD
 | 16=>bJ
 | 17=>bI
 | 18=>bC
 | 19=>bK
 | 20=>bN
 | 21=>bz
 | _=>Unit
def gfs:Nat→List FT
 | 0=>[(.int .i64),(.int .i64),(.int .i64),(.int .i64),(.sl (.nm 1)),.str]
 | 1=>[(.int .i64),(.nm 2)]
 | 2=>[(.int .i64),(.int .i64),.str]
 | 3=>[(.sl (.int .u8)),(.int .i64),.bool]
 | 4=>[(.sl (.int .u8)),(.int .i64),.bool]
 | 5=>[(.sl (.int .u8)),(.int .i64),(.int .i64)]
 | 6=>[(.sl .str),(.sl .str),(.sl (.nm 7)),(.sl (.nm 7))]
 | 7=>[(.int .i64),(.int .i64),.str]
 | 8=>[(.sl (.nm 9)),(.sl (.nm 10)),(.int .i64),(.int .i64)]
 | 9=>[(.int .i64),(.int .i64),.str]
 | 10=>[(.int .i64),.str,(.nm 9)]
 | 11=>[(.nm 8),(.sl (.int .i64)),.str]
 | 12=>[(.int .i64),(.int .i64),.str,(.sl (.nm 12))]
 | 13=>[(.sl (.nm 14)),(.int .i64),(.int .i64),.bool,(.nm 12)]
 | 14=>[(.int .i64),.str,(.int .i64),(.int .i64)]
 | 15=>[(.int .i64),(.nm 12),(.nm 12)]
 | 16=>[(.sl .str),(.sl .str),(.sl (.nm 7))]
 | 17=>[(.nm 8),(.sl .str),(.sl .str),.str,(.sl .str),.str,(.int .i64),.bool]
 | 18=>[(.int .i64),(.int .i64),.str,.bool,(.sl (.nm 18))]
 | 19=>[.ptr,(.sl (.nm 9))]
 | 20=>[.str,(.int .i64),.bool]
 | 21=>[(.int .i64),(.int .i64),.str,.bool,(.int .i64),(.int .i64)]
 | _=>[]
def gun:∀ n,gT n→Js gT (gfs n)
 | 0,x=>(x.Kind,(x.Term,(x.Vote,(x.Prev,(x.List,(x.Snap,()))))))
 | 1,x=>(x.Term,(x.C,()))
 | 2,x=>(x.Who,(x.Seq,(x.Line,())))
 | 3,x=>(x.b,(x.at_,(x.bad,())))
 | 4,x=>(x.b,(x.at_,(x.ok,())))
 | 5,x=>(x.b,(x.i,(x.h,())))
 | 6,x=>(x.Vars,(x.Cells,(x.Start,(x.Main,()))))
 | 7,x=>(x.Code,(x.N,(x.S,())))
 | 8,x=>(x.Vars,(x.Cells,(x.Nr,(x.Err,()))))
 | 9,x=>(x.Kind,(x.N,(x.S,())))
 | 10,x=>(x.Name,(x.Key,(x.Val,())))
 | 11,x=>(x.State,(x.Done,(x.Out,())))
 | 12,x=>(x.Op,(x.N,(x.S,(x.Kids,()))))
 | 13,x=>(x.list,(x.at_,(x.bad,(x.has,(x.kept,())))))
 | 14,x=>(x.Kind,(x.Text,(x.N,(x.At,()))))
 | 15,x=>(x.Kind,(x.Pat,(x.Body,())))
 | 16,x=>(x.vars,(x.cells,(x.out,())))
 | 17,x=>(x.s,(x.vars,(x.cells,(x.line,(x.fields,(x.out,(x.fuel,(x.done,()))))))))
 | 18,x=>(x.Op,(x.C,(x.Set,(x.Not,(x.Kids,())))))
 | 19,x=>(x.l,(x.stack,()))
 | 20,x=>(x.s,(x.at_,(x.bad,())))
 | 21,x=>(x.Op,(x.C,(x.Set,(x.Not,(x.A,(x.B,()))))))
 | (n+22),_=>()
def gpk:∀ n,Js gT (gfs n)→gT n
 | 0,y=>⟨y.1,y.2.1,y.2.2.1,y.2.2.2.1,y.2.2.2.2.1,y.2.2.2.2.2.1⟩
 | 1,y=>⟨y.1,y.2.1⟩
 | 2,y=>⟨y.1,y.2.1,y.2.2.1⟩
 | 3,y=>⟨y.1,y.2.1,y.2.2.1⟩
 | 4,y=>⟨y.1,y.2.1,y.2.2.1⟩
 | 5,y=>⟨y.1,y.2.1,y.2.2.1⟩
 | 6,y=>⟨y.1,y.2.1,y.2.2.1,y.2.2.2.1⟩
 | 7,y=>⟨y.1,y.2.1,y.2.2.1⟩
 | 8,y=>⟨y.1,y.2.1,y.2.2.1,y.2.2.2.1⟩
 | 9,y=>⟨y.1,y.2.1,y.2.2.1⟩
 | 10,y=>⟨y.1,y.2.1,y.2.2.1⟩
 | 11,y=>⟨y.1,y.2.1,y.2.2.1⟩
 | 12,y=>⟨y.1,y.2.1,y.2.2.1,y.2.2.2.1⟩
 | 13,y=>⟨y.1,y.2.1,y.2.2.1,y.2.2.2.1,y.2.2.2.2.1⟩
 | 14,y=>⟨y.1,y.2.1,y.2.2.1,y.2.2.2.1⟩
 | 15,y=>⟨y.1,y.2.1,y.2.2.1⟩
 | 16,y=>⟨y.1,y.2.1,y.2.2.1⟩
 | 17,y=>⟨y.1,y.2.1,y.2.2.1,y.2.2.2.1,y.2.2.2.2.1,y.2.2.2.2.2.1,y.2.2.2.2.2.2.1,y.2.2.2.2.2.2.2.1⟩
 | 18,y=>⟨y.1,y.2.1,y.2.2.1,y.2.2.2.1,y.2.2.2.2.1⟩
 | 19,y=>⟨y.1,y.2.1⟩
 | 20,y=>⟨y.1,y.2.1,y.2.2.1⟩
 | 21,y=>⟨y.1,y.2.1,y.2.2.1,y.2.2.2.1,y.2.2.2.2.1,y.2.2.2.2.2.1⟩
 | (n+22),_=>()
theorem D6:∀ n y,gun n (gpk n y)=y
 | 0,_=>rfl
 | 1,_=>rfl
 | 2,_=>rfl
 | 3,_=>rfl
 | 4,_=>rfl
 | 5,_=>rfl
 | 6,_=>rfl
 | 7,_=>rfl
 | 8,_=>rfl
 | 9,_=>rfl
 | 10,_=>rfl
 | 11,_=>rfl
 | 12,_=>rfl
 | 13,_=>rfl
 | 14,_=>rfl
 | 15,_=>rfl
 | 16,_=>rfl
 | 17,_=>rfl
 | 18,_=>rfl
 | 19,_=>rfl
 | 20,_=>rfl
 | 21,_=>rfl
 | (n+22),_=>rfl
theorem D4:∀ n x,gpk n (gun n x)=x
 | 0,x=>by cases x;rfl
 | 1,x=>by cases x;rfl
 | 2,x=>by cases x;rfl
 | 3,x=>by cases x;rfl
 | 4,x=>by cases x;rfl
 | 5,x=>by cases x;rfl
 | 6,x=>by cases x;rfl
 | 7,x=>by cases x;rfl
 | 8,x=>by cases x;rfl
 | 9,x=>by cases x;rfl
 | 10,x=>by cases x;rfl
 | 11,x=>by cases x;rfl
 | 12,x=>by cases x;rfl
 | 13,x=>by cases x;rfl
 | 14,x=>by cases x;rfl
 | 15,x=>by cases x;rfl
 | 16,x=>by cases x;rfl
 | 17,x=>by cases x;rfl
 | 18,x=>by cases x;rfl
 | 19,x=>by cases x;rfl
 | 20,x=>by cases x;rfl
 | 21,x=>by cases x;rfl
 | (n+22),_=>rfl
def gz:∀ n,gT n
 | 0=>eN
 | 1=>fF
 | 2=>sJ
 | 3=>Ni
 | 4=>Nm
 | 5=>Nn
 | 6=>B9
 | 7=>dI
 | 8=>gr
 | 9=>cq
 | 10=>eA
 | 11=>sK
 | 12=>ct
 | 13=>Nq
 | 14=>iS
 | 15=>b8
 | 16=>Nk
 | 17=>Nj
 | 18=>du
 | 19=>Nl
 | 20=>Np
 | 21=>cl
 | (n+22)=>()
theorem D7:∀ n,gun n (gz n)=gX gz (gfs n)
 | 0=>rfl
 | 1=>rfl
 | 2=>rfl
 | 3=>rfl
 | 4=>rfl
 | 5=>rfl
 | 6=>rfl
 | 7=>rfl
 | 8=>rfl
 | 9=>rfl
 | 10=>rfl
 | 11=>rfl
 | 12=>rfl
 | 13=>rfl
 | 14=>rfl
 | 15=>rfl
 | 16=>rfl
 | 17=>rfl
 | 18=>rfl
 | 19=>rfl
 | 20=>rfl
 | 21=>rfl
 | (n+22)=>rfl
def gsz:Nat→Nat
 | 0=>6
 | 1=>4
 | 2=>3
 | 3=>3
 | 4=>3
 | 5=>3
 | 6=>4
 | 7=>3
 | 8=>4
 | 9=>3
 | 10=>5
 | 11=>6
 | 12=>4
 | 13=>8
 | 14=>4
 | 15=>9
 | 16=>3
 | 17=>11
 | 18=>5
 | 19=>2
 | 20=>3
 | 21=>6
 | _=>0
theorem D5:∀ n,gsz n=FT.szs gsz (gfs n)
 | 0=>rfl
 | 1=>rfl
 | 2=>rfl
 | 3=>rfl
 | 4=>rfl
 | 5=>rfl
 | 6=>rfl
 | 7=>rfl
 | 8=>rfl
 | 9=>rfl
 | 10=>rfl
 | 11=>rfl
 | 12=>rfl
 | 13=>rfl
 | 14=>rfl
 | 15=>rfl
 | 16=>rfl
 | 17=>rfl
 | 18=>rfl
 | 19=>rfl
 | 20=>rfl
 | 21=>rfl
 | (n+22)=>rfl
def gfl:Nat→Bool
 | 0=>false
 | 1=>true
 | 2=>true
 | 3=>false
 | 4=>false
 | 5=>false
 | 6=>false
 | 7=>true
 | 8=>false
 | 9=>true
 | 10=>true
 | 11=>false
 | 12=>false
 | 13=>false
 | 14=>true
 | 15=>false
 | 16=>false
 | 17=>false
 | 18=>false
 | 19=>false
 | 20=>true
 | 21=>true
 | _=>true
theorem D3:∀ n,gfl n=true→FT.flats gfl (gfs n)=true
 | 0,h=>by cases h
 | 1,h=>rfl
 | 2,h=>rfl
 | 3,h=>by cases h
 | 4,h=>by cases h
 | 5,h=>by cases h
 | 6,h=>by cases h
 | 7,h=>rfl
 | 8,h=>by cases h
 | 9,h=>rfl
 | 10,h=>rfl
 | 11,h=>by cases h
 | 12,h=>by cases h
 | 13,h=>by cases h
 | 14,h=>rfl
 | 15,h=>by cases h
 | 16,h=>by cases h
 | 17,h=>by cases h
 | 18,h=>by cases h
 | 19,h=>by cases h
 | 20,h=>rfl
 | 21,h=>rfl
 | (n+22),_=>rfl
def gam:Gam:=⟨gT,gfs,gun,gpk,D6,D4,gz,D7,gsz,D5,gfl,D3⟩
def tyL:List (Nat×FT):=[(2,(.int .i64)),(3,(.int .i64)),(4,.bool),(5,(.int .u8)),(6,(.int .u8)),(9,.str),(22,(.sl (.int .u8))),(29,(.sl (.nm 1))),(31,(.nm 0)),(46,(.sl (.int .i64))),(49,(.nm 2)),(51,(.nm 1)),(53,(.int .u64)),(58,(.nm 3)),(63,(.nm 4)),(69,(.nm 5)),(71,(.sl .str)),(72,(.sl (.nm 7))),(74,(.nm 6)),(75,(.sl (.nm 9))),(76,(.sl (.nm 10))),(78,(.nm 8)),(80,(.nm 11)),(98,(.sl (.nm 2))),(102,(.nm 9)),(104,(.nm 10)),(117,(.sl (.nm 15))),(130,(.sl (.nm 14))),(134,(.sl (.nm 12))),(136,(.nm 12)),(138,(.nm 13)),(140,(.nm 14)),(143,(.nm 15)),(152,(.nm 16)),(156,(.nm 7)),(159,.ptr),(162,(.nm 17)),(176,(.sl (.nm 18))),(178,(.nm 18)),(183,(.nm 19)),(198,(.nm 20)),(229,(.sl (.sl .str))),(230,(.sl (.sl (.int .i64)))),(240,(.sl .bool)),(245,(.sl (.nm 21))),(258,(.nm 21))]
def yH:List Nat:=[]
abbrev BT0:BT:=.leaf false .str
abbrev BT1:BT:=.leaf false .bool
abbrev BT2:BT:=.leaf true (.nm 0)
abbrev BT3:BT:=.leaf true (.nm 8)
abbrev BT4:BT:=.leaf true (.nm 7)
abbrev BT5:BT:=.leaf true (.nm 9)
abbrev BT6:BT:=.leaf false (.nm 0)
abbrev BT7:BT:=.leaf false (.nm 5)
abbrev BT8:BT:=.leaf false (.nm 3)
abbrev BT9:BT:=.leaf false (.nm 4)
abbrev em:BT:=.leaf false (.nm 8)
abbrev eJ:BT:=.leaf false (.nm 6)
abbrev pQ:BT:=.leaf true (.nm 17)
abbrev eO:BT:=.leaf true (.nm 19)
abbrev fe:BT:=.leaf true (.nm 20)
abbrev dg:BT:=.leaf true (.nm 18)
abbrev pR:BT:=.leaf true (.nm 21)
abbrev jK:BT:=.leaf false (.nm 2)
abbrev dh:BT:=.leaf false (.nm 9)
abbrev kH:BT:=.leaf false (.nm 7)
abbrev fG:BT:=.leaf false (.nm 11)
abbrev cj:BT:=.leaf false (.nm 12)
abbrev ck:BT:=.leaf false (.nm 13)
abbrev ff:BT:=.leaf false (.nm 18)
abbrev fg:BT:=.leaf false (.nm 20)
abbrev wH:BT:=.leaf true (.sl .str)
abbrev dd:BT:=.leaf false (.sl .str)
abbrev eP:BT:=.leaf false (.int .u8)
abbrev iU:BT:=.leaf true (.sl .bool)
abbrev bP:BT:=.leaf false (.int .i64)
abbrev pT:BT:=.leaf false (.sl .bool)
abbrev gY:BT:=.leaf false (.sl (.nm 1))
abbrev sL:BT:=.leaf false (.sl (.nm 2))
abbrev pU:BT:=.leaf false (.sl (.nm 7))
abbrev jL:BT:=.leaf false (.sl (.nm 9))
abbrev fV:BT:=.leaf true (.sl (.nm 21))
abbrev eQ:BT:=.leaf false (.sl (.nm 15))
abbrev pV:BT:=.leaf false (.sl (.nm 14))
abbrev eR:BT:=.leaf false (.sl (.nm 21))
abbrev dD:BT:=.leaf true (.sl (.int .u8))
abbrev cH:BT:=.leaf false (.sl (.int .u8))
abbrev sM:BT:=.leaf false (.sl (.sl .str))
abbrev jM:BT:=.leaf true (.sl (.int .i64))
abbrev gt:BT:=.leaf false (.sl (.int .i64))
abbrev sN:BT:=.leaf false (.sl (.sl (.int .i64)))
abbrev cY:BT:=.pr (.leaf false (.sl .str)) (.pr (.leaf false (.sl .str)) (.pr (.leaf true (.sl (.nm 7))) (.un)))
abbrev gZ:BT:=.pr (.leaf false (.int .i64)) (.pr (.leaf false (.int .i64)) (.pr (.leaf false .str) (.pr (.sp (.nm 12)) (.un))))
abbrev dw:BT:=.pr (.leaf true (.nm 8)) (.pr (.leaf true (.sl .str)) (.pr (.leaf true (.sl .str)) (.pr (.leaf false .str) (.pr (.leaf true (.sl .str)) (.pr (.leaf false .str) (.pr (.leaf false (.int .i64)) (.pr (.leaf false .bool) (.un))))))))
def keyL:List KeyI:=[
 ⟨0,[],[]⟩,
 ⟨0,[true,true,true,true,true,true,true,true,true,true,true,true,true,true,true,false,true,false],[.val 0 (cH),.val 4 (cH),.val 19 (bP),.val 21 (bP)]⟩,
 ⟨1,[],[]⟩,
 ⟨2,[],[]⟩,
 ⟨3,[],[]⟩,
 ⟨3,[true,true,true,false,true,false],[.ptr 1 16,.own 3 48 (dD),.val 28 (gt),.val 29 (bP),.val 30 (bP),.slot 16 (BT6) true none]⟩,
 ⟨3,[true,true,true,true,false,true,false],[.ptr 1 16,.own 3 48 (dD),.val 40 (gY),.val 41 (bP),.val 42 (bP),.slot 16 (BT6) true none]⟩,
 ⟨3,[true,true,true,true,false,true,false,false,true,true,false,false,true,false,true,false],[.ptr 1 16,.ptr 7 112,.own 3 48 (dD),.val 40 (gY),.val 41 (bP),.val 42 (bP),.val 55 (gt),.val 56 (bP),.val 57 (bP),.slot 16 (BT6) true none,.slot 112 (.leaf true (.nm 1)) true none]⟩,
 ⟨4,[],[]⟩,
 ⟨5,[],[]⟩,
 ⟨6,[],[]⟩,
 ⟨7,[],[]⟩,
 ⟨8,[],[]⟩,
 ⟨9,[],[]⟩,
 ⟨9,[true,true,false,true,false],[.val 3 (bP),.val 4 (bP),.val 7 (cH),.val 8 (bP),.val 9 (bP)]⟩,
 ⟨10,[],[]⟩,
 ⟨10,[true,true,false,true,false],[.val 0 (cH),.val 3 (bP),.val 4 (bP),.val 5 (bP)]⟩,
 ⟨11,[],[]⟩,
 ⟨12,[],[]⟩,
 ⟨13,[],[]⟩,
 ⟨14,[],[]⟩,
 ⟨15,[],[]⟩,
 ⟨15,[true,true,true,false,true,false],[.val 0 (cH),.val 1 (bP),.val 7 (bP),.val 8 (bP)]⟩,
 ⟨16,[],[]⟩,
 ⟨16,[true,true,false,true,false],[.val 0 (cH),.val 3 (bP),.val 4 (bP)]⟩,
 ⟨17,[],[]⟩,
 ⟨17,[true,true,true],[.ptr 2 32,.ptr 3 48,.slot 0 (BT7) true none,.slot 32 (BT2) true none,.slot 48 (BT2) true none]⟩,
 ⟨17,[true,true,false,true,false,true,true,true,true,true,true,true,true,true,false,false],[.ptr 0 0,.ptr 2 32,.ptr 3 48,.slot 0 (BT7) true none,.slot 32 (BT2) true none,.slot 48 (BT2) true none]⟩,
 ⟨18,[],[]⟩,
 ⟨18,[true,true,true,false,false],[.val 0 (bP),.own 3 48 (dD)]⟩,
 ⟨19,[],[]⟩,
 ⟨20,[],[]⟩,
 ⟨20,[true,true,false,true,false],[.ptr 0 0,.own 3 48 (dD),.val 4 (bP),.slot 0 (BT7) true none]⟩,
 ⟨20,[true,true,true,true],[.ptr 0 0,.own 3 48 (dD),.slot 0 (BT7) true none]⟩,
 ⟨21,[],[]⟩,
 ⟨21,[true,true,true,true,true,false,true,false],[.ptr 1 16,.own 3 48 (dD),.val 4 (bP),.slot 16 (BT6) true none]⟩,
 ⟨22,[],[]⟩,
 ⟨22,[true,true,true,false,false],[.val 0 (bP),.own 3 48 (dD)]⟩,
 ⟨23,[],[]⟩,
 ⟨24,[],[]⟩,
 ⟨25,[],[]⟩,
 ⟨26,[],[]⟩,
 ⟨27,[],[]⟩,
 ⟨28,[],[]⟩,
 ⟨28,[true,false,true,false],[.val 0 (gY),.val 1 (bP),.val 5 (bP)]⟩,
 ⟨29,[],[]⟩,
 ⟨30,[],[]⟩,
 ⟨30,[true,true,false,true,false],[.ptr 0 0,.own 3 48 (dD),.val 4 (bP),.slot 0 (BT7) true none]⟩,
 ⟨31,[],[]⟩,
 ⟨32,[],[]⟩,
 ⟨33,[],[]⟩,
 ⟨33,[true,true,true,true,true,false,true,false],[.ptr 0 0,.ptr 2 32,.ptr 3 48,.val 19 (bP),.val 20 (bP),.slot 0 (BT8) true none,.slot 32 (BT2) true none,.slot 48 (BT2) true none]⟩,
 ⟨34,[],[]⟩,
 ⟨34,[true,true,false,true,false],[.val 0 (cH),.val 1 (cH),.val 12 (bP),.val 13 (bP)]⟩,
 ⟨35,[],[]⟩,
 ⟨35,[true,true,false,true,false],[.val 0 (cH),.val 1 (bP),.val 7 (bP),.val 8 (bP)]⟩,
 ⟨36,[],[]⟩,
 ⟨36,[true,true,true,true,true,true,true,false,true,false],[.ptr 0 0,.ptr 2 32,.ptr 3 48,.val 4 (bP),.val 5 (bP),.slot 0 (BT9) true none,.slot 32 (BT2) true none,.slot 48 (BT2) true none]⟩,
 ⟨37,[],[]⟩,
 ⟨38,[],[]⟩,
 ⟨39,[],[]⟩,
 ⟨40,[],[]⟩,
 ⟨41,[],[]⟩,
 ⟨42,[],[]⟩,
 ⟨43,[],[]⟩,
 ⟨44,[],[]⟩,
 ⟨45,[],[]⟩,
 ⟨46,[],[]⟩,
 ⟨46,[true,true,true,false,true,false],[.ptr 1 16,.ptr 3 48,.own 4 64 (dD),.val 5 (bP),.slot 16 (fG) true none,.slot 48 (em) true none]⟩,
 ⟨46,[true,true,true,true,true,false,true,false],[.ptr 1 16,.ptr 3 48,.own 4 64 (dD),.val 6 (bP),.slot 16 (fG) true none,.slot 48 (em) true none]⟩,
 ⟨46,[true,true,true,true,true,true,true,true,false,true,false],[.ptr 1 16,.own 4 64 (dD),.val 7 (bP),.slot 16 (fG) true none]⟩,
 ⟨47,[],[]⟩,
 ⟨47,[true,true,true,false,true,false],[.ptr 0 0,.val 1 (bP),.own 7 112 (.leaf true (.sl (.nm 1))),.val 8 (bP),.val 9 (bP),.slot 0 (BT7) true none]⟩,
 ⟨48,[],[]⟩,
 ⟨49,[],[]⟩,
 ⟨50,[],[]⟩,
 ⟨51,[],[]⟩,
 ⟨52,[],[]⟩,
 ⟨53,[],[]⟩,
 ⟨53,[true,true,false,true,false],[.ptr 0 0,.val 3 (BT0),.val 4 (bP),.slot 0 (BT7) true none]⟩,
 ⟨54,[],[]⟩,
 ⟨55,[],[]⟩,
 ⟨55,[true,false,true,false],[.clo 1 59 [16],.val 0 (gY),.val 7 (bP),.val 8 (bP),.slot 16 (.leaf true (.int .i64)) true none]⟩,
 ⟨56,[],[]⟩,
 ⟨56,[true,false,true,false],[.val 0 (BT0),.val 3 (bP)]⟩,
 ⟨57,[],[]⟩,
 ⟨58,[],[]⟩,
 ⟨58,[true,true,true,false,true,false],[.ptr 0 0,.own 5 80 (.leaf true (.sl (.nm 2))),.val 6 (bP),.val 7 (bP),.slot 0 (BT7) true none]⟩,
 ⟨59,[],[]⟩,
 ⟨59,[true,true,true,false,true,false],[.ptr 2 32,.ptr 4 64,.ptr 5 80,.val 1 (sL),.val 6 (bP),.slot 32 (eJ) true none,.slot 64 (.leaf true (.nm 11)) true none,.slot 80 (fG) true none]⟩,
 ⟨60,[],[]⟩,
 ⟨61,[],[]⟩,
 ⟨62,[],[]⟩,
 ⟨63,[],[]⟩,
 ⟨64,[],[]⟩,
 ⟨65,[],[]⟩,
 ⟨66,[],[]⟩,
 ⟨66,[true,false,true,false],[.ptr 1 16,.val 3 (bP),.slot 16 (eJ) true none]⟩,
 ⟨66,[true,true,false,true,false],[.ptr 1 16,.val 4 (bP),.slot 16 (eJ) true none]⟩,
 ⟨67,[],[]⟩,
 ⟨68,[],[]⟩,
 ⟨69,[],[]⟩,
 ⟨70,[],[]⟩,
 ⟨71,[],[]⟩,
 ⟨72,[],[]⟩,
 ⟨72,[true,true,true,true,true,true,true,false,false],[.ptr 7 368,.val 4 (eQ),.own 8 128 (.sp (.nm 15)),.val 9 (bP),.slot 368 (.pr (pV) (.pr (bP) (.pr (bP) (.pr (BT1) (.pr (cj) (.un)))))) true none]⟩,
 ⟨73,[],[]⟩,
 ⟨73,[true,true,true,true,true,true,false,true,false],[.ptr 2 32,.ptr 7 432,.ptr 8 496,.val 0 (eQ),.val 5 (dd),.val 6 (dd),.val 9 (bP),.slot 32 (.leaf true (.nm 6)) true none,.slot 432 (cY) true none,.slot 496 (cY) true none]⟩,
 ⟨74,[],[]⟩,
 ⟨74,[true,false,true,false],[.val 0 (BT0),.val 3 (bP)]⟩,
 ⟨75,[],[]⟩,
 ⟨75,[true,false,true,false],[.val 0 (dd),.val 1 (BT0),.val 5 (bP)]⟩,
 ⟨76,[],[]⟩,
 ⟨76,[true,true,true,false,true,false],[.val 0 (pU),.val 1 (bP),.val 2 (bP),.val 7 (bP),.val 8 (bP)]⟩,
 ⟨77,[],[]⟩,
 ⟨78,[],[]⟩,
 ⟨79,[],[]⟩,
 ⟨80,[],[]⟩,
 ⟨80,[true,true,true,true],[.ptr 3 48,.ptr 4 64,.ptr 6 96,.ptr 8 272,.slot 48 (eJ) true none,.slot 64 (em) true none,.slot 96 (BT3) true none,.slot 272 (pQ) true none]⟩,
 ⟨81,[],[]⟩,
 ⟨82,[],[]⟩,
 ⟨82,[true,true,true,true,false,false],[.val 0 (BT0),.own 4 64 (.leaf true (.sl (.nm 14))),.val 5 (bP)]⟩,
 ⟨82,[true,true,true,true,false,false,false,true,false,true,false,true,false,false,false],[.val 0 (BT0),.own 4 64 (.leaf true (.sl (.nm 14))),.val 5 (bP)]⟩,
 ⟨83,[],[]⟩,
 ⟨84,[],[]⟩,
 ⟨85,[],[]⟩,
 ⟨85,[true,true,false,true,false],[.ptr 1 16,.val 3 (bP),.val 4 (bP),.slot 16 (cj) true none]⟩,
 ⟨86,[],[]⟩,
 ⟨87,[],[]⟩,
 ⟨87,[true,true,false,true,false],[.val 0 (eQ),.val 3 (bP)]⟩,
 ⟨87,[true,true,true,true,true,false,true,false],[.val 0 (eQ),.val 4 (dd),.val 5 (dd),.val 6 (bP)]⟩,
 ⟨87,[true,true,true,true,true,true,false,true,false],[.val 0 (eQ),.val 7 (bP)]⟩,
 ⟨87,[true,true,true,true,true,true,true,false,true,false],[.val 0 (eQ),.val 8 (bP)]⟩,
 ⟨88,[],[]⟩,
 ⟨88,[true,true,false,true,false],[.val 0 (eQ),.val 4 (dd),.val 5 (dd),.val 6 (bP)]⟩,
 ⟨89,[],[]⟩,
 ⟨89,[true,true,false],[.ptr 0 0,.ptr 3 48,.val 4 (bP),.slot 0 (cY) true none,.slot 48 (cj) true none]⟩,
 ⟨90,[],[]⟩,
 ⟨90,[true,true,false,true],[.ptr 0 0,.ptr 3 48,.val 6 (bP),.val 24 (BT1),.slot 0 (cY) true none,.slot 48 (cj) true none]⟩,
 ⟨90,[true,true,false,true,true,true,true,true,true,true,true,false,true,false],[.ptr 0 0,.ptr 3 48,.val 4 (bP),.slot 0 (cY) true none,.slot 48 (cj) true none]⟩,
 ⟨91,[],[]⟩,
 ⟨92,[],[]⟩,
 ⟨93,[],[]⟩,
 ⟨94,[],[]⟩,
 ⟨94,[true,false,true,false,true,true,true,true,true],[.ptr 4 64,.val 1 (bP),.val 2 (bP),.val 3 (bP),.val 12 (bP),.val 28 (BT1),.slot 64 (BT4) true none]⟩,
 ⟨94,[true,false,true,false,true,true,true,true,true,true,true],[.ptr 4 64,.val 1 (bP),.val 3 (bP),.val 12 (bP),.val 46 (BT1),.slot 64 (BT4) true none]⟩,
 ⟨94,[true,false,true,false,true,true,true,true,true,true,true,true,true],[.ptr 4 64,.val 1 (bP),.val 12 (bP),.val 65 (BT1),.slot 64 (BT4) true none]⟩,
 ⟨94,[true,false,true,false,true,true,true,true,true,true,true,true,true,true,true,true,true],[.ptr 4 64,.val 1 (bP),.val 12 (bP),.val 91 (BT1),.slot 64 (BT4) true none]⟩,
 ⟨95,[],[]⟩,
 ⟨96,[],[]⟩,
 ⟨96,[true,true,true,false],[.ptr 0 0,.ptr 4 176,.wrd 176 0,.val 1 (pU),.val 5 (bP),.val 6 (bP),.slot 0 (pQ) true none,.slot 176 (eO) true none]⟩,
 ⟨97,[],[]⟩,
 ⟨98,[],[]⟩,
 ⟨99,[],[]⟩,
 ⟨99,[true,true,true,false,true,false],[.val 0 (BT0),.own 3 48 (wH),.val 4 (bP),.val 5 (bP)]⟩,
 ⟨100,[],[]⟩,
 ⟨101,[],[]⟩,
 ⟨102,[],[]⟩,
 ⟨102,[true,true,false,false,true,false,true,false,false],[.ptr 6 96,.val 0 (BT0),.val 1 (bP),.val 10 (bP),.slot 96 (.leaf true (.nm 14)) true none]⟩,
 ⟨103,[],[]⟩,
 ⟨104,[],[]⟩,
 ⟨105,[],[]⟩,
 ⟨105,[true,true,true,false,false],[.ptr 0 0,.ptr 2 32,.ptr 3 48,.slot 0 (ck) true none,.slot 32 (gZ) true none,.slot 48 (gZ) true none]⟩,
 ⟨106,[],[]⟩,
 ⟨107,[],[]⟩,
 ⟨107,[true,true,false,true,false,true,true,true],[.ptr 0 0,.ptr 2 32,.ptr 4 64,.val 5 (bP),.slot 0 (ck) true none,.slot 32 (gZ) true none,.slot 64 (cj) true none]⟩,
 ⟨108,[],[]⟩,
 ⟨109,[],[]⟩,
 ⟨109,[true,false,true,false],[.val 0 (eQ),.val 3 (bP)]⟩,
 ⟨110,[],[]⟩,
 ⟨110,[true,true,false,true,false],[.ptr 1 16,.val 3 (bP),.slot 16 (cj) true none]⟩,
 ⟨111,[],[]⟩,
 ⟨111,[true,true,true],[.ptr 1 16,.val 3 (bP),.slot 16 (cj) true none]⟩,
 ⟨111,[true,true,true,false,true,false],[.ptr 1 16,.val 3 (bP),.val 4 (bP),.slot 16 (cj) true none]⟩,
 ⟨112,[],[]⟩,
 ⟨112,[true,true,true,false,true,false],[.ptr 1 16,.val 5 (bP),.slot 16 (cj) true none]⟩,
 ⟨113,[],[]⟩,
 ⟨113,[true,true],[.ptr 3 48,.val 1 (dd),.val 2 (dd),.slot 48 (cj) true none]⟩,
 ⟨113,[true,true,false,true,false],[.ptr 3 48,.val 1 (dd),.val 2 (dd),.val 8 (bP),.slot 48 (cj) true none]⟩,
 ⟨114,[],[]⟩,
 ⟨115,[],[]⟩,
 ⟨116,[],[]⟩,
 ⟨117,[],[]⟩,
 ⟨118,[],[]⟩,
 ⟨119,[],[]⟩,
 ⟨120,[],[]⟩,
 ⟨121,[],[]⟩,
 ⟨122,[],[]⟩,
 ⟨122,[true,true,true,true,true,true],[.wrd 0 1,.val 2 (bP),.slot 0 (.pr (.leaf false .ptr) (.pr (.leaf true (.sl (.nm 9))) (.un))) true none,.slot 1 (dw) true none]⟩,
 ⟨122,[true,true,true,true,true,false,true,false,true,true,true,true,true,true,true,true,true,true,true,true,true],[.ptr 0 0,.ptr 4 64,.wrd 0 1,.val 2 (bP),.val 9 (jL),.val 93 (BT1),.slot 0 (eO) true none,.slot 1 (pQ) true none,.slot 64 (BT4) true none]⟩,
 ⟨123,[],[]⟩,
 ⟨124,[],[]⟩,
 ⟨125,[],[]⟩,
 ⟨125,[true,true,false,false],[.val 0 (BT0),.val 1 (bP),.val 7 (bP)]⟩,
 ⟨125,[true,true,true,false,true,false,true,true,false,false],[.val 0 (BT0),.val 1 (bP),.val 7 (bP),.val 8 (bP)]⟩,
 ⟨125,[true,true,true,true],[.val 0 (BT0),.val 1 (bP),.val 7 (bP)]⟩,
 ⟨126,[],[]⟩,
 ⟨126,[true,true,false,true,false],[.val 0 (BT0),.own 7 112 (dD),.val 8 (bP)]⟩,
 ⟨127,[],[]⟩,
 ⟨128,[],[]⟩,
 ⟨128,[true,true,false,true,false],[.val 0 (BT0),.own 7 112 (dD),.val 8 (bP)]⟩,
 ⟨129,[],[]⟩,
 ⟨129,[true,true,false,true,false],[.val 0 (BT0),.val 1 (bP),.val 5 (dd),.val 6 (bP)]⟩,
 ⟨130,[],[]⟩,
 ⟨131,[],[]⟩,
 ⟨132,[],[]⟩,
 ⟨133,[],[]⟩,
 ⟨134,[],[]⟩,
 ⟨134,[true,true,false,true,false,true,true,true,true,true,true,true],[.ptr 1 16,.val 23 (bP),.val 44 (BT1),.slot 16 (cj) true none]⟩,
 ⟨135,[],[]⟩,
 ⟨136,[],[]⟩,
 ⟨136,[true,true,true,false,false],[.val 0 (dd),.val 1 (BT0),.val 5 (bP)]⟩,
 ⟨137,[],[]⟩,
 ⟨137,[true,true],[.ptr 0 0,.ptr 3 48,.slot 0 (cY) true none,.slot 48 (cj) true none]⟩,
 ⟨137,[true,true,false,true,false],[.ptr 0 0,.ptr 3 48,.val 4 (bP),.slot 0 (cY) true none,.slot 48 (cj) true none]⟩,
 ⟨138,[],[]⟩,
 ⟨139,[],[]⟩,
 ⟨140,[],[]⟩,
 ⟨140,[true,false,true,false],[.val 0 (dd),.val 1 (BT0),.val 5 (bP)]⟩,
 ⟨141,[],[]⟩,
 ⟨142,[],[]⟩,
 ⟨142,[true,true,false,false],[.ptr 0 0,.ptr 4 64,.val 1 (bP),.own 5 80 (.leaf true (.sl (.nm 18))),.slot 0 (fe) true none,.slot 64 (dg) true none]⟩,
 ⟨143,[],[]⟩,
 ⟨143,[true,true,false,true,false],[.ptr 1 16,.val 3 (bP),.val 4 (bP),.slot 16 (ff) true none]⟩,
 ⟨144,[],[]⟩,
 ⟨144,[true,false,true,false,true],[.ptr 1 16,.val 4 (bP),.val 5 (BT1),.slot 16 (BT4) true none]⟩,
 ⟨145,[],[]⟩,
 ⟨145,[true,false,true,false,true],[.ptr 1 16,.val 4 (bP),.val 5 (BT1),.slot 16 (BT5) true none]⟩,
 ⟨146,[],[]⟩,
 ⟨147,[],[]⟩,
 ⟨148,[],[]⟩,
 ⟨149,[],[]⟩,
 ⟨149,[true,true,true,true],[.ptr 0 0,.ptr 6 1,.ptr 7 112,.wrd 0 1,.slot 0 (eO) true none,.slot 1 (dw) true none,.slot 112 (BT5) true none]⟩,
 ⟨150,[],[]⟩,
 ⟨151,[],[]⟩,
 ⟨151,[true,true,false,false],[.val 0 (BT0),.val 4 (bP)]⟩,
 ⟨151,[true,true,true,true,true],[.val 0 (BT0),.val 4 (bP),.val 5 (BT1)]⟩,
 ⟨151,[true,true,true,true,true,true,false,false],[.val 0 (BT0),.val 4 (bP),.val 5 (BT1),.val 6 (bP),.val 7 (bP)]⟩,
 ⟨151,[true,true,true,true,true,true,true,false,true,false,true,true,false],[.val 0 (BT0),.val 4 (bP),.val 5 (BT1),.val 6 (bP),.val 7 (bP),.val 8 (bP)]⟩,
 ⟨151,[true,true,true,true,true,true,true,true],[.val 4 (bP),.val 5 (BT1),.val 6 (bP),.val 7 (bP)]⟩,
 ⟨152,[],[]⟩,
 ⟨153,[],[]⟩,
 ⟨154,[],[]⟩,
 ⟨154,[true,false,false,true,false,true,true,false,false],[.ptr 0 0,.ptr 2 32,.ptr 3 48,.slot 0 (ck) true none,.slot 32 (gZ) true none,.slot 48 (gZ) true none]⟩,
 ⟨155,[],[]⟩,
 ⟨155,[true,true,false,false],[.ptr 0 0,.val 1 (BT0),.own 5 80 (.sp (.nm 12)),.slot 0 (ck) true none]⟩,
 ⟨156,[],[]⟩,
 ⟨157,[],[]⟩,
 ⟨157,[true,true,true,false,true,false],[.ptr 0 0,.ptr 2 32,.ptr 4 64,.val 3 (dd),.val 5 (bP),.slot 0 (ck) true none,.slot 32 (gZ) true none,.slot 64 (cj) true none]⟩,
 ⟨158,[],[]⟩,
 ⟨158,[true,true,false,false],[.ptr 0 0,.ptr 2 32,.ptr 3 48,.slot 0 (ck) true none,.slot 32 (gZ) true none,.slot 48 (cj) true none]⟩,
 ⟨159,[],[]⟩,
 ⟨160,[],[]⟩,
 ⟨160,[true,true,true,true,false,false],[.ptr 0 0,.ptr 4 64,.ptr 7 112,.val 1 (bP),.val 5 (sM),.val 6 (sN),.slot 0 (ck) true none,.slot 64 (cj) true none,.slot 112 (cj) true none]⟩,
 ⟨160,[true,true,true,true,false,false,false,true,false,true,false,false],[.ptr 0 0,.ptr 4 64,.ptr 7 112,.val 1 (bP),.val 5 (sM),.val 6 (sN),.val 8 (bP),.slot 0 (ck) true none,.slot 64 (cj) true none,.slot 112 (cj) true none]⟩,
 ⟨160,[true,true,true,true,false,false,false,true,false,true,true,true,true,true,true],[.ptr 0 0,.ptr 4 64,.ptr 7 112,.val 1 (bP),.val 5 (sM),.val 6 (sN),.val 8 (bP),.slot 0 (ck) true none,.slot 64 (cj) true none,.slot 112 (cj) true none]⟩,
 ⟨161,[],[]⟩,
 ⟨161,[true,true,false,true,false,true],[.ptr 1 16,.val 3 (bP),.val 9 (bP),.val 10 (BT1),.slot 16 (cj) true none]⟩,
 ⟨161,[true,true,false,true,false,true,true,true],[.ptr 1 16,.val 3 (bP),.val 9 (bP),.val 23 (BT1),.slot 16 (cj) true none]⟩,
 ⟨161,[true,true,false,true,false,true,true,true,true,true],[.ptr 1 16,.val 3 (bP),.val 9 (bP),.val 45 (BT1),.slot 16 (cj) true none]⟩,
 ⟨161,[true,true,false,true,false,true,true,true,true,true,true,true],[.ptr 1 16,.val 3 (bP),.val 9 (bP),.val 70 (BT1),.slot 16 (cj) true none]⟩,
 ⟨161,[true,true,false,true,false,true,true,true,true,true,true,true,true,true,true,true,true,true,false,false,true,false],[.ptr 1 16,.val 3 (bP),.val 4 (bP),.slot 16 (cj) true none]⟩,
 ⟨162,[],[]⟩,
 ⟨162,[true,false,true,false],[.val 0 (BT0),.val 3 (bP)]⟩,
 ⟨163,[],[]⟩,
 ⟨163,[true,true,false,false],[.ptr 0 0,.ptr 4 64,.val 1 (bP),.own 5 80 (.leaf true (.sl (.nm 18))),.slot 0 (fe) true none,.slot 64 (dg) true none]⟩,
 ⟨164,[],[]⟩,
 ⟨165,[],[]⟩,
 ⟨165,[true,true,true,true,true,false,true,false,true,false,false],[.val 0 (bP),.val 4 (BT0),.val 6 (BT0)]⟩,
 ⟨165,[true,true,true,true,true,true],[.val 0 (bP),.val 4 (BT0)]⟩,
 ⟨166,[],[]⟩,
 ⟨167,[],[]⟩,
 ⟨167,[true,false,true,false,true],[.ptr 1 16,.val 6 (bP),.val 7 (BT1),.slot 16 (BT5) true none]⟩,
 ⟨168,[],[]⟩,
 ⟨168,[true,true,true],[.ptr 0 0,.ptr 8 128,.val 9 (bP),.val 10 (BT1),.slot 0 (pQ) true none,.slot 128 (BT5) true none]⟩,
 ⟨169,[],[]⟩,
 ⟨170,[],[]⟩,
 ⟨171,[],[]⟩,
 ⟨172,[],[]⟩,
 ⟨173,[],[]⟩,
 ⟨174,[],[]⟩,
 ⟨175,[],[]⟩,
 ⟨176,[],[]⟩,
 ⟨177,[],[]⟩,
 ⟨178,[],[]⟩,
 ⟨179,[],[]⟩,
 ⟨180,[],[]⟩,
 ⟨181,[],[]⟩,
 ⟨181,[true,true,true,false,true,false,true],[.ptr 3 48,.val 12 (bP),.val 13 (BT1),.slot 0 (ck) true none,.slot 48 (.leaf true (.nm 14)) true none]⟩,
 ⟨182,[],[]⟩,
 ⟨183,[],[]⟩,
 ⟨183,[true,false,true,false],[.ptr 3 48,.val 2 (bP),.val 7 (bP),.slot 48 (cj) true none]⟩,
 ⟨184,[],[]⟩,
 ⟨184,[true,false,true,false],[.ptr 2 32,.val 5 (bP),.slot 32 (cj) true none]⟩,
 ⟨185,[],[]⟩,
 ⟨185,[true,true,false,false],[.ptr 0 0,.ptr 4 64,.ptr 5 80,.slot 0 (fe) true none,.slot 64 (dg) true none,.slot 80 (dg) true none]⟩,
 ⟨185,[true,true,false,false,false,true,false,true,true],[.ptr 0 0,.ptr 4 64,.ptr 5 80,.val 6 (bP),.slot 0 (fe) true none,.slot 64 (dg) true none,.slot 80 (dg) true none]⟩,
 ⟨186,[],[]⟩,
 ⟨187,[],[]⟩,
 ⟨187,[true,true,true,false,false],[.val 0 (bP),.val 3 (BT0)]⟩,
 ⟨188,[],[]⟩,
 ⟨189,[],[]⟩,
 ⟨190,[],[]⟩,
 ⟨191,[],[]⟩,
 ⟨192,[],[]⟩,
 ⟨192,[true,false,true,false],[.ptr 3 48,.val 1 (bP),.val 2 (BT0),.val 7 (bP),.slot 48 (em) true none]⟩,
 ⟨193,[],[]⟩,
 ⟨193,[true,true,true,true,true,true,false,false],[.ptr 4 64,.ptr 7 112,.ptr 8 128,.ptr 10 160,.val 1 (bP),.val 2 (BT0),.val 11 (bP),.slot 64 (em) true none,.slot 112 (BT5) true none,.slot 128 (BT3) true none,.slot 160 (BT3) true none]⟩,
 ⟨194,[],[]⟩,
 ⟨194,[true,true],[.ptr 2 32,.val 0 (BT0),.slot 32 (BT5) true none]⟩,
 ⟨195,[],[]⟩,
 ⟨196,[],[]⟩,
 ⟨197,[],[]⟩,
 ⟨198,[],[]⟩,
 ⟨199,[],[]⟩,
 ⟨199,[true,true,true,true,true],[.ptr 4 64,.val 5 (eP),.slot 0 (fe) true none,.slot 64 (dg) true none]⟩,
 ⟨200,[],[]⟩,
 ⟨201,[],[]⟩,
 ⟨202,[],[]⟩,
 ⟨202,[true,true,true,false,false],[.val 0 (BT0),.val 4 (bP),.val 5 (bP)]⟩,
 ⟨203,[],[]⟩,
 ⟨204,[],[]⟩,
 ⟨204,[true,false,true,false],[.val 0 (eR),.val 1 (BT0),.val 7 (bP)]⟩,
 ⟨205,[],[]⟩,
 ⟨206,[],[]⟩,
 ⟨206,[true,false,true,false],[.val 0 (BT0),.val 1 (BT0),.val 5 (bP)]⟩,
 ⟨207,[],[]⟩,
 ⟨207,[true,true,false,true,false],[.val 1 (eP),.val 2 (eP),.own 7 112 (dD),.val 8 (bP)]⟩,
 ⟨208,[],[]⟩,
 ⟨208,[true,true,true,true,true],[.val 3 (BT0),.val 4 (bP),.val 5 (bP)]⟩,
 ⟨209,[],[]⟩,
 ⟨209,[true,true,true],[.ptr 0 0,.ptr 2 32,.ptr 3 48,.slot 0 (fe) true none,.slot 32 (dg) true none,.slot 48 (dg) true none]⟩,
 ⟨209,[true,true,true,true,true,false,false],[.ptr 0 0,.ptr 2 32,.ptr 3 48,.own 4 64 (iU),.val 5 (bP),.slot 0 (fe) true none,.slot 32 (dg) true none,.slot 48 (dg) true none]⟩,
 ⟨209,[true,true,true,true,true,false,false,false,true,false,true,true,true,true],[.ptr 0 0,.ptr 2 32,.ptr 3 48,.own 4 64 (iU),.val 5 (bP),.val 6 (bP),.val 7 (bP),.slot 0 (fe) true none,.slot 32 (dg) true none,.slot 48 (dg) true none]⟩,
 ⟨209,[true,true,true,true,true,true,true],[.ptr 0 0,.ptr 2 32,.ptr 3 48,.val 4 (pT),.slot 0 (fe) true none,.slot 32 (dg) true none,.slot 48 (dg) true none]⟩,
 ⟨209,[true,true,true,true,true,false,false,false,true,false,true,true,true,true,true],[.ptr 0 0,.ptr 2 32,.ptr 3 48,.own 4 64 (iU),.val 5 (bP),.val 6 (bP),.val 7 (bP),.slot 0 (fe) true none,.slot 32 (dg) true none,.slot 48 (dg) true none]⟩,
 ⟨209,[true,true,true,true,true,true,true,true,true,false,true,false],[.ptr 2 32,.ptr 3 48,.val 4 (pT),.own 9 144 (dD),.val 10 (bP),.slot 0 (fe) true none,.slot 32 (dg) true none,.slot 48 (dg) true none]⟩,
 ⟨209,[true,true,true,true,true,false,false,false,true,false,true,true,true,true,true,false,true,false],[.ptr 0 0,.ptr 2 32,.ptr 3 48,.own 4 64 (iU),.val 5 (bP),.val 7 (bP),.val 8 (bP),.slot 0 (fe) true none,.slot 32 (dg) true none,.slot 48 (dg) true none]⟩,
 ⟨210,[],[]⟩,
 ⟨211,[],[]⟩,
 ⟨211,[true,true,false,true,false,true,true,true,true,true,true,true,true,true,true,true,false,true,false],[.ptr 3 48,.own 0 2064 (fV),.val 6 (bP),.slot 48 (ff) true none]⟩,
 ⟨211,[true,true,true],[.own 0 2064 (fV)]⟩,
 ⟨212,[],[]⟩,
 ⟨213,[],[]⟩,
 ⟨213,[true,true,true,true,false,true,false],[.val 0 (eR),.val 1 (BT0),.val 7 (gt),.val 8 (bP),.val 9 (bP)]⟩,
 ⟨213,[true,true,true,true,false,true,false,false,true,false,false,true],[.val 0 (eR),.val 1 (BT0),.val 7 (gt),.val 8 (bP),.val 9 (bP)]⟩,
 ⟨213,[true,true,true,true,false,true,false,false,true,false,false,true,true,true,false,true,false],[.val 0 (eR),.val 1 (BT0),.val 7 (gt),.val 8 (bP),.val 9 (bP),.own 10 160 (jM),.val 11 (bP)]⟩,
 ⟨214,[],[]⟩,
 ⟨214,[true,false,true,false],[.ptr 1 16,.val 3 (bP),.slot 16 (ff) true none]⟩,
 ⟨214,[true,true,true,false,true,false,true,true,true,true,true],[.ptr 1 16,.val 4 (bP),.val 23 (bP),.val 62 (BT1),.slot 16 (ff) true none]⟩,
 ⟨214,[true,true,true,false,true,false,true,true,true,true,true,true,true],[.ptr 1 16,.val 4 (bP),.val 82 (BT1),.slot 16 (ff) true none]⟩,
 ⟨215,[],[]⟩,
 ⟨215,[true,true,false,true,false],[.own 0 1104 (fV),.val 1 (.leaf false (.sl (.nm 18))),.own 5 80 (jM),.val 6 (bP)]⟩,
 ⟨215,[true,true,true,true,false,true,false],[.own 0 1104 (fV),.val 5 (gt),.val 8 (bP)]⟩,
 ⟨216,[],[]⟩,
 ⟨216,[true,true,false,true,false],[.val 0 (eR),.val 3 (bP),.val 4 (bP)]⟩,
 ⟨217,[],[]⟩,
 ⟨217,[true,true,false,true,false],[.val 0 (eR),.val 1 (gt),.val 2 (BT1),.val 3 (BT1),.own 9 144 (iU),.val 10 (bP)]⟩,
 ⟨218,[],[]⟩,
 ⟨219,[],[]⟩,
 ⟨219,[true,false,true,false],[.val 0 (BT0),.val 3 (bP)]⟩,
 ⟨220,[],[]⟩,
 ⟨220,[true,true],[.ptr 2 32,.val 1 (bP),.val 5 (BT1),.slot 32 (pR) true none]⟩,
 ⟨220,[true,true,true],[.ptr 2 32,.val 1 (bP),.val 5 (BT1),.val 6 (BT1),.slot 32 (pR) true none]⟩,
 ⟨220,[true,true,true,true],[.ptr 2 32,.val 1 (bP),.val 5 (BT1),.val 6 (BT1),.val 7 (BT1),.slot 32 (pR) true none]⟩,
 ⟨220,[true,true,true,true,true],[.ptr 2 32,.val 5 (BT1),.val 6 (BT1),.val 7 (BT1),.val 8 (BT1),.slot 32 (pR) true none]⟩,
 ⟨220,[true,true,true,true,true,true],[.val 4 (BT1)]⟩,
 ⟨221,[],[]⟩,
 ⟨221,[true,false],[.val 0 (eR),.own 1 16 (iU),.val 3 (BT1),.val 4 (BT1),.own 10 160 (jM)]⟩,
 ⟨222,[],[]⟩,
 ⟨222,[true,true,false,true,false],[.val 0 (pT),.own 3 48 (jM),.val 4 (bP)]⟩,
 ⟨223,[],[]⟩,
 ⟨223,[true,false,true,false],[.val 0 (BT0),.val 1 (eP),.val 5 (bP)]⟩]
def entR:List EntI:=[
 ⟨5,.skip,[],[.val (cH)],[BT1],[],[(34,1),(36,1),(38,1),(40,1),(44,1),(71,1),(77,1),(84,1),(100,1),(120,1),(122,1),(155,1),(191,1)],0,[(524282,1)],false⟩,
 ⟨6,.skip,[],[.val (cH)],[BT1],[],[],0,[],false⟩,
 ⟨15,.skip,[],[.val (cH)],[BT6],[],[(4,1),(5,1)],0,[],false⟩,
 ⟨10,.skip,[],[.val (BT6)],[dD],[],[(28,1),(36,1),(55,1),(63,1),(70,1),(76,1),(97,1)],0,[(122,5),(250,6),(128202,7)],false⟩,
 ⟨16,.skip,[],[.val (cH)],[BT6],[],[(4,1),(5,1)],0,[],false⟩,
 ⟨17,.skip,[],[.val (cH)],[cH],[],[(4,1),(5,1)],0,[],false⟩,
 ⟨18,.skip,[],[.val (BT6)],[dD],[],[(10,1),(18,1)],0,[],false⟩,
 ⟨19,.skip,[],[.val (BT6)],[BT1],[],[],0,[],false⟩,
 ⟨20,.skip,[],[.val (BT6)],[BT1],[],[],0,[],false⟩,
 ⟨21,.skip,[],[.val (cH)],[bP],[],[],0,[(58,14)],false⟩,
 ⟨22,.skip,[],[.val (cH)],[bP],[],[],0,[(58,16)],false⟩,
 ⟨12,.skip,[],[.val (cH)],[cH,bP],[],[(7,1),(10,1),(13,1),(15,1),(20,1)],0,[],false⟩,
 ⟨13,.skip,[],[.val (cH),.val (bP)],[BT2,bP,BT1],[],[(38,1),(60,1)],0,[],false⟩,
 ⟨14,.skip,[],[.val (cH),.val (bP)],[BT6,bP,BT1],[],[(31,1),(39,1),(52,1),(54,1),(57,1),(77,1)],0,[],false⟩,
 ⟨11,.skip,[],[.val (cH),.val (bP)],[bP],[],[],0,[],false⟩,
 ⟨23,.skip,[],[.val (cH),.val (bP)],[bP,bP,BT1],[],[],0,[(122,22)],false⟩,
 ⟨24,.skip,[],[.val (cH)],[.pr (.hole 0) (BT7)],[],[(30,1)],0,[(58,24)],false⟩,
 ⟨36,.skip,[],[.ptr (BT7) (BT7)],[BT6],[(0,.box)],[(17,1),(23,1),(37,1),(53,1)],0,[(15,26),(120828,27)],false⟩,
 ⟨27,.skip,[],[.val (bP)],[dD],[],[(15,1),(22,1)],0,[(60,29)],false⟩,
 ⟨28,.skip,[],[.val (BT0)],[cH],[],[],0,[],false⟩,
 ⟨37,.skip,[],[.ptr (BT7) (BT7)],[cH],[(0,.box)],[(14,1),(16,1),(22,1),(28,1),(34,1),(37,1)],0,[(58,32),(31,33)],false⟩,
 ⟨38,.skip,[],[.val (BT6)],[cH],[],[(11,1),(17,1),(22,1),(28,1),(45,1),(52,1),(58,1),(64,1),(69,1)],0,[(506,35)],false⟩,
 ⟨39,.skip,[],[.val (bP)],[dD],[],[(16,1),(23,1)],0,[(60,37)],false⟩,
 ⟨34,.skip,[],[.val (cH)],[cH],[],[(17,1)],0,[],false⟩,
 ⟨40,.skip,[],[.val (bP)],[BT1],[],[],0,[],false⟩,
 ⟨41,.skip,[],[.val (gY),.val (bP)],[BT1],[],[],0,[],false⟩,
 ⟨42,.skip,[],[.val (bP)],[BT1],[],[],0,[],false⟩,
 ⟨43,.skip,[],[.val (bP),.val (bP),.val (bP)],[BT1],[],[],0,[],false⟩,
 ⟨44,.skip,[],[.val (gY),.val (bP)],[BT1],[],[],0,[(26,44)],false⟩,
 ⟨29,.skip,[],[.ptr (BT7) (BT7)],[BT2],[(0,.box)],[(19,1),(27,1)],0,[],false⟩,
 ⟨26,.skip,[],[.ptr (BT7) (BT7)],[cH],[(0,.box)],[(14,1),(15,1)],0,[(58,47)],false⟩,
 ⟨25,.skip,[],[.ptr (BT7) (BT7),.own (dD)],[dD],[(0,.box)],[(23,2),(26,1),(32,2)],0,[],false⟩,
 ⟨30,.skip,[],[.ptr (BT7) (BT7),.val (gt)],[bP],[(0,.box)],[],0,[],false⟩,
 ⟨31,.skip,[],[.ptr (BT8) (BT8)],[BT2],[(0,.box)],[(41,1)],0,[(506,51)],false⟩,
 ⟨32,.skip,[],[.val (cH),.val (cH)],[BT1],[],[],0,[(58,53)],false⟩,
 ⟨33,.skip,[],[.val (cH),.val (bP)],[bP,bP,BT1],[],[],0,[(58,55)],false⟩,
 ⟨35,.skip,[],[.ptr (BT9) (BT9)],[BT6],[(0,.box)],[(54,1)],0,[(2042,57)],false⟩,
 ⟨45,.skip,[],[.val (bP),.val (bP),.val (bP)],[BT1],[],[],0,[],false⟩,
 ⟨46,.skip,[],[.ptr (BT7) (BT7),.val (bP)],[bP],[(0,.box)],[],0,[],false⟩,
 ⟨55,.skip,[],[.ptr (BT7) (BT7)],[jK],[(0,.box)],[],0,[],false⟩,
 ⟨54,.skip,[],[.ptr (BT7) (BT7),.val (jK)],[jK],[(0,.box)],[(10,1),(16,1),(22,1)],0,[],false⟩,
 ⟨56,.skip,[],[.ptr (BT7) (BT7),.val (bP)],[BT1],[(0,.box)],[],0,[],false⟩,
 ⟨57,.skip,[],[.val (BT0)],[cH],[],[],0,[],false⟩,
 ⟨58,.skip,[],[.val (gY),.clo 59 [bP]],[BT1],[(16,.box)],[],0,[],false⟩,
 ⟨61,.skip,[],[.val (jK)],[BT1],[],[],0,[],false⟩,
 ⟨47,.skip,[],[.ptr (BT7) (BT7)],[eJ,fG],[(0,.box)],[(6,1),(10,1),(11,1)],0,[],false⟩,
 ⟨48,.skip,[],[.val (fG)],[cH],[],[(27,1),(33,1),(49,1),(58,1),(67,1),(72,1),(77,1),(92,1),(97,1)],0,[(122,68),(506,69),(4090,70)],false⟩,
 ⟨49,.skip,[],[.ptr (BT7) (BT7),.val (bP),.val (bP)],[.leaf true (.sl (.nm 1))],[(0,.box)],[(29,1)],0,[(122,72)],false⟩,
 ⟨50,.skip,[],[.ptr (BT8) (BT8),.val (bP)],[bP],[(0,.box)],[],0,[],false⟩,
 ⟨51,.skip,[],[.ptr (BT8) (BT8)],[BT0],[(0,.box)],[],0,[],false⟩,
 ⟨52,.skip,[],[.ptr (BT9) (BT9)],[bP],[(0,.box)],[],0,[],false⟩,
 ⟨53,.skip,[],[.ptr (BT9) (BT9)],[BT0],[(0,.box)],[],0,[],false⟩,
 ⟨62,.skip,[],[.ptr (BT7) (BT7)],[bP],[(0,.box)],[],0,[],false⟩,
 ⟨70,.skip,[],[.ptr (BT7) (BT7)],[BT0],[(0,.box)],[(13,1),(17,1)],0,[(58,79)],false⟩,
 ⟨69,.skip,[],[.ptr (BT7) (BT7),.val (dd)],[BT0],[(0,.box)],[],0,[],false⟩,
 ⟨71,.skip,[],[.val (gY),.clo 59 [bP]],[bP],[(16,.box)],[],0,[(26,82)],false⟩,
 ⟨73,.skip,[],[.val (BT0)],[BT1],[],[],0,[(26,84)],false⟩,
 ⟨63,.skip,[],[.ptr (BT7) (BT7)],[eJ],[(0,.box)],[(8,1)],0,[],false⟩,
 ⟨65,.skip,[],[.ptr (BT7) (BT7),.val (bP)],[sL],[(0,.box)],[(21,1)],0,[(122,87)],false⟩,
 ⟨64,.skip,[],[.val (eJ),.val (sL)],[fG],[],[(10,1),(12,1),(30,1)],0,[(122,89)],false⟩,
 ⟨66,.skip,[],[.val (dh)],[cH],[],[(9,1),(14,1)],0,[],false⟩,
 ⟨67,.skip,[],[.val (cH),.val (bP)],[BT0,bP,BT1],[],[],0,[],false⟩,
 ⟨68,.skip,[],[.val (cH),.val (bP)],[BT0,bP,BT1],[],[],0,[],false⟩,
 ⟨59,.skip,[],[.val (.leaf false (.nm 1)),.ptr (bP) (bP)],[BT1],[(16,.box)],[],0,[],false⟩,
 ⟨75,.skip,[],[.ptr (BT7) (BT7)],[BT0],[(0,.box)],[(4,1)],0,[],false⟩,
 ⟨74,.skip,[],[.val (BT0)],[eJ,bP],[],[(10,1),(15,1),(18,1)],0,[],false⟩,
 ⟨76,.skip,[],[.val (eJ)],[BT1],[],[],0,[(26,97),(58,98)],false⟩,
 ⟨77,.skip,[],[.val (eJ)],[fG],[],[(7,1),(16,1)],0,[],false⟩,
 ⟨78,.skip,[],[.val (eJ),.val (fG),.val (jK)],[fG],[],[(45,1)],0,[],false⟩,
 ⟨79,.skip,[],[.val (bP)],[cH],[],[(10,1),(16,1),(19,1)],0,[],false⟩,
 ⟨60,.skip,[],[.val (jK)],[BT1],[],[],0,[],false⟩,
 ⟨83,.skip,[],[],[dd],[],[(1,1)],0,[],false⟩,
 ⟨81,.skip,[],[.val (BT0)],[eQ,bP],[],[(11,6),(14,1),(24,7),(37,1),(40,6)],0,[(1020,105)],false⟩,
 ⟨82,.skip,[],[.val (eQ)],[eJ,bP],[],[(17,1),(21,1),(96,1)],0,[(1018,107)],false⟩,
 ⟨84,.skip,[],[.val (BT0)],[BT1],[],[],0,[(26,109)],false⟩,
 ⟨85,.skip,[],[.val (dd),.val (BT0)],[BT1],[],[],0,[(26,111)],false⟩,
 ⟨86,.skip,[],[.val (pU),.val (bP),.val (bP)],[BT1],[],[],0,[(122,113)],false⟩,
 ⟨87,.skip,[],[.val (eJ)],[em,BT0],[],[(11,1),(24,1)],0,[],false⟩,
 ⟨88,.skip,[],[.val (bP)],[em],[],[(7,1)],0,[],false⟩,
 ⟨89,.skip,[],[.val (fG)],[.leaf true (.nm 11)],[],[],0,[],false⟩,
 ⟨90,.skip,[],[.val (eJ),.val (em),.val (BT0)],[em,BT0],[],[(40,1)],0,[(31,118)],false⟩,
 ⟨72,.skip,[],[.val (BT0)],[BT1],[],[],0,[],false⟩,
 ⟨92,.skip,[],[.val (BT0)],[pV,bP],[],[(56,1),(60,1),(67,1)],0,[(124,121),(63656,122)],false⟩,
 ⟨93,.skip,[],[.ptr (ck) (ck)],[.leaf false (.nm 14)],[(0,.box)],[],0,[],false⟩,
 ⟨94,.skip,[],[.ptr (ck) (ck)],[.leaf false (.nm 15)],[(0,.box)],[(10,1),(16,1),(19,1),(24,1),(26,1),(27,6)],0,[],false⟩,
 ⟨96,.skip,[],[.val (cj)],[bP],[],[],0,[(58,126)],false⟩,
 ⟨95,.skip,[],[.val (bP),.val (bP)],[bP],[],[],0,[],false⟩,
 ⟨97,.skip,[],[.val (eQ)],[bP],[],[(38,1)],0,[(58,129),(506,130),(1018,131),(2042,132)],false⟩,
 ⟨98,.skip,[],[.val (eQ)],[dd,dd],[],[(7,1),(8,1),(23,1),(34,1)],0,[(58,134)],false⟩,
 ⟨99,.skip,[],[.ptr (cY) (cY),.val (cj)],[],[(0,.box)],[],0,[(14,136)],false⟩,
 ⟨100,.skip,[],[.ptr (cY) (cY),.val (cj)],[],[(0,.box)],[],0,[(29,138),(30714,139)],false⟩,
 ⟨101,.skip,[],[.ptr (cY) (cY),.val (bP),.val (bP),.val (BT0)],[bP],[(0,.box)],[(18,1)],0,[],false⟩,
 ⟨102,.skip,[],[.val (eP)],[BT1],[],[],0,[],false⟩,
 ⟨103,.skip,[],[.val (BT0)],[BT1],[],[(3,1),(7,1)],0,[],false⟩,
 ⟨104,.skip,[],[.val (kH),.val (bP),.val (bP),.val (bP)],[BT1],[],[(71,1),(86,1)],0,[(863,144),(3455,145),(13823,146),(221183,147)],false⟩,
 ⟨105,.skip,[],[.val (em)],[BT3],[],[],0,[],false⟩,
 ⟨106,.skip,[],[.ptr (dw) (dw),.val (pU)],[],[(0,.box)],[],0,[(30,150)],false⟩,
 ⟨107,.skip,[],[.ptr (.leaf false (.nm 17)) (.leaf false (.nm 17)),.val (em)],[em,BT0],[(0,.box)],[(14,1)],0,[],false⟩,
 ⟨108,.skip,[],[.val (bP),.val (bP)],[bP],[],[],0,[],false⟩,
 ⟨109,.skip,[],[.val (BT0)],[wH],[],[(31,1)],0,[(122,154)],false⟩,
 ⟨110,.skip,[],[.ptr (dw) (dw),.val (bP)],[],[(0,.box)],[],0,[],false⟩,
 ⟨80,.skip,[],[.val (BT0),.val (BT0)],[BT1],[],[],0,[],false⟩,
 ⟨112,.skip,[],[.val (BT0),.val (bP),.val (pV)],[.leaf false (.nm 14),bP,BT1],[],[],0,[(916,158)],false⟩,
 ⟨113,.skip,[],[.ptr (ck) (ck),.val (BT0)],[BT1],[(0,.box)],[],0,[],false⟩,
 ⟨114,.skip,[],[.ptr (ck) (ck)],[],[(0,.box)],[],0,[],false⟩,
 ⟨115,.skip,[],[.ptr (ck) (ck)],[cj],[(0,.box)],[(2,7),(3,7),(4,7),(24,1),(25,6)],0,[(60,162)],false⟩,
 ⟨116,.skip,[],[.ptr (ck) (ck),.val (BT0)],[BT1],[(0,.box)],[],0,[],false⟩,
 ⟨117,.skip,[],[.ptr (ck) (ck)],[cj],[(0,.box)],[(2,7),(4,7),(6,7),(26,1),(38,1),(42,6),(52,1)],0,[(471,165)],false⟩,
 ⟨118,.skip,[],[.val (bP),.val (.leaf false (.sl (.nm 12)))],[gZ],[],[(4,7),(6,7),(8,7)],0,[],false⟩,
 ⟨119,.skip,[],[.val (eQ)],[BT1],[],[],0,[(26,168)],false⟩,
 ⟨120,.skip,[],[.val (cj)],[BT1],[],[],0,[(58,170)],false⟩,
 ⟨121,.skip,[],[.val (cj)],[BT1],[],[],0,[(15,172),(122,173)],false⟩,
 ⟨122,.skip,[],[.val (cj)],[BT1],[],[(12,1)],0,[(122,175)],false⟩,
 ⟨123,.skip,[],[.val (cj),.val (dd),.val (dd)],[dd,dd],[],[(16,1),(23,1),(39,1)],0,[(7,177),(58,178)],false⟩,
 ⟨124,.skip,[],[.ptr (cY) (cY),.val (cj)],[],[(0,.box)],[],0,[],false⟩,
 ⟨125,.skip,[],[.ptr (cY) (cY),.val (cj)],[],[(0,.box)],[],0,[],false⟩,
 ⟨126,.skip,[],[.ptr (cY) (cY),.val (cj)],[],[(0,.box)],[],0,[],false⟩,
 ⟨127,.skip,[],[.ptr (cY) (cY),.val (cj)],[],[(0,.box)],[],0,[],false⟩,
 ⟨128,.skip,[],[.ptr (cY) (cY),.val (cj)],[],[(0,.box)],[],0,[],false⟩,
 ⟨129,.skip,[],[],[dd],[],[(1,1)],0,[],false⟩,
 ⟨130,.skip,[],[.val (bP)],[BT1],[],[],0,[],false⟩,
 ⟨131,.skip,[],[.val (BT0)],[ff,BT1],[],[(9,1),(14,1),(33,1)],0,[],false⟩,
 ⟨132,.skip,[],[.ref (eO) (eO) (dw) (dw),.val (kH),.val (bP)],[bP,BT1],[(0,.box),(1,.box)],[(32,2)],0,[(127,188),(4153343,189)],false⟩,
 ⟨91,.skip,[],[.val (BT0),.val (BT0)],[bP],[],[],0,[],false⟩,
 ⟨137,.skip,[],[.val (eP)],[BT1],[],[],0,[],false⟩,
 ⟨138,.skip,[],[.val (BT0),.val (bP)],[bP,bP,BT1],[],[],0,[(28,193),(1964,194),(31,195)],false⟩,
 ⟨139,.skip,[],[.val (BT0),.val (bP)],[BT0,bP,BT1],[],[(47,1)],0,[(58,197)],false⟩,
 ⟨140,.skip,[],[.val (pV)],[BT1],[],[],0,[],false⟩,
 ⟨141,.skip,[],[.val (BT0),.val (bP)],[BT0,bP,BT1],[],[(52,1),(60,1)],0,[(58,200)],false⟩,
 ⟨142,.skip,[],[.val (BT0),.val (bP)],[BT0],[],[(8,1)],0,[(58,202)],false⟩,
 ⟨143,.skip,[],[.ptr (ck) (ck),.val (BT0)],[],[(0,.box)],[],0,[],false⟩,
 ⟨144,.skip,[],[.ptr (ck) (ck)],[cj],[(0,.box)],[(2,7),(3,7),(8,1),(13,1),(18,1),(20,1)],0,[],false⟩,
 ⟨145,.skip,[],[.ptr (ck) (ck)],[cj],[(0,.box)],[(2,7),(6,7),(15,1),(21,1),(29,1),(38,1),(43,1),(50,1),(54,1),(59,6),(60,1)],0,[],false⟩,
 ⟨146,.skip,[],[.ptr (ck) (ck),.val (bP)],[cj],[(0,.box)],[(4,7),(9,1),(13,1),(17,1),(20,1)],0,[],false⟩,
 ⟨148,.skip,[],[.val (cj)],[BT1],[],[(53,1)],0,[(7551,208)],false⟩,
 ⟨147,.skip,[],[.val (bP)],[BT1],[],[],0,[],false⟩,
 ⟨149,.skip,[],[.val (dd),.val (BT0)],[dd],[],[(32,1)],0,[(60,211)],false⟩,
 ⟨150,.skip,[],[.ptr (cY) (cY),.val (cj)],[],[(0,.box)],[],0,[(7,213),(58,214)],false⟩,
 ⟨151,.skip,[],[.ptr (cY) (cY),.val (cj)],[],[(0,.box)],[],0,[],false⟩,
 ⟨152,.skip,[],[.ptr (cY) (cY),.val (cj)],[],[(0,.box)],[],0,[],false⟩,
 ⟨153,.skip,[],[.val (dd),.val (BT0)],[bP],[],[],0,[(26,218)],false⟩,
 ⟨154,.skip,[],[.val (BT1)],[bP],[],[],0,[],false⟩,
 ⟨155,.skip,[],[.ptr (fg) (fg),.val (bP)],[dg],[(0,.box)],[],0,[(28,221)],false⟩,
 ⟨156,.skip,[],[.val (ff)],[bP],[],[],0,[(58,223)],false⟩,
 ⟨157,.skip,[],[.val (kH)],[bP],[],[],0,[(53,225)],false⟩,
 ⟨158,.skip,[],[.val (dh)],[BT1],[],[],0,[(53,227)],false⟩,
 ⟨159,.skip,[],[.ptr (dw) (dw),.val (BT0)],[],[(0,.box)],[],0,[],false⟩,
 ⟨160,.skip,[],[.val (dh)],[BT0],[],[],0,[],false⟩,
 ⟨161,.skip,[],[.ref (eO) (eO) (dw) (dw),.val (kH),.val (jL)],[],[(0,.box),(1,.box)],[],0,[],false⟩,
 ⟨162,.skip,[],[.ref (eO) (eO) (dw) (dw),.val (kH),.val (jL)],[],[(0,.box),(1,.box)],[],0,[(31,232)],false⟩,
 ⟨111,.skip,[],[.val (BT0),.val (BT0)],[bP],[],[],0,[],false⟩,
 ⟨165,.skip,[],[.val (BT0)],[bP,bP],[],[],0,[(28,235),(63,236),(508,237),(16342,238),(511,239)],false⟩,
 ⟨166,.skip,[],[.ptr (ck) (ck)],[],[(0,.box)],[],0,[],false⟩,
 ⟨167,.skip,[],[.ptr (ck) (ck),.val (bP)],[cj],[(0,.box)],[(4,7),(5,7),(6,7),(7,7),(13,1),(17,1),(21,6),(34,1),(35,6)],0,[],false⟩,
 ⟨168,.skip,[],[.ptr (ck) (ck)],[cj],[(0,.box)],[(2,7),(3,7),(5,7),(11,7),(36,1),(37,6),(46,1),(57,1),(62,6),(63,1),(65,1),(66,6)],0,[(812,243)],false⟩,
 ⟨169,.skip,[],[.ptr (ck) (ck),.val (BT0)],[.leaf false (.sl (.nm 12))],[(0,.box)],[(6,7),(25,1),(26,6)],0,[(28,245)],false⟩,
 ⟨170,.skip,[],[.ptr (ck) (ck)],[BT0],[(0,.box)],[],0,[],false⟩,
 ⟨171,.skip,[],[.ptr (ck) (ck)],[cj],[(0,.box)],[(2,7),(4,7),(6,7),(7,1),(9,1),(25,1),(30,6)],0,[(122,248)],false⟩,
 ⟨172,.skip,[],[.ptr (ck) (ck)],[cj],[(0,.box)],[(2,7),(3,7),(4,7),(6,1),(10,1),(13,6)],0,[(28,250)],false⟩,
 ⟨173,.skip,[],[.ptr (ck) (ck)],[cj],[(0,.box)],[(2,7),(9,1),(16,1),(17,6),(25,1),(26,6),(29,1)],0,[],false⟩,
 ⟨174,.skip,[],[.ptr (ck) (ck),.val (bP)],[cj],[(0,.box)],[(4,7),(7,7),(9,7),(10,1),(11,1),(12,1),(13,1),(14,1),(15,1),(16,1),(17,6),(18,1),(19,1),(20,1),(21,1),(22,1),(23,1),(24,1),(25,6),(29,1),(69,1),(79,6),(88,6)],0,[(124,253),(7956,254),(63679,255)],false⟩,
 ⟨175,.skip,[],[.val (cj)],[BT1],[],[],0,[(117,257),(471,258),(1887,259),(7551,260),(7733234,261)],false⟩,
 ⟨176,.skip,[],[.val (BT0)],[BT1],[],[],0,[(26,263)],false⟩,
 ⟨177,.skip,[],[.ptr (fg) (fg),.val (bP)],[dg],[(0,.box)],[],0,[(28,265)],false⟩,
 ⟨178,.skip,[],[.ptr (fg) (fg),.val (eP)],[BT1],[(0,.box)],[],0,[],false⟩,
 ⟨179,.skip,[],[.val (bP)],[BT0],[],[],0,[(4052,268),(127,269)],false⟩,
 ⟨180,.skip,[],[.ref (eO) (eO) (dw) (dw),.val (dh)],[],[(0,.box),(1,.box)],[(21,1)],0,[],false⟩,
 ⟨182,.skip,[],[.val (dh)],[bP],[],[],0,[(53,272)],false⟩,
 ⟨181,.skip,[],[.ptr (dw) (dw),.val (bP),.val (bP),.val (bP)],[dh],[(0,.box)],[],0,[(15,274)],false⟩,
 ⟨184,.skip,[],[.val (dh)],[BT0],[],[],0,[],false⟩,
 ⟨183,.skip,[],[.val (em),.val (bP),.val (BT0)],[dh],[],[],0,[],false⟩,
 ⟨185,.skip,[],[.ref (eO) (eO) (dw) (dw),.val (bP),.val (BT0),.val (dh)],[],[(0,.box),(1,.box)],[],0,[],false⟩,
 ⟨186,.skip,[],[.val (em),.val (bP),.val (BT0)],[BT3],[],[],0,[],false⟩,
 ⟨187,.skip,[],[.val (bP)],[dh],[],[],0,[],false⟩,
 ⟨188,.skip,[],[.ptr (dw) (dw),.val (dh)],[dh],[(0,.box)],[],0,[],false⟩,
 ⟨189,.skip,[],[.ptr (dw) (dw),.val (dh),.val (dh)],[dh],[(0,.box)],[],0,[],false⟩,
 ⟨190,.skip,[],[.val (BT0),.val (BT0)],[dh],[],[(9,1)],0,[],false⟩,
 ⟨191,.skip,[],[.val (BT1)],[dh],[],[],0,[],false⟩,
 ⟨192,.skip,[],[.val (BT0),.val (jL)],[dh],[],[(20,1)],0,[],false⟩,
 ⟨193,.skip,[],[.val (bP),.val (dh),.val (dh)],[dh],[],[(23,1)],0,[],false⟩,
 ⟨133,.skip,[],[.val (BT0),.val (eP)],[bP],[],[],0,[],false⟩,
 ⟨194,.skip,[],[.ptr (ck) (ck)],[BT1],[(0,.box)],[(34,1)],0,[(245,288)],false⟩,
 ⟨195,.skip,[],[.ptr (ck) (ck)],[cj],[(0,.box)],[(2,7),(4,7),(23,1),(32,1),(39,1),(46,1),(50,1),(56,1),(57,6),(62,1)],0,[],false⟩,
 ⟨196,.skip,[],[.val (cj),.val (bP),.val (bP)],[BT1],[],[],0,[(26,291)],false⟩,
 ⟨197,.skip,[],[.val (cj),.val (bP)],[BT1],[],[],0,[(26,293)],false⟩,
 ⟨198,.skip,[],[.ptr (fg) (fg),.val (bP)],[dg],[(0,.box)],[],0,[(28,295),(907,296)],false⟩,
 ⟨199,.skip,[],[.val (bP)],[bP],[],[],0,[],false⟩,
 ⟨200,.skip,[],[.val (bP)],[BT0],[],[(12,1)],0,[(60,299)],false⟩,
 ⟨201,.skip,[],[.val (bP),.val (bP)],[bP,BT1],[],[],0,[],false⟩,
 ⟨202,.skip,[],[.val (bP),.val (bP)],[bP,BT1],[],[],0,[],false⟩,
 ⟨203,.skip,[],[.val (bP),.val (bP)],[bP,BT1],[],[],0,[],false⟩,
 ⟨204,.skip,[],[.val (bP),.val (bP)],[bP,BT1],[],[],0,[],false⟩,
 ⟨205,.skip,[],[.val (em),.val (bP),.val (BT0)],[bP],[],[],0,[(26,305)],false⟩,
 ⟨206,.skip,[],[.val (em),.val (bP),.val (BT0),.val (dh)],[BT3,BT1],[],[(61,1)],0,[(508,307)],false⟩,
 ⟨207,.skip,[],[.val (BT0)],[dh],[],[],0,[(7,309)],false⟩,
 ⟨208,.skip,[],[.val (ff),.val (BT0)],[BT1],[],[(10,1)],0,[],false⟩,
 ⟨209,.skip,[],[.val (BT0),.val (jL)],[dh],[],[],0,[],false⟩,
 ⟨210,.skip,[],[.val (dh),.val (dh)],[bP],[],[],0,[],false⟩,
 ⟨163,.skip,[],[.val (BT0),.val (eP)],[bP],[],[],0,[],true⟩,
 ⟨211,.skip,[],[.ptr (fg) (fg),.val (bP)],[dg],[(0,.box)],[],0,[(63,315)],false⟩,
 ⟨212,.skip,[],[.val (bP)],[bP,BT1],[],[],0,[],false⟩,
 ⟨213,.skip,[],[.val (.leaf false (.nm 10)),.val (bP),.val (BT0)],[BT1],[],[],0,[],false⟩,
 ⟨214,.skip,[],[.val (BT0)],[bP,BT1],[],[],0,[(60,319)],false⟩,
 ⟨216,.skip,[],[.val (ff)],[eR],[],[(6,1),(10,1)],0,[],false⟩,
 ⟨215,.skip,[],[.val (eR),.val (BT0)],[bP,bP,BT1],[],[],0,[(26,322)],false⟩,
 ⟨217,.skip,[],[.val (bP)],[bP],[],[],0,[],false⟩,
 ⟨218,.skip,[],[.val (BT0),.val (BT0)],[bP],[],[],0,[(26,325)],false⟩,
 ⟨219,.skip,[],[.val (BT0),.val (eP),.val (eP)],[BT0],[],[],0,[(58,327)],false⟩,
 ⟨220,.skip,[],[.val (jL)],[BT0],[],[],0,[(63,329)],false⟩,
 ⟨221,.skip,[],[.ptr (fg) (fg)],[dg],[(0,.box)],[(171,1)],0,[(15,331),(252,332),(32303,333),(255,334),(64607,335),(8186,336),(516858,337)],false⟩,
 ⟨223,.skip,[],[.val (ff)],[BT1],[],[],0,[],false⟩,
 ⟨225,.skip,[],[.own (fV),.val (ff)],[fV],[],[(18,1),(32,1),(76,1),(105,1)],0,[(966650,340),(15,341)],false⟩,
 ⟨224,.skip,[],[.own (fV),.val (bP)],[fV],[],[(8,1)],0,[],false⟩,
 ⟨222,.skip,[],[.val (eR),.val (BT0),.val (bP)],[bP],[],[(23,1),(30,1),(76,1),(85,1)],0,[(250,344),(8009,345),(256314,346)],false⟩,
 ⟨229,.skip,[],[.val (ff)],[BT1],[],[],0,[(26,348),(3935,349),(15743,350)],false⟩,
 ⟨230,.skip,[],[.own (fV),.val (.leaf false (.sl (.nm 18)))],[fV],[],[(29,1)],0,[(58,352),(250,353)],false⟩,
 ⟨226,.skip,[],[.val (eR)],[BT1],[],[],0,[(58,355)],false⟩,
 ⟨227,.skip,[],[.val (eR),.val (gt),.val (BT1),.val (BT1)],[jM],[],[],0,[(58,357)],false⟩,
 ⟨228,.skip,[],[.val (.leaf false (.nm 21)),.val (eP)],[BT1],[],[],0,[],false⟩,
 ⟨235,.skip,[],[.val (BT0)],[BT1],[],[],0,[(26,360)],false⟩,
 ⟨231,.skip,[],[.val (.leaf false (.nm 21)),.val (bP)],[BT1],[],[],0,[(7,362),(15,363),(31,364),(63,365),(127,366)],false⟩,
 ⟨232,.skip,[],[.val (eR),.io (iU),.val (bP),.val (BT1),.val (BT1)],[],[(16,.reg)],[(57,1),(66,1),(74,1),(82,1)],0,[(6,368)],false⟩,
 ⟨233,.skip,[],[.val (pT)],[jM],[],[(18,1)],0,[(58,370)],false⟩,
 ⟨234,.skip,[],[.val (BT0),.val (eP)],[BT1],[],[],0,[(26,372)],false⟩]
def xu:iV:=[((163,[]),313)]
def xt:iV:=[((5,[]),0),((6,[]),2),((15,[]),3),((10,[]),4),((16,[]),8),((17,[]),9),((18,[]),10),((19,[]),11),((20,[]),12),((21,[]),13),((22,[]),15),((12,[]),17),((13,[]),18),((14,[]),19),((11,[]),20),((23,[]),21),((24,[]),23),((36,[]),25),((27,[]),28),((28,[]),30),((37,[]),31),((38,[]),34),((39,[]),36),((34,[]),38),((40,[]),39),((41,[]),40),((42,[]),41),((43,[]),42),((44,[]),43),((29,[]),45),((26,[]),46),((25,[]),48),((30,[]),49),((31,[]),50),((32,[]),52),((33,[]),54),((35,[]),56),((45,[]),58),((46,[]),59),((55,[]),60),((54,[]),61),((56,[]),62),((57,[]),63),((58,[59]),64),((61,[]),65),((47,[]),66),((48,[]),67),((49,[]),71),((50,[]),73),((51,[]),74),((52,[]),75),((53,[]),76),((62,[]),77),((70,[]),78),((69,[]),80),((71,[59]),81),((73,[]),83),((63,[]),85),((65,[]),86),((64,[]),88),((66,[]),90),((67,[]),91),((68,[]),92),((59,[]),93),((75,[]),94),((74,[]),95),((76,[]),96),((77,[]),99),((78,[]),100),((79,[]),101),((60,[]),102),((83,[]),103),((81,[]),104),((82,[]),106),((84,[]),108),((85,[]),110),((86,[]),112),((87,[]),114),((88,[]),115),((89,[]),116),((90,[]),117),((72,[]),119),((92,[]),120),((93,[]),123),((94,[]),124),((96,[]),125),((95,[]),127),((97,[]),128),((98,[]),133),((99,[]),135),((100,[]),137),((101,[]),140),((102,[]),141),((103,[]),142),((104,[]),143),((105,[]),148),((106,[]),149),((107,[]),151),((108,[]),152),((109,[]),153),((110,[]),155),((80,[]),156),((112,[]),157),((113,[]),159),((114,[]),160),((115,[]),161),((116,[]),163),((117,[]),164),((118,[]),166),((119,[]),167),((120,[]),169),((121,[]),171),((122,[]),174),((123,[]),176),((124,[]),179),((125,[]),180),((126,[]),181),((127,[]),182),((128,[]),183),((129,[]),184),((130,[]),185),((131,[]),186),((132,[]),187),((91,[]),190),((137,[]),191),((138,[]),192),((139,[]),196),((140,[]),198),((141,[]),199),((142,[]),201),((143,[]),203),((144,[]),204),((145,[]),205),((146,[]),206),((148,[]),207),((147,[]),209),((149,[]),210),((150,[]),212),((151,[]),215),((152,[]),216),((153,[]),217),((154,[]),219),((155,[]),220),((156,[]),222),((157,[]),224),((158,[]),226),((159,[]),228),((160,[]),229),((161,[]),230),((162,[]),231),((111,[]),233),((165,[]),234),((166,[]),240),((167,[]),241),((168,[]),242),((169,[]),244),((170,[]),246),((171,[]),247),((172,[]),249),((173,[]),251),((174,[]),252),((175,[]),256),((176,[]),262),((177,[]),264),((178,[]),266),((179,[]),267),((180,[]),270),((182,[]),271),((181,[]),273),((184,[]),275),((183,[]),276),((185,[]),277),((186,[]),278),((187,[]),279),((188,[]),280),((189,[]),281),((190,[]),282),((191,[]),283),((192,[]),284),((193,[]),285),((133,[]),286),((194,[]),287),((195,[]),289),((196,[]),290),((197,[]),292),((198,[]),294),((199,[]),297),((200,[]),298),((201,[]),300),((202,[]),301),((203,[]),302),((204,[]),303),((205,[]),304),((206,[]),306),((207,[]),308),((208,[]),310),((209,[]),311),((210,[]),312),((211,[]),314),((212,[]),316),((213,[]),317),((214,[]),318),((216,[]),320),((215,[]),321),((217,[]),323),((218,[]),324),((219,[]),326),((220,[]),328),((221,[]),330),((223,[]),338),((225,[]),339),((224,[]),342),((222,[]),343),((229,[]),347),((230,[]),351),((226,[]),354),((227,[]),356),((228,[]),358),((235,[]),359),((231,[]),361),((232,[]),367),((233,[]),369),((234,[]),371)]
def uT(e:Nat):EntI:=entR.getD e ⟨0,.skip,[],[],[],[],[],0,[],true⟩
def er(k:Nat):KeyI:=keyL.getD k ⟨0,[false],[]⟩
noncomputable def tab:Tab where
 G:=gam
 ty:=jn tyL
 ifc:=qR yH
 key k:=qN uT (er k)
 ent k:=fill Tryz.prog (uT k)
 call:=qP (xu++xt)
 tabs:=[]
 ext k:=match k with
  | 313=>fun x=>some (di x.1 x.2.1,())
  | _=>fun _=>none
end Go.Proofs.YtacknlgegbagfaaGreat.E.TR
