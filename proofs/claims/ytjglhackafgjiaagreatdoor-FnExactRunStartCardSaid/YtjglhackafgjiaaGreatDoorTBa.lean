/- The table of B: structs,types,entries,keys. No condition. -/
import Derived.Test.YtjglhackafgjiaaGreatDoorEG4
import Derived.Test.YtjglhackafgjiaaGreatDoorProg
import Derived.KernelRfl
namespace Go.Proofs.YtjglhackafgjiaaGreatDoor.E.TB
open Go.Proofs.YtjglhackafgjiaaGreatDoor.E
set_option linter.unusedVariables false
set_option maxRecDepth 100000
structure ax where
 Code:Int
 N:Int
 S:(_root_.List Int)
def yH:ax:=⟨0,0,[]⟩
structure ay where
 Vars:(_root_.List (_root_.List Int))
 Cells:(_root_.List (_root_.List Int))
 Start:(_root_.List ax)
 Main:(_root_.List ax)
def RY:ay:=⟨[],[],[],[]⟩
structure au where
 Kind:Int
 N:Int
 S:(_root_.List Int)
def aD:au:=⟨0,0,[]⟩
structure al where
 Name:Int
 Key:(_root_.List Int)
 Val:au
def bf:al:=⟨0,[],aD⟩
structure ar where
 Vars:(_root_.List au)
 Cells:(_root_.List al)
 Nr:Int
 Err:Int
def pH:ar:=⟨[],[],0,0⟩
structure am where
 Code:Int
 N:Int
 S:(_root_.List Int)
def bg:am:=⟨0,0,[]⟩
structure ap where
 Vars:(_root_.List (_root_.List Int))
 Cells:(_root_.List (_root_.List Int))
 Start:(_root_.List am)
 Main:(_root_.List am)
def RV:ap:=⟨[],[],[],[]⟩
structure aw where
 s:ar
 line:(_root_.List Int)
 out:(_root_.List Int)
 stack:(_root_.List au)
 err:Int
def RX:aw:=⟨pH,[],[],[],0⟩
structure az where
 s:ar
 vars:(_root_.List (_root_.List Int))
 cells:(_root_.List (_root_.List Int))
 line:(_root_.List Int)
 fields:(_root_.List (_root_.List Int))
 out:(_root_.List Int)
 fuel:Int
 done:Bool
def RZ:az:=⟨pH,[],[],[],[],[],0,false⟩
structure aA where
 l:Unit
 stack:(_root_.List au)
def R0:aA:=⟨(),[]⟩
structure aq where
 Op:Int
 C:Int
 Set:(_root_.List Int)
 Not:Bool
 Kids:(_root_.List aq)
def aL:aq:=⟨0,0,[],false,[]⟩
structure aB where
 s:(_root_.List Int)
 at_:Int
 bad:Bool
def R3:aB:=⟨[],0,false⟩
structure av where
 s:(_root_.List Int)
 bad:Bool
def RW:av:=⟨[],false⟩
structure an where
 Op:Int
 C:Int
 Set:(_root_.List Int)
 Not:Bool
 A:Int
 B:Int
def aK:an:=⟨0,0,[],false,0,0⟩
def gT:Nat→Type
 | 0=>ay
 | 1=>ax
 | 2=>ar
 | 3=>au
 | 4=>al
 | 5=>ap
 | 6=>am
 | 7=>aw
 | 8=>az
 | 9=>aA
 | 10=>aq
 | 11=>aB
 | 12=>av
 | 13=>an
 | _=>Unit
def gfs:Nat→List FT
 | 0=>[(.sl .str),(.sl .str),(.sl (.nm 1)),(.sl (.nm 1))]
 | 1=>[(.int .i64),(.int .i64),.str]
 | 2=>[(.sl (.nm 3)),(.sl (.nm 4)),(.int .i64),(.int .i64)]
 | 3=>[(.int .i64),(.int .i64),.str]
 | 4=>[(.int .i64),.str,(.nm 3)]
 | 5=>[(.sl .str),(.sl .str),(.sl (.nm 6)),(.sl (.nm 6))]
 | 6=>[(.int .i64),(.int .i64),.str]
 | 7=>[(.nm 2),.str,.str,(.sl (.nm 3)),(.int .i64)]
 | 8=>[(.nm 2),(.sl .str),(.sl .str),.str,(.sl .str),.str,(.int .i64),.bool]
 | 9=>[.ptr,(.sl (.nm 3))]
 | 10=>[(.int .i64),(.int .i64),.str,.bool,(.sl (.nm 10))]
 | 11=>[.str,(.int .i64),.bool]
 | 12=>[.str,.bool]
 | 13=>[(.int .i64),(.int .i64),.str,.bool,(.int .i64),(.int .i64)]
 | _=>[]
def gun:∀ n,gT n→Js gT (gfs n)
 | 0,x=>(x.Vars,(x.Cells,(x.Start,(x.Main,()))))
 | 1,x=>(x.Code,(x.N,(x.S,())))
 | 2,x=>(x.Vars,(x.Cells,(x.Nr,(x.Err,()))))
 | 3,x=>(x.Kind,(x.N,(x.S,())))
 | 4,x=>(x.Name,(x.Key,(x.Val,())))
 | 5,x=>(x.Vars,(x.Cells,(x.Start,(x.Main,()))))
 | 6,x=>(x.Code,(x.N,(x.S,())))
 | 7,x=>(x.s,(x.line,(x.out,(x.stack,(x.err,())))))
 | 8,x=>(x.s,(x.vars,(x.cells,(x.line,(x.fields,(x.out,(x.fuel,(x.done,()))))))))
 | 9,x=>(x.l,(x.stack,()))
 | 10,x=>(x.Op,(x.C,(x.Set,(x.Not,(x.Kids,())))))
 | 11,x=>(x.s,(x.at_,(x.bad,())))
 | 12,x=>(x.s,(x.bad,()))
 | 13,x=>(x.Op,(x.C,(x.Set,(x.Not,(x.A,(x.B,()))))))
 | (n+14),_=>()
def gpk:∀ n,Js gT (gfs n)→gT n
 | 0,y=>⟨y.1,y.2.1,y.2.2.1,y.2.2.2.1⟩
 | 1,y=>⟨y.1,y.2.1,y.2.2.1⟩
 | 2,y=>⟨y.1,y.2.1,y.2.2.1,y.2.2.2.1⟩
 | 3,y=>⟨y.1,y.2.1,y.2.2.1⟩
 | 4,y=>⟨y.1,y.2.1,y.2.2.1⟩
 | 5,y=>⟨y.1,y.2.1,y.2.2.1,y.2.2.2.1⟩
 | 6,y=>⟨y.1,y.2.1,y.2.2.1⟩
 | 7,y=>⟨y.1,y.2.1,y.2.2.1,y.2.2.2.1,y.2.2.2.2.1⟩
 | 8,y=>⟨y.1,y.2.1,y.2.2.1,y.2.2.2.1,y.2.2.2.2.1,y.2.2.2.2.2.1,y.2.2.2.2.2.2.1,y.2.2.2.2.2.2.2.1⟩
 | 9,y=>⟨y.1,y.2.1⟩
 | 10,y=>⟨y.1,y.2.1,y.2.2.1,y.2.2.2.1,y.2.2.2.2.1⟩
 | 11,y=>⟨y.1,y.2.1,y.2.2.1⟩
 | 12,y=>⟨y.1,y.2.1⟩
 | 13,y=>⟨y.1,y.2.1,y.2.2.1,y.2.2.2.1,y.2.2.2.2.1,y.2.2.2.2.2.1⟩
 | (n+14),_=>()
theorem Jk:∀ n y,gun n (gpk n y)=y
 | 0,_=>rfl
 | 1,_=>rfl
 | 2,_=>rfl
 | 3,_=>rfl
 | 4,_=>rfl
 | 5,_=>rfl
 | 6,_=>rfl
 | 7,_=>rfl
 | 8,_=>rfl
 | 9,_=>rfl
 | 10,_=>rfl
 | 11,_=>rfl
 | 12,_=>rfl
 | 13,_=>rfl
 | (n+14),_=>rfl
theorem Ji:∀ n x,gpk n (gun n x)=x
 | 0,x=>by cases x;rfl
 | 1,x=>by cases x;rfl
 | 2,x=>by cases x;rfl
 | 3,x=>by cases x;rfl
 | 4,x=>by cases x;rfl
 | 5,x=>by cases x;rfl
 | 6,x=>by cases x;rfl
 | 7,x=>by cases x;rfl
 | 8,x=>by cases x;rfl
 | 9,x=>by cases x;rfl
 | 10,x=>by cases x;rfl
 | 11,x=>by cases x;rfl
 | 12,x=>by cases x;rfl
 | 13,x=>by cases x;rfl
 | (n+14),_=>rfl
def gz:∀ n,gT n
 | 0=>RY
 | 1=>yH
 | 2=>pH
 | 3=>aD
 | 4=>bf
 | 5=>RV
 | 6=>bg
 | 7=>RX
 | 8=>RZ
 | 9=>R0
 | 10=>aL
 | 11=>R3
 | 12=>RW
 | 13=>aK
 | (n+14)=>()
theorem Jl:∀ n,gun n (gz n)=lC gz (gfs n)
 | 0=>rfl
 | 1=>rfl
 | 2=>rfl
 | 3=>rfl
 | 4=>rfl
 | 5=>rfl
 | 6=>rfl
 | 7=>rfl
 | 8=>rfl
 | 9=>rfl
 | 10=>rfl
 | 11=>rfl
 | 12=>rfl
 | 13=>rfl
 | (n+14)=>rfl
def gsz:Nat→Nat
 | 0=>4
 | 1=>3
 | 2=>4
 | 3=>3
 | 4=>5
 | 5=>4
 | 6=>3
 | 7=>8
 | 8=>11
 | 9=>2
 | 10=>5
 | 11=>3
 | 12=>2
 | 13=>6
 | _=>0
theorem Jj:∀ n,gsz n=FT.szs gsz (gfs n)
 | 0=>rfl
 | 1=>rfl
 | 2=>rfl
 | 3=>rfl
 | 4=>rfl
 | 5=>rfl
 | 6=>rfl
 | 7=>rfl
 | 8=>rfl
 | 9=>rfl
 | 10=>rfl
 | 11=>rfl
 | 12=>rfl
 | 13=>rfl
 | (n+14)=>rfl
def gfl:Nat→Bool
 | 0=>false
 | 1=>true
 | 2=>false
 | 3=>true
 | 4=>true
 | 5=>false
 | 6=>true
 | 7=>false
 | 8=>false
 | 9=>false
 | 10=>false
 | 11=>true
 | 12=>true
 | 13=>true
 | _=>true
theorem Jg:∀ n,gfl n=true→FT.flats gfl (gfs n)=true
 | 0,h=>by cases h
 | 1,h=>rfl
 | 2,h=>by cases h
 | 3,h=>rfl
 | 4,h=>rfl
 | 5,h=>by cases h
 | 6,h=>rfl
 | 7,h=>by cases h
 | 8,h=>by cases h
 | 9,h=>by cases h
 | 10,h=>by cases h
 | 11,h=>rfl
 | 12,h=>rfl
 | 13,h=>rfl
 | (n+14),_=>rfl
def gam:Gam:=⟨gT,gfs,gun,gpk,Jk,Ji,gz,Jl,gsz,Jj,gfl,Jg⟩
def tyL:List (Nat×FT):=[(2,(.int .i64)),(3,(.int .i64)),(4,.bool),(5,(.int .u8)),(6,(.int .u8)),(9,.str),(21,(.int .i32)),(22,(.sl .str)),(23,(.sl (.nm 1))),(25,(.nm 0)),(27,(.sl (.nm 3))),(28,(.sl (.nm 4))),(30,(.nm 2)),(33,(.sl (.nm 6))),(35,(.nm 5)),(54,(.nm 7)),(67,(.nm 1)),(71,.ptr),(73,(.nm 8)),(76,(.nm 6)),(82,(.nm 3)),(85,(.nm 4)),(97,(.sl (.int .u8))),(104,(.nm 9)),(132,(.sl (.nm 10))),(134,(.nm 10)),(164,(.nm 11)),(182,(.nm 12)),(186,(.sl (.nm 13))),(191,(.sl .bool)),(206,(.nm 13)),(212,(.int .u64)),(213,(.int .u64)),(228,(.sl (.int .i64))),(250,(.int .i64))]
def B4:List Nat:=[208]
abbrev BT0:BT:=.leaf false .str
abbrev BT1:BT:=.leaf false .bool
abbrev BT2:BT:=.leaf true (.nm 2)
abbrev BT3:BT:=.leaf true (.nm 6)
abbrev BT4:BT:=.leaf true (.nm 8)
abbrev BT5:BT:=.leaf true (.nm 9)
abbrev BT6:BT:=.leaf true (.nm 3)
abbrev BT7:BT:=.leaf false (.nm 5)
abbrev BT8:BT:=.leaf true (.nm 11)
abbrev BT9:BT:=.leaf true (.nm 10)
abbrev iE:BT:=.leaf true (.nm 12)
abbrev co:BT:=.leaf false (.nm 2)
abbrev nj:BT:=.leaf true (.nm 13)
abbrev tA:BT:=.leaf false (.nm 0)
abbrev em:BT:=.leaf false (.nm 6)
abbrev bk:BT:=.leaf false (.nm 3)
abbrev fY:BT:=.leaf false (.nm 4)
abbrev b6:BT:=.leaf false (.nm 10)
abbrev eM:BT:=.leaf false (.nm 11)
abbrev d5:BT:=.leaf false (.nm 12)
abbrev pN:BT:=.leaf false (.nm 13)
abbrev fh:BT:=.leaf true (.sl .str)
abbrev bT:BT:=.leaf false (.sl .str)
abbrev j2:BT:=.leaf true (.int .i64)
abbrev bJ:BT:=.leaf false (.int .u8)
abbrev dM:BT:=.leaf true (.sl .bool)
abbrev aC:BT:=.leaf false (.int .i64)
abbrev aZ:BT:=.leaf false (.int .u64)
abbrev nk:BT:=.leaf false (.sl .bool)
abbrev nl:BT:=.leaf false (.int .i32)
abbrev pO:BT:=.leaf true (.sl (.nm 6))
abbrev pP:BT:=.leaf true (.sl (.nm 3))
abbrev iG:BT:=.leaf true (.sl (.nm 4))
abbrev pQ:BT:=.leaf false (.sl (.nm 1))
abbrev cy:BT:=.leaf false (.sl (.nm 6))
abbrev cz:BT:=.leaf false (.sl (.nm 3))
abbrev fj:BT:=.leaf false (.sl (.nm 4))
abbrev pR:BT:=.leaf true (.sl (.nm 10))
abbrev dd:BT:=.leaf true (.sl (.nm 13))
abbrev fZ:BT:=.leaf false (.sl (.nm 10))
abbrev bS:BT:=.leaf false (.sl (.nm 13))
abbrev pT:BT:=.leaf true (.sl (.int .u8))
abbrev d6:BT:=.leaf true (.sl (.int .i64))
abbrev tB:BT:=.leaf false (.sl (.int .u8))
abbrev dF:BT:=.leaf false (.sl (.int .i64))
abbrev yJ:BT:=.pr (.leaf false (.int .i64)) (.un)
abbrev cG:BT:=.pr (.leaf true (.nm 2)) (.pr (.leaf false .str) (.pr (.leaf false .str) (.pr (.leaf true (.sl (.nm 3))) (.pr (.leaf false (.int .i64)) (.un)))))
abbrev cj:BT:=.pr (.leaf true (.nm 2)) (.pr (.leaf true (.sl .str)) (.pr (.leaf true (.sl .str)) (.pr (.leaf false .str) (.pr (.leaf true (.sl .str)) (.pr (.leaf false .str) (.pr (.leaf false (.int .i64)) (.pr (.leaf false .bool) (.un))))))))
def keyL:List KeyI:=[
 ⟨0,[],[]⟩,
 ⟨1,[],[]⟩,
 ⟨2,[],[]⟩,
 ⟨3,[],[]⟩,
 ⟨4,[],[]⟩,
 ⟨5,[],[]⟩,
 ⟨6,[],[]⟩,
 ⟨7,[],[]⟩,
 ⟨8,[],[]⟩,
 ⟨9,[],[]⟩,
 ⟨10,[],[]⟩,
 ⟨10,[true,true,true,false,true,false],[.val 0 (bT),.val 1 (aC),.val 5 (aC)]⟩,
 ⟨11,[],[]⟩,
 ⟨11,[true,true,true,false,true,false],[.val 0 (pQ),.val 1 (aC),.val 5 (aC)]⟩,
 ⟨12,[],[]⟩,
 ⟨12,[true,true,false,true,false],[.val 0 (bT),.own 3 48 (fh),.val 4 (aC)]⟩,
 ⟨13,[],[]⟩,
 ⟨13,[true,true,false,true,false],[.val 0 (pQ),.own 3 48 (pO),.val 4 (aC)]⟩,
 ⟨14,[],[]⟩,
 ⟨14,[true,false,true,false],[.ptr 1 16,.val 3 (aC),.slot 16 (BT7) true none]⟩,
 ⟨14,[true,true,false,true,false],[.ptr 1 16,.val 4 (aC),.slot 16 (BT7) true none]⟩,
 ⟨15,[],[]⟩,
 ⟨16,[],[]⟩,
 ⟨17,[],[]⟩,
 ⟨18,[],[]⟩,
 ⟨19,[],[]⟩,
 ⟨19,[true,true,false],[.ptr 0 0,.val 1 (cy),.val 4 (aC),.val 5 (aC),.slot 0 (cG) true none]⟩,
 ⟨19,[true,true,false,false,true,true],[.ptr 0 0,.val 1 (cy),.val 4 (aC),.val 5 (aC),.slot 0 (cG) true none]⟩,
 ⟨19,[true,true,false,false,true,false,false,true,true,true,true,true,true,false,true,true,true,true,true,true,true,true,true],[.ptr 0 0,.ptr 6 96,.val 1 (cy),.val 4 (aC),.val 5 (aC),.val 7 (cz),.val 57 (BT1),.slot 0 (.leaf true (.nm 7)) true none,.slot 96 (BT3) true none]⟩,
 ⟨20,[],[]⟩,
 ⟨21,[],[]⟩,
 ⟨21,[true,true,false,true,false],[.val 0 (cz),.val 1 (cz),.val 5 (aC)]⟩,
 ⟨22,[],[]⟩,
 ⟨22,[true,true,false,true,false],[.val 0 (fj),.val 1 (fj),.val 5 (aC)]⟩,
 ⟨23,[],[]⟩,
 ⟨23,[true,true,false,true,false],[.val 0 (bT),.val 1 (bT),.val 5 (aC)]⟩,
 ⟨24,[],[]⟩,
 ⟨24,[true,true,false,true,false],[.val 0 (cy),.val 1 (cy),.val 5 (aC)]⟩,
 ⟨25,[],[]⟩,
 ⟨25,[true,false,true,false],[.own 0 320 (fh),.val 1 (aC),.val 5 (aC)]⟩,
 ⟨26,[],[]⟩,
 ⟨26,[true,false,true,false],[.own 0 560 (pO),.val 1 (aC),.val 5 (aC)]⟩,
 ⟨27,[],[]⟩,
 ⟨27,[true,false,true,false],[.own 0 0 (pP),.val 1 (aC),.val 5 (aC)]⟩,
 ⟨28,[],[]⟩,
 ⟨28,[true,false,true,false],[.own 0 0 (iG),.val 1 (aC),.val 5 (aC)]⟩,
 ⟨29,[],[]⟩,
 ⟨29,[true,false,true,false],[.val 0 (cz),.val 1 (aC),.val 5 (aC)]⟩,
 ⟨30,[],[]⟩,
 ⟨30,[true,false,true,false],[.val 0 (fj),.val 1 (aC),.val 5 (aC)]⟩,
 ⟨31,[],[]⟩,
 ⟨32,[],[]⟩,
 ⟨33,[],[]⟩,
 ⟨33,[true,false,true,false],[.val 0 (BT0),.val 3 (aC)]⟩,
 ⟨34,[],[]⟩,
 ⟨34,[true,false,true,false],[.val 0 (bT),.val 1 (BT0),.val 5 (aC)]⟩,
 ⟨35,[],[]⟩,
 ⟨35,[true,true,true,false,true,false],[.val 0 (cy),.val 1 (aC),.val 2 (aC),.val 7 (aC),.val 8 (aC)]⟩,
 ⟨36,[],[]⟩,
 ⟨37,[],[]⟩,
 ⟨38,[],[]⟩,
 ⟨38,[true,true,true,false],[.ptr 0 0,.ptr 4 176,.wrd 176 0,.val 1 (cy),.val 5 (aC),.val 6 (aC),.slot 0 (BT4) true none,.slot 176 (BT5) true none]⟩,
 ⟨39,[],[]⟩,
 ⟨40,[],[]⟩,
 ⟨40,[true,false,true,false],[.val 0 (bT),.val 5 (bT),.val 6 (aC),.val 7 (aC)]⟩,
 ⟨41,[],[]⟩,
 ⟨42,[],[]⟩,
 ⟨43,[],[]⟩,
 ⟨44,[],[]⟩,
 ⟨45,[],[]⟩,
 ⟨46,[],[]⟩,
 ⟨46,[true,false,true,false,true],[.ptr 1 16,.val 4 (aC),.val 5 (BT1),.slot 16 (BT3) true none]⟩,
 ⟨46,[true,true],[.ptr 1 16,.slot 16 (BT3) true none]⟩,
 ⟨47,[],[]⟩,
 ⟨48,[],[]⟩,
 ⟨48,[true,false,true,false,true],[.ptr 1 16,.val 4 (aC),.val 5 (BT1),.slot 16 (BT6) true none]⟩,
 ⟨49,[],[]⟩,
 ⟨50,[],[]⟩,
 ⟨51,[],[]⟩,
 ⟨52,[],[]⟩,
 ⟨53,[],[]⟩,
 ⟨54,[],[]⟩,
 ⟨54,[true,true,true,false,false],[.val 0 (aC),.val 3 (BT0)]⟩,
 ⟨55,[],[]⟩,
 ⟨56,[],[]⟩,
 ⟨57,[],[]⟩,
 ⟨58,[],[]⟩,
 ⟨58,[true,false,true,false,true,true,true,true,true],[.ptr 4 64,.val 1 (aC),.val 2 (aC),.val 3 (aC),.val 12 (aC),.val 28 (BT1),.slot 64 (BT3) true none]⟩,
 ⟨58,[true,false,true,false,true,true,true,true,true,true,true],[.ptr 4 64,.val 1 (aC),.val 3 (aC),.val 12 (aC),.val 46 (BT1),.slot 64 (BT3) true none]⟩,
 ⟨58,[true,false,true,false,true,true,true,true,true,true,true,true,true],[.ptr 4 64,.val 1 (aC),.val 12 (aC),.val 65 (BT1),.slot 64 (BT3) true none]⟩,
 ⟨58,[true,false,true,false,true,true,true,true,true,true,true,true,true,true,true,true,true],[.ptr 4 64,.val 1 (aC),.val 12 (aC),.val 91 (BT1),.slot 64 (BT3) true none]⟩,
 ⟨59,[],[]⟩,
 ⟨60,[],[]⟩,
 ⟨61,[],[]⟩,
 ⟨62,[],[]⟩,
 ⟨62,[true,true,true,true,true,true],[.wrd 0 1,.val 2 (aC),.slot 0 (.pr (.leaf false .ptr) (.pr (pP) (.un))) true none,.slot 1 (cj) true none]⟩,
 ⟨62,[true,true,true,true,true,false,true,false,true,true,true,true,true,true,true,true,true,true,true,true,true],[.ptr 0 0,.ptr 4 64,.wrd 0 1,.val 2 (aC),.val 9 (cz),.val 93 (BT1),.slot 0 (BT5) true none,.slot 1 (BT4) true none,.slot 64 (BT3) true none]⟩,
 ⟨63,[],[]⟩,
 ⟨64,[],[]⟩,
 ⟨64,[true,false,true,false],[.clo 1 51 [16],.val 0 (bT),.val 7 (aC),.val 8 (aC),.slot 16 (BT7) true none]⟩,
 ⟨65,[],[]⟩,
 ⟨66,[],[]⟩,
 ⟨67,[],[]⟩,
 ⟨68,[],[]⟩,
 ⟨69,[],[]⟩,
 ⟨70,[],[]⟩,
 ⟨71,[],[]⟩,
 ⟨72,[],[]⟩,
 ⟨73,[],[]⟩,
 ⟨74,[],[]⟩,
 ⟨75,[],[]⟩,
 ⟨76,[],[]⟩,
 ⟨77,[],[]⟩,
 ⟨78,[],[]⟩,
 ⟨79,[],[]⟩,
 ⟨80,[],[]⟩,
 ⟨81,[],[]⟩,
 ⟨82,[],[]⟩,
 ⟨82,[true,false,true,false,true],[.ptr 1 16,.val 6 (aC),.val 7 (BT1),.slot 16 (BT6) true none]⟩,
 ⟨83,[],[]⟩,
 ⟨83,[true,false,false],[.ptr 4 64,.val 0 (BT0),.val 1 (cz),.slot 64 (BT6) true none]⟩,
 ⟨84,[],[]⟩,
 ⟨85,[],[]⟩,
 ⟨86,[],[]⟩,
 ⟨87,[],[]⟩,
 ⟨88,[],[]⟩,
 ⟨88,[true,false,true,false,true],[.ptr 1 16,.val 4 (aC),.val 5 (BT1),.slot 16 (BT3) true none]⟩,
 ⟨89,[],[]⟩,
 ⟨89,[true,false,true,false,true],[.ptr 1 16,.val 4 (aC),.val 5 (BT1),.slot 16 (BT6) true none]⟩,
 ⟨90,[],[]⟩,
 ⟨91,[],[]⟩,
 ⟨92,[],[]⟩,
 ⟨93,[],[]⟩,
 ⟨93,[true,true,true,true],[.ptr 0 0,.ptr 6 1,.ptr 7 112,.wrd 0 1,.slot 0 (BT5) true none,.slot 1 (cj) true none,.slot 112 (BT6) true none]⟩,
 ⟨94,[],[]⟩,
 ⟨94,[true,true,false,false],[.val 0 (BT0),.val 1 (aC),.val 5 (aC)]⟩,
 ⟨95,[],[]⟩,
 ⟨95,[true,false,true,false,true],[.val 0 (BT0),.val 4 (BT1)]⟩,
 ⟨96,[],[]⟩,
 ⟨97,[],[]⟩,
 ⟨97,[true,false,true,false],[.clo 1 80 [16,17,18],.val 0 (cy),.val 7 (aC),.val 8 (aC),.slot 16 (cy) true none,.slot 17 (j2) true none,.slot 18 (j2) true none]⟩,
 ⟨98,[],[]⟩,
 ⟨99,[],[]⟩,
 ⟨99,[true,true,true,true],[.val 0 (aC),.val 3 (BT0)]⟩,
 ⟨100,[],[]⟩,
 ⟨101,[],[]⟩,
 ⟨102,[],[]⟩,
 ⟨103,[],[]⟩,
 ⟨104,[],[]⟩,
 ⟨105,[],[]⟩,
 ⟨106,[],[]⟩,
 ⟨106,[true,true,true,false,true,false],[.clo 1 129 [],.own 0 672 (fh),.val 5 (aC),.val 6 (aC)]⟩,
 ⟨107,[],[]⟩,
 ⟨108,[],[]⟩,
 ⟨109,[],[]⟩,
 ⟨109,[true,true,true,true],[.val 0 (BT0),.val 4 (aC),.val 5 (BT1)]⟩,
 ⟨109,[true,true,true,true,true,true,true,true,true],[.val 4 (aC),.val 5 (BT1),.val 7 (BT0),.val 8 (BT0)]⟩,
 ⟨110,[],[]⟩,
 ⟨110,[true,true,false,true,false],[.ali 12 7,.val 1 (bJ),.val 2 (bJ),.own 7 112 (pT),.val 13 (aC),.val 14 (aC)]⟩,
 ⟨111,[],[]⟩,
 ⟨112,[],[]⟩,
 ⟨113,[],[]⟩,
 ⟨113,[true,true,true],[.val 8 (aC),.val 9 (BT1)]⟩,
 ⟨114,[],[]⟩,
 ⟨115,[],[]⟩,
 ⟨116,[],[]⟩,
 ⟨116,[true,true,false,false],[.ptr 0 0,.ptr 4 64,.val 1 (aC),.own 5 80 (pR),.slot 0 (BT8) true none,.slot 64 (BT9) true none]⟩,
 ⟨117,[],[]⟩,
 ⟨117,[true,true,false,true,false],[.ptr 1 16,.val 3 (aC),.val 4 (aC),.slot 16 (b6) true none]⟩,
 ⟨118,[],[]⟩,
 ⟨118,[true,true,true,true,true,false,true,false,true,false,false],[.val 0 (aC),.val 4 (BT0),.val 6 (BT0)]⟩,
 ⟨118,[true,true,true,true,true,true],[.val 0 (aC),.val 4 (BT0)]⟩,
 ⟨119,[],[]⟩,
 ⟨120,[],[]⟩,
 ⟨120,[true,false,true,false,true],[.ptr 1 16,.val 6 (aC),.val 7 (BT1),.slot 16 (BT6) true none]⟩,
 ⟨121,[],[]⟩,
 ⟨121,[true,true,true],[.ptr 0 0,.ptr 8 128,.val 9 (aC),.val 10 (BT1),.slot 0 (BT4) true none,.slot 128 (BT6) true none]⟩,
 ⟨122,[],[]⟩,
 ⟨123,[],[]⟩,
 ⟨124,[],[]⟩,
 ⟨125,[],[]⟩,
 ⟨126,[],[]⟩,
 ⟨127,[],[]⟩,
 ⟨128,[],[]⟩,
 ⟨129,[],[]⟩,
 ⟨130,[],[]⟩,
 ⟨131,[],[]⟩,
 ⟨132,[],[]⟩,
 ⟨133,[],[]⟩,
 ⟨134,[],[]⟩,
 ⟨135,[],[]⟩,
 ⟨136,[],[]⟩,
 ⟨137,[],[]⟩,
 ⟨138,[],[]⟩,
 ⟨139,[],[]⟩,
 ⟨140,[],[]⟩,
 ⟨141,[],[]⟩,
 ⟨141,[true,false,true,false],[.clo 1 162 [16],.val 0 (fj),.val 7 (aC),.val 8 (aC),.slot 16 (.leaf true (.nm 4)) true none]⟩,
 ⟨142,[],[]⟩,
 ⟨143,[],[]⟩,
 ⟨143,[true,false,true,false],[.clo 1 166 [16,17],.val 0 (fj),.val 7 (aC),.val 8 (aC),.slot 16 (j2) true none,.slot 17 (.leaf true .str) true none]⟩,
 ⟨144,[],[]⟩,
 ⟨145,[],[]⟩,
 ⟨145,[true,true,true,true],[.val 0 (BT0),.val 1 (BT0),.val 2 (aC),.val 3 (aC)]⟩,
 ⟨145,[true,true,true,true,true,true,true,true,false,false],[.val 0 (BT0),.val 1 (BT0),.val 2 (aC),.val 3 (aC),.own 9 144 (fh),.val 10 (aC)]⟩,
 ⟨146,[],[]⟩,
 ⟨146,[true,false,true,false],[.clo 1 129 [],.val 0 (bT),.val 7 (aC),.val 8 (aC)]⟩,
 ⟨147,[],[]⟩,
 ⟨148,[],[]⟩,
 ⟨148,[true,true,false,false],[.ptr 0 0,.ptr 2 32,.own 3 48 (pR),.slot 0 (iE) true none,.slot 32 (BT9) true none]⟩,
 ⟨149,[],[]⟩,
 ⟨149,[true,true,false,true,false],[.val 3 (aC),.val 7 (fZ),.val 8 (aC),.val 9 (aC)]⟩,
 ⟨150,[],[]⟩,
 ⟨151,[],[]⟩,
 ⟨151,[true,true,false,true,false],[.val 0 (bS),.val 1 (BT0),.val 7 (aC)]⟩,
 ⟨152,[],[]⟩,
 ⟨153,[],[]⟩,
 ⟨153,[true,true,false,false],[.val 0 (BT0),.val 1 (aC),.val 5 (aC)]⟩,
 ⟨154,[],[]⟩,
 ⟨155,[],[]⟩,
 ⟨156,[],[]⟩,
 ⟨157,[],[]⟩,
 ⟨158,[],[]⟩,
 ⟨159,[],[]⟩,
 ⟨159,[true,true,false,false],[.ptr 0 0,.ptr 4 64,.val 1 (aC),.own 5 80 (pR),.slot 0 (BT8) true none,.slot 64 (BT9) true none]⟩,
 ⟨160,[],[]⟩,
 ⟨161,[],[]⟩,
 ⟨162,[],[]⟩,
 ⟨162,[true,true,true,false,false],[.val 0 (aC),.val 3 (BT0)]⟩,
 ⟨163,[],[]⟩,
 ⟨163,[true,true,false,false],[.val 0 (BT0),.val 4 (aC)]⟩,
 ⟨163,[true,true,true,true,true],[.val 0 (BT0),.val 4 (aC),.val 5 (BT1)]⟩,
 ⟨163,[true,true,true,true,true,true,false,false],[.val 0 (BT0),.val 4 (aC),.val 5 (BT1),.val 6 (aC),.val 7 (aC)]⟩,
 ⟨163,[true,true,true,true,true,true,true,false,true,false,true,true,false],[.val 0 (BT0),.val 4 (aC),.val 5 (BT1),.val 6 (aC),.val 7 (aC),.val 8 (aC)]⟩,
 ⟨163,[true,true,true,true,true,true,true,true],[.val 4 (aC),.val 5 (BT1),.val 6 (aC),.val 7 (aC)]⟩,
 ⟨164,[],[]⟩,
 ⟨165,[],[]⟩,
 ⟨166,[],[]⟩,
 ⟨167,[],[]⟩,
 ⟨168,[],[]⟩,
 ⟨168,[true,false,true,false],[.ptr 3 48,.val 1 (aC),.val 2 (BT0),.val 7 (aC),.slot 48 (co) true none]⟩,
 ⟨169,[],[]⟩,
 ⟨169,[true,true,true,true,true,true,false,false],[.ptr 4 64,.ptr 7 112,.ptr 8 128,.ptr 10 160,.val 1 (aC),.val 2 (BT0),.val 11 (aC),.slot 64 (co) true none,.slot 112 (BT6) true none,.slot 128 (BT2) true none,.slot 160 (BT2) true none]⟩,
 ⟨170,[],[]⟩,
 ⟨170,[true,true],[.ptr 2 32,.val 0 (BT0),.slot 32 (BT6) true none]⟩,
 ⟨171,[],[]⟩,
 ⟨172,[],[]⟩,
 ⟨173,[],[]⟩,
 ⟨174,[],[]⟩,
 ⟨175,[],[]⟩,
 ⟨175,[true,false,true,false],[.val 0 (bT),.val 1 (BT0),.val 7 (aC),.val 8 (aC)]⟩,
 ⟨176,[],[]⟩,
 ⟨176,[true,true,true,false,true,false,true,true,true],[.ptr 4 64,.val 1 (aC),.val 2 (aC),.val 3 (aC),.val 56 (aC),.val 62 (BT1),.slot 64 (BT3) true none]⟩,
 ⟨176,[true,true,true,false,true,false,true,true,true,true,true],[.ptr 4 64,.val 1 (aC),.val 3 (aC),.val 56 (aC),.val 75 (BT1),.slot 64 (BT3) true none]⟩,
 ⟨176,[true,true,true,false,true,false,true,true,true,true,true,true,true],[.ptr 4 64,.val 1 (aC),.val 56 (aC),.val 89 (BT1),.slot 64 (BT3) true none]⟩,
 ⟨176,[true,true,true,false,true,false,true,true,true,true,true,true,true,true,true,true,true],[.ptr 4 64,.val 1 (aC),.val 56 (aC),.val 106 (BT1),.slot 64 (BT3) true none]⟩,
 ⟨177,[],[]⟩,
 ⟨177,[true,false,false],[.val 0 (BT0),.val 1 (bJ)]⟩,
 ⟨178,[],[]⟩,
 ⟨179,[],[]⟩,
 ⟨180,[],[]⟩,
 ⟨181,[],[]⟩,
 ⟨181,[true,true,true],[.val 0 (BT0),.val 1 (aC)]⟩,
 ⟨181,[true,true,true,true,false,true,false],[.val 0 (BT0),.val 1 (aC),.own 6 96 (fh),.val 7 (aC)]⟩,
 ⟨182,[],[]⟩,
 ⟨182,[true,true,true,true,false],[.val 0 (BT0),.val 1 (BT0),.val 5 (aC)]⟩,
 ⟨183,[],[]⟩,
 ⟨183,[true,true,false,false],[.ptr 0 0,.ptr 2 32,.own 3 48 (pR),.slot 0 (iE) true none,.slot 32 (BT9) true none]⟩,
 ⟨184,[],[]⟩,
 ⟨185,[],[]⟩,
 ⟨186,[],[]⟩,
 ⟨186,[true,true,false,true,false,true,true,true,true,true,true,true,true,true,true,true,false,true,false],[.own 0 2032 (dd),.val 51 (fZ),.val 52 (aC),.val 53 (aC)]⟩,
 ⟨186,[true,true,true],[.own 0 2032 (dd)]⟩,
 ⟨187,[],[]⟩,
 ⟨187,[true,true,false,true,false],[.val 0 (bS),.val 9 (bS),.val 10 (aC),.val 11 (aC)]⟩,
 ⟨188,[],[]⟩,
 ⟨188,[true,true,true,true,false],[.val 0 (bS),.val 1 (BT0),.val 2 (aC),.val 7 (aC),.val 8 (dF)]⟩,
 ⟨188,[true,true,true,true,false,false,false,true,true],[.val 0 (bS),.val 1 (BT0),.val 2 (aC),.val 7 (aC),.val 8 (dF)]⟩,
 ⟨188,[true,true,true,true,false,false,false,true,true,true,true,false,true,false],[.val 0 (bS),.val 1 (BT0),.val 2 (aC),.val 7 (aC),.own 9 144 (d6),.val 49 (dF),.val 50 (aC),.val 51 (aC)]⟩,
 ⟨189,[],[]⟩,
 ⟨189,[true,false,false],[.val 0 (BT0),.val 1 (bJ)]⟩,
 ⟨190,[],[]⟩,
 ⟨191,[],[]⟩,
 ⟨192,[],[]⟩,
 ⟨193,[],[]⟩,
 ⟨193,[true,true],[.val 0 (aZ),.val 1 (aZ),.val 2 (aZ)]⟩,
 ⟨193,[true,true,true],[.val 0 (aZ),.val 1 (aZ),.val 2 (aZ)]⟩,
 ⟨193,[true,true,true,true,true,true,true,true,true,true,true,true,true,true,false,false],[.val 2 (aZ),.val 8 (aZ),.val 9 (aZ),.val 10 (aZ),.val 11 (aZ),.val 13 (aZ),.val 14 (aZ),.val 15 (aZ),.val 16 (aZ)]⟩,
 ⟨193,[true,true,true,true,true,true,true,true,true,true,true,true,true,true,true],[.val 2 (aZ),.val 8 (aZ),.val 9 (aZ),.val 10 (aZ),.val 11 (aZ),.val 13 (aZ),.val 14 (aZ),.val 15 (aZ)]⟩,
 ⟨193,[true,true,true,true,true,true,true,true,true,true,true,true,true,true,true,true,true,true,false,false],[.val 2 (aZ),.val 8 (aZ),.val 9 (aZ),.val 10 (aZ),.val 14 (aZ),.val 15 (aZ),.val 16 (aZ),.val 17 (aZ),.val 18 (aZ)]⟩,
 ⟨193,[true,true,true,true,true,true,true,true,true,true,true,true,true,true,true,true,true,true,true],[.val 2 (aZ),.val 8 (aZ),.val 14 (aZ),.val 15 (aZ),.val 17 (aZ),.val 18 (aZ)]⟩,
 ⟨194,[],[]⟩,
 ⟨195,[],[]⟩,
 ⟨195,[true,true,false,false],[.ptr 0 0,.ptr 4 64,.ptr 5 80,.slot 0 (BT8) true none,.slot 64 (BT9) true none,.slot 80 (BT9) true none]⟩,
 ⟨195,[true,true,false,false,false,true,false,true,true],[.ptr 0 0,.ptr 4 64,.ptr 5 80,.val 6 (aC),.slot 0 (BT8) true none,.slot 64 (BT9) true none,.slot 80 (BT9) true none]⟩,
 ⟨196,[],[]⟩,
 ⟨197,[],[]⟩,
 ⟨198,[],[]⟩,
 ⟨199,[],[]⟩,
 ⟨199,[true,true,true,false,false],[.val 0 (BT0),.val 4 (aC),.val 5 (aC)]⟩,
 ⟨200,[],[]⟩,
 ⟨201,[],[]⟩,
 ⟨201,[true,false,true,false],[.val 0 (bS),.val 1 (BT0),.val 7 (aC)]⟩,
 ⟨202,[],[]⟩,
 ⟨203,[],[]⟩,
 ⟨203,[true,false,true,false],[.val 0 (BT0),.val 1 (BT0),.val 5 (aC)]⟩,
 ⟨204,[],[]⟩,
 ⟨204,[true,true,false,true,false],[.val 1 (bJ),.val 2 (bJ),.own 7 112 (pT),.val 8 (aC)]⟩,
 ⟨205,[],[]⟩,
 ⟨205,[true,true,true,true,true],[.val 3 (BT0),.val 4 (aC),.val 5 (aC)]⟩,
 ⟨206,[],[]⟩,
 ⟨206,[true,true,true,true,true],[.val 0 (aC),.val 4 (bT),.val 5 (BT0)]⟩,
 ⟨206,[true,true,true,true,false,true,false,true,true,true],[.val 0 (aC),.val 4 (bT),.val 5 (BT0),.val 13 (aC),.val 16 (BT1)]⟩,
 ⟨206,[true,true,true,true,false,true,false,true,true,true,true,true,true,true],[.val 0 (aC),.val 4 (bT),.val 5 (BT0),.val 22 (BT1)]⟩,
 ⟨207,[],[]⟩,
 ⟨208,[],[]⟩,
 ⟨209,[],[]⟩,
 ⟨210,[],[]⟩,
 ⟨211,[],[]⟩,
 ⟨212,[],[]⟩,
 ⟨213,[],[]⟩,
 ⟨213,[true,true,false],[.ptr 0 0,.ptr 2 32,.ptr 3 48,.slot 0 (iE) true none,.slot 32 (BT9) true none,.slot 48 (BT9) true none]⟩,
 ⟨214,[],[]⟩,
 ⟨214,[true,true,true,true],[.ptr 2 32,.ptr 3 48,.val 5 (BT1),.slot 32 (b6) true none,.slot 48 (j2) true none]⟩,
 ⟨214,[true,true,true,false,true,false,true,true,true],[.ptr 2 32,.ptr 3 48,.val 5 (BT1),.val 33 (aC),.val 45 (BT1),.slot 32 (b6) true none,.slot 48 (j2) true none]⟩,
 ⟨214,[true,true,true,false,true,false,true,true,true,true,true,true,true],[.ptr 2 32,.ptr 3 48,.val 5 (BT1),.val 33 (aC),.val 64 (BT1),.slot 32 (b6) true none,.slot 48 (j2) true none]⟩,
 ⟨215,[],[]⟩,
 ⟨215,[true,true,false,true,false],[.own 0 1120 (dd),.val 1 (fZ),.own 5 80 (d6),.val 16 (fZ),.val 17 (aC),.val 18 (aC)]⟩,
 ⟨215,[true,true,true,true,false,true,false],[.own 0 1120 (dd),.val 56 (dF),.val 57 (aC),.val 58 (aC)]⟩,
 ⟨216,[],[]⟩,
 ⟨216,[true,true,false,true,false,true,true,true,true,true,true,true],[.ptr 3 48,.val 79 (BT1),.slot 48 (nj) true none]⟩,
 ⟨217,[],[]⟩,
 ⟨217,[true,true,true,true,false,true,false],[.ptr 4 64,.ptr 10 160,.clo 11 271 [64,144,160],.val 2 (BT1),.val 3 (BT1),.val 22 (dF),.val 23 (aC),.val 24 (aC),.slot 64 (bS) true none,.slot 144 (dM) true none,.slot 160 (d6) true none]⟩,
 ⟨217,[true,true,true,true,true,false,true,false],[.ptr 4 64,.ptr 10 160,.clo 11 271 [64,144,160],.val 2 (BT1),.val 3 (BT1),.val 14 (aC),.slot 64 (bS) true none,.slot 144 (dM) true none,.slot 160 (d6) true none]⟩,
 ⟨217,[true,true,true,true,true,false,true,false,false,true,true],[.ptr 4 64,.ptr 10 160,.clo 11 271 [64,144,160],.val 2 (BT1),.val 3 (BT1),.val 14 (aC),.slot 64 (bS) true none,.slot 144 (dM) true none,.slot 160 (d6) true none]⟩,
 ⟨218,[],[]⟩,
 ⟨219,[],[]⟩,
 ⟨220,[],[]⟩,
 ⟨220,[true,true,false,true,false,true,true],[.val 0 (BT0),.val 5 (BT0)]⟩,
 ⟨220,[true,true,false,true,false,true,true,true,false,true,false],[.val 5 (BT0),.val 6 (aC),.val 47 (tB),.val 48 (aC),.val 49 (aC)]⟩,
 ⟨221,[],[]⟩,
 ⟨222,[],[]⟩,
 ⟨223,[],[]⟩,
 ⟨223,[true,true,true,true,true],[.ptr 4 64,.val 5 (bJ),.slot 0 (BT8) true none,.slot 64 (BT9) true none]⟩,
 ⟨224,[],[]⟩,
 ⟨225,[],[]⟩,
 ⟨225,[true,true,false,true,false,true,true,true,true,true,true,true,true,true,true,true,false,true,false],[.ptr 3 48,.own 0 2064 (dd),.val 6 (aC),.slot 48 (b6) true none]⟩,
 ⟨225,[true,true,true],[.own 0 2064 (dd)]⟩,
 ⟨226,[],[]⟩,
 ⟨227,[],[]⟩,
 ⟨227,[true,true,true,true,false,true,false],[.val 0 (bS),.val 1 (BT0),.val 7 (dF),.val 8 (aC),.val 9 (aC)]⟩,
 ⟨227,[true,true,true,true,false,true,false,false,true,false,false,true],[.val 0 (bS),.val 1 (BT0),.val 7 (dF),.val 8 (aC),.val 9 (aC)]⟩,
 ⟨227,[true,true,true,true,false,true,false,false,true,false,false,true,true,true,false,true,false],[.val 0 (bS),.val 1 (BT0),.val 7 (dF),.val 8 (aC),.val 9 (aC),.own 10 160 (d6),.val 11 (aC)]⟩,
 ⟨228,[],[]⟩,
 ⟨229,[],[]⟩,
 ⟨229,[true,true,true,false,true,false,true,true,true,true,true,true,true,true,true,true,true,true,true],[.ptr 0 0,.ptr 2 32,.val 3 (bJ),.val 70 (BT1),.slot 0 (iE) true none,.slot 32 (BT9) true none]⟩,
 ⟨230,[],[]⟩,
 ⟨231,[],[]⟩,
 ⟨232,[],[]⟩,
 ⟨232,[true,false,true,false],[.ptr 1 16,.val 6 (aC),.val 7 (aC),.slot 16 (b6) true none]⟩,
 ⟨233,[],[]⟩,
 ⟨234,[],[]⟩,
 ⟨235,[],[]⟩,
 ⟨235,[true,false,true,false],[.val 0 (dF),.val 1 (aC),.val 7 (aC),.val 8 (aC)]⟩,
 ⟨236,[],[]⟩,
 ⟨237,[],[]⟩,
 ⟨237,[true,true,true,true],[.val 0 (BT0),.val 1 (aC),.val 2 (aC),.val 8 (BT1)]⟩,
 ⟨237,[true,true,true,true,true,true,true,true],[.val 2 (aC),.val 8 (BT1),.val 9 (aZ)]⟩,
 ⟨238,[],[]⟩,
 ⟨238,[true,true],[.val 0 (aZ),.val 2 (aC)]⟩,
 ⟨238,[true,true,true],[.val 0 (aZ),.val 2 (aC)]⟩,
 ⟨239,[],[]⟩,
 ⟨239,[true,true,true],[.ptr 0 0,.ptr 2 32,.ptr 3 48,.slot 0 (BT8) true none,.slot 32 (BT9) true none,.slot 48 (BT9) true none]⟩,
 ⟨239,[true,true,true,true,true,false,false],[.ptr 0 0,.ptr 2 32,.ptr 3 48,.own 4 64 (dM),.val 5 (aC),.slot 0 (BT8) true none,.slot 32 (BT9) true none,.slot 48 (BT9) true none]⟩,
 ⟨239,[true,true,true,true,true,false,false,false,true,false,true,true,true,true],[.ptr 0 0,.ptr 2 32,.ptr 3 48,.own 4 64 (dM),.val 5 (aC),.val 6 (aC),.val 7 (aC),.slot 0 (BT8) true none,.slot 32 (BT9) true none,.slot 48 (BT9) true none]⟩,
 ⟨239,[true,true,true,true,true,true,true],[.ptr 0 0,.ptr 2 32,.ptr 3 48,.val 4 (nk),.slot 0 (BT8) true none,.slot 32 (BT9) true none,.slot 48 (BT9) true none]⟩,
 ⟨239,[true,true,true,true,true,false,false,false,true,false,true,true,true,true,true],[.ptr 0 0,.ptr 2 32,.ptr 3 48,.own 4 64 (dM),.val 5 (aC),.val 6 (aC),.val 7 (aC),.slot 0 (BT8) true none,.slot 32 (BT9) true none,.slot 48 (BT9) true none]⟩,
 ⟨239,[true,true,true,true,true,true,true,true,true,false,true,false],[.ptr 2 32,.ptr 3 48,.val 4 (nk),.own 9 144 (pT),.val 10 (aC),.slot 0 (BT8) true none,.slot 32 (BT9) true none,.slot 48 (BT9) true none]⟩,
 ⟨239,[true,true,true,true,true,false,false,false,true,false,true,true,true,true,true,false,true,false],[.ptr 0 0,.ptr 2 32,.ptr 3 48,.own 4 64 (dM),.val 5 (aC),.val 7 (aC),.val 8 (aC),.slot 0 (BT8) true none,.slot 32 (BT9) true none,.slot 48 (BT9) true none]⟩,
 ⟨240,[],[]⟩,
 ⟨240,[true,false,true,false],[.ptr 1 16,.val 3 (aC),.slot 16 (b6) true none]⟩,
 ⟨240,[true,true,true,false,true,false,true,true,true,true,true],[.ptr 1 16,.val 4 (aC),.val 23 (aC),.val 62 (BT1),.slot 16 (b6) true none]⟩,
 ⟨240,[true,true,true,false,true,false,true,true,true,true,true,true,true],[.ptr 1 16,.val 4 (aC),.val 82 (BT1),.slot 16 (b6) true none]⟩,
 ⟨241,[],[]⟩,
 ⟨241,[true,true,false,true,false],[.own 0 1104 (dd),.val 1 (fZ),.own 5 80 (d6),.val 6 (aC)]⟩,
 ⟨241,[true,true,true,true,false,true,false],[.own 0 1104 (dd),.val 5 (dF),.val 8 (aC)]⟩,
 ⟨242,[],[]⟩,
 ⟨242,[true,true,false,true,false],[.val 0 (bS),.val 3 (aC),.val 4 (aC)]⟩,
 ⟨243,[],[]⟩,
 ⟨243,[true,true,false,true,false],[.val 0 (bS),.val 1 (dF),.val 2 (BT1),.val 3 (BT1),.own 9 144 (dM),.val 10 (aC)]⟩,
 ⟨244,[],[]⟩,
 ⟨245,[],[]⟩,
 ⟨245,[true,true,true,true,true,true,true,false,true,false],[.ptr 0 0,.ptr 2 32,.ptr 3 48,.val 5 (BT0),.own 6 96 (dM),.val 7 (aC),.slot 0 (iE) true none,.slot 32 (BT9) true none,.slot 48 (BT9) true none]⟩,
 ⟨245,[true,true,true,true,true,true,true,false,true,false,false,true,false,false,true,true],[.ptr 0 0,.ptr 2 32,.ptr 3 48,.val 5 (BT0),.own 6 96 (dM),.val 7 (aC),.val 8 (aC),.val 9 (aC),.slot 0 (iE) true none,.slot 32 (BT9) true none,.slot 48 (BT9) true none]⟩,
 ⟨245,[true,true,true,true,true,true,true,true,true,false,true,false],[.ptr 2 32,.ptr 3 48,.own 11 176 (pT),.val 100 (nk),.val 101 (aC),.val 102 (aC),.slot 0 (iE) true none,.slot 32 (BT9) true none,.slot 48 (BT9) true none]⟩,
 ⟨245,[true,true,true,true,true,true,true,false,true,false,false,true,false,false,true,true,true,false],[.ptr 0 0,.ptr 2 32,.ptr 3 48,.val 5 (BT0),.own 6 96 (dM),.val 7 (aC),.val 9 (aC),.val 10 (aC),.slot 0 (iE) true none,.slot 32 (BT9) true none,.slot 48 (BT9) true none]⟩,
 ⟨246,[],[]⟩,
 ⟨246,[true,false,true,false],[.clo 1 277 [16],.val 0 (fZ),.val 7 (aC),.val 8 (aC),.slot 16 (j2) true none]⟩,
 ⟨247,[],[]⟩,
 ⟨248,[],[]⟩,
 ⟨249,[],[]⟩,
 ⟨249,[true,true,true,true,true],[.val 0 (BT0),.val 1 (aC),.val 2 (aC),.val 8 (BT1),.val 9 (BT0)]⟩,
 ⟨249,[true,true,true,true,true,true],[.val 0 (BT0),.val 1 (aC),.val 2 (aC),.val 8 (BT1),.val 9 (BT0)]⟩,
 ⟨249,[true,true,true,true,true,true,true,true],[.val 0 (BT0),.val 1 (aC),.val 2 (aC),.val 8 (BT1),.val 9 (BT0),.val 10 (aZ)]⟩,
 ⟨249,[true,true,true,true,true,true,true,true,true,true,true,false,true,false],[.val 1 (aC),.val 8 (BT1),.val 9 (BT0),.val 10 (aZ),.val 11 (aZ),.val 12 (BT1),.val 13 (aZ),.val 99 (tB),.val 100 (aC),.val 101 (aC)]⟩,
 ⟨249,[true,true,true,true,true,true,true,true,true,true,true,false,true,false,false,true,true,false,false,true,true,true],[.val 1 (aC),.val 8 (BT1),.val 9 (BT0),.val 10 (aZ),.val 11 (aZ),.val 12 (BT1),.val 13 (aZ),.val 16 (bJ),.val 99 (tB),.val 100 (aC),.val 101 (aC)]⟩,
 ⟨250,[],[]⟩,
 ⟨250,[true,false,true,false],[.val 0 (BT0),.val 3 (aC)]⟩,
 ⟨251,[],[]⟩,
 ⟨251,[true,true],[.ptr 2 32,.val 1 (aC),.val 5 (BT1),.slot 32 (nj) true none]⟩,
 ⟨251,[true,true,true],[.ptr 2 32,.val 1 (aC),.val 5 (BT1),.val 6 (BT1),.slot 32 (nj) true none]⟩,
 ⟨251,[true,true,true,true],[.ptr 2 32,.val 1 (aC),.val 5 (BT1),.val 6 (BT1),.val 7 (BT1),.slot 32 (nj) true none]⟩,
 ⟨251,[true,true,true,true,true],[.ptr 2 32,.val 5 (BT1),.val 6 (BT1),.val 7 (BT1),.val 8 (BT1),.slot 32 (nj) true none]⟩,
 ⟨251,[true,true,true,true,true,true],[.val 4 (BT1)]⟩,
 ⟨252,[],[]⟩,
 ⟨252,[true,false],[.val 0 (bS),.own 1 16 (dM),.val 3 (BT1),.val 4 (BT1),.own 10 160 (d6)]⟩,
 ⟨253,[],[]⟩,
 ⟨253,[true,true,false,true,false],[.val 0 (nk),.own 3 48 (d6),.val 4 (aC)]⟩,
 ⟨254,[],[]⟩,
 ⟨254,[true,false,true,false],[.val 0 (BT0),.val 1 (bJ),.val 5 (aC)]⟩,
 ⟨255,[],[]⟩,
 ⟨256,[],[]⟩,
 ⟨257,[],[]⟩,
 ⟨258,[],[]⟩,
 ⟨258,[true,true,true,true],[.val 0 (BT0),.val 3 (nl),.val 4 (aC)]⟩,
 ⟨258,[true,true,true,true,true,true],[.val 0 (BT0),.val 3 (nl),.val 4 (aC),.val 5 (BT1)]⟩,
 ⟨258,[true,true,true,true,true,true,false,false],[.val 0 (BT0),.val 3 (nl),.val 4 (aC),.val 5 (BT1)]⟩]
def entR:List EntI:=[
 ⟨3,.skip,[],[.val (tA)],[BT1],[],[(21,1),(22,1),(43,1),(75,1),(76,1)],0,[],false⟩,
 ⟨5,.skip,[],[.val (tA),.val (aC)],[aC],[],[],0,[],false⟩,
 ⟨7,.skip,[],[.val (tA)],[.leaf true (.nm 5)],[],[],0,[],false⟩,
 ⟨6,.skip,[],[.val (BT7)],[co,BT0],[],[(9,1),(12,1)],0,[],false⟩,
 ⟨8,.skip,[],[.val (BT7)],[BT2,BT0],[],[(13,1)],0,[],false⟩,
 ⟨9,.skip,[],[.val (co),.val (co)],[BT1],[],[],0,[],false⟩,
 ⟨10,.skip,[],[.val (BT7),.val (BT7)],[BT1],[],[],0,[],false⟩,
 ⟨11,.skip,[],[.own (.leaf true (.nm 5)),.val (aC)],[aC],[],[],0,[],false⟩,
 ⟨12,.skip,[],[.io (BT2),.val (aC)],[aC],[(32,.orig 0)],[],0,[],false⟩,
 ⟨13,.skip,[],[.val (co),.val (aC)],[aC],[],[],0,[],false⟩,
 ⟨14,.skip,[],[.val (bT),.val (aC)],[aC],[],[],0,[(122,11)],false⟩,
 ⟨20,.skip,[],[.val (pQ),.val (aC)],[aC],[],[],0,[(122,13)],false⟩,
 ⟨16,.skip,[],[.val (bT)],[fh],[],[],0,[(58,15)],false⟩,
 ⟨23,.skip,[],[.val (pQ)],[pO],[],[],0,[(58,17)],false⟩,
 ⟨21,.skip,[],[.val (BT7)],[BT1],[],[],0,[(26,19),(58,20)],false⟩,
 ⟨22,.skip,[],[.val (BT7)],[co,BT0],[],[(11,1),(24,1)],0,[],false⟩,
 ⟨24,.skip,[],[.val (BT7)],[BT1],[],[],0,[],false⟩,
 ⟨25,.skip,[],[.val (aC)],[co],[],[(7,1)],0,[],false⟩,
 ⟨26,.skip,[],[.val (co)],[BT2],[],[],0,[],false⟩,
 ⟨27,.skip,[],[.ptr (cG) (cG),.val (cy)],[],[(0,.box)],[(28,1)],0,[(14,26),(115,27),(15007231,28)],false⟩,
 ⟨28,.skip,[],[.ptr (.pr (BT2) (.pr (BT0) (.pr (BT0) (.pr (cz) (yJ))))) (.pr (.hole 4) (.pr (BT0) (.pr (BT0) (.pr (cz) (yJ))))),.val (co)],[BT2,BT0],[(0,.box)],[(4,5)],0,[],false⟩,
 ⟨29,.skip,[],[.val (cz),.val (cz)],[BT1],[],[],0,[(58,31)],false⟩,
 ⟨30,.skip,[],[.val (fj),.val (fj)],[BT1],[],[],0,[(58,33)],false⟩,
 ⟨18,.skip,[],[.val (bT),.val (bT)],[BT1],[],[],0,[(58,35)],false⟩,
 ⟨31,.skip,[],[.val (cy),.val (cy)],[BT1],[],[],0,[(58,37)],false⟩,
 ⟨19,.skip,[],[.own (fh),.val (aC)],[aC],[],[],0,[(26,39)],false⟩,
 ⟨32,.skip,[],[.own (pO),.val (aC)],[aC],[],[],0,[(26,41)],false⟩,
 ⟨33,.skip,[],[.io (pP),.val (aC)],[aC],[(0,.reg)],[],0,[(26,43)],false⟩,
 ⟨34,.skip,[],[.io (iG),.val (aC)],[aC],[(0,.reg)],[],0,[(26,45)],false⟩,
 ⟨35,.skip,[],[.val (cz),.val (aC)],[aC],[],[],0,[(26,47)],false⟩,
 ⟨36,.skip,[],[.val (fj),.val (aC)],[aC],[],[],0,[(26,49)],false⟩,
 ⟨40,.skip,[],[.val (.leaf false (.nm 1)),.val (aC)],[aC],[],[],0,[],false⟩,
 ⟨48,.skip,[],[.val (.leaf false (.nm 1))],[em],[],[],0,[],false⟩,
 ⟨41,.skip,[],[.val (BT0)],[BT1],[],[],0,[(26,53)],false⟩,
 ⟨42,.skip,[],[.val (bT),.val (BT0)],[BT1],[],[],0,[(26,55)],false⟩,
 ⟨43,.skip,[],[.val (cy),.val (aC),.val (aC)],[BT1],[],[],0,[(122,57)],false⟩,
 ⟨44,.skip,[],[.val (aC)],[co],[],[(7,1)],0,[],false⟩,
 ⟨45,.skip,[],[.val (co)],[BT2],[],[],0,[],false⟩,
 ⟨46,.skip,[],[.ptr (cj) (cj),.val (cy)],[],[(0,.box)],[],0,[(30,61)],false⟩,
 ⟨47,.skip,[],[.ptr (.leaf false (.nm 8)) (.leaf false (.nm 8)),.val (co)],[co,BT0],[(0,.box)],[(14,1)],0,[],false⟩,
 ⟨49,.skip,[],[.val (bT)],[BT1],[],[],0,[(26,64)],false⟩,
 ⟨50,.skip,[],[.val (bT),.clo 51 [BT7]],[BT1],[(16,.box)],[],0,[],false⟩,
 ⟨53,.skip,[],[.val (cy),.val (aC),.val (aC)],[BT1],[],[],0,[],false⟩,
 ⟨54,.skip,[],[.val (cz)],[pP],[],[],0,[],false⟩,
 ⟨55,.skip,[],[.val (fj)],[iG],[],[],0,[],false⟩,
 ⟨56,.skip,[],[.ptr (cG) (cG),.val (aC)],[],[(0,.box)],[],0,[],false⟩,
 ⟨58,.skip,[],[.val (em)],[aC],[],[],0,[(53,71),(7,72)],false⟩,
 ⟨57,.skip,[],[.ptr (cG) (cG),.val (aC)],[cz],[(0,.box)],[(26,2)],0,[],false⟩,
 ⟨59,.skip,[],[.val (bk)],[BT1],[],[],0,[(53,75)],false⟩,
 ⟨60,.skip,[],[.ptr (cG) (cG),.val (em),.val (cz)],[],[(0,.box)],[],0,[],false⟩,
 ⟨61,.skip,[],[.ptr (cG) (cG),.val (em),.val (cz)],[],[(0,.box)],[(112,1),(113,4)],0,[],false⟩,
 ⟨62,.skip,[],[.val (bk),.val (bk)],[BT1],[],[],0,[],false⟩,
 ⟨63,.skip,[],[.val (fY),.val (fY)],[BT1],[],[],0,[],false⟩,
 ⟨64,.skip,[],[.val (em),.val (em)],[BT1],[],[],0,[],false⟩,
 ⟨39,.skip,[],[.val (aC)],[BT0],[],[(12,1)],0,[(60,82)],false⟩,
 ⟨68,.skip,[],[.val (bJ)],[BT1],[],[],0,[],false⟩,
 ⟨69,.skip,[],[.val (aC),.val (aC),.val (aC)],[BT1],[],[],0,[],false⟩,
 ⟨70,.skip,[],[.val (BT0)],[BT1],[],[(3,1),(7,1)],0,[],false⟩,
 ⟨71,.skip,[],[.val (em),.val (aC),.val (aC),.val (aC)],[BT1],[],[(71,1),(86,1)],0,[(863,87),(3455,88),(13823,89),(221183,90)],false⟩,
 ⟨73,.skip,[],[.val (aC),.val (aC)],[aC],[],[],0,[],false⟩,
 ⟨72,.skip,[],[.val (aC),.val (aC)],[aC],[],[],0,[],false⟩,
 ⟨66,.skip,[],[.ptr (cj) (cj),.val (aC)],[],[(0,.box)],[],0,[],false⟩,
 ⟨74,.skip,[],[.ref (BT5) (BT5) (cj) (cj),.val (em),.val (aC)],[aC,BT1],[(0,.box),(1,.box)],[(32,2)],0,[(127,95),(4153343,96)],false⟩,
 ⟨75,.skip,[],[.val (BT0)],[BT1],[],[],0,[],false⟩,
 ⟨76,.skip,[],[.val (bT),.clo 51 [BT7]],[aC],[(16,.box)],[],0,[(26,99)],false⟩,
 ⟨78,.skip,[],[.val (aC),.val (aC),.val (aC)],[BT1],[],[],0,[],false⟩,
 ⟨79,.skip,[],[.val (cy),.clo 80 [cy,aC,aC]],[BT1],[(16,.box),(17,.box),(18,.box)],[],0,[],false⟩,
 ⟨82,.skip,[],[.ptr (cG) (cG),.val (bk)],[],[(0,.box)],[(18,1)],0,[],false⟩,
 ⟨83,.skip,[],[.ptr (cG) (cG),.val (bk),.val (bk)],[bk],[(0,.box)],[],0,[],false⟩,
 ⟨86,.skip,[],[.val (bk)],[BT0],[],[],0,[],false⟩,
 ⟨85,.skip,[],[.val (BT0)],[BT0],[],[],0,[],false⟩,
 ⟨84,.skip,[],[.ptr (cG) (cG),.val (aC),.val (BT0),.val (bk)],[],[(0,.box)],[],0,[],false⟩,
 ⟨87,.skip,[],[.val (co),.val (aC),.val (BT0)],[bk],[],[],0,[],false⟩,
 ⟨88,.skip,[],[.val (co),.val (aC),.val (BT0)],[BT2],[],[],0,[],false⟩,
 ⟨89,.skip,[],[.ptr (cG) (cG),.val (BT0)],[],[(0,.box)],[],0,[],false⟩,
 ⟨90,.skip,[],[.val (aC)],[bk],[],[],0,[],false⟩,
 ⟨91,.skip,[],[.val (BT0)],[bk],[],[],0,[],false⟩,
 ⟨93,.skip,[],[.val (bk)],[aC],[],[],0,[],false⟩,
 ⟨92,.skip,[],[.val (BT0),.val (aC)],[bk],[],[(11,1)],0,[],false⟩,
 ⟨94,.skip,[],[.val (BT0)],[bT],[],[(5,1)],0,[],false⟩,
 ⟨96,.skip,[],[.val (BT0),.val (BT0)],[BT1],[],[(9,1)],0,[],false⟩,
 ⟨95,.skip,[],[.val (BT1)],[bk],[],[],0,[],false⟩,
 ⟨97,.skip,[],[.val (bk)],[aC],[],[],0,[(53,118)],false⟩,
 ⟨98,.skip,[],[.val (BT0),.val (cz)],[bk],[],[(14,1),(24,4)],0,[(12,120)],false⟩,
 ⟨99,.skip,[],[.val (aC),.val (bk),.val (bk)],[bk,aC],[],[],0,[],false⟩,
 ⟨104,.skip,[],[],[bT],[],[(1,1)],0,[],false⟩,
 ⟨105,.skip,[],[.val (aC)],[BT1],[],[],0,[],false⟩,
 ⟨106,.skip,[],[.val (BT0)],[b6,BT1],[],[(9,1),(14,1),(33,1)],0,[],false⟩,
 ⟨107,.skip,[],[.val (em)],[aC],[],[],0,[(53,126)],false⟩,
 ⟨108,.skip,[],[.val (bk)],[BT1],[],[],0,[(53,128)],false⟩,
 ⟨109,.skip,[],[.ptr (cj) (cj),.val (BT0)],[],[(0,.box)],[],0,[],false⟩,
 ⟨110,.skip,[],[.val (bk)],[BT0],[],[],0,[],false⟩,
 ⟨111,.skip,[],[.ref (BT5) (BT5) (cj) (cj),.val (em),.val (cz)],[],[(0,.box),(1,.box)],[],0,[],false⟩,
 ⟨112,.skip,[],[.ref (BT5) (BT5) (cj) (cj),.val (em),.val (cz)],[],[(0,.box),(1,.box)],[],0,[(31,133)],false⟩,
 ⟨113,.skip,[],[.val (BT0),.val (aC)],[aC],[],[],0,[(28,135)],false⟩,
 ⟨114,.skip,[],[.val (BT0)],[BT1],[],[(14,1)],0,[(53,137)],false⟩,
 ⟨51,.skip,[],[.val (BT0),.ptr (BT7) (BT7)],[BT1],[(16,.box)],[],0,[],false⟩,
 ⟨115,.skip,[],[.val (cy),.clo 80 [cy,aC,aC]],[aC],[(16,.box),(17,.box),(18,.box)],[],0,[(26,140)],false⟩,
 ⟨120,.skip,[],[.val (aC),.val (aC)],[aC,BT1],[],[],0,[],false⟩,
 ⟨122,.skip,[],[.val (aC)],[BT0],[],[],0,[(31,143)],false⟩,
 ⟨121,.skip,[],[.val (co),.val (aC),.val (BT0),.val (bk)],[BT2,BT1],[],[],0,[],false⟩,
 ⟨123,.skip,[],[.val (co),.val (aC),.val (BT0)],[aC],[],[],0,[],false⟩,
 ⟨124,.skip,[],[.own (iG),.val (aC),.val (aC)],[iG],[],[],0,[],true⟩,
 ⟨126,.skip,[],[.val (aC)],[aC],[],[],0,[],false⟩,
 ⟨125,.skip,[],[.val (BT0)],[bk],[],[],0,[],false⟩,
 ⟨128,.skip,[],[.val (BT0),.val (BT0)],[fh],[],[],0,[],false⟩,
 ⟨127,.skip,[],[.own (fh),.clo 129 []],[bT],[],[(38,2)],0,[(122,151)],false⟩,
 ⟨130,.skip,[],[.val (BT0)],[b6,BT1],[],[(9,1),(14,1),(31,1)],0,[],false⟩,
 ⟨131,.skip,[],[.val (b6),.val (BT0)],[BT1],[],[(10,1)],0,[],false⟩,
 ⟨132,.skip,[],[.val (BT0)],[aC,aC],[],[],0,[(31,155),(1023,156)],false⟩,
 ⟨133,.skip,[],[.val (BT0),.val (bJ),.val (bJ)],[BT0],[],[],0,[(58,158)],false⟩,
 ⟨134,.skip,[],[.val (BT0),.val (BT0)],[aC],[],[],0,[],true⟩,
 ⟨135,.skip,[],[.val (BT0),.val (aC),.val (aC)],[BT0],[],[],0,[],false⟩,
 ⟨136,.skip,[],[.val (aC),.val (aC),.val (aC)],[aC,aC],[],[],0,[(15,162)],false⟩,
 ⟨138,.skip,[],[.val (bk),.val (bk)],[aC],[],[],0,[],false⟩,
 ⟨137,.skip,[],[.val (aC),.val (aC)],[BT1],[],[],0,[],false⟩,
 ⟨142,.skip,[],[.ptr (eM) (eM),.val (aC)],[BT9],[(0,.box)],[],0,[(28,166)],false⟩,
 ⟨143,.skip,[],[.val (b6)],[aC],[],[],0,[(58,168)],false⟩,
 ⟨144,.skip,[],[.val (aC)],[BT0],[],[],0,[(4052,170),(127,171)],false⟩,
 ⟨145,.skip,[],[.ref (BT5) (BT5) (cj) (cj),.val (bk)],[],[(0,.box),(1,.box)],[(21,1)],0,[],false⟩,
 ⟨147,.skip,[],[.val (bk)],[aC],[],[],0,[(53,174)],false⟩,
 ⟨146,.skip,[],[.ptr (cj) (cj),.val (aC),.val (aC),.val (aC)],[bk],[(0,.box)],[],0,[(15,176)],false⟩,
 ⟨149,.skip,[],[.val (bk)],[BT0],[],[],0,[],false⟩,
 ⟨148,.skip,[],[.val (co),.val (aC),.val (BT0)],[bk],[],[],0,[],false⟩,
 ⟨150,.skip,[],[.ref (BT5) (BT5) (cj) (cj),.val (aC),.val (BT0),.val (bk)],[],[(0,.box),(1,.box)],[],0,[],false⟩,
 ⟨151,.skip,[],[.val (co),.val (aC),.val (BT0)],[BT2],[],[],0,[],false⟩,
 ⟨152,.skip,[],[.val (aC)],[bk],[],[],0,[],false⟩,
 ⟨153,.skip,[],[.ptr (cj) (cj),.val (bk)],[bk],[(0,.box)],[],0,[],false⟩,
 ⟨154,.skip,[],[.ptr (cj) (cj),.val (bk),.val (bk)],[bk],[(0,.box)],[],0,[],false⟩,
 ⟨155,.skip,[],[.val (BT0),.val (BT0)],[bk],[],[(9,1)],0,[],false⟩,
 ⟨156,.skip,[],[.val (BT1)],[bk],[],[],0,[],false⟩,
 ⟨157,.skip,[],[.val (BT0),.val (cz)],[bk],[],[(20,1)],0,[],false⟩,
 ⟨158,.skip,[],[.val (aC),.val (bk),.val (bk)],[bk],[],[(23,1)],0,[],false⟩,
 ⟨159,.skip,[],[.val (bJ)],[BT1],[],[],0,[],false⟩,
 ⟨119,.skip,[],[],[bT],[],[(1,1)],0,[],false⟩,
 ⟨52,.skip,[],[.val (bT),.val (BT0)],[BT1],[],[],0,[],false⟩,
 ⟨80,.skip,[],[.val (em),.ptr (cy) (cy),.ptr (aC) (aC),.ptr (aC) (aC)],[BT1],[(16,.box),(32,.box),(48,.box)],[],0,[],false⟩,
 ⟨117,.skip,[],[.val (aC)],[BT1],[],[],0,[],false⟩,
 ⟨160,.skip,[],[.val (aC)],[aC,BT1],[],[],0,[],false⟩,
 ⟨164,.skip,[],[.val (aC)],[BT0],[],[],0,[],true⟩,
 ⟨165,.skip,[],[.val (BT0),.val (BT0)],[BT0],[],[],0,[],false⟩,
 ⟨161,.skip,[],[.val (fj),.clo 162 [fY]],[aC],[(16,.box)],[],0,[(26,197)],false⟩,
 ⟨163,.skip,[],[.own (iG),.val (aC),.own (iG)],[iG],[],[],0,[],true⟩,
 ⟨161,.skip,[],[.val (fj),.clo 166 [aC,BT0]],[aC],[(16,.box),(17,.box)],[],0,[(26,200)],false⟩,
 ⟨140,.skip,[],[.val (BT0)],[aC,BT1],[],[],0,[],false⟩,
 ⟨167,.skip,[],[.val (BT0),.val (BT0),.val (aC),.val (aC)],[fh],[],[],0,[(31,203),(2044,204)],false⟩,
 ⟨76,.skip,[],[.val (bT),.clo 129 []],[aC],[],[],0,[(26,206)],false⟩,
 ⟨129,.skip,[],[.val (BT0)],[BT1],[],[],0,[],false⟩,
 ⟨168,.skip,[],[.ptr (d5) (d5)],[BT9],[(0,.box)],[],0,[(28,209)],false⟩,
 ⟨169,.skip,[],[.val (b6)],[aC],[],[],0,[(58,211)],false⟩,
 ⟨171,.skip,[],[.val (b6)],[bS],[],[(9,1)],0,[],false⟩,
 ⟨170,.skip,[],[.val (bS),.val (BT0)],[aC,aC,BT1],[],[],0,[(58,214)],false⟩,
 ⟨172,.skip,[],[.val (BT0),.val (BT0)],[BT0],[],[],0,[],false⟩,
 ⟨173,.skip,[],[.val (BT0),.val (aC)],[aC],[],[],0,[(28,217)],false⟩,
 ⟨174,.skip,[],[.val (BT0),.val (BT0)],[aC,BT1],[],[],0,[],false⟩,
 ⟨176,.skip,[],[.val (aC),.val (aC)],[aC,BT1],[],[],0,[],false⟩,
 ⟨177,.skip,[],[.val (aC),.val (aC)],[aC,BT1],[],[],0,[],false⟩,
 ⟨178,.skip,[],[.val (aC),.val (aC)],[aC,BT1],[],[],0,[],false⟩,
 ⟨141,.skip,[],[.val (BT0),.val (BT0)],[aC],[],[],0,[],false⟩,
 ⟨181,.skip,[],[.ptr (eM) (eM),.val (aC)],[BT9],[(0,.box)],[],0,[(28,224)],false⟩,
 ⟨182,.skip,[],[.ptr (eM) (eM),.val (bJ)],[BT1],[(0,.box)],[],0,[],false⟩,
 ⟨183,.skip,[],[.val (aC)],[aC],[],[],0,[],false⟩,
 ⟨184,.skip,[],[.val (aC)],[BT0],[],[(12,1)],0,[(60,228)],false⟩,
 ⟨189,.skip,[],[.val (BT0)],[aC,aC],[],[],0,[(28,230),(63,231),(508,232),(16342,233),(511,234)],false⟩,
 ⟨185,.skip,[],[.val (aC),.val (aC)],[aC,BT1],[],[],0,[],false⟩,
 ⟨186,.skip,[],[.val (aC),.val (aC)],[aC,BT1],[],[],0,[],false⟩,
 ⟨187,.skip,[],[.val (aC),.val (aC)],[aC,BT1],[],[],0,[],false⟩,
 ⟨188,.skip,[],[.val (aC),.val (aC)],[aC,BT1],[],[],0,[],false⟩,
 ⟨190,.skip,[],[.val (co),.val (aC),.val (BT0)],[aC],[],[],0,[(26,240)],false⟩,
 ⟨191,.skip,[],[.val (co),.val (aC),.val (BT0),.val (bk)],[BT2,BT1],[],[(61,1)],0,[(508,242)],false⟩,
 ⟨192,.skip,[],[.val (BT0)],[bk],[],[],0,[(7,244)],false⟩,
 ⟨193,.skip,[],[.val (b6),.val (BT0)],[BT1],[],[(10,1)],0,[],false⟩,
 ⟨194,.skip,[],[.val (BT1)],[aC],[],[],0,[],false⟩,
 ⟨195,.skip,[],[.val (BT0),.val (cz)],[bk],[],[],0,[],false⟩,
 ⟨196,.skip,[],[.val (bk),.val (bk)],[aC],[],[],0,[],false⟩,
 ⟨77,.skip,[],[.val (bT),.val (BT0)],[aC],[],[],0,[(26,250)],false⟩,
 ⟨81,.skip,[],[.val (em),.val (aC),.val (aC),.val (aC)],[BT1],[],[(101,1)],0,[(983,252),(3935,253),(15743,254),(251903,255)],false⟩,
 ⟨200,.skip,[],[.val (BT0),.val (bJ)],[BT0],[],[],0,[(12,257)],false⟩,
 ⟨162,.skip,[],[.val (fY),.ptr (fY) (fY)],[BT1],[(16,.box)],[],0,[],false⟩,
 ⟨166,.skip,[],[.val (fY),.ptr (aC) (aC),.ptr (BT0) (BT0)],[BT1],[(16,.box),(32,.box)],[],0,[],false⟩,
 ⟨179,.skip,[],[.val (BT0),.val (BT0)],[BT0],[],[],0,[],false⟩,
 ⟨204,.skip,[],[.val (BT0),.val (aC)],[fh],[],[],0,[(15,262),(250,263)],false⟩,
 ⟨205,.skip,[],[.val (BT0),.val (BT0)],[aC],[],[],0,[(62,265)],false⟩,
 ⟨206,.skip,[],[.ptr (d5) (d5)],[BT9],[(0,.box)],[],0,[(28,267)],false⟩,
 ⟨207,.skip,[],[.ptr (d5) (d5),.val (bJ)],[BT1],[(0,.box)],[],0,[],false⟩,
 ⟨210,.skip,[],[.val (b6)],[BT1],[],[],0,[],false⟩,
 ⟨211,.skip,[],[.own (dd),.val (b6)],[dd],[],[(18,1),(24,1),(34,1),(40,1),(46,1),(73,1),(83,1),(105,1),(113,1)],0,[(966650,271),(15,272)],false⟩,
 ⟨208,.skip,[],[.val (bS)],[BT1],[],[],0,[(58,274)],false⟩,
 ⟨209,.skip,[],[.val (bS),.val (BT0),.val (aC)],[aC],[],[(22,1),(31,1),(66,1)],0,[(62,276),(995,277),(31866,278)],false⟩,
 ⟨212,.skip,[],[.val (BT0),.val (bJ)],[BT0],[],[],0,[(12,280)],false⟩,
 ⟨215,.skip,[],[.val (BT0)],[aC,.hole 1],[],[(16,1)],0,[],false⟩,
 ⟨221,.skip,[],[.val (aC)],[aZ],[],[],0,[],false⟩,
 ⟨220,.skip,[],[.val (aZ),.val (aZ)],[aZ,aZ],[],[],0,[],false⟩,
 ⟨222,.skip,[],[.val (aZ),.val (aZ),.val (aZ)],[aZ,aZ],[],[],0,[(7,285),(15,286),(131068,287),(65535,288),(2097148,289),(1048575,290)],false⟩,
 ⟨180,.skip,[],[.val (BT0),.val (BT0)],[aC],[],[],0,[],false⟩,
 ⟨224,.skip,[],[.ptr (eM) (eM),.val (aC)],[BT9],[(0,.box)],[],0,[(28,293),(907,294)],false⟩,
 ⟨226,.skip,[],[.val (bJ)],[BT1],[],[],0,[],false⟩,
 ⟨225,.skip,[],[.val (aC)],[aC,BT1],[],[],0,[],false⟩,
 ⟨227,.skip,[],[.val (fY),.val (aC),.val (BT0)],[BT1],[],[],0,[],false⟩,
 ⟨228,.skip,[],[.val (BT0)],[aC,BT1],[],[],0,[(60,299)],false⟩,
 ⟨230,.skip,[],[.val (b6)],[bS],[],[(6,1),(10,1)],0,[],false⟩,
 ⟨229,.skip,[],[.val (bS),.val (BT0)],[aC,aC,BT1],[],[],0,[(26,302)],false⟩,
 ⟨231,.skip,[],[.val (aC)],[aC],[],[],0,[],false⟩,
 ⟨232,.skip,[],[.val (BT0),.val (BT0)],[aC],[],[],0,[(26,305)],false⟩,
 ⟨233,.skip,[],[.val (BT0),.val (bJ),.val (bJ)],[BT0],[],[],0,[(58,307)],false⟩,
 ⟨234,.skip,[],[.val (cz)],[BT0],[],[],0,[(63,309)],false⟩,
 ⟨116,.skip,[],[.val (aC)],[BT0,BT0],[],[(6,1)],0,[(63,311),(2007,312),(32127,313)],false⟩,
 ⟨118,.skip,[],[.val (BT0)],[BT1],[],[(7,1)],0,[],false⟩,
 ⟨103,.skip,[],[.val (fY),.val (fY)],[aC],[],[],0,[],false⟩,
 ⟨240,.skip,[],[.val (BT0)],[aC],[],[],0,[],false⟩,
 ⟨241,.skip,[],[.val (BT0)],[nl,aC],[],[],0,[],false⟩,
 ⟨242,.skip,[],[.val (BT0),.val (bJ)],[aC],[],[],0,[],true⟩,
 ⟨243,.skip,[],[.ptr (d5) (d5)],[bJ,BT1],[(0,.box)],[],0,[],false⟩,
 ⟨244,.skip,[],[.ptr (d5) (d5)],[BT9],[(0,.box)],[],0,[(14,321)],false⟩,
 ⟨249,.skip,[],[.val (b6),.val (aC)],[BT1],[],[],0,[(31,323),(983,324),(15743,325)],false⟩,
 ⟨250,.skip,[],[.own (dd),.val (fZ)],[dd],[],[(28,1),(35,1),(39,1)],0,[(58,327),(250,328)],false⟩,
 ⟨245,.skip,[],[.val (pN),.val (aC),.val (BT1)],[BT1],[],[],0,[(7551,330)],false⟩,
 ⟨246,.skip,[],[.val (bS),.val (dF),.val (BT1),.val (BT1)],[dF],[],[],0,[(250,332),(506,333),(4051,334)],false⟩,
 ⟨247,.skip,[],[.val (dF),.val (aC)],[BT1],[],[],0,[],false⟩,
 ⟨248,.skip,[],[.val (pN),.val (bJ)],[BT1],[],[],0,[],false⟩,
 ⟨251,.skip,[],[.val (BT0)],[aC,.hole 1],[],[],0,[(235,338),(3770,339)],false⟩,
 ⟨255,.skip,[],[.val (aZ)],[aC],[],[],0,[],false⟩,
 ⟨223,.skip,[],[.val (BT0),.val (BT0)],[aC],[],[],0,[],true⟩,
 ⟨256,.skip,[],[.ptr (eM) (eM),.val (aC)],[BT9],[(0,.box)],[],0,[(63,343)],false⟩,
 ⟨258,.skip,[],[.val (b6)],[BT1],[],[],0,[],false⟩,
 ⟨260,.skip,[],[.own (dd),.val (b6)],[dd],[],[(18,1),(32,1),(76,1),(105,1)],0,[(966650,346),(15,347)],false⟩,
 ⟨259,.skip,[],[.own (dd),.val (aC)],[dd],[],[(8,1)],0,[],false⟩,
 ⟨257,.skip,[],[.val (bS),.val (BT0),.val (aC)],[aC],[],[(23,1),(30,1),(76,1),(85,1)],0,[(250,350),(8009,351),(256314,352)],false⟩,
 ⟨268,.skip,[],[.val (BT0)],[nl,aC],[],[],0,[],false⟩,
 ⟨269,.skip,[],[.ptr (d5) (d5)],[BT9],[(0,.box)],[],0,[(1007615,355)],false⟩,
 ⟨270,.skip,[],[.val (bJ)],[aC],[],[],0,[],false⟩,
 ⟨276,.skip,[],[.val (fZ),.clo 277 [aC]],[BT1],[(16,.box)],[],0,[],false⟩,
 ⟨275,.skip,[],[.val (b6)],[BT1],[],[],0,[(26,359)],false⟩,
 ⟨271,.skip,[],[.val (aC),.ptr (bS) (bS),.ptr (dM) (dM),.ptr (d6) (d6)],[],[(16,.box),(32,.box),(48,.box)],[(22,1)],0,[],false⟩,
 ⟨272,.skip,[],[.io (d6)],[],[],[],0,[],true⟩,
 ⟨273,.skip,[],[.val (dF),.val (aC)],[aC],[],[],0,[(26,363)],false⟩,
 ⟨274,.skip,[],[.val (BT0),.val (bJ)],[aC],[],[],0,[],false⟩,
 ⟨278,.skip,[],[.val (BT0),.val (aC),.val (aC)],[aC,.hole 1],[],[],0,[(31,366),(511,367)],false⟩,
 ⟨283,.skip,[],[.val (aZ)],[aC],[],[],0,[(7,369),(15,370)],false⟩,
 ⟨284,.skip,[],[.ptr (eM) (eM)],[BT9],[(0,.box)],[(171,1)],0,[(15,372),(252,373),(32303,374),(255,375),(64607,376),(8186,377),(516858,378)],false⟩,
 ⟨288,.skip,[],[.val (b6)],[BT1],[],[],0,[(26,380),(3935,381),(15743,382)],false⟩,
 ⟨289,.skip,[],[.own (dd),.val (fZ)],[dd],[],[(29,1)],0,[(58,384),(250,385)],false⟩,
 ⟨285,.skip,[],[.val (bS)],[BT1],[],[],0,[(58,387)],false⟩,
 ⟨286,.skip,[],[.val (bS),.val (dF),.val (BT1),.val (BT1)],[d6],[],[],0,[(58,389)],false⟩,
 ⟨287,.skip,[],[.val (pN),.val (bJ)],[BT1],[],[],0,[],false⟩,
 ⟨295,.skip,[],[.ptr (d5) (d5)],[BT9],[(0,.box)],[(111,1)],0,[(2042,392),(130707,393),(8186,394),(522830,395)],false⟩,
 ⟨299,.skip,[],[.val (fZ),.clo 277 [aC]],[aC],[(16,.box)],[],0,[(26,397)],false⟩,
 ⟨298,.skip,[],[.val (BT0),.val (BT0)],[BT1],[],[],0,[],false⟩,
 ⟨216,.skip,[],[.val (BT0),.val (bJ)],[aC],[],[],0,[],false⟩,
 ⟨300,.skip,[],[.val (BT0),.val (aC),.val (aC)],[aZ,.hole 1],[],[],0,[(63,401),(127,402),(511,403),(32762,404),(8387175,405)],false⟩,
 ⟨307,.skip,[],[.val (BT0)],[BT1],[],[],0,[(26,407)],false⟩,
 ⟨303,.skip,[],[.val (pN),.val (aC)],[BT1],[],[],0,[(7,409),(15,410),(31,411),(63,412),(127,413)],false⟩,
 ⟨304,.skip,[],[.val (bS),.io (dM),.val (aC),.val (BT1),.val (BT1)],[],[(16,.reg)],[(57,1),(66,1),(74,1),(82,1)],0,[(6,415)],false⟩,
 ⟨305,.skip,[],[.val (nk)],[d6],[],[(18,1)],0,[(58,417)],false⟩,
 ⟨306,.skip,[],[.val (BT0),.val (bJ)],[BT1],[],[],0,[(26,419)],false⟩,
 ⟨277,.skip,[],[.val (b6),.ptr (aC) (aC)],[BT1],[(16,.box)],[],0,[],false⟩,
 ⟨253,.skip,[],[.val (BT0),.val (bJ)],[aC],[],[],0,[],true⟩,
 ⟨320,.skip,[],[.val (bJ)],[bJ],[],[],0,[],false⟩,
 ⟨321,.skip,[],[.val (BT0)],[BT1],[],[],0,[(31,424),(127,425),(508,426)],false⟩]
def zr:j3:=[((124,[]),146),((134,[]),159),((164,[]),194),((163,[]),198),((242,[]),318),((223,[]),341),((272,[]),361),((253,[]),421)]
def zq:j3:=[((3,[]),0),((5,[]),1),((7,[]),2),((6,[]),3),((8,[]),4),((9,[]),5),((10,[]),6),((11,[]),7),((12,[]),8),((13,[]),9),((14,[]),10),((20,[]),12),((16,[]),14),((23,[]),16),((21,[]),18),((22,[]),21),((24,[]),22),((25,[]),23),((26,[]),24),((27,[]),25),((28,[]),29),((29,[]),30),((30,[]),32),((18,[]),34),((31,[]),36),((19,[]),38),((32,[]),40),((33,[]),42),((34,[]),44),((35,[]),46),((36,[]),48),((40,[]),50),((48,[]),51),((41,[]),52),((42,[]),54),((43,[]),56),((44,[]),58),((45,[]),59),((46,[]),60),((47,[]),62),((49,[]),63),((50,[51]),65),((53,[]),66),((54,[]),67),((55,[]),68),((56,[]),69),((58,[]),70),((57,[]),73),((59,[]),74),((60,[]),76),((61,[]),77),((62,[]),78),((63,[]),79),((64,[]),80),((39,[]),81),((68,[]),83),((69,[]),84),((70,[]),85),((71,[]),86),((73,[]),91),((72,[]),92),((66,[]),93),((74,[]),94),((75,[]),97),((76,[51]),98),((78,[]),100),((79,[80]),101),((82,[]),102),((83,[]),103),((86,[]),104),((85,[]),105),((84,[]),106),((87,[]),107),((88,[]),108),((89,[]),109),((90,[]),110),((91,[]),111),((93,[]),112),((92,[]),113),((94,[]),114),((96,[]),115),((95,[]),116),((97,[]),117),((98,[]),119),((99,[]),121),((104,[]),122),((105,[]),123),((106,[]),124),((107,[]),125),((108,[]),127),((109,[]),129),((110,[]),130),((111,[]),131),((112,[]),132),((113,[]),134),((114,[]),136),((51,[]),138),((115,[80]),139),((120,[]),141),((122,[]),142),((121,[]),144),((123,[]),145),((126,[]),147),((125,[]),148),((128,[]),149),((127,[129]),150),((130,[]),152),((131,[]),153),((132,[]),154),((133,[]),157),((135,[]),160),((136,[]),161),((138,[]),163),((137,[]),164),((142,[]),165),((143,[]),167),((144,[]),169),((145,[]),172),((147,[]),173),((146,[]),175),((149,[]),177),((148,[]),178),((150,[]),179),((151,[]),180),((152,[]),181),((153,[]),182),((154,[]),183),((155,[]),184),((156,[]),185),((157,[]),186),((158,[]),187),((159,[]),188),((119,[]),189),((52,[]),190),((80,[]),191),((117,[]),192),((160,[]),193),((165,[]),195),((161,[162]),196),((161,[166]),199),((140,[]),201),((167,[]),202),((76,[129]),205),((129,[]),207),((168,[]),208),((169,[]),210),((171,[]),212),((170,[]),213),((172,[]),215),((173,[]),216),((174,[]),218),((176,[]),219),((177,[]),220),((178,[]),221),((141,[]),222),((181,[]),223),((182,[]),225),((183,[]),226),((184,[]),227),((189,[]),229),((185,[]),235),((186,[]),236),((187,[]),237),((188,[]),238),((190,[]),239),((191,[]),241),((192,[]),243),((193,[]),245),((194,[]),246),((195,[]),247),((196,[]),248),((77,[]),249),((81,[]),251),((200,[]),256),((162,[]),258),((166,[]),259),((179,[]),260),((204,[]),261),((205,[]),264),((206,[]),266),((207,[]),268),((210,[]),269),((211,[]),270),((208,[]),273),((209,[]),275),((212,[]),279),((215,[]),281),((221,[]),282),((220,[]),283),((222,[]),284),((180,[]),291),((224,[]),292),((226,[]),295),((225,[]),296),((227,[]),297),((228,[]),298),((230,[]),300),((229,[]),301),((231,[]),303),((232,[]),304),((233,[]),306),((234,[]),308),((116,[]),310),((118,[]),314),((103,[]),315),((240,[]),316),((241,[]),317),((243,[]),319),((244,[]),320),((249,[]),322),((250,[]),326),((245,[]),329),((246,[]),331),((247,[]),335),((248,[]),336),((251,[]),337),((255,[]),340),((256,[]),342),((258,[]),344),((260,[]),345),((259,[]),348),((257,[]),349),((268,[]),353),((269,[]),354),((270,[]),356),((276,[277]),357),((275,[]),358),((271,[]),360),((273,[]),362),((274,[]),364),((278,[]),365),((283,[]),368),((284,[]),371),((288,[]),379),((289,[]),383),((285,[]),386),((286,[]),388),((287,[]),390),((295,[]),391),((299,[277]),396),((298,[]),398),((216,[]),399),((300,[]),400),((307,[]),406),((303,[]),408),((304,[]),414),((305,[]),416),((306,[]),418),((277,[]),420),((320,[]),422),((321,[]),423)]
def wV(e:Nat):EntI:=entR.getD e ⟨0,.skip,[],[],[],[],[],0,[],true⟩
def dJ(k:Nat):KeyI:=keyL.getD k ⟨0,[false],[]⟩
noncomputable def tab:Tab where
 G:=gam
 ty:=kL tyL
 ifc:=rB B4
 key k:=re wV (dJ k)
 ent k:=fill Tryz.prog (wV k)
 call:=rv (zr++zq)
 tabs := [("internal/bytealg.MaxLen", .i64, []), ("internal/strconv.uint64pow10", .u64, Go.Lib.pow10Tab)]
 ext k:=match k with
  | 146=>fun x=>lI (α:=al) x.1 x.2.1 x.2.2.1
  | 159=>fun x=>if List.length (α:=Int) x.1<4294967281 then some (ba x.1 x.2.1,())else none
  | 194=>fun x=>some (hZ x.1,())
  | 198=>fun x=>ma (α:=al) x.1 x.2.1 x.2.2.1
  | 318=>fun x=>some (cI x.1 x.2.1,())
  | 341=>fun x=>some (bV x.1 x.2.1,())
  | 361=>fun x=>if List.length (α:=Int) x.1≤room then some (ck x.1,())else none
  | 421=>fun x=>some (bP x.1 x.2.1,())
  | _=>fun _=>none
end Go.Proofs.YtjglhackafgjiaaGreatDoor.E.TB
