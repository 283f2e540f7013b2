/- The table of A: structs,types,entries,keys. No condition. -/
import Derived.Test.YtjglhackafgjiaaGreatDoorEG4
import Derived.Test.YtjglhackafgjiaaGreatDoorProg
import Derived.KernelRfl
namespace Go.Proofs.YtjglhackafgjiaaGreatDoor.E.TA
open Go.Proofs.YtjglhackafgjiaaGreatDoor.E
set_option linter.unusedVariables false
set_option maxRecDepth 100000
structure ax where
 Code:Int
 N:Int
 S:(_root_.List Int)
def zm:ax:=⟨0,0,[]⟩
structure ay where
 Vars:(_root_.List (_root_.List Int))
 Cells:(_root_.List (_root_.List Int))
 Start:(_root_.List ax)
 Main:(_root_.List ax)
def SS:ay:=⟨[],[],[],[]⟩
structure au where
 Kind:Int
 N:Int
 S:(_root_.List Int)
def aD:au:=⟨0,0,[]⟩
structure al where
 Name:Int
 Key:(_root_.List Int)
 Val:au
def aU:al:=⟨0,[],aD⟩
structure ar where
 Vars:(_root_.List au)
 Cells:(_root_.List al)
 Nr:Int
 Err:Int
def gd:ar:=⟨[],[],0,0⟩
structure am where
 Code:Int
 N:Int
 S:(_root_.List Int)
def bj:am:=⟨0,0,[]⟩
structure ap where
 Vars:(_root_.List (_root_.List Int))
 Cells:(_root_.List (_root_.List Int))
 Start:(_root_.List am)
 Main:(_root_.List am)
def SO:ap:=⟨[],[],[],[]⟩
structure aw where
 s:ar
 line:(_root_.List Int)
 out:(_root_.List Int)
 stack:(_root_.List au)
 err:Int
def SR:aw:=⟨gd,[],[],[],0⟩
structure az where
 s:ar
 vars:(_root_.List (_root_.List Int))
 cells:(_root_.List (_root_.List Int))
 line:(_root_.List Int)
 fields:(_root_.List (_root_.List Int))
 out:(_root_.List Int)
 fuel:Int
 done:Bool
def ST:az:=⟨gd,[],[],[],[],[],0,false⟩
structure aA where
 l:Unit
 stack:(_root_.List au)
def SU:aA:=⟨(),[]⟩
structure aq where
 Op:Int
 C:Int
 Set:(_root_.List Int)
 Not:Bool
 Kids:(_root_.List aq)
def aL:aq:=⟨0,0,[],false,[]⟩
structure aB where
 s:(_root_.List Int)
 at_:Int
 bad:Bool
def SV:aB:=⟨[],0,false⟩
structure av where
 s:(_root_.List Int)
 bad:Bool
def SQ:av:=⟨[],false⟩
structure an where
 Op:Int
 C:Int
 Set:(_root_.List Int)
 Not:Bool
 A:Int
 B:Int
def aK:an:=⟨0,0,[],false,0,0⟩
def gT:Nat→Type
 | 0=>ay
 | 1=>ax
 | 2=>ar
 | 3=>au
 | 4=>al
 | 5=>ap
 | 6=>am
 | 7=>aw
 | 8=>az
 | 9=>aA
 | 10=>aq
 | 11=>aB
 | 12=>av
 | 13=>an
 | _=>Unit
def gfs:Nat→List FT
 | 0=>[(.sl .str),(.sl .str),(.sl (.nm 1)),(.sl (.nm 1))]
 | 1=>[(.int .i64),(.int .i64),.str]
 | 2=>[(.sl (.nm 3)),(.sl (.nm 4)),(.int .i64),(.int .i64)]
 | 3=>[(.int .i64),(.int .i64),.str]
 | 4=>[(.int .i64),.str,(.nm 3)]
 | 5=>[(.sl .str),(.sl .str),(.sl (.nm 6)),(.sl (.nm 6))]
 | 6=>[(.int .i64),(.int .i64),.str]
 | 7=>[(.nm 2),.str,.str,(.sl (.nm 3)),(.int .i64)]
 | 8=>[(.nm 2),(.sl .str),(.sl .str),.str,(.sl .str),.str,(.int .i64),.bool]
 | 9=>[.ptr,(.sl (.nm 3))]
 | 10=>[(.int .i64),(.int .i64),.str,.bool,(.sl (.nm 10))]
 | 11=>[.str,(.int .i64),.bool]
 | 12=>[.str,.bool]
 | 13=>[(.int .i64),(.int .i64),.str,.bool,(.int .i64),(.int .i64)]
 | _=>[]
def gun:∀ n,gT n→Js gT (gfs n)
 | 0,x=>(x.Vars,(x.Cells,(x.Start,(x.Main,()))))
 | 1,x=>(x.Code,(x.N,(x.S,())))
 | 2,x=>(x.Vars,(x.Cells,(x.Nr,(x.Err,()))))
 | 3,x=>(x.Kind,(x.N,(x.S,())))
 | 4,x=>(x.Name,(x.Key,(x.Val,())))
 | 5,x=>(x.Vars,(x.Cells,(x.Start,(x.Main,()))))
 | 6,x=>(x.Code,(x.N,(x.S,())))
 | 7,x=>(x.s,(x.line,(x.out,(x.stack,(x.err,())))))
 | 8,x=>(x.s,(x.vars,(x.cells,(x.line,(x.fields,(x.out,(x.fuel,(x.done,()))))))))
 | 9,x=>(x.l,(x.stack,()))
 | 10,x=>(x.Op,(x.C,(x.Set,(x.Not,(x.Kids,())))))
 | 11,x=>(x.s,(x.at_,(x.bad,())))
 | 12,x=>(x.s,(x.bad,()))
 | 13,x=>(x.Op,(x.C,(x.Set,(x.Not,(x.A,(x.B,()))))))
 | (n+14),_=>()
def gpk:∀ n,Js gT (gfs n)→gT n
 | 0,y=>⟨y.1,y.2.1,y.2.2.1,y.2.2.2.1⟩
 | 1,y=>⟨y.1,y.2.1,y.2.2.1⟩
 | 2,y=>⟨y.1,y.2.1,y.2.2.1,y.2.2.2.1⟩
 | 3,y=>⟨y.1,y.2.1,y.2.2.1⟩
 | 4,y=>⟨y.1,y.2.1,y.2.2.1⟩
 | 5,y=>⟨y.1,y.2.1,y.2.2.1,y.2.2.2.1⟩
 | 6,y=>⟨y.1,y.2.1,y.2.2.1⟩
 | 7,y=>⟨y.1,y.2.1,y.2.2.1,y.2.2.2.1,y.2.2.2.2.1⟩
 | 8,y=>⟨y.1,y.2.1,y.2.2.1,y.2.2.2.1,y.2.2.2.2.1,y.2.2.2.2.2.1,y.2.2.2.2.2.2.1,y.2.2.2.2.2.2.2.1⟩
 | 9,y=>⟨y.1,y.2.1⟩
 | 10,y=>⟨y.1,y.2.1,y.2.2.1,y.2.2.2.1,y.2.2.2.2.1⟩
 | 11,y=>⟨y.1,y.2.1,y.2.2.1⟩
 | 12,y=>⟨y.1,y.2.1⟩
 | 13,y=>⟨y.1,y.2.1,y.2.2.1,y.2.2.2.1,y.2.2.2.2.1,y.2.2.2.2.2.1⟩
 | (n+14),_=>()
theorem J5:∀ n y,gun n (gpk n y)=y
 | 0,_=>rfl
 | 1,_=>rfl
 | 2,_=>rfl
 | 3,_=>rfl
 | 4,_=>rfl
 | 5,_=>rfl
 | 6,_=>rfl
 | 7,_=>rfl
 | 8,_=>rfl
 | 9,_=>rfl
 | 10,_=>rfl
 | 11,_=>rfl
 | 12,_=>rfl
 | 13,_=>rfl
 | (n+14),_=>rfl
theorem J3:∀ n x,gpk n (gun n x)=x
 | 0,x=>by cases x;rfl
 | 1,x=>by cases x;rfl
 | 2,x=>by cases x;rfl
 | 3,x=>by cases x;rfl
 | 4,x=>by cases x;rfl
 | 5,x=>by cases x;rfl
 | 6,x=>by cases x;rfl
 | 7,x=>by cases x;rfl
 | 8,x=>by cases x;rfl
 | 9,x=>by cases x;rfl
 | 10,x=>by cases x;rfl
 | 11,x=>by cases x;rfl
 | 12,x=>by cases x;rfl
 | 13,x=>by cases x;rfl
 | (n+14),_=>rfl
def gz:∀ n,gT n
 | 0=>SS
 | 1=>zm
 | 2=>gd
 | 3=>aD
 | 4=>aU
 | 5=>SO
 | 6=>bj
 | 7=>SR
 | 8=>ST
 | 9=>SU
 | 10=>aL
 | 11=>SV
 | 12=>SQ
 | 13=>aK
 | (n+14)=>()
theorem J6:∀ n,gun n (gz n)=lQ gz (gfs n)
 | 0=>rfl
 | 1=>rfl
 | 2=>rfl
 | 3=>rfl
 | 4=>rfl
 | 5=>rfl
 | 6=>rfl
 | 7=>rfl
 | 8=>rfl
 | 9=>rfl
 | 10=>rfl
 | 11=>rfl
 | 12=>rfl
 | 13=>rfl
 | (n+14)=>rfl
def gsz:Nat→Nat
 | 0=>4
 | 1=>3
 | 2=>4
 | 3=>3
 | 4=>5
 | 5=>4
 | 6=>3
 | 7=>8
 | 8=>11
 | 9=>2
 | 10=>5
 | 11=>3
 | 12=>2
 | 13=>6
 | _=>0
theorem J4:∀ n,gsz n=FT.szs gsz (gfs n)
 | 0=>rfl
 | 1=>rfl
 | 2=>rfl
 | 3=>rfl
 | 4=>rfl
 | 5=>rfl
 | 6=>rfl
 | 7=>rfl
 | 8=>rfl
 | 9=>rfl
 | 10=>rfl
 | 11=>rfl
 | 12=>rfl
 | 13=>rfl
 | (n+14)=>rfl
def gfl:Nat→Bool
 | 0=>false
 | 1=>true
 | 2=>false
 | 3=>true
 | 4=>true
 | 5=>false
 | 6=>true
 | 7=>false
 | 8=>false
 | 9=>false
 | 10=>false
 | 11=>true
 | 12=>true
 | 13=>true
 | _=>true
theorem J2:∀ n,gfl n=true→FT.flats gfl (gfs n)=true
 | 0,h=>by cases h
 | 1,h=>rfl
 | 2,h=>by cases h
 | 3,h=>rfl
 | 4,h=>rfl
 | 5,h=>by cases h
 | 6,h=>rfl
 | 7,h=>by cases h
 | 8,h=>by cases h
 | 9,h=>by cases h
 | 10,h=>by cases h
 | 11,h=>rfl
 | 12,h=>rfl
 | 13,h=>rfl
 | (n+14),_=>rfl
def gam:Gam:=⟨gT,gfs,gun,gpk,J5,J3,gz,J6,gsz,J4,gfl,J2⟩
def tyL:List (Nat×FT):=[(2,(.int .i64)),(3,(.int .i64)),(4,.bool),(5,(.int .u8)),(6,(.int .u8)),(9,.str),(21,(.int .i32)),(22,(.sl .str)),(23,(.sl (.nm 1))),(25,(.nm 0)),(27,(.sl (.nm 3))),(28,(.sl (.nm 4))),(30,(.nm 2)),(33,(.sl (.nm 6))),(35,(.nm 5)),(54,(.nm 7)),(67,(.nm 1)),(71,.ptr),(73,(.nm 8)),(76,(.nm 6)),(82,(.nm 3)),(85,(.nm 4)),(97,(.sl (.int .u8))),(104,(.nm 9)),(132,(.sl (.nm 10))),(134,(.nm 10)),(164,(.nm 11)),(182,(.nm 12)),(186,(.sl (.nm 13))),(191,(.sl .bool)),(206,(.nm 13)),(212,(.int .u64)),(213,(.int .u64)),(228,(.sl (.int .i64))),(250,(.int .i64))]
def CK:List Nat:=[208]
abbrev BT0:BT:=.leaf false .str
abbrev BT1:BT:=.leaf false .bool
abbrev BT2:BT:=.leaf true (.nm 2)
abbrev BT3:BT:=.leaf true (.nm 8)
abbrev BT4:BT:=.leaf true (.nm 9)
abbrev BT5:BT:=.leaf true (.nm 6)
abbrev BT6:BT:=.leaf true (.nm 3)
abbrev BT7:BT:=.leaf false (.nm 5)
abbrev BT8:BT:=.leaf false (.nm 2)
abbrev BT9:BT:=.leaf true (.nm 11)
abbrev bn:BT:=.leaf true (.nm 10)
abbrev iR:BT:=.leaf true (.nm 12)
abbrev nD:BT:=.leaf true (.nm 13)
abbrev tZ:BT:=.leaf false (.nm 0)
abbrev ey:BT:=.leaf false (.nm 6)
abbrev bh:BT:=.leaf false (.nm 3)
abbrev ge:BT:=.leaf false (.nm 4)
abbrev b8:BT:=.leaf false (.nm 10)
abbrev eR:BT:=.leaf false (.nm 11)
abbrev d9:BT:=.leaf false (.nm 12)
abbrev qi:BT:=.leaf false (.nm 13)
abbrev ez:BT:=.leaf true (.sl .str)
abbrev bJ:BT:=.leaf false (.sl .str)
abbrev kg:BT:=.leaf true (.int .i64)
abbrev bL:BT:=.leaf false (.int .u8)
abbrev dP:BT:=.leaf true (.sl .bool)
abbrev aC:BT:=.leaf false (.int .i64)
abbrev a7:BT:=.leaf false (.int .u64)
abbrev nE:BT:=.leaf false (.sl .bool)
abbrev nF:BT:=.leaf false (.int .i32)
abbrev qj:BT:=.leaf true (.sl (.nm 6))
abbrev qk:BT:=.leaf true (.sl (.nm 3))
abbrev iS:BT:=.leaf true (.sl (.nm 4))
abbrev ql:BT:=.leaf false (.sl (.nm 1))
abbrev ck:BT:=.leaf false (.sl (.nm 3))
abbrev eS:BT:=.leaf false (.sl (.nm 4))
abbrev cA:BT:=.leaf false (.sl (.nm 6))
abbrev qm:BT:=.leaf true (.sl (.nm 10))
abbrev de:BT:=.leaf true (.sl (.nm 13))
abbrev gf:BT:=.leaf false (.sl (.nm 10))
abbrev bW:BT:=.leaf false (.sl (.nm 13))
abbrev qn:BT:=.leaf true (.sl (.int .u8))
abbrev eb:BT:=.leaf true (.sl (.int .i64))
abbrev ua:BT:=.leaf false (.sl (.int .u8))
abbrev dF:BT:=.leaf false (.sl (.int .i64))
abbrev zo:BT:=.pr (.leaf false (.int .i64)) (.un)
abbrev cH:BT:=.pr (.leaf true (.nm 2)) (.pr (.leaf false .str) (.pr (.leaf false .str) (.pr (.leaf true (.sl (.nm 3))) (.pr (.leaf false (.int .i64)) (.un)))))
abbrev cl:BT:=.pr (.leaf true (.nm 2)) (.pr (.leaf true (.sl .str)) (.pr (.leaf true (.sl .str)) (.pr (.leaf false .str) (.pr (.leaf true (.sl .str)) (.pr (.leaf false .str) (.pr (.leaf false (.int .i64)) (.pr (.leaf false .bool) (.un))))))))
def keyL:List KeyI:=[
 ⟨0,[],[]⟩,
 ⟨1,[],[]⟩,
 ⟨2,[],[]⟩,
 ⟨2,[true,true,true,false,true,false],[.val 0 (bJ),.val 1 (aC),.val 5 (aC)]⟩,
 ⟨3,[],[]⟩,
 ⟨4,[],[]⟩,
 ⟨4,[true,true,false,true,false],[.val 0 (bJ),.own 3 48 (ez),.val 4 (aC)]⟩,
 ⟨5,[],[]⟩,
 ⟨5,[true,true,true,false,true,false],[.ptr 2 32,.ptr 4 64,.ptr 6 96,.val 1 (bJ),.val 7 (BT0),.val 8 (aC),.slot 32 (BT7) true none,.slot 64 (BT2) true none,.slot 96 (BT8) true none]⟩,
 ⟨6,[],[]⟩,
 ⟨6,[true,true,true,false,true,false],[.ptr 2 32,.ptr 4 64,.ptr 6 96,.val 7 (BT0),.val 25 (bJ),.val 26 (aC),.val 27 (aC),.slot 32 (BT7) true none,.slot 64 (BT2) true none,.slot 96 (BT2) true none]⟩,
 ⟨7,[],[]⟩,
 ⟨8,[],[]⟩,
 ⟨9,[],[]⟩,
 ⟨9,[true,true,false,true,false],[.val 0 (bJ),.val 1 (bJ),.val 5 (aC)]⟩,
 ⟨10,[],[]⟩,
 ⟨11,[],[]⟩,
 ⟨11,[true,false,true,false],[.own 0 320 (ez),.val 1 (aC),.val 5 (aC)]⟩,
 ⟨12,[],[]⟩,
 ⟨13,[],[]⟩,
 ⟨14,[],[]⟩,
 ⟨14,[true,true,true,false,true,false],[.val 0 (ql),.val 1 (aC),.val 5 (aC)]⟩,
 ⟨15,[],[]⟩,
 ⟨15,[true,true,false,true,false],[.val 0 (ql),.own 3 48 (qj),.val 4 (aC)]⟩,
 ⟨16,[],[]⟩,
 ⟨16,[true,false,true,false],[.ptr 1 16,.val 3 (aC),.slot 16 (BT7) true none]⟩,
 ⟨16,[true,true,false,true,false],[.ptr 1 16,.val 4 (aC),.slot 16 (BT7) true none]⟩,
 ⟨17,[],[]⟩,
 ⟨18,[],[]⟩,
 ⟨18,[true,true,true,true],[.ptr 3 48,.ptr 4 64,.ptr 6 96,.ptr 8 272,.slot 48 (BT7) true none,.slot 64 (BT8) true none,.slot 96 (BT2) true none,.slot 272 (BT3) true none]⟩,
 ⟨19,[],[]⟩,
 ⟨20,[],[]⟩,
 ⟨21,[],[]⟩,
 ⟨22,[],[]⟩,
 ⟨22,[true,true,false,true,false],[.val 0 (ck),.val 1 (ck),.val 5 (aC)]⟩,
 ⟨23,[],[]⟩,
 ⟨23,[true,true,false,true,false],[.val 0 (eS),.val 1 (eS),.val 5 (aC)]⟩,
 ⟨24,[],[]⟩,
 ⟨24,[true,true,false,true,false],[.val 0 (cA),.val 1 (cA),.val 5 (aC)]⟩,
 ⟨25,[],[]⟩,
 ⟨25,[true,false,true,false],[.own 0 560 (qj),.val 1 (aC),.val 5 (aC)]⟩,
 ⟨26,[],[]⟩,
 ⟨26,[true,true,true,false,false],[.val 0 (aC),.val 3 (BT0)]⟩,
 ⟨27,[],[]⟩,
 ⟨27,[true,false,true,false],[.own 0 0 (qk),.val 1 (aC),.val 5 (aC)]⟩,
 ⟨28,[],[]⟩,
 ⟨28,[true,false,true,false],[.own 0 0 (iS),.val 1 (aC),.val 5 (aC)]⟩,
 ⟨29,[],[]⟩,
 ⟨29,[true,false,true,false],[.val 0 (ck),.val 1 (aC),.val 5 (aC)]⟩,
 ⟨30,[],[]⟩,
 ⟨30,[true,false,true,false],[.val 0 (eS),.val 1 (aC),.val 5 (aC)]⟩,
 ⟨31,[],[]⟩,
 ⟨32,[],[]⟩,
 ⟨33,[],[]⟩,
 ⟨33,[true,false,true,false],[.val 0 (BT0),.val 3 (aC)]⟩,
 ⟨34,[],[]⟩,
 ⟨34,[true,false,true,false],[.val 0 (bJ),.val 1 (BT0),.val 5 (aC)]⟩,
 ⟨35,[],[]⟩,
 ⟨35,[true,true,true,false,true,false],[.val 0 (cA),.val 1 (aC),.val 2 (aC),.val 7 (aC),.val 8 (aC)]⟩,
 ⟨36,[],[]⟩,
 ⟨37,[],[]⟩,
 ⟨38,[],[]⟩,
 ⟨38,[true,true,true,false],[.ptr 0 0,.ptr 4 176,.wrd 176 0,.val 1 (cA),.val 5 (aC),.val 6 (aC),.slot 0 (BT3) true none,.slot 176 (BT4) true none]⟩,
 ⟨39,[],[]⟩,
 ⟨40,[],[]⟩,
 ⟨40,[true,true,true,false,true,false],[.val 0 (BT0),.own 3 48 (ez),.val 4 (aC),.val 5 (aC)]⟩,
 ⟨41,[],[]⟩,
 ⟨42,[],[]⟩,
 ⟨42,[true,false,true,false],[.val 0 (bJ),.val 5 (bJ),.val 6 (aC),.val 7 (aC)]⟩,
 ⟨43,[],[]⟩,
 ⟨44,[],[]⟩,
 ⟨45,[],[]⟩,
 ⟨46,[],[]⟩,
 ⟨47,[],[]⟩,
 ⟨47,[true,true,false],[.ptr 0 0,.val 1 (cA),.val 4 (aC),.val 5 (aC),.slot 0 (cH) true none]⟩,
 ⟨47,[true,true,false,false,true,true],[.ptr 0 0,.val 1 (cA),.val 4 (aC),.val 5 (aC),.slot 0 (cH) true none]⟩,
 ⟨47,[true,true,false,false,true,false,false,true,true,true,true,true,true,false,true,true,true,true,true,true,true,true,true],[.ptr 0 0,.ptr 6 96,.val 1 (cA),.val 4 (aC),.val 5 (aC),.val 7 (ck),.val 57 (BT1),.slot 0 (.leaf true (.nm 7)) true none,.slot 96 (BT5) true none]⟩,
 ⟨48,[],[]⟩,
 ⟨49,[],[]⟩,
 ⟨49,[true,true,false,true,false],[.ptr 3 48,.val 2 (aC),.val 38 (eS),.val 39 (aC),.val 40 (aC),.slot 48 (BT8) true none]⟩,
 ⟨50,[],[]⟩,
 ⟨51,[],[]⟩,
 ⟨52,[],[]⟩,
 ⟨53,[],[]⟩,
 ⟨54,[],[]⟩,
 ⟨55,[],[]⟩,
 ⟨56,[],[]⟩,
 ⟨57,[],[]⟩,
 ⟨57,[true,false,true,false,true,true,true,true,true],[.ptr 4 64,.val 1 (aC),.val 2 (aC),.val 3 (aC),.val 12 (aC),.val 28 (BT1),.slot 64 (BT5) true none]⟩,
 ⟨57,[true,false,true,false,true,true,true,true,true,true,true],[.ptr 4 64,.val 1 (aC),.val 3 (aC),.val 12 (aC),.val 46 (BT1),.slot 64 (BT5) true none]⟩,
 ⟨57,[true,false,true,false,true,true,true,true,true,true,true,true,true],[.ptr 4 64,.val 1 (aC),.val 12 (aC),.val 65 (BT1),.slot 64 (BT5) true none]⟩,
 ⟨57,[true,false,true,false,true,true,true,true,true,true,true,true,true,true,true,true,true],[.ptr 4 64,.val 1 (aC),.val 12 (aC),.val 91 (BT1),.slot 64 (BT5) true none]⟩,
 ⟨58,[],[]⟩,
 ⟨59,[],[]⟩,
 ⟨60,[],[]⟩,
 ⟨60,[true,true,true,true,true,true],[.wrd 0 1,.val 2 (aC),.slot 0 (.pr (.leaf false .ptr) (.pr (qk) (.un))) true none,.slot 1 (cl) true none]⟩,
 ⟨60,[true,true,true,true,true,false,true,false,true,true,true,true,true,true,true,true,true,true,true,true,true],[.ptr 0 0,.ptr 4 64,.wrd 0 1,.val 2 (aC),.val 9 (ck),.val 93 (BT1),.slot 0 (BT4) true none,.slot 1 (BT3) true none,.slot 64 (BT5) true none]⟩,
 ⟨61,[],[]⟩,
 ⟨62,[],[]⟩,
 ⟨62,[true,false,true,false],[.clo 1 51 [16],.val 0 (bJ),.val 7 (aC),.val 8 (aC),.slot 16 (BT7) true none]⟩,
 ⟨63,[],[]⟩,
 ⟨64,[],[]⟩,
 ⟨65,[],[]⟩,
 ⟨66,[],[]⟩,
 ⟨67,[],[]⟩,
 ⟨67,[true,false,true,false,true],[.ptr 1 16,.val 4 (aC),.val 5 (BT1),.slot 16 (BT5) true none]⟩,
 ⟨67,[true,true],[.ptr 1 16,.slot 16 (BT5) true none]⟩,
 ⟨68,[],[]⟩,
 ⟨69,[],[]⟩,
 ⟨69,[true,false,true,false,true],[.ptr 1 16,.val 4 (aC),.val 5 (BT1),.slot 16 (BT6) true none]⟩,
 ⟨70,[],[]⟩,
 ⟨71,[],[]⟩,
 ⟨72,[],[]⟩,
 ⟨73,[],[]⟩,
 ⟨74,[],[]⟩,
 ⟨75,[],[]⟩,
 ⟨76,[],[]⟩,
 ⟨77,[],[]⟩,
 ⟨78,[],[]⟩,
 ⟨78,[true,false,true,false,true],[.ptr 1 16,.val 4 (aC),.val 5 (BT1),.slot 16 (BT5) true none]⟩,
 ⟨79,[],[]⟩,
 ⟨79,[true,false,true,false,true],[.ptr 1 16,.val 4 (aC),.val 5 (BT1),.slot 16 (BT6) true none]⟩,
 ⟨80,[],[]⟩,
 ⟨81,[],[]⟩,
 ⟨82,[],[]⟩,
 ⟨83,[],[]⟩,
 ⟨83,[true,true,true,true],[.ptr 0 0,.ptr 6 1,.ptr 7 112,.wrd 0 1,.slot 0 (BT4) true none,.slot 1 (cl) true none,.slot 112 (BT6) true none]⟩,
 ⟨84,[],[]⟩,
 ⟨84,[true,true,false,false],[.val 0 (BT0),.val 1 (aC),.val 5 (aC)]⟩,
 ⟨85,[],[]⟩,
 ⟨85,[true,false,true,false,true],[.val 0 (BT0),.val 4 (BT1)]⟩,
 ⟨86,[],[]⟩,
 ⟨87,[],[]⟩,
 ⟨87,[true,false,true,false],[.clo 1 80 [16,17,18],.val 0 (cA),.val 7 (aC),.val 8 (aC),.slot 16 (cA) true none,.slot 17 (kg) true none,.slot 18 (kg) true none]⟩,
 ⟨88,[],[]⟩,
 ⟨89,[],[]⟩,
 ⟨90,[],[]⟩,
 ⟨91,[],[]⟩,
 ⟨92,[],[]⟩,
 ⟨93,[],[]⟩,
 ⟨94,[],[]⟩,
 ⟨95,[],[]⟩,
 ⟨96,[],[]⟩,
 ⟨97,[],[]⟩,
 ⟨98,[],[]⟩,
 ⟨99,[],[]⟩,
 ⟨100,[],[]⟩,
 ⟨101,[],[]⟩,
 ⟨102,[],[]⟩,
 ⟨103,[],[]⟩,
 ⟨103,[true,false,true,false,true],[.ptr 1 16,.val 6 (aC),.val 7 (BT1),.slot 16 (BT6) true none]⟩,
 ⟨104,[],[]⟩,
 ⟨104,[true,false,false],[.ptr 4 64,.val 0 (BT0),.val 1 (ck),.slot 64 (BT6) true none]⟩,
 ⟨105,[],[]⟩,
 ⟨106,[],[]⟩,
 ⟨106,[true,false,true,false],[.clo 1 101 [],.val 0 (ck),.val 7 (aC),.val 8 (aC)]⟩,
 ⟨107,[],[]⟩,
 ⟨108,[],[]⟩,
 ⟨109,[],[]⟩,
 ⟨110,[],[]⟩,
 ⟨110,[true,true,false,false],[.ptr 0 0,.ptr 4 64,.val 1 (aC),.own 5 80 (qm),.slot 0 (BT9) true none,.slot 64 (bn) true none]⟩,
 ⟨111,[],[]⟩,
 ⟨111,[true,true,false,true,false],[.ptr 1 16,.val 3 (aC),.val 4 (aC),.slot 16 (b8) true none]⟩,
 ⟨112,[],[]⟩,
 ⟨112,[true,true,true,true,true,false,true,false,true,false,false],[.val 0 (aC),.val 4 (BT0),.val 6 (BT0)]⟩,
 ⟨112,[true,true,true,true,true,true],[.val 0 (aC),.val 4 (BT0)]⟩,
 ⟨113,[],[]⟩,
 ⟨114,[],[]⟩,
 ⟨114,[true,false,true,false,true],[.ptr 1 16,.val 6 (aC),.val 7 (BT1),.slot 16 (BT6) true none]⟩,
 ⟨115,[],[]⟩,
 ⟨115,[true,true,true],[.ptr 0 0,.ptr 8 128,.val 9 (aC),.val 10 (BT1),.slot 0 (BT3) true none,.slot 128 (BT6) true none]⟩,
 ⟨116,[],[]⟩,
 ⟨117,[],[]⟩,
 ⟨118,[],[]⟩,
 ⟨119,[],[]⟩,
 ⟨120,[],[]⟩,
 ⟨121,[],[]⟩,
 ⟨122,[],[]⟩,
 ⟨123,[],[]⟩,
 ⟨124,[],[]⟩,
 ⟨125,[],[]⟩,
 ⟨126,[],[]⟩,
 ⟨127,[],[]⟩,
 ⟨128,[],[]⟩,
 ⟨129,[],[]⟩,
 ⟨130,[],[]⟩,
 ⟨131,[],[]⟩,
 ⟨132,[],[]⟩,
 ⟨132,[true,true,true,true],[.val 0 (aC),.val 3 (BT0)]⟩,
 ⟨133,[],[]⟩,
 ⟨134,[],[]⟩,
 ⟨135,[],[]⟩,
 ⟨136,[],[]⟩,
 ⟨137,[],[]⟩,
 ⟨138,[],[]⟩,
 ⟨139,[],[]⟩,
 ⟨139,[true,true,true,false,true,false],[.clo 1 129 [],.own 0 672 (ez),.val 5 (aC),.val 6 (aC)]⟩,
 ⟨140,[],[]⟩,
 ⟨141,[],[]⟩,
 ⟨142,[],[]⟩,
 ⟨142,[true,true,true,true],[.val 0 (BT0),.val 4 (aC),.val 5 (BT1)]⟩,
 ⟨142,[true,true,true,true,true,true,true,true,true],[.val 4 (aC),.val 5 (BT1),.val 7 (BT0),.val 8 (BT0)]⟩,
 ⟨143,[],[]⟩,
 ⟨143,[true,true,false,true,false],[.ali 12 7,.val 1 (bL),.val 2 (bL),.own 7 112 (qn),.val 13 (aC),.val 14 (aC)]⟩,
 ⟨144,[],[]⟩,
 ⟨145,[],[]⟩,
 ⟨146,[],[]⟩,
 ⟨146,[true,true,true],[.val 8 (aC),.val 9 (BT1)]⟩,
 ⟨147,[],[]⟩,
 ⟨148,[],[]⟩,
 ⟨149,[],[]⟩,
 ⟨150,[],[]⟩,
 ⟨151,[],[]⟩,
 ⟨152,[],[]⟩,
 ⟨152,[true,true,false,false],[.ptr 0 0,.ptr 4 64,.val 1 (aC),.own 5 80 (qm),.slot 0 (BT9) true none,.slot 64 (bn) true none]⟩,
 ⟨153,[],[]⟩,
 ⟨154,[],[]⟩,
 ⟨155,[],[]⟩,
 ⟨155,[true,true,true,false,false],[.val 0 (aC),.val 3 (BT0)]⟩,
 ⟨156,[],[]⟩,
 ⟨156,[true,true,false,false],[.val 0 (BT0),.val 4 (aC)]⟩,
 ⟨156,[true,true,true,true,true],[.val 0 (BT0),.val 4 (aC),.val 5 (BT1)]⟩,
 ⟨156,[true,true,true,true,true,true,false,false],[.val 0 (BT0),.val 4 (aC),.val 5 (BT1),.val 6 (aC),.val 7 (aC)]⟩,
 ⟨156,[true,true,true,true,true,true,true,false,true,false,true,true,false],[.val 0 (BT0),.val 4 (aC),.val 5 (BT1),.val 6 (aC),.val 7 (aC),.val 8 (aC)]⟩,
 ⟨156,[true,true,true,true,true,true,true,true],[.val 4 (aC),.val 5 (BT1),.val 6 (aC),.val 7 (aC)]⟩,
 ⟨157,[],[]⟩,
 ⟨158,[],[]⟩,
 ⟨159,[],[]⟩,
 ⟨160,[],[]⟩,
 ⟨161,[],[]⟩,
 ⟨161,[true,false,true,false],[.ptr 3 48,.val 1 (aC),.val 2 (BT0),.val 7 (aC),.slot 48 (BT8) true none]⟩,
 ⟨162,[],[]⟩,
 ⟨162,[true,true,true,true,true,true,false,false],[.ptr 4 64,.ptr 7 112,.ptr 8 128,.ptr 10 160,.val 1 (aC),.val 2 (BT0),.val 11 (aC),.slot 64 (BT8) true none,.slot 112 (BT6) true none,.slot 128 (BT2) true none,.slot 160 (BT2) true none]⟩,
 ⟨163,[],[]⟩,
 ⟨163,[true,true],[.ptr 2 32,.val 0 (BT0),.slot 32 (BT6) true none]⟩,
 ⟨164,[],[]⟩,
 ⟨165,[],[]⟩,
 ⟨166,[],[]⟩,
 ⟨167,[],[]⟩,
 ⟨168,[],[]⟩,
 ⟨168,[true,false,true,false],[.val 0 (bJ),.val 1 (BT0),.val 7 (aC),.val 8 (aC)]⟩,
 ⟨169,[],[]⟩,
 ⟨169,[true,true,true,false,true,false,true,true,true],[.ptr 4 64,.val 1 (aC),.val 2 (aC),.val 3 (aC),.val 56 (aC),.val 62 (BT1),.slot 64 (BT5) true none]⟩,
 ⟨169,[true,true,true,false,true,false,true,true,true,true,true],[.ptr 4 64,.val 1 (aC),.val 3 (aC),.val 56 (aC),.val 75 (BT1),.slot 64 (BT5) true none]⟩,
 ⟨169,[true,true,true,false,true,false,true,true,true,true,true,true,true],[.ptr 4 64,.val 1 (aC),.val 56 (aC),.val 89 (BT1),.slot 64 (BT5) true none]⟩,
 ⟨169,[true,true,true,false,true,false,true,true,true,true,true,true,true,true,true,true,true],[.ptr 4 64,.val 1 (aC),.val 56 (aC),.val 106 (BT1),.slot 64 (BT5) true none]⟩,
 ⟨170,[],[]⟩,
 ⟨171,[],[]⟩,
 ⟨172,[],[]⟩,
 ⟨173,[],[]⟩,
 ⟨173,[true,false,true,false],[.clo 1 162 [16],.val 0 (eS),.val 7 (aC),.val 8 (aC),.slot 16 (.leaf true (.nm 4)) true none]⟩,
 ⟨174,[],[]⟩,
 ⟨175,[],[]⟩,
 ⟨175,[true,false,true,false],[.clo 1 166 [16,17],.val 0 (eS),.val 7 (aC),.val 8 (aC),.slot 16 (kg) true none,.slot 17 (.leaf true .str) true none]⟩,
 ⟨176,[],[]⟩,
 ⟨176,[true,true,true,true],[.val 0 (BT0),.val 1 (BT0),.val 2 (aC),.val 3 (aC)]⟩,
 ⟨176,[true,true,true,true,true,true,true,true,false,false],[.val 0 (BT0),.val 1 (BT0),.val 2 (aC),.val 3 (aC),.own 9 144 (ez),.val 10 (aC)]⟩,
 ⟨177,[],[]⟩,
 ⟨177,[true,false,true,false],[.clo 1 129 [],.val 0 (bJ),.val 7 (aC),.val 8 (aC)]⟩,
 ⟨178,[],[]⟩,
 ⟨179,[],[]⟩,
 ⟨179,[true,true,false,false],[.ptr 0 0,.ptr 2 32,.own 3 48 (qm),.slot 0 (iR) true none,.slot 32 (bn) true none]⟩,
 ⟨180,[],[]⟩,
 ⟨180,[true,true,false,true,false],[.val 3 (aC),.val 7 (gf),.val 8 (aC),.val 9 (aC)]⟩,
 ⟨181,[],[]⟩,
 ⟨182,[],[]⟩,
 ⟨182,[true,true,false,true,false],[.val 0 (bW),.val 1 (BT0),.val 7 (aC)]⟩,
 ⟨183,[],[]⟩,
 ⟨184,[],[]⟩,
 ⟨184,[true,true,false,false],[.val 0 (BT0),.val 1 (aC),.val 5 (aC)]⟩,
 ⟨185,[],[]⟩,
 ⟨186,[],[]⟩,
 ⟨187,[],[]⟩,
 ⟨188,[],[]⟩,
 ⟨189,[],[]⟩,
 ⟨189,[true,false,false],[.val 0 (BT0),.val 1 (bL)]⟩,
 ⟨190,[],[]⟩,
 ⟨190,[true,false,false],[.val 0 (BT0),.val 1 (bL)]⟩,
 ⟨191,[],[]⟩,
 ⟨192,[],[]⟩,
 ⟨192,[true,true,false,false],[.ptr 0 0,.ptr 4 64,.ptr 5 80,.slot 0 (BT9) true none,.slot 64 (bn) true none,.slot 80 (bn) true none]⟩,
 ⟨192,[true,true,false,false,false,true,false,true,true],[.ptr 0 0,.ptr 4 64,.ptr 5 80,.val 6 (aC),.slot 0 (BT9) true none,.slot 64 (bn) true none,.slot 80 (bn) true none]⟩,
 ⟨193,[],[]⟩,
 ⟨194,[],[]⟩,
 ⟨195,[],[]⟩,
 ⟨196,[],[]⟩,
 ⟨196,[true,true,true,false,false],[.val 0 (BT0),.val 4 (aC),.val 5 (aC)]⟩,
 ⟨197,[],[]⟩,
 ⟨198,[],[]⟩,
 ⟨198,[true,false,true,false],[.val 0 (bW),.val 1 (BT0),.val 7 (aC)]⟩,
 ⟨199,[],[]⟩,
 ⟨200,[],[]⟩,
 ⟨200,[true,false,true,false],[.val 0 (BT0),.val 1 (BT0),.val 5 (aC)]⟩,
 ⟨201,[],[]⟩,
 ⟨201,[true,true,false,true,false],[.val 1 (bL),.val 2 (bL),.own 7 112 (qn),.val 8 (aC)]⟩,
 ⟨202,[],[]⟩,
 ⟨202,[true,true,true,true,true],[.val 3 (BT0),.val 4 (aC),.val 5 (aC)]⟩,
 ⟨203,[],[]⟩,
 ⟨203,[true,true,true,true,true],[.val 0 (aC),.val 4 (bJ),.val 5 (BT0)]⟩,
 ⟨203,[true,true,true,true,false,true,false,true,true,true],[.val 0 (aC),.val 4 (bJ),.val 5 (BT0),.val 13 (aC),.val 16 (BT1)]⟩,
 ⟨203,[true,true,true,true,false,true,false,true,true,true,true,true,true,true],[.val 0 (aC),.val 4 (bJ),.val 5 (BT0),.val 22 (BT1)]⟩,
 ⟨204,[],[]⟩,
 ⟨205,[],[]⟩,
 ⟨206,[],[]⟩,
 ⟨207,[],[]⟩,
 ⟨207,[true,true,true],[.val 0 (BT0),.val 1 (aC)]⟩,
 ⟨207,[true,true,true,true,false,true,false],[.val 0 (BT0),.val 1 (aC),.own 6 96 (ez),.val 7 (aC)]⟩,
 ⟨208,[],[]⟩,
 ⟨208,[true,true,true,true,false],[.val 0 (BT0),.val 1 (BT0),.val 5 (aC)]⟩,
 ⟨209,[],[]⟩,
 ⟨209,[true,true,false,false],[.ptr 0 0,.ptr 2 32,.own 3 48 (qm),.slot 0 (iR) true none,.slot 32 (bn) true none]⟩,
 ⟨210,[],[]⟩,
 ⟨211,[],[]⟩,
 ⟨212,[],[]⟩,
 ⟨212,[true,true,false,true,false,true,true,true,true,true,true,true,true,true,true,true,false,true,false],[.own 0 2032 (de),.val 51 (gf),.val 52 (aC),.val 53 (aC)]⟩,
 ⟨212,[true,true,true],[.own 0 2032 (de)]⟩,
 ⟨213,[],[]⟩,
 ⟨213,[true,true,false,true,false],[.val 0 (bW),.val 9 (bW),.val 10 (aC),.val 11 (aC)]⟩,
 ⟨214,[],[]⟩,
 ⟨214,[true,true,true,true,false],[.val 0 (bW),.val 1 (BT0),.val 2 (aC),.val 7 (aC),.val 8 (dF)]⟩,
 ⟨214,[true,true,true,true,false,false,false,true,true],[.val 0 (bW),.val 1 (BT0),.val 2 (aC),.val 7 (aC),.val 8 (dF)]⟩,
 ⟨214,[true,true,true,true,false,false,false,true,true,true,true,false,true,false],[.val 0 (bW),.val 1 (BT0),.val 2 (aC),.val 7 (aC),.own 9 144 (eb),.val 49 (dF),.val 50 (aC),.val 51 (aC)]⟩,
 ⟨215,[],[]⟩,
 ⟨216,[],[]⟩,
 ⟨217,[],[]⟩,
 ⟨218,[],[]⟩,
 ⟨218,[true,true],[.val 0 (a7),.val 1 (a7),.val 2 (a7)]⟩,
 ⟨218,[true,true,true],[.val 0 (a7),.val 1 (a7),.val 2 (a7)]⟩,
 ⟨218,[true,true,true,true,true,true,true,true,true,true,true,true,true,true,false,false],[.val 2 (a7),.val 8 (a7),.val 9 (a7),.val 10 (a7),.val 11 (a7),.val 13 (a7),.val 14 (a7),.val 15 (a7),.val 16 (a7)]⟩,
 ⟨218,[true,true,true,true,true,true,true,true,true,true,true,true,true,true,true],[.val 2 (a7),.val 8 (a7),.val 9 (a7),.val 10 (a7),.val 11 (a7),.val 13 (a7),.val 14 (a7),.val 15 (a7)]⟩,
 ⟨218,[true,true,true,true,true,true,true,true,true,true,true,true,true,true,true,true,true,true,false,false],[.val 2 (a7),.val 8 (a7),.val 9 (a7),.val 10 (a7),.val 14 (a7),.val 15 (a7),.val 16 (a7),.val 17 (a7),.val 18 (a7)]⟩,
 ⟨218,[true,true,true,true,true,true,true,true,true,true,true,true,true,true,true,true,true,true,true],[.val 2 (a7),.val 8 (a7),.val 14 (a7),.val 15 (a7),.val 17 (a7),.val 18 (a7)]⟩,
 ⟨219,[],[]⟩,
 ⟨219,[true,true,true,true,true],[.ptr 4 64,.val 5 (bL),.slot 0 (BT9) true none,.slot 64 (bn) true none]⟩,
 ⟨220,[],[]⟩,
 ⟨221,[],[]⟩,
 ⟨221,[true,true,false,true,false,true,true,true,true,true,true,true,true,true,true,true,false,true,false],[.ptr 3 48,.own 0 2064 (de),.val 6 (aC),.slot 48 (b8) true none]⟩,
 ⟨221,[true,true,true],[.own 0 2064 (de)]⟩,
 ⟨222,[],[]⟩,
 ⟨223,[],[]⟩,
 ⟨223,[true,true,true,true,false,true,false],[.val 0 (bW),.val 1 (BT0),.val 7 (dF),.val 8 (aC),.val 9 (aC)]⟩,
 ⟨223,[true,true,true,true,false,true,false,false,true,false,false,true],[.val 0 (bW),.val 1 (BT0),.val 7 (dF),.val 8 (aC),.val 9 (aC)]⟩,
 ⟨223,[true,true,true,true,false,true,false,false,true,false,false,true,true,true,false,true,false],[.val 0 (bW),.val 1 (BT0),.val 7 (dF),.val 8 (aC),.val 9 (aC),.own 10 160 (eb),.val 11 (aC)]⟩,
 ⟨224,[],[]⟩,
 ⟨225,[],[]⟩,
 ⟨226,[],[]⟩,
 ⟨227,[],[]⟩,
 ⟨228,[],[]⟩,
 ⟨228,[true,true,false],[.ptr 0 0,.ptr 2 32,.ptr 3 48,.slot 0 (iR) true none,.slot 32 (bn) true none,.slot 48 (bn) true none]⟩,
 ⟨229,[],[]⟩,
 ⟨229,[true,true,true,true],[.ptr 2 32,.ptr 3 48,.val 5 (BT1),.slot 32 (b8) true none,.slot 48 (kg) true none]⟩,
 ⟨229,[true,true,true,false,true,false,true,true,true],[.ptr 2 32,.ptr 3 48,.val 5 (BT1),.val 33 (aC),.val 45 (BT1),.slot 32 (b8) true none,.slot 48 (kg) true none]⟩,
 ⟨229,[true,true,true,false,true,false,true,true,true,true,true,true,true],[.ptr 2 32,.ptr 3 48,.val 5 (BT1),.val 33 (aC),.val 64 (BT1),.slot 32 (b8) true none,.slot 48 (kg) true none]⟩,
 ⟨230,[],[]⟩,
 ⟨230,[true,true,false,true,false],[.own 0 1120 (de),.val 1 (gf),.own 5 80 (eb),.val 16 (gf),.val 17 (aC),.val 18 (aC)]⟩,
 ⟨230,[true,true,true,true,false,true,false],[.own 0 1120 (de),.val 56 (dF),.val 57 (aC),.val 58 (aC)]⟩,
 ⟨231,[],[]⟩,
 ⟨231,[true,true,false,true,false,true,true,true,true,true,true,true],[.ptr 3 48,.val 79 (BT1),.slot 48 (nD) true none]⟩,
 ⟨232,[],[]⟩,
 ⟨232,[true,true,true,true,false,true,false],[.ptr 4 64,.ptr 10 160,.clo 11 271 [64,144,160],.val 2 (BT1),.val 3 (BT1),.val 22 (dF),.val 23 (aC),.val 24 (aC),.slot 64 (bW) true none,.slot 144 (dP) true none,.slot 160 (eb) true none]⟩,
 ⟨232,[true,true,true,true,true,false,true,false],[.ptr 4 64,.ptr 10 160,.clo 11 271 [64,144,160],.val 2 (BT1),.val 3 (BT1),.val 14 (aC),.slot 64 (bW) true none,.slot 144 (dP) true none,.slot 160 (eb) true none]⟩,
 ⟨232,[true,true,true,true,true,false,true,false,false,true,true],[.ptr 4 64,.ptr 10 160,.clo 11 271 [64,144,160],.val 2 (BT1),.val 3 (BT1),.val 14 (aC),.slot 64 (bW) true none,.slot 144 (dP) true none,.slot 160 (eb) true none]⟩,
 ⟨233,[],[]⟩,
 ⟨234,[],[]⟩,
 ⟨235,[],[]⟩,
 ⟨235,[true,true,false,true,false,true,true],[.val 0 (BT0),.val 5 (BT0)]⟩,
 ⟨235,[true,true,false,true,false,true,true,true,false,true,false],[.val 5 (BT0),.val 6 (aC),.val 47 (ua),.val 48 (aC),.val 49 (aC)]⟩,
 ⟨236,[],[]⟩,
 ⟨237,[],[]⟩,
 ⟨237,[true,true,true],[.ptr 0 0,.ptr 2 32,.ptr 3 48,.slot 0 (BT9) true none,.slot 32 (bn) true none,.slot 48 (bn) true none]⟩,
 ⟨237,[true,true,true,true,true,false,false],[.ptr 0 0,.ptr 2 32,.ptr 3 48,.own 4 64 (dP),.val 5 (aC),.slot 0 (BT9) true none,.slot 32 (bn) true none,.slot 48 (bn) true none]⟩,
 ⟨237,[true,true,true,true,true,false,false,false,true,false,true,true,true,true],[.ptr 0 0,.ptr 2 32,.ptr 3 48,.own 4 64 (dP),.val 5 (aC),.val 6 (aC),.val 7 (aC),.slot 0 (BT9) true none,.slot 32 (bn) true none,.slot 48 (bn) true none]⟩,
 ⟨237,[true,true,true,true,true,true,true],[.ptr 0 0,.ptr 2 32,.ptr 3 48,.val 4 (nE),.slot 0 (BT9) true none,.slot 32 (bn) true none,.slot 48 (bn) true none]⟩,
 ⟨237,[true,true,true,true,true,false,false,false,true,false,true,true,true,true,true],[.ptr 0 0,.ptr 2 32,.ptr 3 48,.own 4 64 (dP),.val 5 (aC),.val 6 (aC),.val 7 (aC),.slot 0 (BT9) true none,.slot 32 (bn) true none,.slot 48 (bn) true none]⟩,
 ⟨237,[true,true,true,true,true,true,true,true,true,false,true,false],[.ptr 2 32,.ptr 3 48,.val 4 (nE),.own 9 144 (qn),.val 10 (aC),.slot 0 (BT9) true none,.slot 32 (bn) true none,.slot 48 (bn) true none]⟩,
 ⟨237,[true,true,true,true,true,false,false,false,true,false,true,true,true,true,true,false,true,false],[.ptr 0 0,.ptr 2 32,.ptr 3 48,.own 4 64 (dP),.val 5 (aC),.val 7 (aC),.val 8 (aC),.slot 0 (BT9) true none,.slot 32 (bn) true none,.slot 48 (bn) true none]⟩,
 ⟨238,[],[]⟩,
 ⟨238,[true,false,true,false],[.ptr 1 16,.val 3 (aC),.slot 16 (b8) true none]⟩,
 ⟨238,[true,true,true,false,true,false,true,true,true,true,true],[.ptr 1 16,.val 4 (aC),.val 23 (aC),.val 62 (BT1),.slot 16 (b8) true none]⟩,
 ⟨238,[true,true,true,false,true,false,true,true,true,true,true,true,true],[.ptr 1 16,.val 4 (aC),.val 82 (BT1),.slot 16 (b8) true none]⟩,
 ⟨239,[],[]⟩,
 ⟨239,[true,true,false,true,false],[.own 0 1104 (de),.val 1 (gf),.own 5 80 (eb),.val 6 (aC)]⟩,
 ⟨239,[true,true,true,true,false,true,false],[.own 0 1104 (de),.val 5 (dF),.val 8 (aC)]⟩,
 ⟨240,[],[]⟩,
 ⟨240,[true,true,false,true,false],[.val 0 (bW),.val 3 (aC),.val 4 (aC)]⟩,
 ⟨241,[],[]⟩,
 ⟨241,[true,true,false,true,false],[.val 0 (bW),.val 1 (dF),.val 2 (BT1),.val 3 (BT1),.own 9 144 (dP),.val 10 (aC)]⟩,
 ⟨242,[],[]⟩,
 ⟨243,[],[]⟩,
 ⟨244,[],[]⟩,
 ⟨244,[true,true,true,false,true,false,true,true,true,true,true,true,true,true,true,true,true,true,true],[.ptr 0 0,.ptr 2 32,.val 3 (bL),.val 70 (BT1),.slot 0 (iR) true none,.slot 32 (bn) true none]⟩,
 ⟨245,[],[]⟩,
 ⟨246,[],[]⟩,
 ⟨247,[],[]⟩,
 ⟨247,[true,false,true,false],[.ptr 1 16,.val 6 (aC),.val 7 (aC),.slot 16 (b8) true none]⟩,
 ⟨248,[],[]⟩,
 ⟨249,[],[]⟩,
 ⟨250,[],[]⟩,
 ⟨250,[true,false,true,false],[.val 0 (dF),.val 1 (aC),.val 7 (aC),.val 8 (aC)]⟩,
 ⟨251,[],[]⟩,
 ⟨252,[],[]⟩,
 ⟨252,[true,true,true,true],[.val 0 (BT0),.val 1 (aC),.val 2 (aC),.val 8 (BT1)]⟩,
 ⟨252,[true,true,true,true,true,true,true,true],[.val 2 (aC),.val 8 (BT1),.val 9 (a7)]⟩,
 ⟨253,[],[]⟩,
 ⟨253,[true,true],[.val 0 (a7),.val 2 (aC)]⟩,
 ⟨253,[true,true,true],[.val 0 (a7),.val 2 (aC)]⟩,
 ⟨254,[],[]⟩,
 ⟨254,[true,false,true,false],[.val 0 (BT0),.val 3 (aC)]⟩,
 ⟨255,[],[]⟩,
 ⟨255,[true,true],[.ptr 2 32,.val 1 (aC),.val 5 (BT1),.slot 32 (nD) true none]⟩,
 ⟨255,[true,true,true],[.ptr 2 32,.val 1 (aC),.val 5 (BT1),.val 6 (BT1),.slot 32 (nD) true none]⟩,
 ⟨255,[true,true,true,true],[.ptr 2 32,.val 1 (aC),.val 5 (BT1),.val 6 (BT1),.val 7 (BT1),.slot 32 (nD) true none]⟩,
 ⟨255,[true,true,true,true,true],[.ptr 2 32,.val 5 (BT1),.val 6 (BT1),.val 7 (BT1),.val 8 (BT1),.slot 32 (nD) true none]⟩,
 ⟨255,[true,true,true,true,true,true],[.val 4 (BT1)]⟩,
 ⟨256,[],[]⟩,
 ⟨256,[true,false],[.val 0 (bW),.own 1 16 (dP),.val 3 (BT1),.val 4 (BT1),.own 10 160 (eb)]⟩,
 ⟨257,[],[]⟩,
 ⟨257,[true,true,false,true,false],[.val 0 (nE),.own 3 48 (eb),.val 4 (aC)]⟩,
 ⟨258,[],[]⟩,
 ⟨258,[true,false,true,false],[.val 0 (BT0),.val 1 (bL),.val 5 (aC)]⟩,
 ⟨259,[],[]⟩,
 ⟨259,[true,true,true,true,true,true,true,false,true,false],[.ptr 0 0,.ptr 2 32,.ptr 3 48,.val 5 (BT0),.own 6 96 (dP),.val 7 (aC),.slot 0 (iR) true none,.slot 32 (bn) true none,.slot 48 (bn) true none]⟩,
 ⟨259,[true,true,true,true,true,true,true,false,true,false,false,true,false,false,true,true],[.ptr 0 0,.ptr 2 32,.ptr 3 48,.val 5 (BT0),.own 6 96 (dP),.val 7 (aC),.val 8 (aC),.val 9 (aC),.slot 0 (iR) true none,.slot 32 (bn) true none,.slot 48 (bn) true none]⟩,
 ⟨259,[true,true,true,true,true,true,true,true,true,false,true,false],[.ptr 2 32,.ptr 3 48,.own 11 176 (qn),.val 100 (nE),.val 101 (aC),.val 102 (aC),.slot 0 (iR) true none,.slot 32 (bn) true none,.slot 48 (bn) true none]⟩,
 ⟨259,[true,true,true,true,true,true,true,false,true,false,false,true,false,false,true,true,true,false],[.ptr 0 0,.ptr 2 32,.ptr 3 48,.val 5 (BT0),.own 6 96 (dP),.val 7 (aC),.val 9 (aC),.val 10 (aC),.slot 0 (iR) true none,.slot 32 (bn) true none,.slot 48 (bn) true none]⟩,
 ⟨260,[],[]⟩,
 ⟨260,[true,false,true,false],[.clo 1 277 [16],.val 0 (gf),.val 7 (aC),.val 8 (aC),.slot 16 (kg) true none]⟩,
 ⟨261,[],[]⟩,
 ⟨262,[],[]⟩,
 ⟨263,[],[]⟩,
 ⟨263,[true,true,true,true,true],[.val 0 (BT0),.val 1 (aC),.val 2 (aC),.val 8 (BT1),.val 9 (BT0)]⟩,
 ⟨263,[true,true,true,true,true,true],[.val 0 (BT0),.val 1 (aC),.val 2 (aC),.val 8 (BT1),.val 9 (BT0)]⟩,
 ⟨263,[true,true,true,true,true,true,true,true],[.val 0 (BT0),.val 1 (aC),.val 2 (aC),.val 8 (BT1),.val 9 (BT0),.val 10 (a7)]⟩,
 ⟨263,[true,true,true,true,true,true,true,true,true,true,true,false,true,false],[.val 1 (aC),.val 8 (BT1),.val 9 (BT0),.val 10 (a7),.val 11 (a7),.val 12 (BT1),.val 13 (a7),.val 99 (ua),.val 100 (aC),.val 101 (aC)]⟩,
 ⟨263,[true,true,true,true,true,true,true,true,true,true,true,false,true,false,false,true,true,false,false,true,true,true],[.val 1 (aC),.val 8 (BT1),.val 9 (BT0),.val 10 (a7),.val 11 (a7),.val 12 (BT1),.val 13 (a7),.val 16 (bL),.val 99 (ua),.val 100 (aC),.val 101 (aC)]⟩,
 ⟨264,[],[]⟩,
 ⟨265,[],[]⟩,
 ⟨266,[],[]⟩,
 ⟨267,[],[]⟩,
 ⟨267,[true,true,true,true],[.val 0 (BT0),.val 3 (nF),.val 4 (aC)]⟩,
 ⟨267,[true,true,true,true,true,true],[.val 0 (BT0),.val 3 (nF),.val 4 (aC),.val 5 (BT1)]⟩,
 ⟨267,[true,true,true,true,true,true,false,false],[.val 0 (BT0),.val 3 (nF),.val 4 (aC),.val 5 (BT1)]⟩]
def entR:List EntI:=[
 ⟨4,.skip,[],[.val (tZ),.val (bJ)],[BT1],[],[(29,1),(31,1),(32,1),(56,1),(61,1),(96,1),(98,1),(99,1)],0,[],false⟩,
 ⟨5,.skip,[],[.val (tZ),.val (aC)],[aC],[],[],0,[],false⟩,
 ⟨14,.skip,[],[.val (bJ),.val (aC)],[aC],[],[],0,[(122,3)],false⟩,
 ⟨7,.skip,[],[.val (tZ)],[.leaf true (.nm 5)],[],[],0,[],false⟩,
 ⟨16,.skip,[],[.val (bJ)],[ez],[],[],0,[(58,6)],false⟩,
 ⟨15,.skip,[],[.val (BT7),.val (bJ)],[BT8,BT0],[],[(14,1),(17,1),(40,1)],0,[(122,8)],false⟩,
 ⟨17,.skip,[],[.val (BT7),.val (bJ)],[BT2,BT0],[],[],0,[(122,10)],false⟩,
 ⟨9,.skip,[],[.val (BT8),.val (BT8)],[BT1],[],[],0,[],false⟩,
 ⟨10,.skip,[],[.val (BT7),.val (BT7)],[BT1],[],[],0,[],false⟩,
 ⟨18,.skip,[],[.val (bJ),.val (bJ)],[BT1],[],[],0,[(58,14)],false⟩,
 ⟨11,.skip,[],[.own (.leaf true (.nm 5)),.val (aC)],[aC],[],[],0,[],false⟩,
 ⟨19,.skip,[],[.own (ez),.val (aC)],[aC],[],[],0,[(26,17)],false⟩,
 ⟨12,.skip,[],[.io (BT2),.val (aC)],[aC],[(32,.orig 0)],[],0,[],false⟩,
 ⟨13,.skip,[],[.val (BT8),.val (aC)],[aC],[],[],0,[],false⟩,
 ⟨20,.skip,[],[.val (ql),.val (aC)],[aC],[],[],0,[(122,21)],false⟩,
 ⟨23,.skip,[],[.val (ql)],[qj],[],[],0,[(58,23)],false⟩,
 ⟨21,.skip,[],[.val (BT7)],[BT1],[],[],0,[(26,25),(58,26)],false⟩,
 ⟨22,.skip,[],[.val (BT7)],[BT8,BT0],[],[(11,1),(24,1)],0,[],false⟩,
 ⟨37,.skip,[],[.val (BT7),.val (BT8),.val (BT0)],[BT8,BT0],[],[(40,1)],0,[(31,29)],false⟩,
 ⟨24,.skip,[],[.val (BT7)],[BT1],[],[],0,[],false⟩,
 ⟨8,.skip,[],[.val (BT7)],[BT2,BT0],[],[(13,1)],0,[],false⟩,
 ⟨38,.skip,[],[.val (BT7),.val (BT8),.val (BT0)],[BT2,BT0],[],[],0,[],false⟩,
 ⟨29,.skip,[],[.val (ck),.val (ck)],[BT1],[],[],0,[(58,34)],false⟩,
 ⟨30,.skip,[],[.val (eS),.val (eS)],[BT1],[],[],0,[(58,36)],false⟩,
 ⟨31,.skip,[],[.val (cA),.val (cA)],[BT1],[],[],0,[(58,38)],false⟩,
 ⟨32,.skip,[],[.own (qj),.val (aC)],[aC],[],[],0,[(26,40)],false⟩,
 ⟨39,.skip,[],[.val (aC)],[BT0],[],[(12,1)],0,[(60,42)],false⟩,
 ⟨33,.skip,[],[.io (qk),.val (aC)],[aC],[(0,.reg)],[],0,[(26,44)],false⟩,
 ⟨34,.skip,[],[.io (iS),.val (aC)],[aC],[(0,.reg)],[],0,[(26,46)],false⟩,
 ⟨35,.skip,[],[.val (ck),.val (aC)],[aC],[],[],0,[(26,48)],false⟩,
 ⟨36,.skip,[],[.val (eS),.val (aC)],[aC],[],[],0,[(26,50)],false⟩,
 ⟨40,.skip,[],[.val (.leaf false (.nm 1)),.val (aC)],[aC],[],[],0,[],false⟩,
 ⟨48,.skip,[],[.val (.leaf false (.nm 1))],[ey],[],[],0,[],false⟩,
 ⟨41,.skip,[],[.val (BT0)],[BT1],[],[],0,[(26,54)],false⟩,
 ⟨42,.skip,[],[.val (bJ),.val (BT0)],[BT1],[],[],0,[(26,56)],false⟩,
 ⟨43,.skip,[],[.val (cA),.val (aC),.val (aC)],[BT1],[],[],0,[(122,58)],false⟩,
 ⟨44,.skip,[],[.val (aC)],[BT8],[],[(7,1)],0,[],false⟩,
 ⟨45,.skip,[],[.val (BT8)],[BT2],[],[],0,[],false⟩,
 ⟨46,.skip,[],[.ptr (cl) (cl),.val (cA)],[],[(0,.box)],[],0,[(30,62)],false⟩,
 ⟨47,.skip,[],[.ptr (.leaf false (.nm 8)) (.leaf false (.nm 8)),.val (BT8)],[BT8,BT0],[(0,.box)],[(14,1)],0,[],false⟩,
 ⟨65,.skip,[],[.val (BT0)],[ez],[],[(31,1)],0,[(122,65)],false⟩,
 ⟨66,.skip,[],[.ptr (cl) (cl),.val (aC)],[],[(0,.box)],[],0,[],false⟩,
 ⟨49,.skip,[],[.val (bJ)],[BT1],[],[],0,[(26,68)],false⟩,
 ⟨50,.skip,[],[.val (bJ),.clo 51 [BT7]],[BT1],[(16,.box)],[],0,[],false⟩,
 ⟨53,.skip,[],[.val (cA),.val (aC),.val (aC)],[BT1],[],[],0,[],false⟩,
 ⟨25,.skip,[],[.val (aC)],[BT8],[],[(7,1)],0,[],false⟩,
 ⟨26,.skip,[],[.val (BT8)],[BT2],[],[],0,[],false⟩,
 ⟨27,.skip,[],[.ptr (cH) (cH),.val (cA)],[],[(0,.box)],[(28,1)],0,[(14,74),(115,75),(15007231,76)],false⟩,
 ⟨28,.skip,[],[.ptr (.pr (BT2) (.pr (BT0) (.pr (BT0) (.pr (ck) (zo))))) (.pr (.hole 4) (.pr (BT0) (.pr (BT0) (.pr (ck) (zo))))),.val (BT8)],[BT2,BT0],[(0,.box)],[(4,5)],0,[],false⟩,
 ⟨67,.skip,[],[.val (BT8),.val (aC),.val (aC)],[BT1],[],[],0,[(58,79)],false⟩,
 ⟨56,.skip,[],[.ptr (cH) (cH),.val (aC)],[],[(0,.box)],[],0,[],false⟩,
 ⟨62,.skip,[],[.val (bh),.val (bh)],[BT1],[],[],0,[],false⟩,
 ⟨63,.skip,[],[.val (ge),.val (ge)],[BT1],[],[],0,[],false⟩,
 ⟨64,.skip,[],[.val (ey),.val (ey)],[BT1],[],[],0,[],false⟩,
 ⟨68,.skip,[],[.val (bL)],[BT1],[],[],0,[],false⟩,
 ⟨69,.skip,[],[.val (aC),.val (aC),.val (aC)],[BT1],[],[],0,[],false⟩,
 ⟨70,.skip,[],[.val (BT0)],[BT1],[],[(3,1),(7,1)],0,[],false⟩,
 ⟨71,.skip,[],[.val (ey),.val (aC),.val (aC),.val (aC)],[BT1],[],[(71,1),(86,1)],0,[(863,88),(3455,89),(13823,90),(221183,91)],false⟩,
 ⟨73,.skip,[],[.val (aC),.val (aC)],[aC],[],[],0,[],false⟩,
 ⟨72,.skip,[],[.val (aC),.val (aC)],[aC],[],[],0,[],false⟩,
 ⟨74,.skip,[],[.ref (BT4) (BT4) (cl) (cl),.val (ey),.val (aC)],[aC,BT1],[(0,.box),(1,.box)],[(32,2)],0,[(127,95),(4153343,96)],false⟩,
 ⟨75,.skip,[],[.val (BT0)],[BT1],[],[],0,[],false⟩,
 ⟨76,.skip,[],[.val (bJ),.clo 51 [BT7]],[aC],[(16,.box)],[],0,[(26,99)],false⟩,
 ⟨78,.skip,[],[.val (aC),.val (aC),.val (aC)],[BT1],[],[],0,[],false⟩,
 ⟨79,.skip,[],[.val (cA),.clo 80 [cA,aC,aC]],[BT1],[(16,.box),(17,.box),(18,.box)],[],0,[],false⟩,
 ⟨54,.skip,[],[.val (ck)],[qk],[],[],0,[],false⟩,
 ⟨55,.skip,[],[.val (eS)],[iS],[],[],0,[],false⟩,
 ⟨58,.skip,[],[.val (ey)],[aC],[],[],0,[(53,105),(7,106)],false⟩,
 ⟨57,.skip,[],[.ptr (cH) (cH),.val (aC)],[ck],[(0,.box)],[(26,2)],0,[],false⟩,
 ⟨59,.skip,[],[.val (bh)],[BT1],[],[],0,[(53,109)],false⟩,
 ⟨60,.skip,[],[.ptr (cH) (cH),.val (ey),.val (ck)],[],[(0,.box)],[],0,[],false⟩,
 ⟨61,.skip,[],[.ptr (cH) (cH),.val (ey),.val (ck)],[],[(0,.box)],[(112,1),(113,4)],0,[],false⟩,
 ⟨100,.skip,[],[.val (ck),.clo 101 []],[BT1],[],[],0,[],false⟩,
 ⟨102,.skip,[],[.val (bh)],[BT1],[],[],0,[],false⟩,
 ⟨103,.skip,[],[.val (ge),.val (ge)],[aC],[],[],0,[],false⟩,
 ⟨104,.skip,[],[],[bJ],[],[(1,1)],0,[],false⟩,
 ⟨105,.skip,[],[.val (aC)],[BT1],[],[],0,[],false⟩,
 ⟨106,.skip,[],[.val (BT0)],[b8,BT1],[],[(9,1),(14,1),(33,1)],0,[],false⟩,
 ⟨107,.skip,[],[.val (ey)],[aC],[],[],0,[(53,119)],false⟩,
 ⟨108,.skip,[],[.val (bh)],[BT1],[],[],0,[(53,121)],false⟩,
 ⟨109,.skip,[],[.ptr (cl) (cl),.val (BT0)],[],[(0,.box)],[],0,[],false⟩,
 ⟨110,.skip,[],[.val (bh)],[BT0],[],[],0,[],false⟩,
 ⟨111,.skip,[],[.ref (BT4) (BT4) (cl) (cl),.val (ey),.val (ck)],[],[(0,.box),(1,.box)],[],0,[],false⟩,
 ⟨112,.skip,[],[.ref (BT4) (BT4) (cl) (cl),.val (ey),.val (ck)],[],[(0,.box),(1,.box)],[],0,[(31,126)],false⟩,
 ⟨113,.skip,[],[.val (BT0),.val (aC)],[aC],[],[],0,[(28,128)],false⟩,
 ⟨114,.skip,[],[.val (BT0)],[BT1],[],[(14,1)],0,[(53,130)],false⟩,
 ⟨51,.skip,[],[.val (BT0),.ptr (BT7) (BT7)],[BT1],[(16,.box)],[],0,[],false⟩,
 ⟨115,.skip,[],[.val (cA),.clo 80 [cA,aC,aC]],[aC],[(16,.box),(17,.box),(18,.box)],[],0,[(26,133)],false⟩,
 ⟨82,.skip,[],[.ptr (cH) (cH),.val (bh)],[],[(0,.box)],[(18,1)],0,[],false⟩,
 ⟨83,.skip,[],[.ptr (cH) (cH),.val (bh),.val (bh)],[bh],[(0,.box)],[],0,[],false⟩,
 ⟨86,.skip,[],[.val (bh)],[BT0],[],[],0,[],false⟩,
 ⟨85,.skip,[],[.val (BT0)],[BT0],[],[],0,[],false⟩,
 ⟨84,.skip,[],[.ptr (cH) (cH),.val (aC),.val (BT0),.val (bh)],[],[(0,.box)],[],0,[],false⟩,
 ⟨87,.skip,[],[.val (BT8),.val (aC),.val (BT0)],[bh],[],[],0,[],false⟩,
 ⟨88,.skip,[],[.val (BT8),.val (aC),.val (BT0)],[BT2],[],[],0,[],false⟩,
 ⟨89,.skip,[],[.ptr (cH) (cH),.val (BT0)],[],[(0,.box)],[],0,[],false⟩,
 ⟨90,.skip,[],[.val (aC)],[bh],[],[],0,[],false⟩,
 ⟨91,.skip,[],[.val (BT0)],[bh],[],[],0,[],false⟩,
 ⟨93,.skip,[],[.val (bh)],[aC],[],[],0,[],false⟩,
 ⟨92,.skip,[],[.val (BT0),.val (aC)],[bh],[],[(11,1)],0,[],false⟩,
 ⟨94,.skip,[],[.val (BT0)],[bJ],[],[(5,1)],0,[],false⟩,
 ⟨96,.skip,[],[.val (BT0),.val (BT0)],[BT1],[],[(9,1)],0,[],false⟩,
 ⟨95,.skip,[],[.val (BT1)],[bh],[],[],0,[],false⟩,
 ⟨97,.skip,[],[.val (bh)],[aC],[],[],0,[(53,150)],false⟩,
 ⟨98,.skip,[],[.val (BT0),.val (ck)],[bh],[],[(14,1),(24,4)],0,[(12,152)],false⟩,
 ⟨99,.skip,[],[.val (aC),.val (bh),.val (bh)],[bh,aC],[],[],0,[],false⟩,
 ⟨139,.skip,[],[.val (ck),.clo 101 []],[aC],[],[],0,[(26,155)],false⟩,
 ⟨117,.skip,[],[.val (aC)],[BT1],[],[],0,[],false⟩,
 ⟨140,.skip,[],[.val (BT0)],[aC,BT1],[],[],0,[],false⟩,
 ⟨141,.skip,[],[.val (BT0),.val (BT0)],[aC],[],[],0,[],false⟩,
 ⟨142,.skip,[],[.ptr (eR) (eR),.val (aC)],[bn],[(0,.box)],[],0,[(28,160)],false⟩,
 ⟨143,.skip,[],[.val (b8)],[aC],[],[],0,[(58,162)],false⟩,
 ⟨144,.skip,[],[.val (aC)],[BT0],[],[],0,[(4052,164),(127,165)],false⟩,
 ⟨145,.skip,[],[.ref (BT4) (BT4) (cl) (cl),.val (bh)],[],[(0,.box),(1,.box)],[(21,1)],0,[],false⟩,
 ⟨147,.skip,[],[.val (bh)],[aC],[],[],0,[(53,168)],false⟩,
 ⟨146,.skip,[],[.ptr (cl) (cl),.val (aC),.val (aC),.val (aC)],[bh],[(0,.box)],[],0,[(15,170)],false⟩,
 ⟨149,.skip,[],[.val (bh)],[BT0],[],[],0,[],false⟩,
 ⟨148,.skip,[],[.val (BT8),.val (aC),.val (BT0)],[bh],[],[],0,[],false⟩,
 ⟨150,.skip,[],[.ref (BT4) (BT4) (cl) (cl),.val (aC),.val (BT0),.val (bh)],[],[(0,.box),(1,.box)],[],0,[],false⟩,
 ⟨151,.skip,[],[.val (BT8),.val (aC),.val (BT0)],[BT2],[],[],0,[],false⟩,
 ⟨152,.skip,[],[.val (aC)],[bh],[],[],0,[],false⟩,
 ⟨153,.skip,[],[.ptr (cl) (cl),.val (bh)],[bh],[(0,.box)],[],0,[],false⟩,
 ⟨154,.skip,[],[.ptr (cl) (cl),.val (bh),.val (bh)],[bh],[(0,.box)],[],0,[],false⟩,
 ⟨155,.skip,[],[.val (BT0),.val (BT0)],[bh],[],[(9,1)],0,[],false⟩,
 ⟨156,.skip,[],[.val (BT1)],[bh],[],[],0,[],false⟩,
 ⟨157,.skip,[],[.val (BT0),.val (ck)],[bh],[],[(20,1)],0,[],false⟩,
 ⟨158,.skip,[],[.val (aC),.val (bh),.val (bh)],[bh],[],[(23,1)],0,[],false⟩,
 ⟨159,.skip,[],[.val (bL)],[BT1],[],[],0,[],false⟩,
 ⟨119,.skip,[],[],[bJ],[],[(1,1)],0,[],false⟩,
 ⟨52,.skip,[],[.val (bJ),.val (BT0)],[BT1],[],[],0,[],false⟩,
 ⟨80,.skip,[],[.val (ey),.ptr (cA) (cA),.ptr (aC) (aC),.ptr (aC) (aC)],[BT1],[(16,.box),(32,.box),(48,.box)],[],0,[],false⟩,
 ⟨120,.skip,[],[.val (aC),.val (aC)],[aC,BT1],[],[],0,[],false⟩,
 ⟨122,.skip,[],[.val (aC)],[BT0],[],[],0,[(31,188)],false⟩,
 ⟨121,.skip,[],[.val (BT8),.val (aC),.val (BT0),.val (bh)],[BT2,BT1],[],[],0,[],false⟩,
 ⟨123,.skip,[],[.val (BT8),.val (aC),.val (BT0)],[aC],[],[],0,[],false⟩,
 ⟨124,.skip,[],[.own (iS),.val (aC),.val (aC)],[iS],[],[],0,[],true⟩,
 ⟨126,.skip,[],[.val (aC)],[aC],[],[],0,[],false⟩,
 ⟨125,.skip,[],[.val (BT0)],[bh],[],[],0,[],false⟩,
 ⟨128,.skip,[],[.val (BT0),.val (BT0)],[ez],[],[],0,[],false⟩,
 ⟨127,.skip,[],[.own (ez),.clo 129 []],[bJ],[],[(38,2)],0,[(122,196)],false⟩,
 ⟨130,.skip,[],[.val (BT0)],[b8,BT1],[],[(9,1),(14,1),(31,1)],0,[],false⟩,
 ⟨131,.skip,[],[.val (b8),.val (BT0)],[BT1],[],[(10,1)],0,[],false⟩,
 ⟨132,.skip,[],[.val (BT0)],[aC,aC],[],[],0,[(31,200),(1023,201)],false⟩,
 ⟨133,.skip,[],[.val (BT0),.val (bL),.val (bL)],[BT0],[],[],0,[(58,203)],false⟩,
 ⟨134,.skip,[],[.val (BT0),.val (BT0)],[aC],[],[],0,[],true⟩,
 ⟨135,.skip,[],[.val (BT0),.val (aC),.val (aC)],[BT0],[],[],0,[],false⟩,
 ⟨136,.skip,[],[.val (aC),.val (aC),.val (aC)],[aC,aC],[],[],0,[(15,207)],false⟩,
 ⟨138,.skip,[],[.val (bh),.val (bh)],[aC],[],[],0,[],false⟩,
 ⟨137,.skip,[],[.val (aC),.val (aC)],[BT1],[],[],0,[],false⟩,
 ⟨101,.skip,[],[.val (bh)],[BT1],[],[],0,[],false⟩,
 ⟨179,.skip,[],[.val (BT0),.val (BT0)],[BT0],[],[],0,[],false⟩,
 ⟨180,.skip,[],[.val (BT0),.val (BT0)],[aC],[],[],0,[],false⟩,
 ⟨181,.skip,[],[.ptr (eR) (eR),.val (aC)],[bn],[(0,.box)],[],0,[(28,214)],false⟩,
 ⟨182,.skip,[],[.ptr (eR) (eR),.val (bL)],[BT1],[(0,.box)],[],0,[],false⟩,
 ⟨183,.skip,[],[.val (aC)],[aC],[],[],0,[],false⟩,
 ⟨184,.skip,[],[.val (aC)],[BT0],[],[(12,1)],0,[(60,218)],false⟩,
 ⟨189,.skip,[],[.val (BT0)],[aC,aC],[],[],0,[(28,220),(63,221),(508,222),(16342,223),(511,224)],false⟩,
 ⟨185,.skip,[],[.val (aC),.val (aC)],[aC,BT1],[],[],0,[],false⟩,
 ⟨186,.skip,[],[.val (aC),.val (aC)],[aC,BT1],[],[],0,[],false⟩,
 ⟨187,.skip,[],[.val (aC),.val (aC)],[aC,BT1],[],[],0,[],false⟩,
 ⟨188,.skip,[],[.val (aC),.val (aC)],[aC,BT1],[],[],0,[],false⟩,
 ⟨190,.skip,[],[.val (BT8),.val (aC),.val (BT0)],[aC],[],[],0,[(26,230)],false⟩,
 ⟨191,.skip,[],[.val (BT8),.val (aC),.val (BT0),.val (bh)],[BT2,BT1],[],[(61,1)],0,[(508,232)],false⟩,
 ⟨192,.skip,[],[.val (BT0)],[bh],[],[],0,[(7,234)],false⟩,
 ⟨193,.skip,[],[.val (b8),.val (BT0)],[BT1],[],[(10,1)],0,[],false⟩,
 ⟨194,.skip,[],[.val (BT1)],[aC],[],[],0,[],false⟩,
 ⟨195,.skip,[],[.val (BT0),.val (ck)],[bh],[],[],0,[],false⟩,
 ⟨196,.skip,[],[.val (bh),.val (bh)],[aC],[],[],0,[],false⟩,
 ⟨77,.skip,[],[.val (bJ),.val (BT0)],[aC],[],[],0,[(26,240)],false⟩,
 ⟨81,.skip,[],[.val (ey),.val (aC),.val (aC),.val (aC)],[BT1],[],[(101,1)],0,[(983,242),(3935,243),(15743,244),(251903,245)],false⟩,
 ⟨160,.skip,[],[.val (aC)],[aC,BT1],[],[],0,[],false⟩,
 ⟨164,.skip,[],[.val (aC)],[BT0],[],[],0,[],true⟩,
 ⟨165,.skip,[],[.val (BT0),.val (BT0)],[BT0],[],[],0,[],false⟩,
 ⟨161,.skip,[],[.val (eS),.clo 162 [ge]],[aC],[(16,.box)],[],0,[(26,250)],false⟩,
 ⟨163,.skip,[],[.own (iS),.val (aC),.own (iS)],[iS],[],[],0,[],true⟩,
 ⟨161,.skip,[],[.val (eS),.clo 166 [aC,BT0]],[aC],[(16,.box),(17,.box)],[],0,[(26,253)],false⟩,
 ⟨167,.skip,[],[.val (BT0),.val (BT0),.val (aC),.val (aC)],[ez],[],[],0,[(31,255),(2044,256)],false⟩,
 ⟨76,.skip,[],[.val (bJ),.clo 129 []],[aC],[],[],0,[(26,258)],false⟩,
 ⟨129,.skip,[],[.val (BT0)],[BT1],[],[],0,[],false⟩,
 ⟨168,.skip,[],[.ptr (d9) (d9)],[bn],[(0,.box)],[],0,[(28,261)],false⟩,
 ⟨169,.skip,[],[.val (b8)],[aC],[],[],0,[(58,263)],false⟩,
 ⟨171,.skip,[],[.val (b8)],[bW],[],[(9,1)],0,[],false⟩,
 ⟨170,.skip,[],[.val (bW),.val (BT0)],[aC,aC,BT1],[],[],0,[(58,266)],false⟩,
 ⟨172,.skip,[],[.val (BT0),.val (BT0)],[BT0],[],[],0,[],false⟩,
 ⟨173,.skip,[],[.val (BT0),.val (aC)],[aC],[],[],0,[(28,269)],false⟩,
 ⟨174,.skip,[],[.val (BT0),.val (BT0)],[aC,BT1],[],[],0,[],false⟩,
 ⟨176,.skip,[],[.val (aC),.val (aC)],[aC,BT1],[],[],0,[],false⟩,
 ⟨177,.skip,[],[.val (aC),.val (aC)],[aC,BT1],[],[],0,[],false⟩,
 ⟨178,.skip,[],[.val (aC),.val (aC)],[aC,BT1],[],[],0,[],false⟩,
 ⟨200,.skip,[],[.val (BT0),.val (bL)],[BT0],[],[],0,[(12,275)],false⟩,
 ⟨212,.skip,[],[.val (BT0),.val (bL)],[BT0],[],[],0,[(12,277)],false⟩,
 ⟨223,.skip,[],[.val (BT0),.val (BT0)],[aC],[],[],0,[],true⟩,
 ⟨224,.skip,[],[.ptr (eR) (eR),.val (aC)],[bn],[(0,.box)],[],0,[(28,280),(907,281)],false⟩,
 ⟨226,.skip,[],[.val (bL)],[BT1],[],[],0,[],false⟩,
 ⟨225,.skip,[],[.val (aC)],[aC,BT1],[],[],0,[],false⟩,
 ⟨227,.skip,[],[.val (ge),.val (aC),.val (BT0)],[BT1],[],[],0,[],false⟩,
 ⟨228,.skip,[],[.val (BT0)],[aC,BT1],[],[],0,[(60,286)],false⟩,
 ⟨230,.skip,[],[.val (b8)],[bW],[],[(6,1),(10,1)],0,[],false⟩,
 ⟨229,.skip,[],[.val (bW),.val (BT0)],[aC,aC,BT1],[],[],0,[(26,289)],false⟩,
 ⟨231,.skip,[],[.val (aC)],[aC],[],[],0,[],false⟩,
 ⟨232,.skip,[],[.val (BT0),.val (BT0)],[aC],[],[],0,[(26,292)],false⟩,
 ⟨233,.skip,[],[.val (BT0),.val (bL),.val (bL)],[BT0],[],[],0,[(58,294)],false⟩,
 ⟨234,.skip,[],[.val (ck)],[BT0],[],[],0,[(63,296)],false⟩,
 ⟨116,.skip,[],[.val (aC)],[BT0,BT0],[],[(6,1)],0,[(63,298),(2007,299),(32127,300)],false⟩,
 ⟨118,.skip,[],[.val (BT0)],[BT1],[],[(7,1)],0,[],false⟩,
 ⟨162,.skip,[],[.val (ge),.ptr (ge) (ge)],[BT1],[(16,.box)],[],0,[],false⟩,
 ⟨166,.skip,[],[.val (ge),.ptr (aC) (aC),.ptr (BT0) (BT0)],[BT1],[(16,.box),(32,.box)],[],0,[],false⟩,
 ⟨204,.skip,[],[.val (BT0),.val (aC)],[ez],[],[],0,[(15,305),(250,306)],false⟩,
 ⟨205,.skip,[],[.val (BT0),.val (BT0)],[aC],[],[],0,[(62,308)],false⟩,
 ⟨206,.skip,[],[.ptr (d9) (d9)],[bn],[(0,.box)],[],0,[(28,310)],false⟩,
 ⟨207,.skip,[],[.ptr (d9) (d9),.val (bL)],[BT1],[(0,.box)],[],0,[],false⟩,
 ⟨210,.skip,[],[.val (b8)],[BT1],[],[],0,[],false⟩,
 ⟨211,.skip,[],[.own (de),.val (b8)],[de],[],[(18,1),(24,1),(34,1),(40,1),(46,1),(73,1),(83,1),(105,1),(113,1)],0,[(966650,314),(15,315)],false⟩,
 ⟨208,.skip,[],[.val (bW)],[BT1],[],[],0,[(58,317)],false⟩,
 ⟨209,.skip,[],[.val (bW),.val (BT0),.val (aC)],[aC],[],[(22,1),(31,1),(66,1)],0,[(62,319),(995,320),(31866,321)],false⟩,
 ⟨215,.skip,[],[.val (BT0)],[aC,.hole 1],[],[(16,1)],0,[],false⟩,
 ⟨221,.skip,[],[.val (aC)],[a7],[],[],0,[],false⟩,
 ⟨220,.skip,[],[.val (a7),.val (a7)],[a7,a7],[],[],0,[],false⟩,
 ⟨222,.skip,[],[.val (a7),.val (a7),.val (a7)],[a7,a7],[],[],0,[(7,326),(15,327),(131068,328),(65535,329),(2097148,330),(1048575,331)],false⟩,
 ⟨256,.skip,[],[.ptr (eR) (eR),.val (aC)],[bn],[(0,.box)],[],0,[(63,333)],false⟩,
 ⟨258,.skip,[],[.val (b8)],[BT1],[],[],0,[],false⟩,
 ⟨260,.skip,[],[.own (de),.val (b8)],[de],[],[(18,1),(32,1),(76,1),(105,1)],0,[(966650,336),(15,337)],false⟩,
 ⟨259,.skip,[],[.own (de),.val (aC)],[de],[],[(8,1)],0,[],false⟩,
 ⟨257,.skip,[],[.val (bW),.val (BT0),.val (aC)],[aC],[],[(23,1),(30,1),(76,1),(85,1)],0,[(250,340),(8009,341),(256314,342)],false⟩,
 ⟨240,.skip,[],[.val (BT0)],[aC],[],[],0,[],false⟩,
 ⟨241,.skip,[],[.val (BT0)],[nF,aC],[],[],0,[],false⟩,
 ⟨242,.skip,[],[.val (BT0),.val (bL)],[aC],[],[],0,[],true⟩,
 ⟨243,.skip,[],[.ptr (d9) (d9)],[bL,BT1],[(0,.box)],[],0,[],false⟩,
 ⟨244,.skip,[],[.ptr (d9) (d9)],[bn],[(0,.box)],[],0,[(14,348)],false⟩,
 ⟨249,.skip,[],[.val (b8),.val (aC)],[BT1],[],[],0,[(31,350),(983,351),(15743,352)],false⟩,
 ⟨250,.skip,[],[.own (de),.val (gf)],[de],[],[(28,1),(35,1),(39,1)],0,[(58,354),(250,355)],false⟩,
 ⟨245,.skip,[],[.val (qi),.val (aC),.val (BT1)],[BT1],[],[],0,[(7551,357)],false⟩,
 ⟨246,.skip,[],[.val (bW),.val (dF),.val (BT1),.val (BT1)],[dF],[],[],0,[(250,359),(506,360),(4051,361)],false⟩,
 ⟨247,.skip,[],[.val (dF),.val (aC)],[BT1],[],[],0,[],false⟩,
 ⟨248,.skip,[],[.val (qi),.val (bL)],[BT1],[],[],0,[],false⟩,
 ⟨251,.skip,[],[.val (BT0)],[aC,.hole 1],[],[],0,[(235,365),(3770,366)],false⟩,
 ⟨255,.skip,[],[.val (a7)],[aC],[],[],0,[],false⟩,
 ⟨284,.skip,[],[.ptr (eR) (eR)],[bn],[(0,.box)],[(171,1)],0,[(15,369),(252,370),(32303,371),(255,372),(64607,373),(8186,374),(516858,375)],false⟩,
 ⟨288,.skip,[],[.val (b8)],[BT1],[],[],0,[(26,377),(3935,378),(15743,379)],false⟩,
 ⟨289,.skip,[],[.own (de),.val (gf)],[de],[],[(29,1)],0,[(58,381),(250,382)],false⟩,
 ⟨285,.skip,[],[.val (bW)],[BT1],[],[],0,[(58,384)],false⟩,
 ⟨286,.skip,[],[.val (bW),.val (dF),.val (BT1),.val (BT1)],[eb],[],[],0,[(58,386)],false⟩,
 ⟨287,.skip,[],[.val (qi),.val (bL)],[BT1],[],[],0,[],false⟩,
 ⟨268,.skip,[],[.val (BT0)],[nF,aC],[],[],0,[],false⟩,
 ⟨269,.skip,[],[.ptr (d9) (d9)],[bn],[(0,.box)],[],0,[(1007615,390)],false⟩,
 ⟨270,.skip,[],[.val (bL)],[aC],[],[],0,[],false⟩,
 ⟨276,.skip,[],[.val (gf),.clo 277 [aC]],[BT1],[(16,.box)],[],0,[],false⟩,
 ⟨275,.skip,[],[.val (b8)],[BT1],[],[],0,[(26,394)],false⟩,
 ⟨271,.skip,[],[.val (aC),.ptr (bW) (bW),.ptr (dP) (dP),.ptr (eb) (eb)],[],[(16,.box),(32,.box),(48,.box)],[(22,1)],0,[],false⟩,
 ⟨272,.skip,[],[.io (eb)],[],[],[],0,[],true⟩,
 ⟨273,.skip,[],[.val (dF),.val (aC)],[aC],[],[],0,[(26,398)],false⟩,
 ⟨274,.skip,[],[.val (BT0),.val (bL)],[aC],[],[],0,[],false⟩,
 ⟨278,.skip,[],[.val (BT0),.val (aC),.val (aC)],[aC,.hole 1],[],[],0,[(31,401),(511,402)],false⟩,
 ⟨283,.skip,[],[.val (a7)],[aC],[],[],0,[(7,404),(15,405)],false⟩,
 ⟨307,.skip,[],[.val (BT0)],[BT1],[],[],0,[(26,407)],false⟩,
 ⟨303,.skip,[],[.val (qi),.val (aC)],[BT1],[],[],0,[(7,409),(15,410),(31,411),(63,412),(127,413)],false⟩,
 ⟨304,.skip,[],[.val (bW),.io (dP),.val (aC),.val (BT1),.val (BT1)],[],[(16,.reg)],[(57,1),(66,1),(74,1),(82,1)],0,[(6,415)],false⟩,
 ⟨305,.skip,[],[.val (nE)],[eb],[],[(18,1)],0,[(58,417)],false⟩,
 ⟨306,.skip,[],[.val (BT0),.val (bL)],[BT1],[],[],0,[(26,419)],false⟩,
 ⟨295,.skip,[],[.ptr (d9) (d9)],[bn],[(0,.box)],[(111,1)],0,[(2042,421),(130707,422),(8186,423),(522830,424)],false⟩,
 ⟨299,.skip,[],[.val (gf),.clo 277 [aC]],[aC],[(16,.box)],[],0,[(26,426)],false⟩,
 ⟨298,.skip,[],[.val (BT0),.val (BT0)],[BT1],[],[],0,[],false⟩,
 ⟨216,.skip,[],[.val (BT0),.val (bL)],[aC],[],[],0,[],false⟩,
 ⟨300,.skip,[],[.val (BT0),.val (aC),.val (aC)],[a7,.hole 1],[],[],0,[(63,430),(127,431),(511,432),(32762,433),(8387175,434)],false⟩,
 ⟨277,.skip,[],[.val (b8),.ptr (aC) (aC)],[BT1],[(16,.box)],[],0,[],false⟩,
 ⟨253,.skip,[],[.val (BT0),.val (bL)],[aC],[],[],0,[],true⟩,
 ⟨320,.skip,[],[.val (bL)],[bL],[],[],0,[],false⟩,
 ⟨321,.skip,[],[.val (BT0)],[BT1],[],[],0,[(31,439),(127,440),(508,441)],false⟩]
def z7:ki:=[((124,[]),191),((134,[]),204),((164,[]),247),((163,[]),251),((223,[]),278),((242,[]),345),((272,[]),396),((253,[]),436)]
def z6:ki:=[((4,[]),0),((5,[]),1),((14,[]),2),((7,[]),4),((16,[]),5),((15,[]),7),((17,[]),9),((9,[]),11),((10,[]),12),((18,[]),13),((11,[]),15),((19,[]),16),((12,[]),18),((13,[]),19),((20,[]),20),((23,[]),22),((21,[]),24),((22,[]),27),((37,[]),28),((24,[]),30),((8,[]),31),((38,[]),32),((29,[]),33),((30,[]),35),((31,[]),37),((32,[]),39),((39,[]),41),((33,[]),43),((34,[]),45),((35,[]),47),((36,[]),49),((40,[]),51),((48,[]),52),((41,[]),53),((42,[]),55),((43,[]),57),((44,[]),59),((45,[]),60),((46,[]),61),((47,[]),63),((65,[]),64),((66,[]),66),((49,[]),67),((50,[51]),69),((53,[]),70),((25,[]),71),((26,[]),72),((27,[]),73),((28,[]),77),((67,[]),78),((56,[]),80),((62,[]),81),((63,[]),82),((64,[]),83),((68,[]),84),((69,[]),85),((70,[]),86),((71,[]),87),((73,[]),92),((72,[]),93),((74,[]),94),((75,[]),97),((76,[51]),98),((78,[]),100),((79,[80]),101),((54,[]),102),((55,[]),103),((58,[]),104),((57,[]),107),((59,[]),108),((60,[]),110),((61,[]),111),((100,[101]),112),((102,[]),113),((103,[]),114),((104,[]),115),((105,[]),116),((106,[]),117),((107,[]),118),((108,[]),120),((109,[]),122),((110,[]),123),((111,[]),124),((112,[]),125),((113,[]),127),((114,[]),129),((51,[]),131),((115,[80]),132),((82,[]),134),((83,[]),135),((86,[]),136),((85,[]),137),((84,[]),138),((87,[]),139),((88,[]),140),((89,[]),141),((90,[]),142),((91,[]),143),((93,[]),144),((92,[]),145),((94,[]),146),((96,[]),147),((95,[]),148),((97,[]),149),((98,[]),151),((99,[]),153),((139,[101]),154),((117,[]),156),((140,[]),157),((141,[]),158),((142,[]),159),((143,[]),161),((144,[]),163),((145,[]),166),((147,[]),167),((146,[]),169),((149,[]),171),((148,[]),172),((150,[]),173),((151,[]),174),((152,[]),175),((153,[]),176),((154,[]),177),((155,[]),178),((156,[]),179),((157,[]),180),((158,[]),181),((159,[]),182),((119,[]),183),((52,[]),184),((80,[]),185),((120,[]),186),((122,[]),187),((121,[]),189),((123,[]),190),((126,[]),192),((125,[]),193),((128,[]),194),((127,[129]),195),((130,[]),197),((131,[]),198),((132,[]),199),((133,[]),202),((135,[]),205),((136,[]),206),((138,[]),208),((137,[]),209),((101,[]),210),((179,[]),211),((180,[]),212),((181,[]),213),((182,[]),215),((183,[]),216),((184,[]),217),((189,[]),219),((185,[]),225),((186,[]),226),((187,[]),227),((188,[]),228),((190,[]),229),((191,[]),231),((192,[]),233),((193,[]),235),((194,[]),236),((195,[]),237),((196,[]),238),((77,[]),239),((81,[]),241),((160,[]),246),((165,[]),248),((161,[162]),249),((161,[166]),252),((167,[]),254),((76,[129]),257),((129,[]),259),((168,[]),260),((169,[]),262),((171,[]),264),((170,[]),265),((172,[]),267),((173,[]),268),((174,[]),270),((176,[]),271),((177,[]),272),((178,[]),273),((200,[]),274),((212,[]),276),((224,[]),279),((226,[]),282),((225,[]),283),((227,[]),284),((228,[]),285),((230,[]),287),((229,[]),288),((231,[]),290),((232,[]),291),((233,[]),293),((234,[]),295),((116,[]),297),((118,[]),301),((162,[]),302),((166,[]),303),((204,[]),304),((205,[]),307),((206,[]),309),((207,[]),311),((210,[]),312),((211,[]),313),((208,[]),316),((209,[]),318),((215,[]),322),((221,[]),323),((220,[]),324),((222,[]),325),((256,[]),332),((258,[]),334),((260,[]),335),((259,[]),338),((257,[]),339),((240,[]),343),((241,[]),344),((243,[]),346),((244,[]),347),((249,[]),349),((250,[]),353),((245,[]),356),((246,[]),358),((247,[]),362),((248,[]),363),((251,[]),364),((255,[]),367),((284,[]),368),((288,[]),376),((289,[]),380),((285,[]),383),((286,[]),385),((287,[]),387),((268,[]),388),((269,[]),389),((270,[]),391),((276,[277]),392),((275,[]),393),((271,[]),395),((273,[]),397),((274,[]),399),((278,[]),400),((283,[]),403),((307,[]),406),((303,[]),408),((304,[]),414),((305,[]),416),((306,[]),418),((295,[]),420),((299,[277]),425),((298,[]),427),((216,[]),428),((300,[]),429),((277,[]),435),((320,[]),437),((321,[]),438)]
def xy(e:Nat):EntI:=entR.getD e ⟨0,.skip,[],[],[],[],[],0,[],true⟩
def dK(k:Nat):KeyI:=keyL.getD k ⟨0,[false],[]⟩
noncomputable def tab:Tab where
 G:=gam
 ty:=kX tyL
 ifc:=rV CK
 key k:=rH xy (dK k)
 ent k:=fill Tryz.prog (xy k)
 call:=rS (z7++z6)
 tabs := [("internal/bytealg.MaxLen", .i64, []), ("internal/strconv.uint64pow10", .u64, Go.Lib.pow10Tab)]
 ext k:=match k with
  | 191=>fun x=>lY (α:=al) x.1 x.2.1 x.2.2.1
  | 204=>fun x=>if List.length (α:=Int) x.1<4294967281 then some (bc x.1 x.2.1,())else none
  | 247=>fun x=>some (il x.1,())
  | 251=>fun x=>mq (α:=al) x.1 x.2.1 x.2.2.1
  | 278=>fun x=>some (bS x.1 x.2.1,())
  | 345=>fun x=>some (cI x.1 x.2.1,())
  | 396=>fun x=>if List.length (α:=Int) x.1≤room then some (co x.1,())else none
  | 436=>fun x=>some (bT x.1 x.2.1,())
  | _=>fun _=>none
end Go.Proofs.YtjglhackafgjiaaGreatDoor.E.TA
