/- The table of V: structs,types,entries,keys. No condition. -/
import Derived.Test.YtijfhaljjmhibaaGreatDoorEG4
import Derived.Test.YtijfhaljjmhibaaGreatDoorProg
import Derived.KernelRfl
namespace Go.Proofs.YtijfhaljjmhibaaGreatDoor.E.TV
open Go.Proofs.YtijfhaljjmhibaaGreatDoor.E
set_option linter.unusedVariables false
set_option maxRecDepth 100000
structure ay where
 Code:Int
 N:Int
 S:(_root_.List Int)
def zF:ay:=⟨0,0,[]⟩
structure az where
 Vars:(_root_.List (_root_.List Int))
 Cells:(_root_.List (_root_.List Int))
 Start:(_root_.List ay)
 Main:(_root_.List ay)
def TN:az:=⟨[],[],[],[]⟩
structure aB where
 Kind:Int
 N:Int
 S:(_root_.List Int)
def uq:aB:=⟨0,0,[]⟩
structure ax where
 Name:Int
 Key:(_root_.List Int)
 Val:aB
def zE:ax:=⟨0,[],uq⟩
structure aA where
 Vars:(_root_.List aB)
 Cells:(_root_.List ax)
 Nr:Int
 Err:Int
def TO:aA:=⟨[],[],0,0⟩
structure au where
 Kind:Int
 N:Int
 S:(_root_.List Int)
def aG:au:=⟨0,0,[]⟩
structure al where
 Name:Int
 Key:(_root_.List Int)
 Val:au
def aQ:al:=⟨0,[],aG⟩
structure ar where
 Vars:(_root_.List au)
 Cells:(_root_.List al)
 Nr:Int
 Err:Int
def lT:ar:=⟨[],[],0,0⟩
structure am where
 Code:Int
 N:Int
 S:(_root_.List Int)
def bm:am:=⟨0,0,[]⟩
structure ap where
 Vars:(_root_.List (_root_.List Int))
 Cells:(_root_.List (_root_.List Int))
 Start:(_root_.List am)
 Main:(_root_.List am)
def TK:ap:=⟨[],[],[],[]⟩
structure aw where
 s:ar
 line:(_root_.List Int)
 out:(_root_.List Int)
 stack:(_root_.List au)
 err:Int
def TM:aw:=⟨lT,[],[],[],0⟩
structure aC where
 s:ar
 vars:(_root_.List (_root_.List Int))
 cells:(_root_.List (_root_.List Int))
 line:(_root_.List Int)
 fields:(_root_.List (_root_.List Int))
 out:(_root_.List Int)
 fuel:Int
 done:Bool
def TP:aC:=⟨lT,[],[],[],[],[],0,false⟩
structure aD where
 l:Unit
 stack:(_root_.List au)
def TQ:aD:=⟨(),[]⟩
structure aq where
 Op:Int
 C:Int
 Set:(_root_.List Int)
 Not:Bool
 Kids:(_root_.List aq)
def aO:aq:=⟨0,0,[],false,[]⟩
structure aE where
 s:(_root_.List Int)
 at_:Int
 bad:Bool
def TR:aE:=⟨[],0,false⟩
structure av where
 s:(_root_.List Int)
 bad:Bool
def TL:av:=⟨[],false⟩
structure an where
 Op:Int
 C:Int
 Set:(_root_.List Int)
 Not:Bool
 A:Int
 B:Int
def aN:an:=⟨0,0,[],false,0,0⟩
def gT:Nat→Type
 | 0=>az
 | 1=>ay
 | 2=>aA
 | 3=>aB
 | 4=>ax
 | 5=>ar
 | 6=>au
 | 7=>al
 | 8=>ap
 | 9=>am
 | 10=>aw
 | 11=>aC
 | 12=>aD
 | 13=>aq
 | 14=>aE
 | 15=>av
 | 16=>an
 | _=>Unit
def gfs:Nat→List FT
 | 0=>[(.sl .str),(.sl .str),(.sl (.nm 1)),(.sl (.nm 1))]
 | 1=>[(.int .i64),(.int .i64),.str]
 | 2=>[(.sl (.nm 3)),(.sl (.nm 4)),(.int .i64),(.int .i64)]
 | 3=>[(.int .i64),(.int .i64),.str]
 | 4=>[(.int .i64),.str,(.nm 3)]
 | 5=>[(.sl (.nm 6)),(.sl (.nm 7)),(.int .i64),(.int .i64)]
 | 6=>[(.int .i64),(.int .i64),.str]
 | 7=>[(.int .i64),.str,(.nm 6)]
 | 8=>[(.sl .str),(.sl .str),(.sl (.nm 9)),(.sl (.nm 9))]
 | 9=>[(.int .i64),(.int .i64),.str]
 | 10=>[(.nm 5),.str,.str,(.sl (.nm 6)),(.int .i64)]
 | 11=>[(.nm 5),(.sl .str),(.sl .str),.str,(.sl .str),.str,(.int .i64),.bool]
 | 12=>[.ptr,(.sl (.nm 6))]
 | 13=>[(.int .i64),(.int .i64),.str,.bool,(.sl (.nm 13))]
 | 14=>[.str,(.int .i64),.bool]
 | 15=>[.str,.bool]
 | 16=>[(.int .i64),(.int .i64),.str,.bool,(.int .i64),(.int .i64)]
 | _=>[]
def gun:∀ n,gT n→Js gT (gfs n)
 | 0,x=>(x.Vars,(x.Cells,(x.Start,(x.Main,()))))
 | 1,x=>(x.Code,(x.N,(x.S,())))
 | 2,x=>(x.Vars,(x.Cells,(x.Nr,(x.Err,()))))
 | 3,x=>(x.Kind,(x.N,(x.S,())))
 | 4,x=>(x.Name,(x.Key,(x.Val,())))
 | 5,x=>(x.Vars,(x.Cells,(x.Nr,(x.Err,()))))
 | 6,x=>(x.Kind,(x.N,(x.S,())))
 | 7,x=>(x.Name,(x.Key,(x.Val,())))
 | 8,x=>(x.Vars,(x.Cells,(x.Start,(x.Main,()))))
 | 9,x=>(x.Code,(x.N,(x.S,())))
 | 10,x=>(x.s,(x.line,(x.out,(x.stack,(x.err,())))))
 | 11,x=>(x.s,(x.vars,(x.cells,(x.line,(x.fields,(x.out,(x.fuel,(x.done,()))))))))
 | 12,x=>(x.l,(x.stack,()))
 | 13,x=>(x.Op,(x.C,(x.Set,(x.Not,(x.Kids,())))))
 | 14,x=>(x.s,(x.at_,(x.bad,())))
 | 15,x=>(x.s,(x.bad,()))
 | 16,x=>(x.Op,(x.C,(x.Set,(x.Not,(x.A,(x.B,()))))))
 | (n+17),_=>()
def gpk:∀ n,Js gT (gfs n)→gT n
 | 0,y=>⟨y.1,y.2.1,y.2.2.1,y.2.2.2.1⟩
 | 1,y=>⟨y.1,y.2.1,y.2.2.1⟩
 | 2,y=>⟨y.1,y.2.1,y.2.2.1,y.2.2.2.1⟩
 | 3,y=>⟨y.1,y.2.1,y.2.2.1⟩
 | 4,y=>⟨y.1,y.2.1,y.2.2.1⟩
 | 5,y=>⟨y.1,y.2.1,y.2.2.1,y.2.2.2.1⟩
 | 6,y=>⟨y.1,y.2.1,y.2.2.1⟩
 | 7,y=>⟨y.1,y.2.1,y.2.2.1⟩
 | 8,y=>⟨y.1,y.2.1,y.2.2.1,y.2.2.2.1⟩
 | 9,y=>⟨y.1,y.2.1,y.2.2.1⟩
 | 10,y=>⟨y.1,y.2.1,y.2.2.1,y.2.2.2.1,y.2.2.2.2.1⟩
 | 11,y=>⟨y.1,y.2.1,y.2.2.1,y.2.2.2.1,y.2.2.2.2.1,y.2.2.2.2.2.1,y.2.2.2.2.2.2.1,y.2.2.2.2.2.2.2.1⟩
 | 12,y=>⟨y.1,y.2.1⟩
 | 13,y=>⟨y.1,y.2.1,y.2.2.1,y.2.2.2.1,y.2.2.2.2.1⟩
 | 14,y=>⟨y.1,y.2.1,y.2.2.1⟩
 | 15,y=>⟨y.1,y.2.1⟩
 | 16,y=>⟨y.1,y.2.1,y.2.2.1,y.2.2.2.1,y.2.2.2.2.1,y.2.2.2.2.2.1⟩
 | (n+17),_=>()
theorem KE:∀ n y,gun n (gpk n y)=y
 | 0,_=>rfl
 | 1,_=>rfl
 | 2,_=>rfl
 | 3,_=>rfl
 | 4,_=>rfl
 | 5,_=>rfl
 | 6,_=>rfl
 | 7,_=>rfl
 | 8,_=>rfl
 | 9,_=>rfl
 | 10,_=>rfl
 | 11,_=>rfl
 | 12,_=>rfl
 | 13,_=>rfl
 | 14,_=>rfl
 | 15,_=>rfl
 | 16,_=>rfl
 | (n+17),_=>rfl
theorem KC:∀ n x,gpk n (gun n x)=x
 | 0,x=>by cases x;rfl
 | 1,x=>by cases x;rfl
 | 2,x=>by cases x;rfl
 | 3,x=>by cases x;rfl
 | 4,x=>by cases x;rfl
 | 5,x=>by cases x;rfl
 | 6,x=>by cases x;rfl
 | 7,x=>by cases x;rfl
 | 8,x=>by cases x;rfl
 | 9,x=>by cases x;rfl
 | 10,x=>by cases x;rfl
 | 11,x=>by cases x;rfl
 | 12,x=>by cases x;rfl
 | 13,x=>by cases x;rfl
 | 14,x=>by cases x;rfl
 | 15,x=>by cases x;rfl
 | 16,x=>by cases x;rfl
 | (n+17),_=>rfl
def gz:∀ n,gT n
 | 0=>TN
 | 1=>zF
 | 2=>TO
 | 3=>uq
 | 4=>zE
 | 5=>lT
 | 6=>aG
 | 7=>aQ
 | 8=>TK
 | 9=>bm
 | 10=>TM
 | 11=>TP
 | 12=>TQ
 | 13=>aO
 | 14=>TR
 | 15=>TL
 | 16=>aN
 | (n+17)=>()
theorem KF:∀ n,gun n (gz n)=lU gz (gfs n)
 | 0=>rfl
 | 1=>rfl
 | 2=>rfl
 | 3=>rfl
 | 4=>rfl
 | 5=>rfl
 | 6=>rfl
 | 7=>rfl
 | 8=>rfl
 | 9=>rfl
 | 10=>rfl
 | 11=>rfl
 | 12=>rfl
 | 13=>rfl
 | 14=>rfl
 | 15=>rfl
 | 16=>rfl
 | (n+17)=>rfl
def gsz:Nat→Nat
 | 0=>4
 | 1=>3
 | 2=>4
 | 3=>3
 | 4=>5
 | 5=>4
 | 6=>3
 | 7=>5
 | 8=>4
 | 9=>3
 | 10=>8
 | 11=>11
 | 12=>2
 | 13=>5
 | 14=>3
 | 15=>2
 | 16=>6
 | _=>0
theorem KD:∀ n,gsz n=FT.szs gsz (gfs n)
 | 0=>rfl
 | 1=>rfl
 | 2=>rfl
 | 3=>rfl
 | 4=>rfl
 | 5=>rfl
 | 6=>rfl
 | 7=>rfl
 | 8=>rfl
 | 9=>rfl
 | 10=>rfl
 | 11=>rfl
 | 12=>rfl
 | 13=>rfl
 | 14=>rfl
 | 15=>rfl
 | 16=>rfl
 | (n+17)=>rfl
def gfl:Nat→Bool
 | 0=>false
 | 1=>true
 | 2=>false
 | 3=>true
 | 4=>true
 | 5=>false
 | 6=>true
 | 7=>true
 | 8=>false
 | 9=>true
 | 10=>false
 | 11=>false
 | 12=>false
 | 13=>false
 | 14=>true
 | 15=>true
 | 16=>true
 | _=>true
theorem KA:∀ n,gfl n=true→FT.flats gfl (gfs n)=true
 | 0,h=>by cases h
 | 1,h=>rfl
 | 2,h=>by cases h
 | 3,h=>rfl
 | 4,h=>rfl
 | 5,h=>by cases h
 | 6,h=>rfl
 | 7,h=>rfl
 | 8,h=>by cases h
 | 9,h=>rfl
 | 10,h=>by cases h
 | 11,h=>by cases h
 | 12,h=>by cases h
 | 13,h=>by cases h
 | 14,h=>rfl
 | 15,h=>rfl
 | 16,h=>rfl
 | (n+17),_=>rfl
def gam:Gam:=⟨gT,gfs,gun,gpk,KE,KC,gz,KF,gsz,KD,gfl,KA⟩
def tyL:List (Nat×FT):=[(2,(.int .i64)),(3,(.int .i64)),(4,.bool),(5,(.int .u8)),(6,(.int .u8)),(9,.str),(21,(.int .i32)),(22,(.sl .str)),(23,(.sl (.nm 1))),(25,(.nm 0)),(26,(.sl (.nm 3))),(27,(.sl (.nm 4))),(29,(.nm 2)),(32,(.sl (.nm 6))),(33,(.sl (.nm 7))),(35,(.nm 5)),(38,(.sl (.nm 9))),(40,(.nm 8)),(61,(.nm 10)),(74,(.nm 1)),(77,(.nm 3)),(80,(.nm 4)),(85,(.nm 6)),(87,(.nm 7)),(90,.ptr),(93,(.nm 11)),(97,(.nm 9)),(121,(.nm 12)),(146,(.sl (.int .u8))),(148,(.sl (.nm 13))),(150,(.nm 13)),(178,(.nm 14)),(203,(.nm 15)),(207,(.sl (.nm 16))),(212,(.sl .bool)),(227,(.nm 16)),(229,(.int .u64)),(230,(.int .u64)),(243,(.sl (.int .i64))),(254,(.int .i64))]
def C8:List Nat:=[214]
abbrev BT0:BT:=.leaf false .str
abbrev BT1:BT:=.leaf false .bool
abbrev BT2:BT:=.leaf true (.nm 5)
abbrev BT3:BT:=.leaf true (.nm 9)
abbrev BT4:BT:=.leaf true (.nm 6)
abbrev BT5:BT:=.leaf false (.nm 8)
abbrev BT6:BT:=.leaf false (.nm 5)
abbrev BT7:BT:=.leaf true (.nm 11)
abbrev BT8:BT:=.leaf true (.nm 12)
abbrev BT9:BT:=.leaf true (.nm 14)
abbrev bt:BT:=.leaf true (.nm 13)
abbrev iZ:BT:=.leaf true (.nm 15)
abbrev nP:BT:=.leaf true (.nm 16)
abbrev ur:BT:=.leaf false (.nm 0)
abbrev ut:BT:=.leaf false (.nm 2)
abbrev eD:BT:=.leaf false (.nm 9)
abbrev bl:BT:=.leaf false (.nm 6)
abbrev fF:BT:=.leaf false (.nm 7)
abbrev ch:BT:=.leaf false (.nm 13)
abbrev eX:BT:=.leaf false (.nm 14)
abbrev em:BT:=.leaf false (.nm 15)
abbrev qo:BT:=.leaf false (.nm 16)
abbrev eE:BT:=.leaf true (.sl .str)
abbrev b6:BT:=.leaf false (.sl .str)
abbrev kr:BT:=.leaf true (.int .i64)
abbrev bN:BT:=.leaf false (.int .u8)
abbrev dU:BT:=.leaf true (.sl .bool)
abbrev aF:BT:=.leaf false (.int .i64)
abbrev bc:BT:=.leaf false (.int .u64)
abbrev nQ:BT:=.leaf false (.sl .bool)
abbrev nR:BT:=.leaf false (.int .i32)
abbrev qp:BT:=.leaf true (.sl (.nm 9))
abbrev lV:BT:=.leaf true (.sl (.nm 6))
abbrev gq:BT:=.leaf true (.sl (.nm 7))
abbrev qq:BT:=.leaf false (.sl (.nm 1))
abbrev qr:BT:=.leaf false (.sl (.nm 3))
abbrev qt:BT:=.leaf false (.sl (.nm 4))
abbrev eY:BT:=.leaf false (.sl (.nm 7))
abbrev cG:BT:=.leaf false (.sl (.nm 9))
abbrev ct:BT:=.leaf false (.sl (.nm 6))
abbrev qu:BT:=.leaf true (.sl (.nm 13))
abbrev dj:BT:=.leaf true (.sl (.nm 16))
abbrev gt:BT:=.leaf false (.sl (.nm 13))
abbrev bZ:BT:=.leaf false (.sl (.nm 16))
abbrev qv:BT:=.leaf true (.sl (.int .u8))
abbrev en:BT:=.leaf true (.sl (.int .i64))
abbrev uu:BT:=.leaf false (.sl (.int .u8))
abbrev dK:BT:=.leaf false (.sl (.int .i64))
abbrev zH:BT:=.pr (.leaf false (.int .i64)) (.un)
abbrev cO:BT:=.pr (.leaf true (.nm 5)) (.pr (.leaf false .str) (.pr (.leaf false .str) (.pr (.leaf true (.sl (.nm 6))) (.pr (.leaf false (.int .i64)) (.un)))))
abbrev cw:BT:=.pr (.leaf true (.nm 5)) (.pr (.leaf true (.sl .str)) (.pr (.leaf true (.sl .str)) (.pr (.leaf false .str) (.pr (.leaf true (.sl .str)) (.pr (.leaf false .str) (.pr (.leaf false (.int .i64)) (.pr (.leaf false .bool) (.un))))))))
def keyL:List KeyI:=[
 ⟨0,[],[]⟩,
 ⟨1,[],[]⟩,
 ⟨2,[],[]⟩,
 ⟨3,[],[]⟩,
 ⟨4,[],[]⟩,
 ⟨5,[],[]⟩,
 ⟨6,[],[]⟩,
 ⟨7,[],[]⟩,
 ⟨8,[],[]⟩,
 ⟨9,[],[]⟩,
 ⟨10,[],[]⟩,
 ⟨11,[],[]⟩,
 ⟨12,[],[]⟩,
 ⟨12,[true,true,true,false,true,false],[.val 0 (b6),.val 1 (aF),.val 5 (aF)]⟩,
 ⟨13,[],[]⟩,
 ⟨13,[true,true,true,false,true,false],[.val 0 (qq),.val 1 (aF),.val 5 (aF)]⟩,
 ⟨14,[],[]⟩,
 ⟨14,[true,true,true,false,true,false],[.val 0 (qr),.val 1 (aF),.val 5 (aF)]⟩,
 ⟨15,[],[]⟩,
 ⟨15,[true,true,true,false,true,false],[.val 0 (qt),.val 1 (aF),.val 5 (aF)]⟩,
 ⟨16,[],[]⟩,
 ⟨16,[true,true,false,true,false],[.val 0 (b6),.own 3 48 (eE),.val 4 (aF)]⟩,
 ⟨17,[],[]⟩,
 ⟨17,[true,true,false,true,false],[.val 0 (qq),.own 3 48 (qp),.val 4 (aF)]⟩,
 ⟨18,[],[]⟩,
 ⟨18,[true,true,false,true,false],[.val 0 (qr),.own 3 48 (lV),.val 4 (aF)]⟩,
 ⟨19,[],[]⟩,
 ⟨19,[true,true,false,true,false],[.val 0 (qt),.own 3 48 (gq),.val 4 (aF)]⟩,
 ⟨20,[],[]⟩,
 ⟨20,[true,false,true,false],[.ptr 1 16,.val 3 (aF),.slot 16 (BT5) true none]⟩,
 ⟨20,[true,true,false,true,false],[.ptr 1 16,.val 4 (aF),.slot 16 (BT5) true none]⟩,
 ⟨21,[],[]⟩,
 ⟨22,[],[]⟩,
 ⟨22,[true,false,true,false],[.ptr 3 48,.val 1 (aF),.val 2 (aF),.val 7 (aF),.slot 48 (BT6) true none]⟩,
 ⟨22,[true,true,false,true,false],[.ptr 3 48,.val 1 (aF),.val 2 (aF),.val 8 (aF),.slot 48 (BT6) true none]⟩,
 ⟨23,[],[]⟩,
 ⟨23,[true,true,true,true],[.ptr 3 48,.ptr 4 64,.ptr 6 96,.ptr 8 272,.slot 48 (BT5) true none,.slot 64 (BT6) true none,.slot 96 (BT2) true none,.slot 272 (BT7) true none]⟩,
 ⟨24,[],[]⟩,
 ⟨25,[],[]⟩,
 ⟨26,[],[]⟩,
 ⟨26,[true,true,false,true,false],[.ptr 3 48,.val 2 (aF),.val 38 (eY),.val 39 (aF),.val 40 (aF),.slot 48 (BT6) true none]⟩,
 ⟨27,[],[]⟩,
 ⟨28,[],[]⟩,
 ⟨29,[],[]⟩,
 ⟨29,[true,true,false],[.ptr 0 0,.val 1 (cG),.val 4 (aF),.val 5 (aF),.slot 0 (cO) true none]⟩,
 ⟨29,[true,true,false,false,true,true],[.ptr 0 0,.val 1 (cG),.val 4 (aF),.val 5 (aF),.slot 0 (cO) true none]⟩,
 ⟨29,[true,true,false,false,true,false,false,true,true,true,true,true,true,false,true,true,true,true,true,true,true,true,true],[.ptr 0 0,.ptr 6 96,.val 1 (cG),.val 4 (aF),.val 5 (aF),.val 7 (ct),.val 57 (BT1),.slot 0 (.leaf true (.nm 10)) true none,.slot 96 (BT3) true none]⟩,
 ⟨30,[],[]⟩,
 ⟨30,[true,true,false,true,false],[.val 0 (ct),.val 1 (ct),.val 5 (aF)]⟩,
 ⟨31,[],[]⟩,
 ⟨31,[true,true,false,true,false],[.val 0 (eY),.val 1 (eY),.val 5 (aF)]⟩,
 ⟨32,[],[]⟩,
 ⟨32,[true,true,false,true,false],[.val 0 (b6),.val 1 (b6),.val 5 (aF)]⟩,
 ⟨33,[],[]⟩,
 ⟨33,[true,true,false,true,false],[.val 0 (cG),.val 1 (cG),.val 5 (aF)]⟩,
 ⟨34,[],[]⟩,
 ⟨34,[true,false,true,false],[.own 0 320 (eE),.val 1 (aF),.val 5 (aF)]⟩,
 ⟨35,[],[]⟩,
 ⟨35,[true,false,true,false],[.own 0 560 (qp),.val 1 (aF),.val 5 (aF)]⟩,
 ⟨36,[],[]⟩,
 ⟨36,[true,false,true,false],[.own 0 0 (lV),.val 1 (aF),.val 5 (aF)]⟩,
 ⟨37,[],[]⟩,
 ⟨37,[true,false,true,false],[.own 0 0 (gq),.val 1 (aF),.val 5 (aF)]⟩,
 ⟨38,[],[]⟩,
 ⟨38,[true,false,true,false],[.val 0 (ct),.val 1 (aF),.val 5 (aF)]⟩,
 ⟨39,[],[]⟩,
 ⟨39,[true,false,true,false],[.val 0 (eY),.val 1 (aF),.val 5 (aF)]⟩,
 ⟨40,[],[]⟩,
 ⟨41,[],[]⟩,
 ⟨42,[],[]⟩,
 ⟨43,[],[]⟩,
 ⟨44,[],[]⟩,
 ⟨45,[],[]⟩,
 ⟨46,[],[]⟩,
 ⟨46,[true,false,true,false],[.val 0 (BT0),.val 3 (aF)]⟩,
 ⟨47,[],[]⟩,
 ⟨47,[true,false,true,false],[.val 0 (b6),.val 1 (BT0),.val 5 (aF)]⟩,
 ⟨48,[],[]⟩,
 ⟨48,[true,true,true,false,true,false],[.val 0 (cG),.val 1 (aF),.val 2 (aF),.val 7 (aF),.val 8 (aF)]⟩,
 ⟨49,[],[]⟩,
 ⟨50,[],[]⟩,
 ⟨51,[],[]⟩,
 ⟨52,[],[]⟩,
 ⟨52,[true,true,true,false,true,false],[.val 0 (BT0),.own 3 48 (eE),.val 4 (aF),.val 5 (aF)]⟩,
 ⟨53,[],[]⟩,
 ⟨54,[],[]⟩,
 ⟨54,[true,true,true,false],[.ptr 0 0,.ptr 4 176,.wrd 176 0,.val 1 (cG),.val 5 (aF),.val 6 (aF),.slot 0 (BT7) true none,.slot 176 (BT8) true none]⟩,
 ⟨55,[],[]⟩,
 ⟨56,[],[]⟩,
 ⟨56,[true,false,true,false],[.val 0 (b6),.val 5 (b6),.val 6 (aF),.val 7 (aF)]⟩,
 ⟨57,[],[]⟩,
 ⟨58,[],[]⟩,
 ⟨59,[],[]⟩,
 ⟨60,[],[]⟩,
 ⟨61,[],[]⟩,
 ⟨62,[],[]⟩,
 ⟨63,[],[]⟩,
 ⟨64,[],[]⟩,
 ⟨65,[],[]⟩,
 ⟨65,[true,false,true,false,true],[.ptr 1 16,.val 4 (aF),.val 5 (BT1),.slot 16 (BT3) true none]⟩,
 ⟨65,[true,true],[.ptr 1 16,.slot 16 (BT3) true none]⟩,
 ⟨66,[],[]⟩,
 ⟨67,[],[]⟩,
 ⟨67,[true,false,true,false,true],[.ptr 1 16,.val 4 (aF),.val 5 (BT1),.slot 16 (BT4) true none]⟩,
 ⟨68,[],[]⟩,
 ⟨69,[],[]⟩,
 ⟨70,[],[]⟩,
 ⟨71,[],[]⟩,
 ⟨72,[],[]⟩,
 ⟨73,[],[]⟩,
 ⟨73,[true,true,true,false,false],[.val 0 (aF),.val 3 (BT0)]⟩,
 ⟨74,[],[]⟩,
 ⟨75,[],[]⟩,
 ⟨76,[],[]⟩,
 ⟨76,[true,false,true,false,true,true,true,true,true],[.ptr 4 64,.val 1 (aF),.val 2 (aF),.val 3 (aF),.val 12 (aF),.val 28 (BT1),.slot 64 (BT3) true none]⟩,
 ⟨76,[true,false,true,false,true,true,true,true,true,true,true],[.ptr 4 64,.val 1 (aF),.val 3 (aF),.val 12 (aF),.val 46 (BT1),.slot 64 (BT3) true none]⟩,
 ⟨76,[true,false,true,false,true,true,true,true,true,true,true,true,true],[.ptr 4 64,.val 1 (aF),.val 12 (aF),.val 65 (BT1),.slot 64 (BT3) true none]⟩,
 ⟨76,[true,false,true,false,true,true,true,true,true,true,true,true,true,true,true,true,true],[.ptr 4 64,.val 1 (aF),.val 12 (aF),.val 91 (BT1),.slot 64 (BT3) true none]⟩,
 ⟨77,[],[]⟩,
 ⟨78,[],[]⟩,
 ⟨78,[true,true,true,false,false],[.val 0 (BT0),.val 4 (aF),.val 5 (aF)]⟩,
 ⟨79,[],[]⟩,
 ⟨79,[true,true,true,true,true,true],[.wrd 0 1,.val 2 (aF),.slot 0 (.pr (.leaf false .ptr) (.pr (lV) (.un))) true none,.slot 1 (cw) true none]⟩,
 ⟨79,[true,true,true,true,true,false,true,false,true,true,true,true,true,true,true,true,true,true,true,true,true],[.ptr 0 0,.ptr 4 64,.wrd 0 1,.val 2 (aF),.val 9 (ct),.val 93 (BT1),.slot 0 (BT8) true none,.slot 1 (BT7) true none,.slot 64 (BT3) true none]⟩,
 ⟨80,[],[]⟩,
 ⟨81,[],[]⟩,
 ⟨81,[true,false,true,false],[.clo 1 61 [16],.val 0 (b6),.val 7 (aF),.val 8 (aF),.slot 16 (BT5) true none]⟩,
 ⟨82,[],[]⟩,
 ⟨83,[],[]⟩,
 ⟨83,[true,false,true,false],[.clo 1 65 [],.val 0 (ct),.val 7 (aF),.val 8 (aF)]⟩,
 ⟨84,[],[]⟩,
 ⟨85,[],[]⟩,
 ⟨86,[],[]⟩,
 ⟨87,[],[]⟩,
 ⟨88,[],[]⟩,
 ⟨89,[],[]⟩,
 ⟨90,[],[]⟩,
 ⟨91,[],[]⟩,
 ⟨92,[],[]⟩,
 ⟨93,[],[]⟩,
 ⟨94,[],[]⟩,
 ⟨95,[],[]⟩,
 ⟨96,[],[]⟩,
 ⟨97,[],[]⟩,
 ⟨98,[],[]⟩,
 ⟨99,[],[]⟩,
 ⟨100,[],[]⟩,
 ⟨101,[],[]⟩,
 ⟨102,[],[]⟩,
 ⟨102,[true,false,true,false,true],[.ptr 1 16,.val 6 (aF),.val 7 (BT1),.slot 16 (BT4) true none]⟩,
 ⟨103,[],[]⟩,
 ⟨103,[true,false,false],[.ptr 4 64,.val 0 (BT0),.val 1 (ct),.slot 64 (BT4) true none]⟩,
 ⟨104,[],[]⟩,
 ⟨105,[],[]⟩,
 ⟨106,[],[]⟩,
 ⟨107,[],[]⟩,
 ⟨107,[true,true,false,false],[.val 0 (BT0),.val 4 (aF)]⟩,
 ⟨107,[true,true,true,true,true],[.val 0 (BT0),.val 4 (aF),.val 5 (BT1)]⟩,
 ⟨107,[true,true,true,true,true,true,false,false],[.val 0 (BT0),.val 4 (aF),.val 5 (BT1),.val 6 (aF),.val 7 (aF)]⟩,
 ⟨107,[true,true,true,true,true,true,true,false,true,false,true,true,false],[.val 0 (BT0),.val 4 (aF),.val 5 (BT1),.val 6 (aF),.val 7 (aF),.val 8 (aF)]⟩,
 ⟨107,[true,true,true,true,true,true,true,true],[.val 4 (aF),.val 5 (BT1),.val 6 (aF),.val 7 (aF)]⟩,
 ⟨108,[],[]⟩,
 ⟨108,[true,false,true,false,true],[.ptr 1 16,.val 4 (aF),.val 5 (BT1),.slot 16 (BT3) true none]⟩,
 ⟨109,[],[]⟩,
 ⟨109,[true,false,true,false,true],[.ptr 1 16,.val 4 (aF),.val 5 (BT1),.slot 16 (BT4) true none]⟩,
 ⟨110,[],[]⟩,
 ⟨111,[],[]⟩,
 ⟨112,[],[]⟩,
 ⟨113,[],[]⟩,
 ⟨113,[true,true,true,true],[.ptr 0 0,.ptr 6 1,.ptr 7 112,.wrd 0 1,.slot 0 (BT8) true none,.slot 1 (cw) true none,.slot 112 (BT4) true none]⟩,
 ⟨114,[],[]⟩,
 ⟨114,[true,true,false,false],[.val 0 (BT0),.val 1 (aF),.val 5 (aF)]⟩,
 ⟨115,[],[]⟩,
 ⟨115,[true,false,true,false,true],[.val 0 (BT0),.val 4 (BT1)]⟩,
 ⟨116,[],[]⟩,
 ⟨117,[],[]⟩,
 ⟨117,[true,false,true,false],[.clo 1 90 [16,17,18],.val 0 (cG),.val 7 (aF),.val 8 (aF),.slot 16 (cG) true none,.slot 17 (kr) true none,.slot 18 (kr) true none]⟩,
 ⟨118,[],[]⟩,
 ⟨119,[],[]⟩,
 ⟨119,[true,true,true,true],[.val 0 (BT0),.val 4 (aF),.val 5 (BT1)]⟩,
 ⟨119,[true,true,true,true,true,true,true,true,true],[.val 4 (aF),.val 5 (BT1),.val 7 (BT0),.val 8 (BT0)]⟩,
 ⟨120,[],[]⟩,
 ⟨121,[],[]⟩,
 ⟨122,[],[]⟩,
 ⟨123,[],[]⟩,
 ⟨123,[true,true,true,true],[.val 0 (aF),.val 3 (BT0)]⟩,
 ⟨124,[],[]⟩,
 ⟨125,[],[]⟩,
 ⟨126,[],[]⟩,
 ⟨127,[],[]⟩,
 ⟨128,[],[]⟩,
 ⟨129,[],[]⟩,
 ⟨130,[],[]⟩,
 ⟨130,[true,true,true,false,true,false],[.clo 1 141 [],.own 0 672 (eE),.val 5 (aF),.val 6 (aF)]⟩,
 ⟨131,[],[]⟩,
 ⟨132,[],[]⟩,
 ⟨133,[],[]⟩,
 ⟨133,[true,true,false,true,false],[.ali 12 7,.val 1 (bN),.val 2 (bN),.own 7 112 (qv),.val 13 (aF),.val 14 (aF)]⟩,
 ⟨134,[],[]⟩,
 ⟨135,[],[]⟩,
 ⟨136,[],[]⟩,
 ⟨136,[true,true,true],[.val 8 (aF),.val 9 (BT1)]⟩,
 ⟨137,[],[]⟩,
 ⟨138,[],[]⟩,
 ⟨139,[],[]⟩,
 ⟨139,[true,true,false,false],[.ptr 0 0,.ptr 4 64,.val 1 (aF),.own 5 80 (qu),.slot 0 (BT9) true none,.slot 64 (bt) true none]⟩,
 ⟨140,[],[]⟩,
 ⟨140,[true,true,false,true,false],[.ptr 1 16,.val 3 (aF),.val 4 (aF),.slot 16 (ch) true none]⟩,
 ⟨141,[],[]⟩,
 ⟨142,[],[]⟩,
 ⟨142,[true,true,true,true,true,false,true,false,true,false,false],[.val 0 (aF),.val 4 (BT0),.val 6 (BT0)]⟩,
 ⟨142,[true,true,true,true,true,true],[.val 0 (aF),.val 4 (BT0)]⟩,
 ⟨143,[],[]⟩,
 ⟨144,[],[]⟩,
 ⟨144,[true,false,true,false,true],[.ptr 1 16,.val 6 (aF),.val 7 (BT1),.slot 16 (BT4) true none]⟩,
 ⟨145,[],[]⟩,
 ⟨145,[true,true,true],[.ptr 0 0,.ptr 8 128,.val 9 (aF),.val 10 (BT1),.slot 0 (BT7) true none,.slot 128 (BT4) true none]⟩,
 ⟨146,[],[]⟩,
 ⟨147,[],[]⟩,
 ⟨148,[],[]⟩,
 ⟨149,[],[]⟩,
 ⟨150,[],[]⟩,
 ⟨151,[],[]⟩,
 ⟨152,[],[]⟩,
 ⟨153,[],[]⟩,
 ⟨154,[],[]⟩,
 ⟨155,[],[]⟩,
 ⟨156,[],[]⟩,
 ⟨157,[],[]⟩,
 ⟨158,[],[]⟩,
 ⟨159,[],[]⟩,
 ⟨160,[],[]⟩,
 ⟨161,[],[]⟩,
 ⟨162,[],[]⟩,
 ⟨162,[true,true,false,false],[.val 0 (BT0),.val 1 (aF),.val 5 (aF)]⟩,
 ⟨163,[],[]⟩,
 ⟨164,[],[]⟩,
 ⟨164,[true,false,false],[.val 0 (BT0),.val 1 (bN)]⟩,
 ⟨165,[],[]⟩,
 ⟨165,[true,false,false],[.val 0 (BT0),.val 1 (bN)]⟩,
 ⟨166,[],[]⟩,
 ⟨167,[],[]⟩,
 ⟨168,[],[]⟩,
 ⟨169,[],[]⟩,
 ⟨170,[],[]⟩,
 ⟨170,[true,false,true,false],[.clo 1 182 [16],.val 0 (eY),.val 7 (aF),.val 8 (aF),.slot 16 (.leaf true (.nm 7)) true none]⟩,
 ⟨171,[],[]⟩,
 ⟨172,[],[]⟩,
 ⟨172,[true,false,true,false],[.clo 1 186 [16,17],.val 0 (eY),.val 7 (aF),.val 8 (aF),.slot 16 (kr) true none,.slot 17 (.leaf true .str) true none]⟩,
 ⟨173,[],[]⟩,
 ⟨173,[true,true,true,true],[.val 0 (BT0),.val 1 (BT0),.val 2 (aF),.val 3 (aF)]⟩,
 ⟨173,[true,true,true,true,true,true,true,true,false,false],[.val 0 (BT0),.val 1 (BT0),.val 2 (aF),.val 3 (aF),.own 9 144 (eE),.val 10 (aF)]⟩,
 ⟨174,[],[]⟩,
 ⟨174,[true,false,true,false],[.clo 1 141 [],.val 0 (b6),.val 7 (aF),.val 8 (aF)]⟩,
 ⟨175,[],[]⟩,
 ⟨176,[],[]⟩,
 ⟨176,[true,true,false,false],[.ptr 0 0,.ptr 2 32,.own 3 48 (qu),.slot 0 (iZ) true none,.slot 32 (bt) true none]⟩,
 ⟨177,[],[]⟩,
 ⟨177,[true,true,false,true,false],[.val 3 (aF),.val 7 (gt),.val 8 (aF),.val 9 (aF)]⟩,
 ⟨178,[],[]⟩,
 ⟨179,[],[]⟩,
 ⟨179,[true,true,false,true,false],[.val 0 (bZ),.val 1 (BT0),.val 7 (aF)]⟩,
 ⟨180,[],[]⟩,
 ⟨181,[],[]⟩,
 ⟨182,[],[]⟩,
 ⟨183,[],[]⟩,
 ⟨183,[true,true,false,false],[.ptr 0 0,.ptr 4 64,.val 1 (aF),.own 5 80 (qu),.slot 0 (BT9) true none,.slot 64 (bt) true none]⟩,
 ⟨184,[],[]⟩,
 ⟨185,[],[]⟩,
 ⟨186,[],[]⟩,
 ⟨187,[],[]⟩,
 ⟨187,[true,true,true,false,false],[.val 0 (aF),.val 3 (BT0)]⟩,
 ⟨188,[],[]⟩,
 ⟨189,[],[]⟩,
 ⟨190,[],[]⟩,
 ⟨191,[],[]⟩,
 ⟨192,[],[]⟩,
 ⟨192,[true,false,true,false],[.ptr 3 48,.val 1 (aF),.val 2 (BT0),.val 7 (aF),.slot 48 (BT6) true none]⟩,
 ⟨193,[],[]⟩,
 ⟨193,[true,true,true,true,true,true,false,false],[.ptr 4 64,.ptr 7 112,.ptr 8 128,.ptr 10 160,.val 1 (aF),.val 2 (BT0),.val 11 (aF),.slot 64 (BT6) true none,.slot 112 (BT4) true none,.slot 128 (BT2) true none,.slot 160 (BT2) true none]⟩,
 ⟨194,[],[]⟩,
 ⟨194,[true,true],[.ptr 2 32,.val 0 (BT0),.slot 32 (BT4) true none]⟩,
 ⟨195,[],[]⟩,
 ⟨196,[],[]⟩,
 ⟨197,[],[]⟩,
 ⟨198,[],[]⟩,
 ⟨199,[],[]⟩,
 ⟨199,[true,false,true,false],[.val 0 (b6),.val 1 (BT0),.val 7 (aF),.val 8 (aF)]⟩,
 ⟨200,[],[]⟩,
 ⟨200,[true,true,true,false,true,false,true,true,true],[.ptr 4 64,.val 1 (aF),.val 2 (aF),.val 3 (aF),.val 56 (aF),.val 62 (BT1),.slot 64 (BT3) true none]⟩,
 ⟨200,[true,true,true,false,true,false,true,true,true,true,true],[.ptr 4 64,.val 1 (aF),.val 3 (aF),.val 56 (aF),.val 75 (BT1),.slot 64 (BT3) true none]⟩,
 ⟨200,[true,true,true,false,true,false,true,true,true,true,true,true,true],[.ptr 4 64,.val 1 (aF),.val 56 (aF),.val 89 (BT1),.slot 64 (BT3) true none]⟩,
 ⟨200,[true,true,true,false,true,false,true,true,true,true,true,true,true,true,true,true,true],[.ptr 4 64,.val 1 (aF),.val 56 (aF),.val 106 (BT1),.slot 64 (BT3) true none]⟩,
 ⟨201,[],[]⟩,
 ⟨202,[],[]⟩,
 ⟨203,[],[]⟩,
 ⟨204,[],[]⟩,
 ⟨204,[true,true,true],[.val 0 (BT0),.val 1 (aF)]⟩,
 ⟨204,[true,true,true,true,false,true,false],[.val 0 (BT0),.val 1 (aF),.own 6 96 (eE),.val 7 (aF)]⟩,
 ⟨205,[],[]⟩,
 ⟨205,[true,true,true,true,false],[.val 0 (BT0),.val 1 (BT0),.val 5 (aF)]⟩,
 ⟨206,[],[]⟩,
 ⟨206,[true,true,false,false],[.ptr 0 0,.ptr 2 32,.own 3 48 (qu),.slot 0 (iZ) true none,.slot 32 (bt) true none]⟩,
 ⟨207,[],[]⟩,
 ⟨208,[],[]⟩,
 ⟨209,[],[]⟩,
 ⟨209,[true,true,false,true,false,true,true,true,true,true,true,true,true,true,true,true,false,true,false],[.own 0 2032 (dj),.val 51 (gt),.val 52 (aF),.val 53 (aF)]⟩,
 ⟨209,[true,true,true],[.own 0 2032 (dj)]⟩,
 ⟨210,[],[]⟩,
 ⟨210,[true,true,false,true,false],[.val 0 (bZ),.val 9 (bZ),.val 10 (aF),.val 11 (aF)]⟩,
 ⟨211,[],[]⟩,
 ⟨211,[true,true,true,true,false],[.val 0 (bZ),.val 1 (BT0),.val 2 (aF),.val 7 (aF),.val 8 (dK)]⟩,
 ⟨211,[true,true,true,true,false,false,false,true,true],[.val 0 (bZ),.val 1 (BT0),.val 2 (aF),.val 7 (aF),.val 8 (dK)]⟩,
 ⟨211,[true,true,true,true,false,false,false,true,true,true,true,false,true,false],[.val 0 (bZ),.val 1 (BT0),.val 2 (aF),.val 7 (aF),.own 9 144 (en),.val 49 (dK),.val 50 (aF),.val 51 (aF)]⟩,
 ⟨212,[],[]⟩,
 ⟨213,[],[]⟩,
 ⟨214,[],[]⟩,
 ⟨214,[true,true],[.val 0 (bc),.val 1 (bc),.val 2 (bc)]⟩,
 ⟨214,[true,true,true],[.val 0 (bc),.val 1 (bc),.val 2 (bc)]⟩,
 ⟨214,[true,true,true,true,true,true,true,true,true,true,true,true,true,true,false,false],[.val 2 (bc),.val 8 (bc),.val 9 (bc),.val 10 (bc),.val 11 (bc),.val 13 (bc),.val 14 (bc),.val 15 (bc),.val 16 (bc)]⟩,
 ⟨214,[true,true,true,true,true,true,true,true,true,true,true,true,true,true,true],[.val 2 (bc),.val 8 (bc),.val 9 (bc),.val 10 (bc),.val 11 (bc),.val 13 (bc),.val 14 (bc),.val 15 (bc)]⟩,
 ⟨214,[true,true,true,true,true,true,true,true,true,true,true,true,true,true,true,true,true,true,false,false],[.val 2 (bc),.val 8 (bc),.val 9 (bc),.val 10 (bc),.val 14 (bc),.val 15 (bc),.val 16 (bc),.val 17 (bc),.val 18 (bc)]⟩,
 ⟨214,[true,true,true,true,true,true,true,true,true,true,true,true,true,true,true,true,true,true,true],[.val 2 (bc),.val 8 (bc),.val 14 (bc),.val 15 (bc),.val 17 (bc),.val 18 (bc)]⟩,
 ⟨215,[],[]⟩,
 ⟨215,[true,true,false,false],[.ptr 0 0,.ptr 4 64,.ptr 5 80,.slot 0 (BT9) true none,.slot 64 (bt) true none,.slot 80 (bt) true none]⟩,
 ⟨215,[true,true,false,false,false,true,false,true,true],[.ptr 0 0,.ptr 4 64,.ptr 5 80,.val 6 (aF),.slot 0 (BT9) true none,.slot 64 (bt) true none,.slot 80 (bt) true none]⟩,
 ⟨216,[],[]⟩,
 ⟨217,[],[]⟩,
 ⟨218,[],[]⟩,
 ⟨218,[true,false,true,false],[.val 0 (bZ),.val 1 (BT0),.val 7 (aF)]⟩,
 ⟨219,[],[]⟩,
 ⟨220,[],[]⟩,
 ⟨220,[true,false,true,false],[.val 0 (BT0),.val 1 (BT0),.val 5 (aF)]⟩,
 ⟨221,[],[]⟩,
 ⟨221,[true,true,false,true,false],[.val 1 (bN),.val 2 (bN),.own 7 112 (qv),.val 8 (aF)]⟩,
 ⟨222,[],[]⟩,
 ⟨222,[true,true,true,true,true],[.val 3 (BT0),.val 4 (aF),.val 5 (aF)]⟩,
 ⟨223,[],[]⟩,
 ⟨223,[true,true,true,true,true],[.val 0 (aF),.val 4 (b6),.val 5 (BT0)]⟩,
 ⟨223,[true,true,true,true,false,true,false,true,true,true],[.val 0 (aF),.val 4 (b6),.val 5 (BT0),.val 13 (aF),.val 16 (BT1)]⟩,
 ⟨223,[true,true,true,true,false,true,false,true,true,true,true,true,true,true],[.val 0 (aF),.val 4 (b6),.val 5 (BT0),.val 22 (BT1)]⟩,
 ⟨224,[],[]⟩,
 ⟨225,[],[]⟩,
 ⟨225,[true,true,false,true,false,true,true],[.val 0 (BT0),.val 5 (BT0)]⟩,
 ⟨225,[true,true,false,true,false,true,true,true,false,true,false],[.val 5 (BT0),.val 6 (aF),.val 47 (uu),.val 48 (aF),.val 49 (aF)]⟩,
 ⟨226,[],[]⟩,
 ⟨227,[],[]⟩,
 ⟨228,[],[]⟩,
 ⟨229,[],[]⟩,
 ⟨230,[],[]⟩,
 ⟨230,[true,true,false],[.ptr 0 0,.ptr 2 32,.ptr 3 48,.slot 0 (iZ) true none,.slot 32 (bt) true none,.slot 48 (bt) true none]⟩,
 ⟨231,[],[]⟩,
 ⟨231,[true,true,true,true],[.ptr 2 32,.ptr 3 48,.val 5 (BT1),.slot 32 (ch) true none,.slot 48 (kr) true none]⟩,
 ⟨231,[true,true,true,false,true,false,true,true,true],[.ptr 2 32,.ptr 3 48,.val 5 (BT1),.val 33 (aF),.val 45 (BT1),.slot 32 (ch) true none,.slot 48 (kr) true none]⟩,
 ⟨231,[true,true,true,false,true,false,true,true,true,true,true,true,true],[.ptr 2 32,.ptr 3 48,.val 5 (BT1),.val 33 (aF),.val 64 (BT1),.slot 32 (ch) true none,.slot 48 (kr) true none]⟩,
 ⟨232,[],[]⟩,
 ⟨232,[true,true,false,true,false],[.own 0 1120 (dj),.val 1 (gt),.own 5 80 (en),.val 16 (gt),.val 17 (aF),.val 18 (aF)]⟩,
 ⟨232,[true,true,true,true,false,true,false],[.own 0 1120 (dj),.val 56 (dK),.val 57 (aF),.val 58 (aF)]⟩,
 ⟨233,[],[]⟩,
 ⟨233,[true,true,false,true,false,true,true,true,true,true,true,true],[.ptr 3 48,.val 79 (BT1),.slot 48 (nP) true none]⟩,
 ⟨234,[],[]⟩,
 ⟨234,[true,true,true,true,false,true,false],[.ptr 4 64,.ptr 10 160,.clo 11 283 [64,144,160],.val 2 (BT1),.val 3 (BT1),.val 22 (dK),.val 23 (aF),.val 24 (aF),.slot 64 (bZ) true none,.slot 144 (dU) true none,.slot 160 (en) true none]⟩,
 ⟨234,[true,true,true,true,true,false,true,false],[.ptr 4 64,.ptr 10 160,.clo 11 283 [64,144,160],.val 2 (BT1),.val 3 (BT1),.val 14 (aF),.slot 64 (bZ) true none,.slot 144 (dU) true none,.slot 160 (en) true none]⟩,
 ⟨234,[true,true,true,true,true,false,true,false,false,true,true],[.ptr 4 64,.ptr 10 160,.clo 11 283 [64,144,160],.val 2 (BT1),.val 3 (BT1),.val 14 (aF),.slot 64 (bZ) true none,.slot 144 (dU) true none,.slot 160 (en) true none]⟩,
 ⟨235,[],[]⟩,
 ⟨236,[],[]⟩,
 ⟨237,[],[]⟩,
 ⟨238,[],[]⟩,
 ⟨238,[true,true,true,true,true],[.ptr 4 64,.val 5 (bN),.slot 0 (BT9) true none,.slot 64 (bt) true none]⟩,
 ⟨239,[],[]⟩,
 ⟨240,[],[]⟩,
 ⟨240,[true,true,false,true,false,true,true,true,true,true,true,true,true,true,true,true,false,true,false],[.ptr 3 48,.own 0 2064 (dj),.val 6 (aF),.slot 48 (ch) true none]⟩,
 ⟨240,[true,true,true],[.own 0 2064 (dj)]⟩,
 ⟨241,[],[]⟩,
 ⟨242,[],[]⟩,
 ⟨242,[true,true,true,true,false,true,false],[.val 0 (bZ),.val 1 (BT0),.val 7 (dK),.val 8 (aF),.val 9 (aF)]⟩,
 ⟨242,[true,true,true,true,false,true,false,false,true,false,false,true],[.val 0 (bZ),.val 1 (BT0),.val 7 (dK),.val 8 (aF),.val 9 (aF)]⟩,
 ⟨242,[true,true,true,true,false,true,false,false,true,false,false,true,true,true,false,true,false],[.val 0 (bZ),.val 1 (BT0),.val 7 (dK),.val 8 (aF),.val 9 (aF),.own 10 160 (en),.val 11 (aF)]⟩,
 ⟨243,[],[]⟩,
 ⟨244,[],[]⟩,
 ⟨244,[true,true,true,true],[.val 0 (BT0),.val 1 (aF),.val 2 (aF),.val 8 (BT1)]⟩,
 ⟨244,[true,true,true,true,true,true,true,true],[.val 2 (aF),.val 8 (BT1),.val 9 (bc)]⟩,
 ⟨245,[],[]⟩,
 ⟨246,[],[]⟩,
 ⟨246,[true,true,true,false,true,false,true,true,true,true,true,true,true,true,true,true,true,true,true],[.ptr 0 0,.ptr 2 32,.val 3 (bN),.val 70 (BT1),.slot 0 (iZ) true none,.slot 32 (bt) true none]⟩,
 ⟨247,[],[]⟩,
 ⟨248,[],[]⟩,
 ⟨249,[],[]⟩,
 ⟨249,[true,false,true,false],[.ptr 1 16,.val 6 (aF),.val 7 (aF),.slot 16 (ch) true none]⟩,
 ⟨250,[],[]⟩,
 ⟨251,[],[]⟩,
 ⟨252,[],[]⟩,
 ⟨252,[true,false,true,false],[.val 0 (dK),.val 1 (aF),.val 7 (aF),.val 8 (aF)]⟩,
 ⟨253,[],[]⟩,
 ⟨254,[],[]⟩,
 ⟨254,[true,true],[.val 0 (bc),.val 2 (aF)]⟩,
 ⟨254,[true,true,true],[.val 0 (bc),.val 2 (aF)]⟩,
 ⟨255,[],[]⟩,
 ⟨255,[true,true,true],[.ptr 0 0,.ptr 2 32,.ptr 3 48,.slot 0 (BT9) true none,.slot 32 (bt) true none,.slot 48 (bt) true none]⟩,
 ⟨255,[true,true,true,true,true,false,false],[.ptr 0 0,.ptr 2 32,.ptr 3 48,.own 4 64 (dU),.val 5 (aF),.slot 0 (BT9) true none,.slot 32 (bt) true none,.slot 48 (bt) true none]⟩,
 ⟨255,[true,true,true,true,true,false,false,false,true,false,true,true,true,true],[.ptr 0 0,.ptr 2 32,.ptr 3 48,.own 4 64 (dU),.val 5 (aF),.val 6 (aF),.val 7 (aF),.slot 0 (BT9) true none,.slot 32 (bt) true none,.slot 48 (bt) true none]⟩,
 ⟨255,[true,true,true,true,true,true,true],[.ptr 0 0,.ptr 2 32,.ptr 3 48,.val 4 (nQ),.slot 0 (BT9) true none,.slot 32 (bt) true none,.slot 48 (bt) true none]⟩,
 ⟨255,[true,true,true,true,true,false,false,false,true,false,true,true,true,true,true],[.ptr 0 0,.ptr 2 32,.ptr 3 48,.own 4 64 (dU),.val 5 (aF),.val 6 (aF),.val 7 (aF),.slot 0 (BT9) true none,.slot 32 (bt) true none,.slot 48 (bt) true none]⟩,
 ⟨255,[true,true,true,true,true,true,true,true,true,false,true,false],[.ptr 2 32,.ptr 3 48,.val 4 (nQ),.own 9 144 (qv),.val 10 (aF),.slot 0 (BT9) true none,.slot 32 (bt) true none,.slot 48 (bt) true none]⟩,
 ⟨255,[true,true,true,true,true,false,false,false,true,false,true,true,true,true,true,false,true,false],[.ptr 0 0,.ptr 2 32,.ptr 3 48,.own 4 64 (dU),.val 5 (aF),.val 7 (aF),.val 8 (aF),.slot 0 (BT9) true none,.slot 32 (bt) true none,.slot 48 (bt) true none]⟩,
 ⟨256,[],[]⟩,
 ⟨256,[true,false,true,false],[.ptr 1 16,.val 3 (aF),.slot 16 (ch) true none]⟩,
 ⟨256,[true,true,true,false,true,false,true,true,true,true,true],[.ptr 1 16,.val 4 (aF),.val 23 (aF),.val 62 (BT1),.slot 16 (ch) true none]⟩,
 ⟨256,[true,true,true,false,true,false,true,true,true,true,true,true,true],[.ptr 1 16,.val 4 (aF),.val 82 (BT1),.slot 16 (ch) true none]⟩,
 ⟨257,[],[]⟩,
 ⟨257,[true,true,false,true,false],[.own 0 1104 (dj),.val 1 (gt),.own 5 80 (en),.val 6 (aF)]⟩,
 ⟨257,[true,true,true,true,false,true,false],[.own 0 1104 (dj),.val 5 (dK),.val 8 (aF)]⟩,
 ⟨258,[],[]⟩,
 ⟨258,[true,true,false,true,false],[.val 0 (bZ),.val 3 (aF),.val 4 (aF)]⟩,
 ⟨259,[],[]⟩,
 ⟨259,[true,true,false,true,false],[.val 0 (bZ),.val 1 (dK),.val 2 (BT1),.val 3 (BT1),.own 9 144 (dU),.val 10 (aF)]⟩,
 ⟨260,[],[]⟩,
 ⟨261,[],[]⟩,
 ⟨261,[true,true,true,true,true],[.val 0 (BT0),.val 1 (aF),.val 2 (aF),.val 8 (BT1),.val 9 (BT0)]⟩,
 ⟨261,[true,true,true,true,true,true],[.val 0 (BT0),.val 1 (aF),.val 2 (aF),.val 8 (BT1),.val 9 (BT0)]⟩,
 ⟨261,[true,true,true,true,true,true,true,true],[.val 0 (BT0),.val 1 (aF),.val 2 (aF),.val 8 (BT1),.val 9 (BT0),.val 10 (bc)]⟩,
 ⟨261,[true,true,true,true,true,true,true,true,true,true,true,false,true,false],[.val 1 (aF),.val 8 (BT1),.val 9 (BT0),.val 10 (bc),.val 11 (bc),.val 12 (BT1),.val 13 (bc),.val 99 (uu),.val 100 (aF),.val 101 (aF)]⟩,
 ⟨261,[true,true,true,true,true,true,true,true,true,true,true,false,true,false,false,true,true,false,false,true,true,true],[.val 1 (aF),.val 8 (BT1),.val 9 (BT0),.val 10 (bc),.val 11 (bc),.val 12 (BT1),.val 13 (bc),.val 16 (bN),.val 99 (uu),.val 100 (aF),.val 101 (aF)]⟩,
 ⟨262,[],[]⟩,
 ⟨262,[true,true,true,true,true,true,true,false,true,false],[.ptr 0 0,.ptr 2 32,.ptr 3 48,.val 5 (BT0),.own 6 96 (dU),.val 7 (aF),.slot 0 (iZ) true none,.slot 32 (bt) true none,.slot 48 (bt) true none]⟩,
 ⟨262,[true,true,true,true,true,true,true,false,true,false,false,true,false,false,true,true],[.ptr 0 0,.ptr 2 32,.ptr 3 48,.val 5 (BT0),.own 6 96 (dU),.val 7 (aF),.val 8 (aF),.val 9 (aF),.slot 0 (iZ) true none,.slot 32 (bt) true none,.slot 48 (bt) true none]⟩,
 ⟨262,[true,true,true,true,true,true,true,true,true,false,true,false],[.ptr 2 32,.ptr 3 48,.own 11 176 (qv),.val 100 (nQ),.val 101 (aF),.val 102 (aF),.slot 0 (iZ) true none,.slot 32 (bt) true none,.slot 48 (bt) true none]⟩,
 ⟨262,[true,true,true,true,true,true,true,false,true,false,false,true,false,false,true,true,true,false],[.ptr 0 0,.ptr 2 32,.ptr 3 48,.val 5 (BT0),.own 6 96 (dU),.val 7 (aF),.val 9 (aF),.val 10 (aF),.slot 0 (iZ) true none,.slot 32 (bt) true none,.slot 48 (bt) true none]⟩,
 ⟨263,[],[]⟩,
 ⟨263,[true,false,true,false],[.clo 1 288 [16],.val 0 (gt),.val 7 (aF),.val 8 (aF),.slot 16 (kr) true none]⟩,
 ⟨264,[],[]⟩,
 ⟨265,[],[]⟩,
 ⟨266,[],[]⟩,
 ⟨266,[true,false,true,false],[.val 0 (BT0),.val 3 (aF)]⟩,
 ⟨267,[],[]⟩,
 ⟨267,[true,true],[.ptr 2 32,.val 1 (aF),.val 5 (BT1),.slot 32 (nP) true none]⟩,
 ⟨267,[true,true,true],[.ptr 2 32,.val 1 (aF),.val 5 (BT1),.val 6 (BT1),.slot 32 (nP) true none]⟩,
 ⟨267,[true,true,true,true],[.ptr 2 32,.val 1 (aF),.val 5 (BT1),.val 6 (BT1),.val 7 (BT1),.slot 32 (nP) true none]⟩,
 ⟨267,[true,true,true,true,true],[.ptr 2 32,.val 5 (BT1),.val 6 (BT1),.val 7 (BT1),.val 8 (BT1),.slot 32 (nP) true none]⟩,
 ⟨267,[true,true,true,true,true,true],[.val 4 (BT1)]⟩,
 ⟨268,[],[]⟩,
 ⟨268,[true,false],[.val 0 (bZ),.own 1 16 (dU),.val 3 (BT1),.val 4 (BT1),.own 10 160 (en)]⟩,
 ⟨269,[],[]⟩,
 ⟨269,[true,true,false,true,false],[.val 0 (nQ),.own 3 48 (en),.val 4 (aF)]⟩,
 ⟨270,[],[]⟩,
 ⟨270,[true,false,true,false],[.val 0 (BT0),.val 1 (bN),.val 5 (aF)]⟩,
 ⟨271,[],[]⟩,
 ⟨272,[],[]⟩,
 ⟨272,[true,true,true,true],[.val 0 (BT0),.val 3 (nR),.val 4 (aF)]⟩,
 ⟨272,[true,true,true,true,true,true],[.val 0 (BT0),.val 3 (nR),.val 4 (aF),.val 5 (BT1)]⟩,
 ⟨272,[true,true,true,true,true,true,false,false],[.val 0 (BT0),.val 3 (nR),.val 4 (aF),.val 5 (BT1)]⟩,
 ⟨273,[],[]⟩,
 ⟨274,[],[]⟩]
def entR:List EntI:=[
 ⟨3,.skip,[],[.val (ur),.val (ut),.val (BT0)],[BT1],[],[(34,1),(36,1),(38,1),(63,1),(68,1),(103,1),(105,1),(107,1)],0,[],false⟩,
 ⟨4,.skip,[],[.val (ur),.val (aF)],[aF],[],[],0,[],false⟩,
 ⟨5,.skip,[],[.val (ut),.val (aF)],[aF],[],[],0,[],false⟩,
 ⟨7,.skip,[],[.val (ur)],[.leaf true (.nm 8)],[],[],0,[],false⟩,
 ⟨8,.skip,[],[.val (ut)],[BT2],[],[],0,[],false⟩,
 ⟨6,.skip,[],[.val (BT5),.val (BT6),.val (BT0)],[BT6,BT0],[],[(30,1),(35,1)],0,[],false⟩,
 ⟨9,.skip,[],[.val (BT5),.val (BT6),.val (BT0)],[BT2,BT0],[],[],0,[],false⟩,
 ⟨10,.skip,[],[.val (BT6),.val (BT6)],[BT1],[],[],0,[],false⟩,
 ⟨11,.skip,[],[.val (BT5),.val (BT5)],[BT1],[],[],0,[],false⟩,
 ⟨12,.skip,[],[.own (.leaf true (.nm 8)),.val (aF)],[aF],[],[],0,[],false⟩,
 ⟨13,.skip,[],[.io (BT2),.val (aF)],[aF],[(32,.orig 0)],[],0,[],false⟩,
 ⟨14,.skip,[],[.val (BT6),.val (aF)],[aF],[],[],0,[],false⟩,
 ⟨15,.skip,[],[.val (b6),.val (aF)],[aF],[],[],0,[(122,13)],false⟩,
 ⟨16,.skip,[],[.val (qq),.val (aF)],[aF],[],[],0,[(122,15)],false⟩,
 ⟨17,.skip,[],[.val (qr),.val (aF)],[aF],[],[],0,[(122,17)],false⟩,
 ⟨18,.skip,[],[.val (qt),.val (aF)],[aF],[],[],0,[(122,19)],false⟩,
 ⟨23,.skip,[],[.val (b6)],[eE],[],[],0,[(58,21)],false⟩,
 ⟨24,.skip,[],[.val (qq)],[qp],[],[],0,[(58,23)],false⟩,
 ⟨25,.skip,[],[.val (qr)],[lV],[],[],0,[(58,25)],false⟩,
 ⟨26,.skip,[],[.val (qt)],[gq],[],[],0,[(58,27)],false⟩,
 ⟨19,.skip,[],[.val (BT5)],[BT1],[],[],0,[(26,29),(58,30)],false⟩,
 ⟨21,.skip,[],[.val (BT6)],[BT2],[],[],0,[],false⟩,
 ⟨20,.skip,[],[.val (BT6),.val (aF),.val (aF)],[BT1],[],[],0,[(26,33),(58,34)],false⟩,
 ⟨22,.skip,[],[.val (BT5),.val (BT6),.val (BT0)],[BT6,BT0],[],[(40,1)],0,[(31,36)],false⟩,
 ⟨27,.skip,[],[.val (BT5)],[BT1],[],[],0,[],false⟩,
 ⟨29,.skip,[],[.val (BT6)],[BT2],[],[],0,[],false⟩,
 ⟨28,.skip,[],[.val (BT6),.val (aF),.val (aF)],[BT1],[],[],0,[(58,40)],false⟩,
 ⟨30,.skip,[],[.ptr (cO) (cO),.val (aF)],[],[(0,.box)],[],0,[],false⟩,
 ⟨31,.skip,[],[.ptr (.pr (BT2) (.pr (BT0) (.pr (BT0) (.pr (ct) (zH))))) (.pr (.hole 4) (.pr (BT0) (.pr (BT0) (.pr (ct) (zH))))),.val (BT6)],[BT2,BT0],[(0,.box)],[(4,5)],0,[],false⟩,
 ⟨32,.skip,[],[.ptr (cO) (cO),.val (cG)],[],[(0,.box)],[(28,1)],0,[(14,44),(115,45),(15007231,46)],false⟩,
 ⟨33,.skip,[],[.val (ct),.val (ct)],[BT1],[],[],0,[(58,48)],false⟩,
 ⟨34,.skip,[],[.val (eY),.val (eY)],[BT1],[],[],0,[(58,50)],false⟩,
 ⟨35,.skip,[],[.val (b6),.val (b6)],[BT1],[],[],0,[(58,52)],false⟩,
 ⟨36,.skip,[],[.val (cG),.val (cG)],[BT1],[],[],0,[(58,54)],false⟩,
 ⟨37,.skip,[],[.own (eE),.val (aF)],[aF],[],[],0,[(26,56)],false⟩,
 ⟨38,.skip,[],[.own (qp),.val (aF)],[aF],[],[],0,[(26,58)],false⟩,
 ⟨39,.skip,[],[.io (lV),.val (aF)],[aF],[(0,.reg)],[],0,[(26,60)],false⟩,
 ⟨40,.skip,[],[.io (gq),.val (aF)],[aF],[(0,.reg)],[],0,[(26,62)],false⟩,
 ⟨41,.skip,[],[.val (ct),.val (aF)],[aF],[],[],0,[(26,64)],false⟩,
 ⟨42,.skip,[],[.val (eY),.val (aF)],[aF],[],[],0,[(26,66)],false⟩,
 ⟨43,.skip,[],[.val (.leaf false (.nm 1)),.val (aF)],[aF],[],[],0,[],false⟩,
 ⟨44,.skip,[],[.val (.leaf false (.nm 3)),.val (aF)],[aF],[],[],0,[],false⟩,
 ⟨45,.skip,[],[.val (.leaf false (.nm 4)),.val (aF)],[aF],[],[],0,[],false⟩,
 ⟨56,.skip,[],[.val (.leaf false (.nm 1))],[eD],[],[],0,[],false⟩,
 ⟨57,.skip,[],[.val (.leaf false (.nm 3))],[bl],[],[],0,[],false⟩,
 ⟨58,.skip,[],[.val (.leaf false (.nm 4))],[fF],[],[],0,[],false⟩,
 ⟨46,.skip,[],[.val (BT0)],[BT1],[],[],0,[(26,74)],false⟩,
 ⟨47,.skip,[],[.val (b6),.val (BT0)],[BT1],[],[],0,[(26,76)],false⟩,
 ⟨48,.skip,[],[.val (cG),.val (aF),.val (aF)],[BT1],[],[],0,[(122,78)],false⟩,
 ⟨49,.skip,[],[.val (bl)],[BT1],[],[],0,[],false⟩,
 ⟨50,.skip,[],[.val (fF),.val (aF),.val (BT0)],[BT1],[],[],0,[],false⟩,
 ⟨51,.skip,[],[.val (aF),.val (aF),.val (aF)],[BT1],[],[],0,[],false⟩,
 ⟨52,.skip,[],[.val (BT0)],[eE],[],[(31,1)],0,[(122,83)],false⟩,
 ⟨53,.skip,[],[.ptr (cw) (cw),.val (aF)],[],[(0,.box)],[],0,[],false⟩,
 ⟨54,.skip,[],[.ptr (cw) (cw),.val (cG)],[],[(0,.box)],[],0,[(30,86)],false⟩,
 ⟨55,.skip,[],[.ptr (.leaf false (.nm 11)) (.leaf false (.nm 11)),.val (BT6)],[BT6,BT0],[(0,.box)],[(14,1)],0,[],false⟩,
 ⟨59,.skip,[],[.val (b6)],[BT1],[],[],0,[(26,89)],false⟩,
 ⟨60,.skip,[],[.val (b6),.clo 61 [BT5]],[BT1],[(16,.box)],[],0,[],false⟩,
 ⟨63,.skip,[],[.val (cG),.val (aF),.val (aF)],[BT1],[],[],0,[],false⟩,
 ⟨69,.skip,[],[.val (ct)],[lV],[],[],0,[],false⟩,
 ⟨70,.skip,[],[.val (eY)],[gq],[],[],0,[],false⟩,
 ⟨64,.skip,[],[.val (ct),.clo 65 []],[BT1],[],[],0,[],false⟩,
 ⟨67,.skip,[],[.val (aF),.val (aF),.val (aF)],[BT1],[],[],0,[],false⟩,
 ⟨66,.skip,[],[.val (bl)],[BT1],[],[],0,[],false⟩,
 ⟨68,.skip,[],[.val (fF),.val (fF)],[aF],[],[],0,[],false⟩,
 ⟨72,.skip,[],[.val (eD)],[aF],[],[],0,[(53,99),(7,100)],false⟩,
 ⟨71,.skip,[],[.ptr (cO) (cO),.val (aF)],[ct],[(0,.box)],[(26,2)],0,[],false⟩,
 ⟨73,.skip,[],[.val (bl)],[BT1],[],[],0,[(53,103)],false⟩,
 ⟨74,.skip,[],[.ptr (cO) (cO),.val (eD),.val (ct)],[],[(0,.box)],[],0,[],false⟩,
 ⟨75,.skip,[],[.ptr (cO) (cO),.val (eD),.val (ct)],[],[(0,.box)],[(112,1),(113,4)],0,[],false⟩,
 ⟨76,.skip,[],[.val (bl),.val (bl)],[BT1],[],[],0,[],false⟩,
 ⟨77,.skip,[],[.val (fF),.val (fF)],[BT1],[],[],0,[],false⟩,
 ⟨78,.skip,[],[.val (eD),.val (eD)],[BT1],[],[],0,[],false⟩,
 ⟨79,.skip,[],[.val (aF)],[BT0],[],[(12,1)],0,[(60,110)],false⟩,
 ⟨80,.skip,[],[.val (bN)],[BT1],[],[],0,[],false⟩,
 ⟨81,.skip,[],[.val (BT0)],[BT1],[],[(3,1),(7,1)],0,[],false⟩,
 ⟨82,.skip,[],[.val (eD),.val (aF),.val (aF),.val (aF)],[BT1],[],[(71,1),(86,1)],0,[(863,114),(3455,115),(13823,116),(221183,117)],false⟩,
 ⟨83,.skip,[],[.val (aF)],[BT1],[],[],0,[],false⟩,
 ⟨84,.skip,[],[.val (BT0)],[aF,BT1],[],[],0,[(60,120)],false⟩,
 ⟨85,.skip,[],[.ref (BT8) (BT8) (cw) (cw),.val (eD),.val (aF)],[aF,BT1],[(0,.box),(1,.box)],[(32,2)],0,[(127,122),(4153343,123)],false⟩,
 ⟨86,.skip,[],[.val (BT0)],[BT1],[],[],0,[],false⟩,
 ⟨87,.skip,[],[.val (b6),.clo 61 [BT5]],[aF],[(16,.box)],[],0,[(26,126)],false⟩,
 ⟨89,.skip,[],[.val (cG),.clo 90 [cG,aF,aF]],[BT1],[(16,.box),(17,.box),(18,.box)],[],0,[],false⟩,
 ⟨92,.skip,[],[.val (ct),.clo 65 []],[aF],[],[],0,[(26,129)],false⟩,
 ⟨93,.skip,[],[.val (aF)],[BT1],[],[],0,[],false⟩,
 ⟨94,.skip,[],[.val (BT0)],[aF,BT1],[],[],0,[],false⟩,
 ⟨95,.skip,[],[.val (BT0),.val (BT0)],[aF],[],[],0,[],false⟩,
 ⟨96,.skip,[],[.ptr (cO) (cO),.val (bl)],[],[(0,.box)],[(18,1)],0,[],false⟩,
 ⟨97,.skip,[],[.ptr (cO) (cO),.val (bl),.val (bl)],[bl],[(0,.box)],[],0,[],false⟩,
 ⟨100,.skip,[],[.val (bl)],[BT0],[],[],0,[],false⟩,
 ⟨99,.skip,[],[.val (BT0)],[BT0],[],[],0,[],false⟩,
 ⟨98,.skip,[],[.ptr (cO) (cO),.val (aF),.val (BT0),.val (bl)],[],[(0,.box)],[],0,[],false⟩,
 ⟨101,.skip,[],[.val (BT6),.val (aF),.val (BT0)],[bl],[],[],0,[],false⟩,
 ⟨102,.skip,[],[.val (BT6),.val (aF),.val (BT0)],[BT2],[],[],0,[],false⟩,
 ⟨103,.skip,[],[.ptr (cO) (cO),.val (BT0)],[],[(0,.box)],[],0,[],false⟩,
 ⟨104,.skip,[],[.val (aF)],[bl],[],[],0,[],false⟩,
 ⟨105,.skip,[],[.val (BT0)],[bl],[],[],0,[],false⟩,
 ⟨107,.skip,[],[.val (bl)],[aF],[],[],0,[],false⟩,
 ⟨106,.skip,[],[.val (BT0),.val (aF)],[bl],[],[(11,1)],0,[],false⟩,
 ⟨108,.skip,[],[.val (BT0)],[b6],[],[(5,1)],0,[],false⟩,
 ⟨110,.skip,[],[.val (BT0),.val (BT0)],[BT1],[],[(9,1)],0,[],false⟩,
 ⟨109,.skip,[],[.val (BT1)],[bl],[],[],0,[],false⟩,
 ⟨111,.skip,[],[.val (bl)],[aF],[],[],0,[(53,149)],false⟩,
 ⟨112,.skip,[],[.val (BT0),.val (ct)],[bl],[],[(14,1),(24,4)],0,[(12,151)],false⟩,
 ⟨113,.skip,[],[.val (aF),.val (bl),.val (bl)],[bl,aF],[],[],0,[],false⟩,
 ⟨114,.skip,[],[],[b6],[],[(1,1)],0,[],false⟩,
 ⟨115,.skip,[],[.val (BT0)],[ch,BT1],[],[(9,1),(14,1),(33,1)],0,[],false⟩,
 ⟨116,.skip,[],[.val (BT0)],[aF,aF],[],[],0,[(28,156),(63,157),(508,158),(16342,159),(511,160)],false⟩,
 ⟨117,.skip,[],[.val (eD)],[aF],[],[],0,[(53,162)],false⟩,
 ⟨118,.skip,[],[.val (bl)],[BT1],[],[],0,[(53,164)],false⟩,
 ⟨119,.skip,[],[.ptr (cw) (cw),.val (BT0)],[],[(0,.box)],[],0,[],false⟩,
 ⟨120,.skip,[],[.val (bl)],[BT0],[],[],0,[],false⟩,
 ⟨121,.skip,[],[.ref (BT8) (BT8) (cw) (cw),.val (eD),.val (ct)],[],[(0,.box),(1,.box)],[],0,[],false⟩,
 ⟨122,.skip,[],[.ref (BT8) (BT8) (cw) (cw),.val (eD),.val (ct)],[],[(0,.box),(1,.box)],[],0,[(31,169)],false⟩,
 ⟨123,.skip,[],[.val (BT0),.val (aF)],[aF],[],[],0,[(28,171)],false⟩,
 ⟨124,.skip,[],[.val (BT0)],[BT1],[],[(14,1)],0,[(53,173)],false⟩,
 ⟨61,.skip,[],[.val (BT0),.ptr (BT5) (BT5)],[BT1],[(16,.box)],[],0,[],false⟩,
 ⟨125,.skip,[],[.val (cG),.clo 90 [cG,aF,aF]],[aF],[(16,.box),(17,.box),(18,.box)],[],0,[(26,176)],false⟩,
 ⟨65,.skip,[],[.val (bl)],[BT1],[],[],0,[],false⟩,
 ⟨129,.skip,[],[.val (BT0)],[aF,aF],[],[],0,[(31,179),(1023,180)],false⟩,
 ⟨130,.skip,[],[.val (BT0),.val (BT0)],[BT0],[],[],0,[],false⟩,
 ⟨131,.skip,[],[.val (BT0),.val (BT0)],[aF],[],[],0,[],false⟩,
 ⟨132,.skip,[],[.val (aF),.val (aF)],[aF,BT1],[],[],0,[],false⟩,
 ⟨134,.skip,[],[.val (aF)],[BT0],[],[],0,[(31,185)],false⟩,
 ⟨133,.skip,[],[.val (BT6),.val (aF),.val (BT0),.val (bl)],[BT2,BT1],[],[],0,[],false⟩,
 ⟨135,.skip,[],[.val (BT6),.val (aF),.val (BT0)],[aF],[],[],0,[],false⟩,
 ⟨136,.skip,[],[.own (gq),.val (aF),.val (aF)],[gq],[],[],0,[],true⟩,
 ⟨138,.skip,[],[.val (aF)],[aF],[],[],0,[],false⟩,
 ⟨137,.skip,[],[.val (BT0)],[bl],[],[],0,[],false⟩,
 ⟨140,.skip,[],[.val (BT0),.val (BT0)],[eE],[],[],0,[],false⟩,
 ⟨139,.skip,[],[.own (eE),.clo 141 []],[b6],[],[(38,2)],0,[(122,193)],false⟩,
 ⟨142,.skip,[],[.val (BT0)],[ch,BT1],[],[(9,1),(14,1),(31,1)],0,[],false⟩,
 ⟨143,.skip,[],[.val (ch),.val (BT0)],[BT1],[],[(10,1)],0,[],false⟩,
 ⟨144,.skip,[],[.val (BT0),.val (bN),.val (bN)],[BT0],[],[],0,[(58,197)],false⟩,
 ⟨145,.skip,[],[.val (BT0),.val (BT0)],[aF],[],[],0,[],true⟩,
 ⟨146,.skip,[],[.val (BT0),.val (aF),.val (aF)],[BT0],[],[],0,[],false⟩,
 ⟨147,.skip,[],[.val (aF),.val (aF),.val (aF)],[aF,aF],[],[],0,[(15,201)],false⟩,
 ⟨149,.skip,[],[.val (bl),.val (bl)],[aF],[],[],0,[],false⟩,
 ⟨148,.skip,[],[.val (aF),.val (aF)],[BT1],[],[],0,[],false⟩,
 ⟨150,.skip,[],[.ptr (eX) (eX),.val (aF)],[bt],[(0,.box)],[],0,[(28,205)],false⟩,
 ⟨151,.skip,[],[.val (ch)],[aF],[],[],0,[(58,207)],false⟩,
 ⟨152,.skip,[],[.val (bN)],[BT1],[],[],0,[],false⟩,
 ⟨153,.skip,[],[.val (aF)],[BT0],[],[],0,[(4052,210),(127,211)],false⟩,
 ⟨154,.skip,[],[.ref (BT8) (BT8) (cw) (cw),.val (bl)],[],[(0,.box),(1,.box)],[(21,1)],0,[],false⟩,
 ⟨156,.skip,[],[.val (bl)],[aF],[],[],0,[(53,214)],false⟩,
 ⟨155,.skip,[],[.ptr (cw) (cw),.val (aF),.val (aF),.val (aF)],[bl],[(0,.box)],[],0,[(15,216)],false⟩,
 ⟨158,.skip,[],[.val (bl)],[BT0],[],[],0,[],false⟩,
 ⟨157,.skip,[],[.val (BT6),.val (aF),.val (BT0)],[bl],[],[],0,[],false⟩,
 ⟨159,.skip,[],[.ref (BT8) (BT8) (cw) (cw),.val (aF),.val (BT0),.val (bl)],[],[(0,.box),(1,.box)],[],0,[],false⟩,
 ⟨160,.skip,[],[.val (BT6),.val (aF),.val (BT0)],[BT2],[],[],0,[],false⟩,
 ⟨161,.skip,[],[.val (aF)],[bl],[],[],0,[],false⟩,
 ⟨162,.skip,[],[.ptr (cw) (cw),.val (bl)],[bl],[(0,.box)],[],0,[],false⟩,
 ⟨163,.skip,[],[.ptr (cw) (cw),.val (bl),.val (bl)],[bl],[(0,.box)],[],0,[],false⟩,
 ⟨164,.skip,[],[.val (BT0),.val (BT0)],[bl],[],[(9,1)],0,[],false⟩,
 ⟨165,.skip,[],[.val (BT1)],[bl],[],[],0,[],false⟩,
 ⟨166,.skip,[],[.val (BT0),.val (ct)],[bl],[],[(20,1)],0,[],false⟩,
 ⟨167,.skip,[],[.val (aF),.val (bl),.val (bl)],[bl],[],[(23,1)],0,[],false⟩,
 ⟨168,.skip,[],[.val (bN)],[BT1],[],[],0,[],false⟩,
 ⟨128,.skip,[],[],[b6],[],[(1,1)],0,[],false⟩,
 ⟨62,.skip,[],[.val (b6),.val (BT0)],[BT1],[],[],0,[],false⟩,
 ⟨90,.skip,[],[.val (eD),.ptr (cG) (cG),.ptr (aF) (aF),.ptr (aF) (aF)],[BT1],[(16,.box),(32,.box),(48,.box)],[],0,[],false⟩,
 ⟨169,.skip,[],[.val (BT0),.val (BT0)],[BT0],[],[],0,[],false⟩,
 ⟨170,.skip,[],[.val (BT0),.val (aF)],[aF],[],[],0,[(28,234)],false⟩,
 ⟨171,.skip,[],[.val (BT0),.val (BT0)],[aF,BT1],[],[],0,[],false⟩,
 ⟨173,.skip,[],[.val (BT0),.val (bN)],[BT0],[],[],0,[(12,237)],false⟩,
 ⟨172,.skip,[],[.val (BT0),.val (bN)],[BT0],[],[],0,[(12,239)],false⟩,
 ⟨179,.skip,[],[.val (BT0),.val (BT0)],[aF],[],[],0,[],true⟩,
 ⟨180,.skip,[],[.val (aF)],[aF,BT1],[],[],0,[],false⟩,
 ⟨184,.skip,[],[.val (aF)],[BT0],[],[],0,[],true⟩,
 ⟨185,.skip,[],[.val (BT0),.val (BT0)],[BT0],[],[],0,[],false⟩,
 ⟨181,.skip,[],[.val (eY),.clo 182 [fF]],[aF],[(16,.box)],[],0,[(26,245)],false⟩,
 ⟨183,.skip,[],[.own (gq),.val (aF),.own (gq)],[gq],[],[],0,[],true⟩,
 ⟨181,.skip,[],[.val (eY),.clo 186 [aF,BT0]],[aF],[(16,.box),(17,.box)],[],0,[(26,248)],false⟩,
 ⟨187,.skip,[],[.val (BT0),.val (BT0),.val (aF),.val (aF)],[eE],[],[],0,[(31,250),(2044,251)],false⟩,
 ⟨87,.skip,[],[.val (b6),.clo 141 []],[aF],[],[],0,[(26,253)],false⟩,
 ⟨141,.skip,[],[.val (BT0)],[BT1],[],[],0,[],false⟩,
 ⟨188,.skip,[],[.ptr (em) (em)],[bt],[(0,.box)],[],0,[(28,256)],false⟩,
 ⟨189,.skip,[],[.val (ch)],[aF],[],[],0,[(58,258)],false⟩,
 ⟨191,.skip,[],[.val (ch)],[bZ],[],[(9,1)],0,[],false⟩,
 ⟨190,.skip,[],[.val (bZ),.val (BT0)],[aF,aF,BT1],[],[],0,[(58,261)],false⟩,
 ⟨193,.skip,[],[.val (aF),.val (aF)],[aF,BT1],[],[],0,[],false⟩,
 ⟨194,.skip,[],[.val (aF),.val (aF)],[aF,BT1],[],[],0,[],false⟩,
 ⟨195,.skip,[],[.val (aF),.val (aF)],[aF,BT1],[],[],0,[],false⟩,
 ⟨196,.skip,[],[.ptr (eX) (eX),.val (aF)],[bt],[(0,.box)],[],0,[(28,266)],false⟩,
 ⟨197,.skip,[],[.ptr (eX) (eX),.val (bN)],[BT1],[(0,.box)],[],0,[],false⟩,
 ⟨198,.skip,[],[.val (aF),.val (aF)],[aF],[],[],0,[],false⟩,
 ⟨199,.skip,[],[.val (aF)],[aF],[],[],0,[],false⟩,
 ⟨200,.skip,[],[.val (aF)],[BT0],[],[(12,1)],0,[(60,271)],false⟩,
 ⟨201,.skip,[],[.val (aF),.val (aF)],[aF,BT1],[],[],0,[],false⟩,
 ⟨202,.skip,[],[.val (aF),.val (aF)],[aF,BT1],[],[],0,[],false⟩,
 ⟨203,.skip,[],[.val (aF),.val (aF)],[aF,BT1],[],[],0,[],false⟩,
 ⟨204,.skip,[],[.val (aF),.val (aF)],[aF,BT1],[],[],0,[],false⟩,
 ⟨205,.skip,[],[.val (BT6),.val (aF),.val (BT0)],[aF],[],[],0,[(26,277)],false⟩,
 ⟨206,.skip,[],[.val (BT6),.val (aF),.val (BT0),.val (bl)],[BT2,BT1],[],[(61,1)],0,[(508,279)],false⟩,
 ⟨207,.skip,[],[.val (BT0)],[bl],[],[],0,[(7,281)],false⟩,
 ⟨208,.skip,[],[.val (ch),.val (BT0)],[BT1],[],[(10,1)],0,[],false⟩,
 ⟨209,.skip,[],[.val (BT1)],[aF],[],[],0,[],false⟩,
 ⟨210,.skip,[],[.val (BT0),.val (ct)],[bl],[],[],0,[],false⟩,
 ⟨211,.skip,[],[.val (bl),.val (bl)],[aF],[],[],0,[],false⟩,
 ⟨88,.skip,[],[.val (b6),.val (BT0)],[aF],[],[],0,[(26,287)],false⟩,
 ⟨91,.skip,[],[.val (eD),.val (aF),.val (aF),.val (aF)],[BT1],[],[(101,1)],0,[(983,289),(3935,290),(15743,291),(251903,292)],false⟩,
 ⟨212,.skip,[],[.val (BT0)],[aF,.hole 1],[],[(16,1)],0,[],false⟩,
 ⟨182,.skip,[],[.val (fF),.ptr (fF) (fF)],[BT1],[(16,.box)],[],0,[],false⟩,
 ⟨186,.skip,[],[.val (fF),.ptr (aF) (aF),.ptr (BT0) (BT0)],[BT1],[(16,.box),(32,.box)],[],0,[],false⟩,
 ⟨220,.skip,[],[.val (BT0),.val (aF)],[eE],[],[],0,[(15,297),(250,298)],false⟩,
 ⟨221,.skip,[],[.val (BT0),.val (BT0)],[aF],[],[],0,[(62,300)],false⟩,
 ⟨222,.skip,[],[.ptr (em) (em)],[bt],[(0,.box)],[],0,[(28,302)],false⟩,
 ⟨223,.skip,[],[.ptr (em) (em),.val (bN)],[BT1],[(0,.box)],[],0,[],false⟩,
 ⟨226,.skip,[],[.val (ch)],[BT1],[],[],0,[],false⟩,
 ⟨227,.skip,[],[.own (dj),.val (ch)],[dj],[],[(18,1),(24,1),(34,1),(40,1),(46,1),(73,1),(83,1),(105,1),(113,1)],0,[(966650,306),(15,307)],false⟩,
 ⟨224,.skip,[],[.val (bZ)],[BT1],[],[],0,[(58,309)],false⟩,
 ⟨225,.skip,[],[.val (bZ),.val (BT0),.val (aF)],[aF],[],[(22,1),(31,1),(66,1)],0,[(62,311),(995,312),(31866,313)],false⟩,
 ⟨233,.skip,[],[.val (aF)],[bc],[],[],0,[],false⟩,
 ⟨232,.skip,[],[.val (bc),.val (bc)],[bc,bc],[],[],0,[],false⟩,
 ⟨234,.skip,[],[.val (bc),.val (bc),.val (bc)],[bc,bc],[],[],0,[(7,317),(15,318),(131068,319),(65535,320),(2097148,321),(1048575,322)],false⟩,
 ⟨235,.skip,[],[.ptr (eX) (eX),.val (aF)],[bt],[(0,.box)],[],0,[(28,324),(907,325)],false⟩,
 ⟨236,.skip,[],[.val (aF)],[aF,BT1],[],[],0,[],false⟩,
 ⟨238,.skip,[],[.val (ch)],[bZ],[],[(6,1),(10,1)],0,[],false⟩,
 ⟨237,.skip,[],[.val (bZ),.val (BT0)],[aF,aF,BT1],[],[],0,[(26,329)],false⟩,
 ⟨239,.skip,[],[.val (aF)],[aF],[],[],0,[],false⟩,
 ⟨240,.skip,[],[.val (BT0),.val (BT0)],[aF],[],[],0,[(26,332)],false⟩,
 ⟨241,.skip,[],[.val (BT0),.val (bN),.val (bN)],[BT0],[],[],0,[(58,334)],false⟩,
 ⟨242,.skip,[],[.val (ct)],[BT0],[],[],0,[(63,336)],false⟩,
 ⟨126,.skip,[],[.val (aF)],[BT0,BT0],[],[(6,1)],0,[(63,338),(2007,339),(32127,340)],false⟩,
 ⟨127,.skip,[],[.val (BT0)],[BT1],[],[(7,1)],0,[],false⟩,
 ⟨243,.skip,[],[.val (BT0)],[aF,.hole 1],[],[],0,[(235,343),(3770,344)],false⟩,
 ⟨250,.skip,[],[.val (BT0)],[aF],[],[],0,[],false⟩,
 ⟨214,.skip,[],[.val (BT0)],[nR,aF],[],[],0,[],false⟩,
 ⟨251,.skip,[],[.val (BT0),.val (bN)],[aF],[],[],0,[],true⟩,
 ⟨252,.skip,[],[.ptr (em) (em)],[bN,BT1],[(0,.box)],[],0,[],false⟩,
 ⟨253,.skip,[],[.ptr (em) (em)],[bt],[(0,.box)],[],0,[(14,350)],false⟩,
 ⟨258,.skip,[],[.val (ch),.val (aF)],[BT1],[],[],0,[(31,352),(983,353),(15743,354)],false⟩,
 ⟨259,.skip,[],[.own (dj),.val (gt)],[dj],[],[(28,1),(35,1),(39,1)],0,[(58,356),(250,357)],false⟩,
 ⟨254,.skip,[],[.val (qo),.val (aF),.val (BT1)],[BT1],[],[],0,[(7551,359)],false⟩,
 ⟨255,.skip,[],[.val (bZ),.val (dK),.val (BT1),.val (BT1)],[dK],[],[],0,[(250,361),(506,362),(4051,363)],false⟩,
 ⟨256,.skip,[],[.val (dK),.val (aF)],[BT1],[],[],0,[],false⟩,
 ⟨257,.skip,[],[.val (qo),.val (bN)],[BT1],[],[],0,[],false⟩,
 ⟨262,.skip,[],[.val (bc)],[aF],[],[],0,[],false⟩,
 ⟨263,.skip,[],[.ptr (eX) (eX),.val (aF)],[bt],[(0,.box)],[],0,[(63,368)],false⟩,
 ⟨265,.skip,[],[.val (ch)],[BT1],[],[],0,[],false⟩,
 ⟨267,.skip,[],[.own (dj),.val (ch)],[dj],[],[(18,1),(32,1),(76,1),(105,1)],0,[(966650,371),(15,372)],false⟩,
 ⟨266,.skip,[],[.own (dj),.val (aF)],[dj],[],[(8,1)],0,[],false⟩,
 ⟨264,.skip,[],[.val (bZ),.val (BT0),.val (aF)],[aF],[],[(23,1),(30,1),(76,1),(85,1)],0,[(250,375),(8009,376),(256314,377)],false⟩,
 ⟨268,.skip,[],[.val (aF),.val (aF)],[aF],[],[],0,[],false⟩,
 ⟨269,.skip,[],[.val (BT0),.val (aF),.val (aF)],[aF,.hole 1],[],[],0,[(31,380),(511,381)],false⟩,
 ⟨245,.skip,[],[.val (BT0)],[nR,aF],[],[],0,[],false⟩,
 ⟨281,.skip,[],[.ptr (em) (em)],[bt],[(0,.box)],[],0,[(1007615,384)],false⟩,
 ⟨282,.skip,[],[.val (bN)],[aF],[],[],0,[],false⟩,
 ⟨287,.skip,[],[.val (gt),.clo 288 [aF]],[BT1],[(16,.box)],[],0,[],false⟩,
 ⟨286,.skip,[],[.val (ch)],[BT1],[],[],0,[(26,388)],false⟩,
 ⟨283,.skip,[],[.val (aF),.ptr (bZ) (bZ),.ptr (dU) (dU),.ptr (en) (en)],[],[(16,.box),(32,.box),(48,.box)],[(22,1)],0,[],false⟩,
 ⟨284,.skip,[],[.io (en)],[],[],[],0,[],true⟩,
 ⟨285,.skip,[],[.val (dK),.val (aF)],[aF],[],[],0,[(26,392)],false⟩,
 ⟨274,.skip,[],[.val (BT0),.val (bN)],[aF],[],[],0,[],false⟩,
 ⟨289,.skip,[],[.val (bc)],[aF],[],[],0,[(7,395),(15,396)],false⟩,
 ⟨290,.skip,[],[.ptr (eX) (eX)],[bt],[(0,.box)],[(171,1)],0,[(15,398),(252,399),(32303,400),(255,401),(64607,402),(8186,403),(516858,404)],false⟩,
 ⟨294,.skip,[],[.val (ch)],[BT1],[],[],0,[(26,406),(3935,407),(15743,408)],false⟩,
 ⟨295,.skip,[],[.own (dj),.val (gt)],[dj],[],[(29,1)],0,[(58,410),(250,411)],false⟩,
 ⟨291,.skip,[],[.val (bZ)],[BT1],[],[],0,[(58,413)],false⟩,
 ⟨292,.skip,[],[.val (bZ),.val (dK),.val (BT1),.val (BT1)],[en],[],[],0,[(58,415)],false⟩,
 ⟨293,.skip,[],[.val (qo),.val (bN)],[BT1],[],[],0,[],false⟩,
 ⟨296,.skip,[],[.val (BT0),.val (aF),.val (aF)],[bc,.hole 1],[],[],0,[(63,418),(127,419),(511,420),(32762,421),(8387175,422)],false⟩,
 ⟨303,.skip,[],[.ptr (em) (em)],[bt],[(0,.box)],[(111,1)],0,[(2042,424),(130707,425),(8186,426),(522830,427)],false⟩,
 ⟨307,.skip,[],[.val (gt),.clo 288 [aF]],[aF],[(16,.box)],[],0,[(26,429)],false⟩,
 ⟨306,.skip,[],[.val (BT0),.val (BT0)],[BT1],[],[],0,[],false⟩,
 ⟨228,.skip,[],[.val (BT0),.val (bN)],[aF],[],[],0,[],false⟩,
 ⟨312,.skip,[],[.val (BT0)],[BT1],[],[],0,[(26,433)],false⟩,
 ⟨308,.skip,[],[.val (qo),.val (aF)],[BT1],[],[],0,[(7,435),(15,436),(31,437),(63,438),(127,439)],false⟩,
 ⟨309,.skip,[],[.val (bZ),.io (dU),.val (aF),.val (BT1),.val (BT1)],[],[(16,.reg)],[(57,1),(66,1),(74,1),(82,1)],0,[(6,441)],false⟩,
 ⟨310,.skip,[],[.val (nQ)],[en],[],[(18,1)],0,[(58,443)],false⟩,
 ⟨311,.skip,[],[.val (BT0),.val (bN)],[BT1],[],[],0,[(26,445)],false⟩,
 ⟨313,.skip,[],[.val (bN)],[bN],[],[],0,[],false⟩,
 ⟨314,.skip,[],[.val (BT0)],[BT1],[],[],0,[(31,448),(127,449),(508,450)],false⟩,
 ⟨288,.skip,[],[.val (ch),.ptr (aF) (aF)],[BT1],[(16,.box)],[],0,[],false⟩,
 ⟨260,.skip,[],[.val (BT0),.val (bN)],[aF],[],[],0,[],true⟩]
def Aq:kt:=[((136,[]),188),((145,[]),198),((179,[]),240),((184,[]),242),((183,[]),246),((251,[]),347),((284,[]),390),((260,[]),452)]
def Ap:kt:=[((3,[]),0),((4,[]),1),((5,[]),2),((7,[]),3),((8,[]),4),((6,[]),5),((9,[]),6),((10,[]),7),((11,[]),8),((12,[]),9),((13,[]),10),((14,[]),11),((15,[]),12),((16,[]),14),((17,[]),16),((18,[]),18),((23,[]),20),((24,[]),22),((25,[]),24),((26,[]),26),((19,[]),28),((21,[]),31),((20,[]),32),((22,[]),35),((27,[]),37),((29,[]),38),((28,[]),39),((30,[]),41),((31,[]),42),((32,[]),43),((33,[]),47),((34,[]),49),((35,[]),51),((36,[]),53),((37,[]),55),((38,[]),57),((39,[]),59),((40,[]),61),((41,[]),63),((42,[]),65),((43,[]),67),((44,[]),68),((45,[]),69),((56,[]),70),((57,[]),71),((58,[]),72),((46,[]),73),((47,[]),75),((48,[]),77),((49,[]),79),((50,[]),80),((51,[]),81),((52,[]),82),((53,[]),84),((54,[]),85),((55,[]),87),((59,[]),88),((60,[61]),90),((63,[]),91),((69,[]),92),((70,[]),93),((64,[65]),94),((67,[]),95),((66,[]),96),((68,[]),97),((72,[]),98),((71,[]),101),((73,[]),102),((74,[]),104),((75,[]),105),((76,[]),106),((77,[]),107),((78,[]),108),((79,[]),109),((80,[]),111),((81,[]),112),((82,[]),113),((83,[]),118),((84,[]),119),((85,[]),121),((86,[]),124),((87,[61]),125),((89,[90]),127),((92,[65]),128),((93,[]),130),((94,[]),131),((95,[]),132),((96,[]),133),((97,[]),134),((100,[]),135),((99,[]),136),((98,[]),137),((101,[]),138),((102,[]),139),((103,[]),140),((104,[]),141),((105,[]),142),((107,[]),143),((106,[]),144),((108,[]),145),((110,[]),146),((109,[]),147),((111,[]),148),((112,[]),150),((113,[]),152),((114,[]),153),((115,[]),154),((116,[]),155),((117,[]),161),((118,[]),163),((119,[]),165),((120,[]),166),((121,[]),167),((122,[]),168),((123,[]),170),((124,[]),172),((61,[]),174),((125,[90]),175),((65,[]),177),((129,[]),178),((130,[]),181),((131,[]),182),((132,[]),183),((134,[]),184),((133,[]),186),((135,[]),187),((138,[]),189),((137,[]),190),((140,[]),191),((139,[141]),192),((142,[]),194),((143,[]),195),((144,[]),196),((146,[]),199),((147,[]),200),((149,[]),202),((148,[]),203),((150,[]),204),((151,[]),206),((152,[]),208),((153,[]),209),((154,[]),212),((156,[]),213),((155,[]),215),((158,[]),217),((157,[]),218),((159,[]),219),((160,[]),220),((161,[]),221),((162,[]),222),((163,[]),223),((164,[]),224),((165,[]),225),((166,[]),226),((167,[]),227),((168,[]),228),((128,[]),229),((62,[]),230),((90,[]),231),((169,[]),232),((170,[]),233),((171,[]),235),((173,[]),236),((172,[]),238),((180,[]),241),((185,[]),243),((181,[182]),244),((181,[186]),247),((187,[]),249),((87,[141]),252),((141,[]),254),((188,[]),255),((189,[]),257),((191,[]),259),((190,[]),260),((193,[]),262),((194,[]),263),((195,[]),264),((196,[]),265),((197,[]),267),((198,[]),268),((199,[]),269),((200,[]),270),((201,[]),272),((202,[]),273),((203,[]),274),((204,[]),275),((205,[]),276),((206,[]),278),((207,[]),280),((208,[]),282),((209,[]),283),((210,[]),284),((211,[]),285),((88,[]),286),((91,[]),288),((212,[]),293),((182,[]),294),((186,[]),295),((220,[]),296),((221,[]),299),((222,[]),301),((223,[]),303),((226,[]),304),((227,[]),305),((224,[]),308),((225,[]),310),((233,[]),314),((232,[]),315),((234,[]),316),((235,[]),323),((236,[]),326),((238,[]),327),((237,[]),328),((239,[]),330),((240,[]),331),((241,[]),333),((242,[]),335),((126,[]),337),((127,[]),341),((243,[]),342),((250,[]),345),((214,[]),346),((252,[]),348),((253,[]),349),((258,[]),351),((259,[]),355),((254,[]),358),((255,[]),360),((256,[]),364),((257,[]),365),((262,[]),366),((263,[]),367),((265,[]),369),((267,[]),370),((266,[]),373),((264,[]),374),((268,[]),378),((269,[]),379),((245,[]),382),((281,[]),383),((282,[]),385),((287,[288]),386),((286,[]),387),((283,[]),389),((285,[]),391),((274,[]),393),((289,[]),394),((290,[]),397),((294,[]),405),((295,[]),409),((291,[]),412),((292,[]),414),((293,[]),416),((296,[]),417),((303,[]),423),((307,[288]),428),((306,[]),430),((228,[]),431),((312,[]),432),((308,[]),434),((309,[]),440),((310,[]),442),((311,[]),444),((313,[]),446),((314,[]),447),((288,[]),451)]
def xR(e:Nat):EntI:=entR.getD e ⟨0,.skip,[],[],[],[],[],0,[],true⟩
def dQ(k:Nat):KeyI:=keyL.getD k ⟨0,[false],[]⟩
noncomputable def tab:Tab where
 G:=gam
 ty:=lh tyL
 ifc:=sj C8
 key k:=rM xR (dQ k)
 ent k:=fill Tryz.prog (xR k)
 call:=sf (Aq++Ap)
 tabs := [("internal/bytealg.MaxLen", .i64, []), ("internal/strconv.uint64pow10", .u64, Go.Lib.pow10Tab)]
 ext k:=match k with
  | 188=>fun x=>l5 (α:=al) x.1 x.2.1 x.2.2.1
  | 198=>fun x=>if List.length (α:=Int) x.1<4294967281 then some (bh x.1 x.2.1,())else none
  | 240=>fun x=>some (bU x.1 x.2.1,())
  | 242=>fun x=>some (iv x.1,())
  | 246=>fun x=>mv (α:=al) x.1 x.2.1 x.2.2.1
  | 347=>fun x=>some (cP x.1 x.2.1,())
  | 390=>fun x=>if List.length (α:=Int) x.1≤room then some (cy x.1,())else none
  | 452=>fun x=>some (bV x.1 x.2.1,())
  | _=>fun _=>none
end Go.Proofs.YtijfhaljjmhibaaGreatDoor.E.TV
