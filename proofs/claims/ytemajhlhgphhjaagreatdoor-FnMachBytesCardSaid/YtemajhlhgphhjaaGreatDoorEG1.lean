/- The engine (what it does,and how values lie in memory). No condition. -/
import GoSem.Core.Code
import Derived.Laws.Entries
import GoSem.Core.Region
import GoSem.Core.Sem
import Derived.Calls
import Derived.Laws.Rows
import Derived.Laws.CopyRow
import Derived.Laws.Cells
import Derived.Laws.StructEq
import Derived.Laws.Small
namespace Go.Proofs.YtemajhlhgphhjaaGreatDoor.E
set_option linter.unusedVariables false
set_option linter.defProp false
section
def ax:=@List.mem_append_left
def ay:=@List.mem_append_right
def aD:=@Bool.and_eq_true
def aE:=@List.mem_append
def aF:=@List.nodup_append
def aG:=@Nat.le_of_ble_eq_true
def aH:=@List.mem_cons_self
def aI:=@List.mem_cons_of_mem
def aJ:=@Array.length_toList
def aL:=@List.append_nil
def aM:=@Nat.mul_le_mul_right
def aN:=@List.mem_singleton
def aQ:=@List.drop_zero
def aR:=@Option.some.inj
def aS:=@Result.andThen_ok
def aW:=@List.length_cons
def aY:=@Bool.or_eq_true
def a8:=@List.length_set
def bg:=@List.take_of_length_le
def bw:=@if_pos
def bz:=@if_neg
inductive FT where
 | int (k:IntKind)
 | bool
 | str
 | ptr
 | sl (e:FT)
 | nm (n:Nat)
def FT.eq?:(a b:FT)→Option (PLift (a=b))
 | .int k,.int k'=>if h:k=k' then some ⟨by rw[h]⟩else none
 | .bool,.bool=>some ⟨rfl⟩
 | .str,.str=>some ⟨rfl⟩
 | .ptr,.ptr=>some ⟨rfl⟩
 | .sl a,.sl b=>match FT.eq? a b with
  | some ⟨h⟩=>some ⟨by rw[h]⟩
  | none=>none
 | .nm n,.nm m=>if h:n=m then some ⟨by rw[h]⟩else none
 | _,_=>none
def J(T:Nat→Type):FT→Type
 | .int _=>Int
 | .bool=>Bool
 | .str=>List Int
 | .ptr=>Unit
 | .sl e=>List (J T e)
 | .nm n=>T n
def Js(T:Nat→Type):List FT→Type
 | []=>Unit
 | t::ts=>J T t×Js T ts
def cP{T:Nat→Type}(z:∀ n,T n):(t:FT)→J T t
 | .int _=>(0:Int)
 | .bool=>false
 | .str=>([]:List Int)
 | .ptr=>()
 | .sl _=>[]
 | .nm n=>z n
def iH{T:Nat→Type}(z:∀ n,T n):(ts:List FT)→Js T ts
 | []=>()
 | t::ts=>(cP z t,iH z ts)
def FT.sz(s:Nat→Nat):FT→Nat
 | .nm n=>s n
 | _=>1
def FT.szs(s:Nat→Nat):List FT→Nat
 | []=>0
 | t::ts=>t.sz s+FT.szs s ts
def FT.flat(f:Nat→Bool):FT→Bool
 | .sl _=>false
 | .nm n=>f n
 | _=>true
def FT.flats(f:Nat→Bool):List FT→Bool
 | []=>true
 | t::ts=>t.flat f&&FT.flats f ts
structure Gam where
 T:Nat→Type
 fs:Nat→List FT
 un:∀ n,T n→Js T (fs n)
 pk:∀ n,Js T (fs n)→T n
 un_pk:∀ n y,un n (pk n y)=y
 pk_un:∀ n x,pk n (un n x)=x
 zero:∀ n,T n
 un_zero:∀ n,un n (zero n)=iH zero (fs n)
 sz:Nat→Nat
 sz_eq:∀ n,sz n=FT.szs sz (fs n)
 flat:Nat→Bool
 flat_eq:∀ n,flat n=true→FT.flats flat (fs n)=true
inductive BT where
 | leaf (o:Bool) (t:FT)
 | un
 | pr (a b:BT)
 | hole (n:Nat)
 | sp (e:FT)
 | fn (h:Nat)
def B(T:Nat→Type):BT→Type
 | .leaf _ t=>J T t
 | .un=>Unit
 | .pr a b=>B T a×B T b
 | .hole _=>Unit
 | .sp e=>List (J T e)
 | .fn _=>Unit
def Bs(T:Nat→Type):List BT→Type
 | []=>Unit
 | b::bs=>B T b×Bs T bs
structure DV (T:Nat→Type) where
 b:BT
 x:B T b
def rE{T:Nat→Type}(f:(t:FT)→J T t→J T t→Option Bool):(ts:List FT)→Js T ts→Js T ts→Option Bool
 | [],_,_=>some true
 | t::ts,x,y=>match f t x.1 y.1,rE f ts x.2 y.2 with
  | some a,some b=>some (a&&b)
  | _,_=>none
def eqI(a b:Int):Bool:=decide (a=b)
def eqB(a b:Bool):Bool:=decide (a=b)
def eqL(a b:List Int):Bool:=decide (a=b)
def eqJ(G:Gam):Nat→(t:FT)→J G.T t→J G.T t→Option Bool
 | 0,_,_,_=>none
 | _+1,.int _,a,b=>some (eqI a b)
 | _+1,.bool,a,b=>some (eqB a b)
 | _+1,.str,a,b=>some (eqL a b)
 | _+1,.sl _,_,_=>none
 | _+1,.ptr,_,_=>none
 | d+1,.nm n,a,b=>rE (eqJ G d) (G.fs n) (G.un n a) (G.un n b)
section
variable (G:Gam)
def BT.sz:BT→Nat
 | .leaf _ t=>t.sz G.sz
 | .un=>0
 | .pr a b=>a.sz+b.sz
 | .hole n=>n
 | .sp _=>1
 | .fn _=>1
def BT.cp:BT→Bool
 | .leaf o t=>!o||t.flat G.flat
 | .un=>true
 | .pr a b=>a.cp&&b.cp
 | .hole _=>false
 | .sp _=>false
 | .fn _=>true
def BT.whole:BT→Bool
 | .leaf _ _=>true
 | .un=>true
 | .pr a b=>a.whole&&b.whole
 | .hole _=>false
 | .sp _=>true
 | .fn _=>true
def BT.own:BT→Bool
 | .leaf o t=>o||t.flat G.flat
 | .un=>true
 | .pr a b=>a.own&&b.own
 | .hole _=>true
 | .sp _=>false
 | .fn _=>true
def prs(o:Bool):List FT→BT
 | []=>.un
 | t::ts=>.pr (.leaf o t) (prs o ts)
def toB{T:Nat→Type}(o:Bool):(ts:List FT)→Js T ts→B T (prs o ts)
 | [],_=>()
 | _::ts,x=>(x.1,toB o ts x.2)
def dp:DV G.T→DV G.T
 | ⟨.leaf o (.nm n),x⟩=>⟨prs o (G.fs n),toB o (G.fs n) (G.un n x)⟩
 | d=>d
@[irreducible] def deep:Nat:=40
mutual
def coJ(o:Bool):Nat→(t:FT)→(b:BT)→B G.T b→Option (J G.T t)
 | 0,_,_,_=>none
 | d+1,t,.leaf o' t',x =>
  if o'==o || !o||t'.flat G.flat then
   match FT.eq? t' t with
   | some ⟨h⟩=>some (cast (by rw[h];rfl) x)
   | none=>none
  else none
 | d+1,.nm n,b,x=>match dY o d (G.fs n) b x with
  | some y=>some (G.pk n y)
  | none=>none
 | d+1,.sl e,.sp e',x=>bif o then none else match FT.eq? e' e with
  | some ⟨h⟩=>some (cast (by rw[h];rfl) x)
  | none=>none
 | _,_,_,_=>none
def dY(o:Bool):Nat→(ts:List FT)→(b:BT)→B G.T b→Option (Js G.T ts)
 | 0,_,_,_=>none
 | d+1,[],.un,_=>some ()
 | d+1,t::ts,.pr a b,x=>match coJ o d t a x.1,dY o d ts b x.2 with
  | some y,some ys=>some (y,ys)
  | _,_=>none
 | _,_,_,_=>none
end
def NB{T:Nat→Type}:DV T→Option Unit
 | ⟨.un,_⟩=>some ()
 | _=>none
def ju{T:Nat→Type}{α β:Type}(f:DV T→Option α)(g:DV T→Option β):DV T→Option (α×β)
 | ⟨.pr a b,x⟩=>match f ⟨a,x.1⟩,g ⟨b,x.2⟩ with
  | some y,some z=>some (y,z)
  | _,_=>none
 | _=>none
def ru{T:Nat→Type}(e:FT):DV T→Option (List (J T e))
 | ⟨.sp e',x⟩=>match FT.eq? e' e with
  | some ⟨h⟩=>some (cast (by rw[h];rfl) x)
  | none=>none
 | _=>none
def Nv{T:Nat→Type}(h:Nat):DV T→Option Unit
 | ⟨.fn h',_⟩=>bif Nat.beq h' h then some ()else none
 | _=>none
def coB:(want:BT)→DV G.T→Option (B G.T want)
 | .leaf o t,d=>coJ G o deep t d.b d.x
 | .un,d=>NB d
 | .hole n,d=>bif Nat.beq n (d.b.sz G)then some ()else none
 | .pr a c,d=>ju (coB a) (coB c) (dp G d)
 | .sp e,d=>ru e d
 | .fn h,d=>Nv h d
inductive Step where
 | fld (i:Nat)
 | el (i:Nat)
abbrev cT:=List Step
def nth{T:Nat→Type}:Nat→(b:BT)→B T b→Option (DV T)
 | 0,.pr a _,x=>some ⟨a,x.1⟩
 | i+1,.pr _ b,x=>nth i b x.2
 | _,_,_=>none
def g9{T:Nat→Type}(v:DV T):Nat→(b:BT)→B T b→Option (DV T)
 | 0,.pr _ b,x=>some ⟨.pr v.b b,(v.x,x.2)⟩
 | i+1,.pr a b,x=>match g9 v i b x.2 with
  | some ⟨b',y⟩=>some ⟨.pr a b',(x.1,y)⟩
  | none=>none
 | _,_,_=>none
def implode(o:Bool)(n:Nat)(d:DV G.T):DV G.T :=
 match coJx o (G.fs n) d.b d.x with
 | some y=>⟨.leaf o (.nm n),G.pk n y⟩
 | none=>d
where
 coJx (o:Bool):(ts:List FT)→(b:BT)→B G.T b→Option (Js G.T ts)
 | [],.un,_=>some ()
 | t::ts,.pr (.leaf o' t') b,x =>
  if o'==o||t'.flat G.flat then
   match FT.eq? t' t,coJx o ts b x.2 with
   | some ⟨h⟩,some ys=>some (cast (by rw[h];rfl) x.1,ys)
   | _,_=>none
  else none
 | _,_,_=>none
def fG:Nat→BT→Option (Nat×BT)
 | 0,.pr a _=>some (0,a)
 | i+1,.pr a b=>match fG i b with
  | some (n,c)=>some (a.sz G+n,c)
  | none=>none
 | _,_=>none
def vX:BT→BT
 | .leaf o (.nm n)=>prs o (G.fs n)
 | b=>b
def kP:cT→BT→Option Nat
 | [],_=>some 0
 | .fld i::p,b=>match fG G i (vX G b) with
  | some (n,c)=>match kP p c with
   | some m=>some (n+m)
   | none=>none
  | none=>none
 | .el _::_,_=>none
def get:cT→DV G.T→Option (DV G.T)
 | [],d=>some d
 | .fld i::p,⟨.leaf o (.nm n),x⟩=>match nth i (prs o (G.fs n)) (toB o (G.fs n) (G.un n x)) with
  | some c=>get p c
  | none=>none
 | .fld i::p,⟨.pr a b,x⟩=>match nth i (.pr a b) x with
  | some c=>get p c
  | none=>none
 | .el i::p,⟨.leaf o (.sl e),x⟩=>get p ⟨.leaf o e,List.getD x i (cP G.zero e)⟩
 | _,_=>none
def put(v:DV G.T):cT→DV G.T→Option (DV G.T)
 | [],_=>some v
 | .fld i::p,⟨.leaf o (.nm n),x⟩=>match nth i (prs o (G.fs n)) (toB o (G.fs n) (G.un n x)) with
  | some c=>match put v p c with
   | some c'=>match g9 c' i (prs o (G.fs n)) (toB o (G.fs n) (G.un n x)) with
    | some d=>some (implode G o n d)
    | none=>none
   | none=>none
  | none=>none
 | .fld i::p,⟨.pr a b,x⟩=>match nth i (.pr a b) x with
  | some c=>match put v p c with
   | some c'=>g9 c' i (.pr a b) x
   | none=>none
  | none=>none
 | .el i::p,⟨.leaf true (.sl e),x⟩=>match put v p ⟨.leaf true e,List.getD x i (cP G.zero e)⟩ with
  | some c'=>match coJ G true deep e c'.b c'.x with
   | some y=>some ⟨.leaf true (.sl e),List.set x i y⟩
   | none=>none
  | none=>none
 | _,_=>none
end
end
section
inductive Pin (G:Gam) where
 | no
 | val (d:DV G.T)
 | adr (t:FT) (x:J G.T t)
 | ptr (s:Nat) (p:cT) (off g:Nat)
 | ali (s:Nat) (p:cT) (g:Nat)
 | view (s:Nat) (p:cT) (g lo hi:Nat)
 | nil
 | clo (f:FuncId) (caps:List (Pin G))
 | tup (ps:List (Pin G))
 | wrd (s gs s' g':Nat)
 | und
 | ind
 | one
 | len (n:Nat)
inductive Cont (G:Gam) where
 | dead
 | data (d:DV G.T)
 | word (p:Pin G)
 | frz (d:DV G.T)
structure Slot (G:Gam) where
 gen:Nat
 born:Nat
 box:Bool
 orig:Option Nat
 cont:Cont G
def nfz{G:Gam}(x:Slot G):Bool:=match x.cont with
 | .frz _=>false
 | _=>true
structure St (G:Gam) where
 pin:Nat→Pin G
 slot:Nat→Slot G
def St.empty(G:Gam):St G:=⟨fun _=>.no,fun _=>⟨0,0,false,none,.dead⟩⟩
def St.setP{G:Gam}(σ:St G)(t:Nat)(p:Pin G):St G:=⟨fun t'=>bif Nat.beq t' t then p else σ.pin t',σ.slot⟩
def St.setS{G:Gam}(σ:St G)(s:Nat)(x:Slot G):St G:=⟨σ.pin,fun s'=>bif Nat.beq s' s then x else σ.slot s'⟩
structure Sig where
 G:Gam
 inp:Nat→List BT
 out:Nat→List BT
inductive M (Z:Sig) (α:Type) where
 | ret (a:α)
 | fail
 | getP (t:Nat) (k:Pin Z.G→M Z α)
 | setP (t:Nat) (p:Pin Z.G) (k:M Z α)
 | getS (s:Nat) (k:Slot Z.G→M Z α)
 | setS (s:Nat) (x:Slot Z.G) (k:M Z α)
 | br (b:Bool) (k:Bool→M Z α)
 | chk (c:Prop) (h:Decidable c) (k:M Z α)
 | call (f:Nat) (x:Bs Z.G.T (Z.inp f)) (k:Bs Z.G.T (Z.out f)→M Z α)
def M.bind{Z:Sig}{α β:Type}:M Z α→(α→M Z β)→M Z β
 | .ret a,f=>f a
 | .fail,_=>.fail
 | .getP t k,f=>.getP t fun p=>(k p).bind f
 | .setP t p k,f=>.setP t p (k.bind f)
 | .getS s k,f=>.getS s fun x=>(k x).bind f
 | .setS s x k,f=>.setS s x (k.bind f)
 | .br b k,f=>.br b fun b=>(k b).bind f
 | .chk c h k,f=>.chk c h (k.bind f)
 | .call g x k,f=>.call g x fun y=>(k y).bind f
instance (Z:Sig):Monad (M Z) where
 pure:=M.ret
 bind:=M.bind
abbrev cr (Z:Sig):=(f:Nat)→Bs Z.G.T (Z.inp f)→Option (Bs Z.G.T (Z.out f))
structure Acc where
 slot:Bool
 at_:Nat
 wr:Bool
def M.go{Z:Sig}{α ρ:Type}(F:cr Z):M Z α→St Z.G→(α→St Z.G→Option ρ)→Option ρ
 | .ret a,σ,K=>K a σ
 | .fail,_,_=>none
 | .getP t k,σ,K=>(k (σ.pin t)).go F σ K
 | .setP t p k,σ,K=>k.go F (σ.setP t p) K
 | .getS s k,σ,K=>(k (σ.slot s)).go F σ K
 | .setS s x k,σ,K=>k.go F (σ.setS s x) K
 | .br b k,σ,K=>if b=true then(k true).go F σ K else(k false).go F σ K
 | .chk c h k,σ,K=>@ite _ c h (k.go F σ K) none
 | .call f x k,σ,K=>(F f x).bind fun y=>(k y).go F σ K
def M.goL{Z:Sig}{α ρ:Type}(F:cr Z):M Z α→St Z.G→List Acc→(α→St Z.G→List Acc→Option ρ)→Option ρ
 | .ret a,σ,l,K=>K a σ l
 | .fail,_,_,_=>none
 | .getP t k,σ,l,K=>(k (σ.pin t)).goL F σ (⟨false,t,false⟩::l) K
 | .setP t p k,σ,l,K=>k.goL F (σ.setP t p) (⟨false,t,true⟩::l) K
 | .getS s k,σ,l,K=>(k (σ.slot s)).goL F σ (⟨true,s,false⟩::l) K
 | .setS s x k,σ,l,K=>k.goL F (σ.setS s x) (⟨true,s,true⟩::l) K
 | .br b k,σ,l,K=>if b=true then(k true).goL F σ l K else(k false).goL F σ l K
 | .chk c h k,σ,l,K=>@ite _ c h (k.goL F σ l K) none
 | .call f x k,σ,l,K=>(F f x).bind fun y=>(k y).goL F σ l K
end
section
inductive Mode where
 | val (b:BT)
 | own (b:BT)
 | io (b:BT)
 | ptr (b o:BT)
 | clo (f:FuncId) (caps:List BT)
 | ref (b o b' o':BT)
def Mode.inp:Mode→List BT
 | .val b | .own b | .io b | .ptr b _=>[b]
 | .clo _ caps=>caps
 | .ref b _ b' _=>[b,b']
def Mode.out:Mode→List BT
 | .val _ | .own _=>[]
 | .io b=>[b]
 | .ptr _ o=>[o]
 | .clo _ caps=>caps
 | .ref _ o _ o'=>[o,o']
structure Env where
 Z:Sig
 ty:Nat→Option FT
 ifc:Nat→Bool
 fnt:Nat→Bool
 ent:FuncId→List FuncId→Option (Nat×List Mode×Nat)
 tabs:List (String×IntKind×List Int)
def ltS:List Int→List Int→Bool
 | _,[]=>false
 | [],_::_=>true
 | a::x,b::y=>decide (a<b)||(decide (a=b)&&ltS x y)
def ez(k:IntKind)(x y:Int):Int:=k.wrap (x*2 ^ (min y.toNat k.bits))
def j4(k:IntKind)(x y:Int):Int:=x.fdiv (2 ^ (min y.toNat k.bits))
def mnI(x y:Int):Int:=if y<x then y else x
def mxI(x y:Int):Int:=if y>x then y else x
def room:Nat:=4294967296
section
variable {G:Gam}
def vI(k:IntKind)(n:Int):Pin G:=.val ⟨.leaf false (.int k),n⟩
def vB(b:Bool):Pin G:=.val ⟨.leaf false .bool,b⟩
def vS(s:List Int):Pin G:=.val ⟨.leaf false .str,s⟩
def ct(s:ByteArray):List Int:=s.data.toList.map fun b=>(b.toNat:Int)
def vG:Value→Pin G
 | .int k n=>if k.wrap n=n then vI k n else .no
 | .bool b=>vB b
 | .string s=>if s.size≤1000000 then vS (ct s)else .no
 | .slice none 0 0=>.nil
 | .nilIface=>.one
 | _=>.no
def asI:Pin G→Option (IntKind×Int)
 | .val ⟨.leaf _ (.int k),n⟩=>some (k,n)
 | _=>none
def asB:Pin G→Option Bool
 | .val ⟨.leaf _ .bool,b⟩=>some b
 | _=>none
def cZ:cT→Bool
 | []=>true
 | .fld _::p=>cZ p
 | .el _::_=>false
def kr(x:Slot G)(p:cT)(g:Nat):Bool:=bif cZ p then Nat.ble x.born g else Nat.beq g x.gen
def gS(x:Slot G)(p:cT)(off g:Nat)(d:DV G.T):Bool :=
 kr x p g&&(bif cZ p then(match kP G p d.b with
  | some n=>Nat.beq n off
  | none=>false)else true)
def dK(x:Slot G)(p:cT)(g:Nat):Bool:=match p with
 | []=>bif x.box then Nat.beq g x.gen else Nat.ble x.born g
 | _=>Nat.beq g x.gen
end
section
variable (G:Gam)
mutual
def shp:Nat→FT→BT→Bool
 | 0,_,_=>false
 | d+1,t,.leaf _ t'=>(FT.eq? t' t).isSome
 | d+1,t,.hole n=>Nat.beq n (t.sz G.sz)
 | d+1,.nm n,b=>en d (G.fs n) b
 | d+1,.sl e,.sp e'=>(FT.eq? e' e).isSome
 | _,_,_=>false
def en:Nat→List FT→BT→Bool
 | 0,_,_=>false
 | d+1,[],.un=>true
 | d+1,t::ts,.pr a b=>shp d t a&&en d ts b
 | _,_,_=>false
end
end
section
variable (E:Env)
abbrev Env.G:Gam:=E.Z.G
abbrev bX:=Pin E.Z.G
abbrev ME (α:Type):=M E.Z α
def iw{Z:Sig}{α:Type}:Option α→M Z α
 | some a=>.ret a
 | none=>.fail
def need{Z:Sig}{α:Type}(b:Bool)(k:M Z α):M Z α:=bif b then k else .fail
variable {E}
def opd:Operand→ME E (bX E)
 | .tmp t=>.getP t .ret
 | .const v=>.ret (vG v)
 | .func f=>.ret (.clo f [])
 | .global _=>.fail
def ND{T:Nat→Type}:DV T→Option (DV T)
 | ⟨.leaf _ t,x⟩=>some ⟨.leaf false t,x⟩
 | _=>none
def fS(x:Slot E.G)(p:cT)(g:Nat)(d:DV E.G.T):ME E (DV E.G.T):=match p with
 | []=>need (!x.box&&Nat.ble x.born g) (iw (ND d))
 | _=>.fail
def rdM:bX E→ME E (DV E.G.T)
 | .val d=>.ret d
 | .ali s p g=>.getS s fun x=>match x.cont with
  | .data d=>need (dK x p g) ((iw (get E.G p d)).bind fun c=>need c.b.whole (.ret c))
  | .frz d=>fS x p g d
  | _=>.fail
 | .view s p g lo hi=>.getS s fun x=>match x.cont with
  | .data d=>need (Nat.beq g x.gen) (match get E.G p d with
   | some ⟨.leaf true (.sl e),l⟩=>.ret ⟨.leaf false (.sl e),List.take (hi-lo) (List.drop lo l)⟩
   | _=>.fail)
  | _=>.fail
 | _=>.fail
def cpn(d:DV E.G.T):DV E.G.T :=
 match d with
 | ⟨.leaf _ t,x⟩=>⟨.leaf false t,x⟩
 | d=>d
def ig(G:Gam):(b:BT)→B G.T b→DV G.T
 | .pr a c,x=>⟨.pr (ig G a x.1).b (ig G c x.2).b,((ig G a x.1).x,(ig G c x.2).x)⟩
 | .leaf o t,x=>bif o||t.flat G.flat then⟨.leaf o t,x⟩ else⟨.hole (t.sz G.sz),()⟩
 | .un,x=>⟨.un,()⟩
 | .hole n,x=>⟨.hole n,()⟩
 | .sp e,x=>⟨.hole 1,()⟩
 | .fn h,x=>⟨.fn h,()⟩
def vE{G:Gam}:Pin G→Pin G
 | .val d=>bif d.b.own G then .val d else .no
 | .adr _ _=>.no
 | .clo _ _=>.no
 | .tup _=>.no
 | p=>p
def o0{G:Gam}:Cont G→Cont G
 | .dead=>.dead
 | .data d=>.data (ig G d.b d.x)
 | .word _=>.dead
 | .frz d=>.data (ig G d.b d.x)
def gK{G:Gam}(σ:St G):St G:=⟨fun t=>vE (σ.pin t),fun s=>{ σ.slot s with gen:=(σ.slot s).gen+1,cont:=o0 (σ.slot s).cont }⟩
def wT(s:Nat):Nat:=1000000+s
def gw{G:Gam}:Cont G→Bool
 | .data _=>true
 | _=>false
def lH{α:Type}(s:Nat)(x:Slot E.Z.G)(k:ME E α):ME E α :=
 .getP (wT s) fun q=>match q with
  | .wrd s0 gs s' g'=>.getS s fun y=>bif Nat.beq s0 s&&(Nat.beq gs x.gen&&(x.box&&(y.box&&(Nat.beq y.born x.born&&gw y.cont))))then .setP (wT s) (.wrd s y.gen s' g') k else k
  | _=>k
def oC:bX E→ME E (DV E.G.T)
 | .val d=>.ret d
 | .ali s p g=>.getS s fun x=>match x.cont with
  | .data d=>need (dK x p g) (match get E.G p d with
   | some c=>bif c.b.cp E.G then .ret c else need c.b.whole <|
    bif x.box then need (cZ p) (match put E.G ⟨.hole (c.b.sz E.G),()⟩ p d with
     | some d'=>.setS s { x with gen:=x.gen+1,orig:=none,cont:=.data d' } (.ret c)
     | none=>.fail)
    else .setS s { x with gen:=x.gen+1,born:=x.gen+1,cont:=.dead } (.ret c)
   | none=>.fail)
  | .frz d=>fS x p g d
  | _=>.fail
 | _=>.fail
def iE:bX E→ME E (DV E.G.T)
 | .ali s p g=>.getS s fun x=>(oC (.ali s p g)).bind fun d=>lH s x (.ret d)
 | p=>oC p
def eK(t:Option FT):bX E→ME E (DV E.G.T)
 | .nil=>match t with
  | some (.sl e)=>.ret ⟨.leaf true (.sl e),([]:List _)⟩
  | _=>.fail
 | .ptr _ _ _ _=>match t with
  | some .ptr=>.ret ⟨.leaf false .ptr,()⟩
  | _=>.fail
 | p=>iE p
def rdT(t:Option FT):bX E→ME E (DV E.G.T)
 | .nil=>match t with
  | some (.sl e)=>.ret ⟨.leaf false (.sl e),([]:List _)⟩
  | _=>.fail
 | p=>rdM p
def fa(np s:Nat)(box:Bool)(orig:Option Nat)(c:Cont E.G):ME E Nat :=
 need (Nat.ble (16*np) s) <| .getS s fun x=>.setS s ⟨x.gen+1,x.gen+1,box,orig,c⟩ (.ret (x.gen+1))
variable (E) in
structure Fn where
 ann:Nat→Nat
 nt:Nat
 np:Nat
section
variable (fn:Fn)
def dC(dst:Option Tmp)(p:bX E):ME E Unit :=
 match dst with
 | none=>.ret ()
 | some d=>need (Nat.blt d fn.nt) (.setP d p (.ret ()))
def lu(s:Nat)(frz:Bool)(d:DV E.G.T):ME E (bX E) :=
 bif d.b.cp E.G then .ret (.val (cpn d)) else
 bif frz then(match d with
  | ⟨.leaf _ t,x⟩=>.ret (.val ⟨.leaf false t,x⟩)
  | ⟨b,x⟩=>.fail)
 else(fa fn.np s false none (.data d)).bind fun g=>.ret (.ali s [] g)
def wd(s:Nat):ME E Unit:=.getS s fun x=>match x.cont with
 | .data d=>need (!x.box) (.setS s { x with gen:=x.gen+1,orig:=none,cont:=.frz d } (.ret ()))
 | _=>.fail
def uG(s k:Nat)(d:DV E.G.T):ME E (bX E) :=
 bif Nat.beq k 8 && !d.b.cp E.G then(fa fn.np s false none (.data d)).bind fun g=>(wd s).bind fun _=>.ret (.ali s [] g)
 else lu fn s (Nat.beq k 1) d
def F7(op:BinOp)(k k':IntKind)(a b:Int):ME E (bX E) :=
 match op with
 | .shl=>.chk (0≤b) inferInstance (.ret (vI k (ez k a b)))
 | .shr=>.chk (0≤b) inferInstance (.ret (vI k (j4 k a b)))
 | op=>need (k==k') (match op with
  | .add=>.ret (vI k (k.wrap (a+b)))
  | .sub=>.ret (vI k (k.wrap (a-b)))
  | .mul=>.ret (vI k (k.wrap (a*b)))
  | .quo=>.chk (b≠0) inferInstance (.ret (vI k (k.wrap (a.tdiv b))))
  | .rem=>.chk (b≠0) inferInstance (.ret (vI k (a.tmod b)))
  | .and=>.ret (vI k (bits .and k a b))
  | .or=>.ret (vI k (bits .or k a b))
  | .xor=>.ret (vI k (bits .xor k a b))
  | .andNot=>.ret (vI k (bits .andNot k a b))
  | .eql=>.ret (vB (decide (a=b)))
  | .neq=>.ret (vB (!decide (a=b)))
  | .lss=>.ret (vB (decide (a<b)))
  | .leq=>.ret (vB (decide (a≤b)))
  | .gtr=>.ret (vB (decide (a>b)))
  | .geq=>.ret (vB (decide (a≥b)))
  | _=>.fail)
def F6(op:BinOp)(a b:Bool):ME E (bX E) :=
 match op with
 | .eql=>.ret (vB (decide (a=b)))
 | .neq=>.ret (vB (!decide (a=b)))
 | _=>.fail
def F8(op:BinOp)(a b:List Int):ME E (bX E) :=
 match op with
 | .add=>.chk (a.length+b.length≤9223372036854775807) inferInstance (.ret (vS (a++b)))
 | .eql=>.ret (vB (decide (a=b)))
 | .neq=>.ret (vB (!decide (a=b)))
 | .lss=>.ret (vB (ltS a b))
 | .leq=>.ret (vB (!ltS b a))
 | .gtr=>.ret (vB (ltS b a))
 | .geq=>.ret (vB (!ltS a b))
 | _=>.fail
def gx(t:Option FT)(e:FT):Bool :=
 match t with
 | some (.sl e')=>(FT.eq? e' e).isSome
 | _=>false
def Qh:Option FT→Bool
 | some .bool=>true
 | _=>false
def Ii(t:Option FT)(n:Nat):Bool :=
 match t with
 | some (.nm m)=>Nat.beq m n
 | _=>false
def Nh(G:Gam){a b:FT}(h:a=b)(x:J G.T a):J G.T b:=h ▸ x
def F9(op:BinOp)(r:Bool):ME E (bX E) :=
 match op with
 | .eql=>.ret (vB r)
 | .neq=>.ret (vB (!r))
 | _=>.fail
def nE:Operand→Bool
 | .const _=>true
 | _=>false
def vn(c:Bool)(op:BinOp)(t:Option FT)(x y:bX E):ME E (bX E) :=
 match x,y with
 | .val ⟨.leaf _ (.int k),a⟩,.val ⟨.leaf _ (.int k'),b⟩=>F7 op k k' a b
 | .val ⟨.leaf _ .bool,a⟩,.val ⟨.leaf _ .bool,b⟩=>need (Qh t) (F6 op a b)
 | .val ⟨.leaf _ .str,a⟩,.val ⟨.leaf _ .str,b⟩=>F8 op a b
 | .val ⟨.leaf false (.sl e),l⟩,.nil=>need (gx t e) (match op with
  | .eql=>.br (Nat.beq (List.length (α:=J E.G.T e) l) 0) fun z=>bif z then .ret .ind else .ret (vB false)
  | .neq=>.br (Nat.beq (List.length (α:=J E.G.T e) l) 0) fun z=>bif z then .ret .ind else .ret (vB true)
  | _=>.fail)
 | .one,.one=>need c (F9 op true)
 | .val ⟨.leaf _ (.nm n),a⟩,.val ⟨.leaf _ (.nm m),b⟩=>need (Ii t n) (match FT.eq? (.nm m) (.nm n) with
  | some ⟨h⟩=>(iw (eqJ E.G deep (.nm n) a (Nh E.G h b))).bind fun r=>F9 op r
  | none=>.fail)
 | _,_=>.fail
def asN(n:Int):Int:=n
def kt{α:Type}(n:Nat)(lo hi:Option (bX E))(k:Nat→Nat→ME E α):ME E α :=
 match hi with
 | none=>(match lo with
  | none=>k 0 n
  | some p=>match asI p with
   | some (_,l)=>.chk (0≤l∧l≤(n:Int)) inferInstance (k l.toNat n)
   | none=>.fail)
 | some q=>match asI q with
  | some (_,h)=>(match lo with
   | none=>.chk (0≤h∧h≤(n:Int)) inferInstance (k 0 h.toNat)
   | some p=>match asI p with
    | some (_,l)=>.chk (0≤l∧l≤h∧h≤(n:Int)) inferInstance (k l.toNat h.toNat)
    | none=>.fail)
  | none=>.fail
def sD:Option Operand→ME E (Option (bX E))
 | none=>.ret none
 | some x=>(opd x).bind fun p=>.ret (some p)
def mm:List Operand→ME E (List (bX E))
 | []=>.ret []
 | x::xs=>(opd x).bind fun p=>(mm xs).bind fun ps=>.ret (p::ps)
def iv:Option FT→Bool
 | some .str=>true
 | _=>false
def wX(t:Option FT)(x i:bX E):ME E (bX E) :=
 match asI i with
 | none=>.fail
 | some (_,n)=>match x with
  | .val ⟨.leaf false (.sl e),l⟩=>need (gx t e) <| .chk (0≤n∧n<(List.length (α:=J E.G.T e) l:Int)) inferInstance (.ret (.adr e (List.getD l n.toNat (cP E.G.zero e))))
  | .ali s p g=>.getS s fun x=>match x.cont with
   | .data d=>need (dK x p g) (match get E.G p d with
    | some ⟨.leaf true (.sl e),l⟩=>need (gx t e) <| .chk (0≤n∧n<(List.length (α:=J E.G.T e) l:Int)) inferInstance (.ret (.ptr s (p++[.el n.toNat]) 0 x.gen))
    | _=>.fail)
   | _=>.fail
  | .view s p g lo hi=>.getS s fun x=>match x.cont with
   | .data d=>need (Nat.beq g x.gen) (match get E.G p d with
    | some ⟨.leaf true (.sl e),l⟩=>need (gx t e) <| .chk (0≤n∧n<(hi-lo:Nat)) inferInstance (.ret (.ptr s (p++[.el (lo+n.toNat)]) 0 x.gen))
    | _=>.fail)
   | _=>.fail
  | _=>.fail
def Lh:BT→Bool
 | .hole _=>false
 | _=>true
def GW(t:Option FT)(x:bX E)(i:Nat):ME E (bX E) :=
 match x with
 | .ptr s p off g=>.getS s fun x=>match x.cont with
  | .data d=>need (gS x p off g d) (match get E.G p d,t with
   | some c,some (.nm n)=>need (shp E.G deep (.nm n) c.b&&Nat.blt i (E.G.fs n).length&&Lh c.b) (.ret (.ptr s (p++[.fld i]) (off+FT.szs E.G.sz ((E.G.fs n).take i)) g))
   | _,_=>.fail)
  | _=>.fail
 | .adr (.nm n) y=>match t with
  | some (.nm m)=>need (Nat.beq n m) (match nth i (prs false (E.G.fs n)) (toB false (E.G.fs n) (E.G.un n y)) with
   | some ⟨.leaf _ t',z⟩=>.ret (.adr t' z)
   | _=>.fail)
  | _=>.fail
 | _=>.fail
def Ix(t:Option FT)(a:bX E):ME E (bX E) :=
 match a with
 | .ptr s p off g=>.getS s fun x=>match x.cont with
  | .data d=>need (gS x p off g d) (match get E.G p d,t with
   | some c,some ft=>need (shp E.G deep ft c.b&&c.b.whole) (bif c.b.cp E.G then .ret (.val (cpn c))else .ret (.ali s p x.gen))
   | _,_=>.fail)
  | _=>.fail
 | .adr t' y=>match t with
  | some ft=>need (FT.eq? t' ft).isSome (.ret (.val ⟨.leaf false t',y⟩))
  | none=>.fail
 | _=>.fail
def sy(t:Option FT)(a:bX E):ME E (bX E) :=
 match t,a with
 | some .ptr,.ptr s [.fld 0] 0 g=>.getP (wT s) fun q=>match q with
  | .wrd s0 gs s' g'=>.getS s fun y=>.getS s' fun y'=>need (Nat.beq s0 s&&(Nat.beq gs y.gen&&(y.box&&(Nat.ble y.born g&&Nat.ble y'.born g')))) (.ret (.ptr s' [] 0 g'))
  | _=>.fail
 | t,a=>Ix t a
def xO(s:Nat)(p:cT)(off g:Nat)(keep:Bool)(v:DV E.G.T):ME E Unit :=
 .getS s fun x=>match x.cont with
  | .data d=>need (gS x p off g d) (match put E.G v p d with
   | some d'=>.setS s { x with gen:=x.gen+1,orig:=bif keep then x.orig else(bif cZ p then none else x.orig),cont:=.data d' } (.ret ())
   | none=>.fail)
  | _=>.fail
def pW(p:cT)(off:Nat):Bool:=!cZ p||Nat.blt 0 off
def Jj(s:Nat)(p:cT)(off g:Nat)(v:DV E.G.T):ME E Unit :=
 .getS s fun x=>(xO s p off g false v).bind fun _=>bif pW p off then lH s x (.ret ())else .ret ()
def EQ(t:Option FT)(ao:Operand)(v:bX E):ME E Unit :=
 (eK t v).bind fun d=>(opd ao).bind fun a=>match a,t with
 | .ptr s p off g,some ft=>.getS s fun x=>match x.cont with
   | .data c=>(match get E.G p c with
    | some c'=>need (shp E.G deep ft d.b&&shp E.G deep ft c'.b) (Jj s p off g d)
    | none=>.fail)
   | _=>.fail
 | _,_=>.fail
def later(ao:Operand):Bool:=match ao with
 | .tmp d=>Nat.beq (fn.ann d) 5
 | _=>false
def Uc(v:bX E)(s:Nat):Bool:=match v with
 | .ali s1 _ _=>!Nat.beq s1 s
 | _=>false
def w9(t:Option FT)(ao:Operand)(v:bX E):ME E Unit :=
 (rdM v).bind fun d=>(opd ao).bind fun a=>match a,t with
 | .ptr s [] 0 g,some ft=>need (Uc v s&&shp E.G deep ft d.b) (.getS s fun x=>match x.cont with
  | .data c=>need (gS x [] 0 g c&&(x.box&&shp E.G deep ft c.b)) (.setS s { x with gen:=x.gen+1,orig:=none,cont:=.word v } (.ret ()))
  | _=>.fail)
 | _,_=>.fail
def BF(t:Option FT)(dst:Option Tmp)(x:bX E)(lo hi:Option (bX E)):ME E (bX E) :=
 match x with
 | .val ⟨.leaf _ .str,l⟩=>need (iv t) <| kt (List.length (α:=Int) l) lo hi fun a b=>.ret (vS (List.take (α:=Int) (b-a) (List.drop a l)))
 | .val ⟨.leaf false (.sl e),l⟩=>need (gx t e) <| kt (List.length (α:=J E.G.T e) l) lo hi fun a b=>.ret (.val ⟨.leaf false (.sl e),List.take (α:=J E.G.T e) (b-a) (List.drop a l)⟩)
 | .ali s p g=>match dst with
  | none=>.fail
  | some d=>.getS s fun y=>match y.cont with
   | .data c=>need (dK y p g) (match get E.G p c with
    | some ⟨.leaf true (.sl e),l⟩=>need (gx t e) <| bif Nat.beq (fn.ann d) 2 then kt (List.length (α:=J E.G.T e) l) lo hi fun a b=>.ret (.view s p y.gen a b)
      else match lo with
       | some _=>.fail
       | none=>kt (List.length (α:=J E.G.T e) l) none hi fun _ b=>(iE (.ali s p g)).bind fun _ =>
               lu fn (16*d) false ⟨.leaf true (.sl e),List.take (α:=J E.G.T e) b l⟩
    | _=>.fail)
   | _=>.fail
 | _=>.fail
def nH:Option FT→Bool
 | some (.sl _)=>true
 | some .str=>true
 | _=>false
def uw(o:Bool)(e:FT)(xo:Operand):ME E (List (J E.G.T e)) :=
 (opd xo).bind fun x=>match e,x with
  | _,.nil=>.ret []
  | .int .u8,.val ⟨.leaf _ .str,b⟩=>.ret b
  | e,x=>bif e.flat E.G.flat then(rdM x).bind fun w=>iw (coJ E.G false deep (.sl e) w.b w.x)
   else(iE x).bind fun w=>need (o||w.b.cp E.G) (iw (coJ E.G o deep (.sl e) w.b w.x))
def spD{T:Nat→Type}(o:Bool)(e:FT)(l:List (J T e)):DV T:=bif o then⟨.leaf true (.sl e),l⟩ else⟨.sp e,l⟩
def xm(e:FT)(v:DV E.G.T):Option (Bool×List (J E.G.T e)):=match ru e v with
 | some l=>some (false,l)
 | none=>match coJ E.G true deep (.sl e) v.b v.x with
  | some l=>some (true,l)
  | none=>none
def FR(t t2:Option FT)(dst:Option Tmp)(s:bX E)(xo:Operand):ME E (bX E):=need (nH t2) <|
 match t,dst with
 | some (.sl e),some d=>(eK (some (.sl e)) s).bind fun v=>match xm e v with
  | some (o,l)=>(uw o e xo).bind fun l2 =>
    .chk (List.length (α:=J E.G.T e) l+List.length (α:=J E.G.T e) l2≤room) inferInstance
      (bif Nat.beq (fn.ann d) 6 then .ret (.val ⟨.leaf false (.sl e),List.append (α:=J E.G.T e) l l2⟩) else(fa fn.np (16*d) false none (.data (spD o e (List.append (α:=J E.G.T e) l l2)))).bind fun g=>.ret (.ali (16*d) [] g))
  | none=>.fail
 | _,_=>.fail
def GE(t t2:Option FT)(dop xo:Operand):ME E (bX E):=need (nH t2) <|
 match t with
 | some (.sl e)=>need (e.flat E.G.flat) ((uw true e xo).bind fun l2=>(opd dop).bind fun p=>match p with
  | .ali s [] g=>.getS s fun x=>match x.cont with
   | .data d=>need (dK x [] g && !x.box) (match coJ E.G true deep (.sl e) d.b d.x with
    | some l=>.chk (List.length (α:=J E.G.T e) l2≤List.length (α:=J E.G.T e) l) inferInstance
      (.setS s { x with gen:=x.gen+1,orig:=none,cont:=.data ⟨.leaf true (.sl e),List.append (α:=J E.G.T e) l2 (List.drop (α:=J E.G.T e) (List.length (α:=J E.G.T e) l2) l)⟩ } (.ret (vI .i64 (List.length (α:=J E.G.T e) l2:Int))))
    | none=>.fail)
   | _=>.fail
  | _=>.fail)
 | _=>.fail
def mY{α:Type}(lo hi:Nat)(z:α)(l:List α):List α:=List.append (List.append (List.take lo l) (List.replicate (hi-lo) z)) (List.drop hi l)
def o3(t:Option FT)(x:bX E):ME E (bX E) :=
 match x with
 | .view s [] g lo hi=>.getS s fun y=>match y.cont with
  | .data ⟨.leaf true (.sl e),l⟩=>need (gx t e&&(e.flat E.G.flat&&(Nat.beq g y.gen && !y.box)))
    (.setS s { y with gen:=y.gen+1,orig:=none,cont:=.data ⟨.leaf true (.sl e),mY (α:=J E.G.T e) lo hi (cP E.G.zero e) l⟩ } (.ret .no))
  | _=>.fail
 | _=>.fail
def xj(t:Option FT)(x:bX E):ME E (bX E):=need (nH t) <|
 match x with
 | .nil=>need (!iv t) <| .ret (vI .i64 0)
 | .len n=>need (!iv t) <| .ret (vI .i64 (n:Int))
 | x=>(rdM x).bind fun d=>match d with
  | ⟨.leaf _ .str,l⟩=>need (iv t) <| .ret (vI .i64 (List.length (α:=Int) l:Int))
  | ⟨.leaf _ (.sl e),l⟩=>need (!iv t) <| .ret (vI .i64 (List.length (α:=J E.G.T e) l:Int))
  | ⟨.sp e,l⟩=>need (!iv t) <| .ret (vI .i64 (List.length (α:=J E.G.T e) l:Int))
  | _=>.fail
noncomputable def lenW:{ f:Int→Int // ∀ n,f n=n }:=Classical.choice ⟨⟨fun n=>n,fun _=>rfl⟩⟩
noncomputable def Ir(n:Int):Int:=lenW.1 n
theorem TC(n:Int):Ir n=n:=lenW.2 n
def hid(dst:Option Tmp):Bool:=match dst with
 | some d=>Nat.beq (fn.ann d) 4
 | none=>false
noncomputable def opq(r:bX E):bX E:=match r with
 | .val ⟨.leaf false (.int .i64),n⟩=>vI .i64 (Ir n)
 | r=>r
theorem Uo(r:bX E):opq r=r:=by
 unfold opq
 split
 ·rename_i n;exact congrArg (fun m:Int=>(vI .i64 m:bX E)) (TC n)
 ·rfl
def pi(f:Int→Int→Int)(k:IntKind):Int→List (bX E)→Option Int
 | a,[]=>some a
 | a,p::ps=>match asI p with
  | some (k',b)=>bif k==k' then pi f k (f a b) ps else none
  | none=>none
def oL(G:Gam)(k:Nat)(t:FT):DV G.T:=match Nat.beq k 7,t with
 | true,.sl e=>⟨.sp e,([]:List (J G.T e))⟩
 | _,t=>⟨.leaf (!(t.flat G.flat)) t,cP G.zero t⟩
def sG(k:Nat):List FT→Nat→List (Nat×Operand)→ME E (DV E.G.T)
 | [],_,_=>.ret ⟨.un,()⟩
 | t::ts,i,ps=>(match ps.find? (fun(q:Nat×Operand)=>Nat.beq q.1 i) with
   | some (_,x)=>(opd x).bind fun p=>(eK (some t) p).bind fun d=>need (shp E.G deep t d.b) (.ret d)
   | none=>.ret (oL E.G k t)).bind fun d =>
  (sG k ts (i+1) ps).bind fun r=>.ret ⟨.pr d.b r.b,(d.x,r.x)⟩
def normal(d:DV E.G.T)(n:Nat):DV E.G.T :=
 match coJ E.G true deep (.nm n) d.b d.x with
 | some y=>⟨.leaf (!(E.G.flat n)) (.nm n),y⟩
 | none=>bif d.b.cp E.G then(match coJ E.G false deep (.nm n) d.b d.x with
  | some y=>⟨.leaf false (.nm n),y⟩
  | none=>d)else d
def Fh:FT→Value→Bool
 | .int k,.int k' n=>k==k'&&n==0
 | .bool,.bool b=>!b
 | .str,.string s=>Nat.beq s.size 0
 | .sl _,.slice none off cap=>Nat.beq off 0&&Nat.beq cap 0
 | _,_=>false
def uS:List FT→List Value→Bool
 | [],[]=>true
 | t::ts,c::cs=>Fh t c&&uS ts cs
 | _,_=>false
def isZ(G:Gam)(e:FT)(x:Operand):Bool:=match e,x with
 | .nm n,.const (.agg cs)=>uS (G.fs n) cs.toList
 | _,_=>false
def kx(o:Bool)(e:FT):Nat→List (Nat×Operand)→ME E (List (J E.G.T e))
 | 0,_=>.ret []
 | n+1,(_,x)::ps=>bif isZ E.G e x then(kx o e n ps).bind fun ys=>.ret (cP E.G.zero e::ys) else(opd x).bind fun p=>(eK (some e) p).bind fun d=>need (o||d.b.cp E.G) <| match coJ E.G o deep e d.b d.x with
  | some y=>(kx o e n ps).bind fun ys=>.ret (y::ys)
  | none=>.fail
 | _,_=>.fail
def um:Nat→List (Nat×Operand)→Bool
 | _,[]=>true
 | i,(j,_)::ps=>Nat.beq i j&&um (i+1) ps
def cL{T:Nat→Type}:(bs:List BT)→Bs T bs→List (DV T)
 | [],_=>[]
 | b::bs,x=>⟨b,x.1⟩::cL bs x.2
variable (E) in
def fv:(bs:List BT)→List (DV E.G.T)→Option (Bs E.G.T bs)
 | [],[]=>some ()
 | b::bs,d::ds=>match coB E.G b d,fv bs ds with
  | some y,some ys=>some (y,ys)
  | _,_=>none
 | _,_=>none
structure Use where
 s:Nat
 p:cT
 lent:Bool
 io:Bool
inductive PM where
 | val | own | io | ptr (o:BT)
structure Itm (G:Gam) where
 pm:PM
 b:BT
 p:Pin G
def qQ{G:Gam}:List BT→List (Pin G)→Option (List (Itm G))
 | [],[]=>some []
 | b::bs,p::ps=>match qQ bs ps with
  | some l=>some (⟨.ptr b,b,p⟩::l)
  | none=>none
 | _,_=>none
def rF{G:Gam}:Mode→Pin G→Pin G→Option (List (Itm G))
 | .val b,p,_=>some [⟨.val,b,p⟩]
 | .own b,p,_=>some [⟨.own,b,p⟩]
 | .io b,p,_=>some [⟨.io,b,p⟩]
 | .ptr b o,p,_=>some [⟨.ptr o,b,p⟩]
 | .clo f bs,.clo f' cs,_=>if Nat.beq f f'=true then qQ bs cs else none
 | .ref b o b' o',p,q=>some [⟨.ptr o,b,p⟩,⟨.ptr o',b',q⟩]
 | _,_,_=>none
def nn{G:Gam}:List Mode→List (Pin G)→List (Pin G)→Option (List (Itm G))
 | [],[],[]=>some []
 | m::ms,p::ps,q::qs=>match rF m p q,nn ms ps qs with
  | some a,some r=>some (a++r)
  | _,_=>none
 | _,_,_=>none
def sg:Mode→bX E→ME E (bX E)
 | .ref _ _ _ _,.ptr s [] 0 g=>.getP (wT s) fun q=>(match q with
  | .wrd s0 gs s' g'=>.getS s fun y=>.getS s' fun y'=>need (Nat.beq s0 s&&(Nat.beq gs y.gen&&(y.box&&(Nat.ble y.born g&&(y'.box&&Nat.ble y'.born g'))))) (.ret (.ptr s' [] 0 g'))
  | _=>.fail)
 | .ref _ _ _ _,_=>.fail
 | _,_=>.ret .no
def wY:List Mode→List (bX E)→ME E (List (bX E))
 | m::ms,p::ps=>(sg m p).bind fun q=>(wY ms ps).bind fun qs=>.ret (q::qs)
 | _,_=>.ret []
def kU:List Mode→List (bX E)→List (bX E)→ME E Unit
 | .ref _ _ _ _::ms,.ptr s [] 0 g::ps,.ptr s' [] 0 g'::qs=>.getS s fun y=>.getS s' fun y' =>
  bif y.box&&(gw y.cont&&(y'.box&&(Nat.ble g' y'.gen)))then .setP (wT s) (.wrd s y.gen s' g') (kU ms ps qs)else kU ms ps qs
 | _::ms,_::ps,_::qs=>kU ms ps qs
 | _,_,_=>.ret ()
def jI:BT→Option FT
 | .leaf _ t=>some t
 | _=>none
def mT:List Mode→List Operand→ME E (List (Option (DV E.G.T)))
 | _,[]=>.ret []
 | [],_::_=>.fail
 | .own b::ms,x::xs=>(opd x).bind fun p=>(eK (jI b) p).bind fun d=>(mT ms xs).bind fun r=>.ret (some d::r)
 | .clo _ bs::ms,_::xs=>(mT ms xs).bind fun r=>.ret (bs.map (fun _=>none)++r)
 | .ref _ _ _ _::ms,_::xs=>(mT ms xs).bind fun r=>.ret (none::none::r)
 | _::ms,_::xs=>(mT ms xs).bind fun r=>.ret (none::r)
def jt:bX E→List Use
 | .ali s q g=>[⟨s,q,true,false⟩]
 | .view s q g _ _=>[⟨s,q,true,false⟩]
 | _=>[]
def U8(it:Itm E.Z.G)(t:Option (DV E.G.T)):ME E (DV E.G.T×List Use) :=
 match it.pm with
 | .own=>(match t with
  | some d=>.ret (d,[])
  | none=>.fail)
 | .val=>need (it.b.cp E.G) ((rdT (jI it.b) it.p).bind fun d=>.ret (d,jt it.p))
 | .io=>(match it.p with
  | .ali s q g=>.getS s fun x=>need (nfz x) ((rdM (.ali s q g)).bind fun d=>.ret (d,[⟨s,q,false,true⟩]))
  | _=>.fail)
 | .ptr _=>(match it.p with
  | .ptr s [] 0 g=>.getS s fun x=>match x.cont with
   | .data d=>need (kr x [] g&&x.box) (.ret (d,[⟨s,[],false,false⟩]))
   | _=>.fail
  | _=>.fail)
def xR:List (Itm E.Z.G)→List (Option (DV E.G.T))→ME E (List (DV E.G.T)×List Use)
 | [],_=>.ret ([],[])
 | it::its,ts=>(U8 it ts.head?.join).bind fun a=>(xR its ts.tail).bind fun r=>.ret (a.1::r.1,a.2++r.2)
def rf:List Use→Bool
 | []=>true
 | u::us=>us.all (fun v=>!Nat.beq u.s v.s||(u.lent&&v.lent))&&rf us
def UZ(u:Use)(v:DV E.G.T):ME E Unit :=
 .getS u.s fun x=>match x.cont with
  | .data d=>match put E.G v u.p d with
   | some d'=>.setS u.s { x with gen:=x.gen+2,orig:=bif u.io then x.orig else none,cont:=.data d' } (.ret ())
   | none=>.fail
  | _=>.fail
def kj:List Use→List (DV E.G.T)→ME E Unit
 | [],[]=>.ret ()
 | u::us,ds=>bif u.lent then kj us ds else(match ds with
   | d::ds=>(UZ u d).bind fun _=>kj us ds
   | []=>.fail)
 | [],_::_=>.fail
def dT:BT→Bool
 | .pr (.hole 0) _=>true
 | _=>false
def lq{T:Nat→Type}:DV T→DV T
 | ⟨.pr (.hole 0) b,x⟩=>⟨b,x.2⟩
 | d=>d
def iu:BT→Bool
 | .hole n=>Nat.beq n 1
 | _=>false
def qN(d frz:Nat):Nat→List (DV E.G.T)→ME E (List (bX E))
 | _,[]=>.ret []
 | j,v::vs=>(bif iu v.b then .ret .one else(bif dT v.b then(fa fn.np (16*d+j) true none (.data (lq v))).bind fun g=>.ret (.ptr (16*d+j) [] 0 g)else uG fn (16*d+j) frz v)).bind fun p=>(qN d frz (j+1) vs).bind fun ps=>.ret (p::ps)
def vC:bX E→ME E (List FuncId)
 | .ptr s [] 0 g=>.getS s fun x=>match x.cont with
  | .data ⟨.fn h,_⟩=>.ret [h]
  | _=>.ret []
 | _=>.ret []
def ro:List (bX E)→ME E (List FuncId)
 | []=>.ret []
 | p::ps=>(vC p).bind fun a=>(ro ps).bind fun b=>.ret (a++b)
def rq:List (bX E)→ME E (List FuncId)
 | []=>.ret []
 | .clo f cs::ps=>(ro cs).bind fun a=>(rq ps).bind fun b=>.ret (f::(a++b))
 | _::ps=>rq ps
def uH:List (bX E)→bX E
 | [w]=>w
 | ws=>.tup ws
def vA(f:FuncId)(fo:Operand)(xs:List Operand)(cl:List FuncId)(dst:Option Tmp):ME E Unit :=
 match E.ent f cl with
 | none=>.fail
 | some (k,ms,nres)=>(mT ms xs).bind fun ts=>(mm xs).bind fun ps=>(opd fo).bind fun p=>match p with
  | .clo f' cs=>need (Nat.beq f f') ((wY ms (ps++cs)).bind fun qs=>match nn ms (ps++cs) qs with
   | none=>.fail
   | some its=>(xR its ts).bind fun a=>need (rf a.2&&((a.2.all fun u=>!u.lent)||(E.Z.out k).all (fun b=>b.own E.G)))
    (match fv E (E.Z.inp k) a.1 with
    | none=>.fail
    | some x=>.call k x fun y =>
     (kj a.2 ((cL (E.Z.out k) y).drop nres)).bind fun _=>(kU ms (ps++cs) qs).bind fun _=>match dst with
      | none=>.ret ()
      | some d=>(qN fn d (fn.ann d) 0 ((cL (E.Z.out k) y).take nres)).bind fun ws=>dC fn (some d) (uH ws)))
  | _=>.fail
def Li:bX E→ME E (bX E)
 | .no=>.fail
 | .und=>.fail
 | p=>.ret p
def UN(c a b:Operand):ME E (bX E):=(opd c).bind fun p=>match asB p with
 | some t=>.br t fun t=>(opd (bif t then a else b)).bind Li
 | none=>.fail
def uB(d:Nat)(og:Option Nat)(c:Cont E.G):ME E (bX E):=(fa fn.np (16*d) true og c).bind fun g=>.ret (.ptr (16*d) [] 0 g)
def mX(G:Gam):List FT→DV G.T
 | []=>⟨.un,()⟩
 | .sl e::ts=>⟨.pr (.sp e) (mX G ts).b,(([]:List (J G.T e)),(mX G ts).x)⟩
 | t::ts=>⟨.pr (.leaf true t) (mX G ts).b,(cP G.zero t,(mX G ts).x)⟩
def oU(G:Gam)(k:Nat)(ft:FT):DV G.T:=match Nat.beq k 7,ft with
 | true,.nm n=>mX G (G.fs n)
 | _,ft=>⟨.leaf true ft,cP G.zero ft⟩
def vk(t:Option FT)(dst:Option Tmp):ME E (bX E) :=
 match dst,t with
 | some d,some ft=>uB fn d none (.data (oU E.G (fn.ann d) ft))
 | _,_=>.fail
def I4(p:bX E):ME E (Option Nat) :=
 match p with
 | .ali s [] g=>.getS s fun y=>.ret (bif y.box then y.orig else bif Nat.blt s (16*fn.np)&&Nat.beq (s%16) 0 then some (s/16)else none)
 | _=>.ret none
def ri(t:Option FT)(dst:Option Tmp)(p:bX E):ME E (bX E) :=
 match dst,t with
 | some d,some ft=>(I4 fn p).bind fun og=>(eK (some ft) p).bind fun v=>need (shp E.G deep ft v.b) (uB fn d og (.data v))
 | _,_=>.fail
def xt(dst:Option Tmp)(x:Operand):ME E (bX E) :=
 match dst,x with
 | some d,.tmp t=>bif Nat.beq (fn.ann d) 10 then .getP t fun p=>(rdM p).bind fun v=>(match v with
   | ⟨.leaf _ (.sl e),l⟩=>.setP t (.len (List.length (α:=J E.G.T e) l)) (.ret p)
   | _=>.fail)
  else opd (.tmp t)
 | _,x=>opd x
def rh(dst:Option Tmp)(p:bX E):ME E (bX E) :=
 match dst,p with
 | some d,.clo h []=>uB fn d none (.data ⟨.fn h,()⟩)
 | _,_=>.fail
def sx(p:bX E):ME E (bX E) :=
 match p with
 | .ptr s [] 0 g=>.getS s fun x=>match x.cont with
  | .data ⟨.fn h,_⟩=>need (x.box&&Nat.ble x.born g) (.ret (.clo h []))
  | _=>.fail
 | _=>.fail
def sH(n:Nat):List (Nat×Operand)→Bool
 | []=>true
 | (i,_)::ps=>Nat.blt i n&&(ps.all fun q=>!Nat.beq q.1 i)&&sH n ps
def vu(t:Option FT)(dst:Option Tmp)(parts:List (Nat×Operand)):ME E (bX E) :=
 match t,dst with
 | some (.nm n),some d=>need (sH (E.G.fs n).length parts) <| (sG (fn.ann d) (E.G.fs n) 0 parts).bind fun v=>lu fn (16*d) (Nat.beq (fn.ann d) 1) (normal v n)
 | _,_=>.fail
def xk(parts:List (Nat×Operand))(r:bX E):ME E (bX E) :=
 match parts,r with
 | (0,x)::_,.ali s [] g=>(opd x).bind fun q=>(match q with
  | .ptr s' [] 0 g'=>.getS s fun y=>.getS s' fun y'=>bif !y.box&&(Nat.ble y.born g&&(gw y.cont&&(y'.box&&Nat.ble y'.born g')))then .setP (wT s) (.wrd s y.gen s' g') (.ret r)else .ret r
  | _=>.ret r)
 | _,r=>.ret r
def sn(p:bX E):ME E (Option (Nat×Nat)) :=
 match p with
 | .ali s [] g=>.getP (wT s) fun q=>(match q with
  | .wrd s0 gs s' g'=>.getS s fun y=>.getS s' fun y'=>bif Nat.beq s0 s&&(Nat.beq gs y.gen&&(!y.box&&(Nat.ble y.born g&&Nat.ble y'.born g')))then .ret (some (s',g'))else .ret none
  | _=>.ret none)
 | _=>.ret none
def sw(kn:Option (Nat×Nat))(r:bX E):ME E (bX E) :=
 match kn,r with
 | some (s',g'),.ptr s [] 0 g=>.getS s fun y=>.getS s' fun y'=>bif Nat.beq y.gen g&&(Nat.ble y.born g&&(y.box&&(gw y.cont&&(y'.box&&(Nat.ble y'.born g'&&(Nat.ble g' y'.gen && !Nat.beq s' s))))))then .setP (wT s) (.wrd s g s' g') (.ret r)else .ret r
 | _,r=>.ret r
def vv(t:Option FT)(dst:Option Tmp)(len:Nat)(parts:List (Nat×Operand)):ME E (bX E) :=
 match t,dst with
 | some (.sl e),some d=>need (um 0 parts&&Nat.beq parts.length len&&Nat.ble len 100000&&Nat.ble (len*e.sz E.G.sz) 16777216) ((kx (!(Nat.beq (fn.ann d) 6||Nat.beq (fn.ann d) 7)) e len parts).bind fun l =>
   bif Nat.beq (fn.ann d) 1||Nat.beq (fn.ann d) 6 then .ret (.val ⟨.leaf false (.sl e),l⟩)
   else(fa fn.np (16*d) false none (.data (spD (!Nat.beq (fn.ann d) 7) e l))).bind fun g=>.ret (.ali (16*d) [] g))
 | _,_=>.fail
def IK:bX E→ME E (bX E)
 | .ptr s q off g=>.ret (.ptr s q off g)
 | .adr t y=>.ret (.adr t y)
 | .clo f cs=>.ret (.clo f cs)
 | _=>.fail
def unM(op:UnOp)(p:bX E):ME E (bX E) :=
 match op,p with
 | .not,.val ⟨.leaf _ .bool,b⟩=>.ret (vB (!b))
 | .neg,.val ⟨.leaf _ (.int k),n⟩=>.ret (vI k (k.wrap (0-asN n)))
 | _,_=>.fail
def vL(s t:Option FT)(dst:Option Tmp)(p:bX E):ME E (bX E) :=
 match s,t,p with
 | some (.int _),some (.int k),.val ⟨.leaf _ (.int _),n⟩=>.ret (vI k (k.wrap n))
 | some .str,some (.sl (.int .u8)),.val ⟨.leaf _ .str,l⟩=>.chk (List.length (α:=Int) l≤room) inferInstance (match dst with
  | none=>.ret (.val ⟨.leaf false (.sl (.int .u8)),l⟩)
  | some d=>bif Nat.beq (fn.ann d) 1 then .ret (.val ⟨.leaf false (.sl (.int .u8)),l⟩)
   else(fa fn.np (16*d) false none (.data ⟨.leaf true (.sl (.int .u8)),l⟩)).bind fun g=>.ret (.ali (16*d) [] g))
 | some (.sl (.int .u8)),some .str,.nil=>.ret (vS [])
 | some (.sl (.int .u8)),some .str,p=>(rdM p).bind fun d=>(match d with
  | ⟨.leaf _ (.sl (.int .u8)),l⟩=>.ret (vS l)
  | _=>.fail)
 | _,_,_=>.fail
def xq(t:Option FT)(dst:Option Tmp)(p q:bX E):ME E (bX E) :=
 match t,dst,asI p,asI q with
 | some (.sl e),some d,some (_,n),some (_,c)=>.chk (0≤n∧n≤c∧c≤(room:Int)) inferInstance
   ((fa fn.np (16*d) false none (.data ⟨.leaf true (.sl e),List.replicate n.toNat (cP E.G.zero e)⟩)).bind fun g=>.ret (.ali (16*d) [] g))
 | _,_,_,_=>.fail
def pQ(G:Gam)(t:Option FT)(i:Nat)(b:BT):Bool :=
 match t with
 | some (.nm n)=>shp G deep (.nm n) b&&Nat.blt i (G.fs n).length
 | _=>false
def GX(t:Option FT)(i:Nat)(p:bX E):ME E (bX E) :=
 match p with
 | .ali s q g=>.getS s fun y=>match y.cont with
  | .data d=>need (dK y q g&&(match get E.G q d with | some c=>pQ E.G t i c.b | none=>false)) (match get E.G (q++[.fld i]) d with
   | some c=>need c.b.whole <| bif c.b.cp E.G then .ret (.val (cpn c))else .ret (.ali s (q++[.fld i]) y.gen)
   | none=>.fail)
  | _=>.fail
 | .val d=>need (pQ E.G t i d.b) (match get E.G [.fld i] d with
  | some c=>need (c.b.cp E.G) (.ret (.val c))
  | none=>.fail)
 | _=>.fail
def Ie(t:Option FT)(p q:bX E):ME E (bX E):=need (iv t) <|
 match p,asI q with
 | .val ⟨.leaf _ .str,l⟩,some (_,n)=>.chk (0≤n∧n<(List.length (α:=Int) l:Int)) inferInstance (.ret (vI .u8 (List.getD (α:=Int) l n.toNat 0)))
 | _,_=>.fail
def vY(i:Nat)(p:bX E):ME E (bX E) :=
 match p with
 | .tup ps=>iw ps[i]?
 | _=>.fail
noncomputable def Gk(b:Builtin)(dst:Option Tmp)(t t2:Option FT)(xs:List Operand):ME E (bX E) :=
 match b,xs with
 | .len,[x]=>(opd x).bind fun p=>(xj t p).bind fun r=>.ret (bif hid fn dst then opq r else r)
 | .append,[s,x]=>(opd s).bind fun p=>FR fn t t2 dst p x
 | .copy,[d,x]=>GE t t2 d x
 | .clear,[x]=>(opd x).bind fun p=>o3 t p
 | .min,x::xs=>(opd x).bind fun p=>(mm xs).bind fun ps=>(match asI p with
  | some (k,a)=>(iw (pi mnI k a ps)).bind fun r=>.ret (vI k r)
  | none=>.fail)
 | .max,x::xs=>(opd x).bind fun p=>(mm xs).bind fun ps=>(match asI p with
  | some (k,a)=>(iw (pi mxI k a ps)).bind fun r=>.ret (vI k r)
  | none=>.fail)
 | _,_=>.fail
noncomputable def opM(o:Oper):ME E Unit :=
 let fin (m:ME E (bX E)):ME E Unit:=m.bind fun r=>dC fn o.dst r
 match o.op with
 | .move x=>fin (xt fn o.dst x)
 | .assign x=>fin ((opd x).bind .ret)
 | .pick c a b=>fin (UN c a b)
 | .alloc t=>fin (vk fn (E.ty t) o.dst)
 | .box t x=>fin (bif E.fnt t then(opd x).bind fun p=>rh fn o.dst p else(opd x).bind fun p=>(sn p).bind fun kn=>(ri fn (E.ty t) o.dst p).bind fun r=>sw kn r)
 | .build t parts=>fin ((vu fn (E.ty t) o.dst parts.toList).bind fun r=>xk parts.toList r)
 | .buildSlice t len parts=>fin (vv fn (E.ty t) o.dst len parts.toList)
 | .load t a=>fin (bif E.fnt t then(opd a).bind fun p=>sx p else(opd a).bind fun p=>sy (E.ty t) p)
 | .store t a x=>(opd x).bind fun v=>(bif later fn a then w9 (E.ty t) a v else EQ (E.ty t) a v).bind fun _=>dC fn o.dst .no
 | .nilCheck x=>fin ((opd x).bind IK)
 | .binOp op t x y _=>fin ((opd x).bind fun p=>(opd y).bind fun q=>vn (E.ifc t&&(nE x||nE y)) op (E.ty t) p q)
 | .unOp op _ x=>fin ((opd x).bind fun p=>unM op p)
 | .convert s t x=>fin ((opd x).bind fun p=>vL fn (E.ty s) (E.ty t) o.dst p)
 | .makeFunc (.func f) first captured=>need first.isEmpty (fin ((mm captured.toList).bind fun cs=>.ret (.clo f cs)))
 | .makeSlice t len cap=>fin ((opd len).bind fun p=>(opd cap).bind fun q=>xq fn (E.ty t) o.dst p q)
 | .slice t x lo hi none=>fin ((opd x).bind fun p=>(sD lo).bind fun l=>(sD hi).bind fun h=>BF fn (E.ty t) o.dst p l h)
 | .fieldAddr t x i=>fin ((opd x).bind fun p=>GW (E.ty t) p i)
 | .field t x i=>fin ((opd x).bind fun p=>GX (E.ty t) i p)
 | .indexAddr t x i=>fin ((opd x).bind fun p=>(opd i).bind fun q=>wX (E.ty t) p q)
 | .index t x i=>fin ((opd x).bind fun p=>(opd i).bind fun q=>Ie (E.ty t) p q)
 | .extract x i=>fin ((opd x).bind fun p=>vY i p)
 | .call { callee:=.builtin b,args,argTypes }=>fin (Gk fn b o.dst (argTypes[0]?.bind E.ty) (argTypes[1]?.bind E.ty) args.toList)
 | .call { callee:=.value f,args,.. }=>(opd f).bind fun p=>(match p with
  | .clo g cs=>(mm args.toList).bind fun ps=>(ro cs).bind fun a=>(rq ps).bind fun b=>vA fn g f args.toList (a++b) o.dst
  | _=>.fail)
 | _=>.fail
end
end
end
section
inductive Form where
 | val (t:Nat) (b:BT)
 | own (t id:Nat) (b:BT)
 | slot (id:Nat) (b:BT) (box:Bool) (orig:Option Nat)
 | ptr (t id:Nat)
 | ali (t t1:Nat)
 | clo (t:Nat) (f:FuncId) (ids:List Nat)
 | wrd (id id':Nat)
 | frz (t id:Nat) (b:BT)
def Form.tys:Form→List BT
 | .val _ b | .own _ _ b | .slot _ b _ _ | .frz _ _ b=>[b]
 | _=>[]
def cE:List Form→List BT
 | []=>[]
 | f::fs=>f.tys++cE fs
structure KeyI where
 ent:Nat
 dirs:List Bool
 forms:List Form
inductive IoK where
 | box
 | reg
 | orig (i:Nat)
structure EntI where
 fn:FuncId
 code:Code
 results:List ResultVar
 modes:List Mode
 res:List BT
 ios:List (Nat×IoK)
 ann:List (Nat×Nat)
 nt:Nat
 joins:List (Nat×Nat)
 ex:Bool
def nN:List Mode→List BT
 | []=>[]
 | m::ms=>m.out++nN ms
def eR(e:EntI):List BT:=e.res++nN e.modes
structure Tab where
 G:Gam
 ty:Nat→Option FT
 ifc:Nat→Bool
 fnt:Nat→Bool
 key:Nat→KeyI
 ent:Nat→EntI
 call:FuncId→List FuncId→Option Nat
 tabs:List (String×IntKind×List Int)
 ext:(κ:Nat)→Bs G.T (cE (key κ).forms)→Option (Bs G.T (eR (ent (key κ).ent)))
def Tab.Z(T:Tab):Sig:=⟨T.G,fun k=>cE (T.key k).forms,fun k=>eR (T.ent (T.key k).ent)⟩
def Tab.E(T:Tab):Env:=⟨T.Z,T.ty,T.ifc,T.fnt,fun f cs=>match T.call f cs with
 | some k=>some (k,(T.ent (T.key k).ent).modes,(T.ent (T.key k).ent).res.length)
 | none=>none,T.tabs⟩
def iV:List (Nat×Nat)→Nat→Option Nat
 | [],_=>none
 | (a,b)::l,x=>bif Nat.beq a x then some b else iV l x
def EntI.f(e:EntI):Fn:=⟨fun t=>(iV e.ann t).getD 0,e.nt,e.modes.length⟩
section
variable {E:Env} (fn:Fn)
def asG:bX E→Option Bool
 | .val ⟨.leaf false .bool,b⟩=>some b
 | _=>none
def wZ:bX E→Bool
 | .ind=>true
 | _=>false
def fC:bX E→Bool
 | .und=>true
 | _=>false
noncomputable def mQ(ops:Array Oper)(o:Oper):ME E Unit :=
 match o.guard with
 | none=>opM fn o
 | some (j,want)=>match (ops[j]?).bind (·.dst) with
  | some t=>.getP t fun p=>match asG p with
   | some b=>.br b fun b=>bif b==want then opM fn o else dC fn o.dst .und
   | none=>bif fC p then dC fn o.dst .und else .fail
  | none=>.fail
def qJ(o:Oper):Bool:=match o.dst with
 | some d=>Nat.beq (fn.ann d) 9
 | none=>false
section
variable (F:cr E.Z) {ρ:Type}
noncomputable def jj(ops:Array Oper)(o:Oper)(σ:St E.G)(K:St E.G→Option ρ):Option ρ :=
 match o.guard with
  | none=>(opM fn o).go F σ fun _ σ=>K σ
  | some (j,want)=>match (ops[j]?).bind (·.dst) with
   | some t=>match asG (σ.pin t) with
    | some b=>if b=true
     then(bif want then opM fn o else dC fn o.dst .und).go F (σ.setP t (vB true)) fun _ σ=>K σ
     else(bif want then dC fn o.dst .und else opM fn o).go F (σ.setP t (vB false)) fun _ σ=>K σ
    | none=>bif fC (σ.pin t) then(dC fn o.dst .und).go F σ fun _ σ=>K σ else none
   | none=>none
noncomputable def fX(ops:Array Oper):List Oper→St E.G→(St E.G→Option ρ)→Option ρ
 | [],σ,K=>K σ
 | o::os,σ,K=>bif qJ fn o then(jj fn F ops o σ fun σ=>fX ops os (gK σ) K)else jj fn F ops o σ fun σ=>fX ops os σ K
noncomputable def ej(ops:Array Oper):List Oper→St E.G→List (List Acc)→(St E.G→List (List Acc)→Option ρ)→Option ρ
 | [],σ,L,K=>K σ L
 | o::os,σ,L,K=>match o.guard with
  | none=>(opM fn o).goL F σ [] fun _ σ l=>ej ops os σ (l::L) K
  | some (j,want)=>match (ops[j]?).bind (·.dst) with
   | some t=>match asG (σ.pin t) with
    | some b=>if b=true
     then(bif want then opM fn o else dC fn o.dst .und).goL F (σ.setP t (vB true)) [⟨false,t,false⟩] fun _ σ l=>ej ops os σ (l::L) K
     else(bif want then dC fn o.dst .und else opM fn o).goL F (σ.setP t (vB false)) [⟨false,t,false⟩] fun _ σ l=>ej ops os σ (l::L) K
    | none=>bif fC (σ.pin t) then(dC fn o.dst .und).goL F σ [⟨false,t,false⟩] fun _ σ l=>ej ops os σ (l::L) K else none
   | none=>none
end
def uz:Nat→List Oper→Bool
 | _,[]=>true
 | i,o::os=>(o.after.toList.all fun e=>!Region.binds .text e||Nat.blt e.on i)&&uz (i+1) os
def rJ(n:Nat)(rk:List Nat):Nat→List Oper→Bool
 | _,[]=>true
 | i,o::os=>(o.after.toList.all fun e=>!Region.binds .gc e||(Nat.blt e.on n&&Nat.blt (rk.idxOf e.on) (rk.idxOf i)))&&rJ n rk (i+1) os
def jv(_:Nat)(l:List Oper):Bool:=uz 0 l&&(bif Region.departs l.toArray then rJ l.length (Region.linearise .gc l.toArray 0) 0 l else true)
def Acc.clash(a b:Acc):Bool:=(a.slot==b.slot)&&Nat.beq a.at_ b.at_&&(a.wr||b.wr)
def gJ(l m:List Acc):Bool:=l.any fun a=>m.any fun b=>a.clash b
def ordered(before:Array Nat):List (List Acc)→Bool
 | []=>true
 | l::L=>orderedTo before l L.length L&&ordered before L
where
 orderedTo (before:Array Nat) (l:List Acc) (j:Nat):List (List Acc)→Bool
  | []=>true
  | m::L=>(!gJ l m||(before.getD j 0).testBit L.length)&&orderedTo before l j L
end
section
variable {E:Env} (fn:Fn)
open Classical in
noncomputable def amb{ρ:Type}(a b:Option ρ):Option ρ:=if a=b then a else none
def vm:List Nat→List Nat→Bool
 | [],[]=>true
 | a::x,b::y=>Nat.beq a b&&vm x y
 | _,_=>false
def oV:Option Nat→Option Nat→Bool
 | none,none=>true
 | some a,some b=>Nat.beq a b
 | _,_=>false
def cI(id:Nat):List Form→Bool
 | []=>false
 | .own _ i _::fs=>Nat.beq i id||cI id fs
 | .slot i _ _ _::fs=>Nat.beq i id||cI id fs
 | .frz _ i _::fs=>Nat.beq i id||cI id fs
 | _::fs=>cI id fs
def dz(id:Nat):List Form→Bool
 | []=>false
 | .slot i _ box _::fs=>(Nat.beq i id&&box)||dz id fs
 | _::fs=>dz id fs
def rn:List (bX E)→List Nat→ME E Unit
 | [],[]=>.ret ()
 | .ptr s [] 0 g::ps,id::ids=>.getS s fun x=>need (Nat.beq s id&&x.box&&Nat.ble x.born g) (rn ps ids)
 | _,_=>.fail
def Qg(id:Nat):bX E→Bool
 | .ali s [] _=>Nat.beq s id
 | _=>false
def fZ:List Form→ME E (List (DV E.G.T))
 | []=>.ret []
 | .val t b::fs=>need (b.cp E.G) <| .getP t fun p=>(eK (jI b) p).bind fun d=>(fZ fs).bind fun ds=>.ret (d::ds)
 | .own t id b::fs=>need (!cI id fs) <| .getP t fun p=>.getS id fun x=>need (!Nat.blt id (16*fn.np)||(Qg id p && !x.box))
   ((eK (jI b) p).bind fun d=>(fZ fs).bind fun ds=>.ret (d::ds))
 | .slot id b box orig::fs=>need (!cI id fs) <| .getS id fun x=>match x.cont with
  | .data d=>need ((x.box==box)&&(!orig.isSome||oV x.orig orig)) (.setS id { x with gen:=x.gen+1,cont:=.dead } ((fZ fs).bind fun ds=>.ret (d::ds)))
  | _=>.fail
 | .ptr t id::fs=>need (dz id fs) <| .getP t fun p=>match p with
  | .ptr s [] 0 g=>.getS s fun x=>need (Nat.beq s id&&x.box&&Nat.ble x.born g) (fZ fs)
  | _=>.fail
 | .ali t t1::fs=>.getP t fun p=>.getP t1 fun p1=>match p,p1 with
  | .ali s [] g,.ali s1 [] g1=>.getS s fun x=>need (Nat.beq s s1 && !x.box&&Nat.ble x.born g&&Nat.ble x.born g1) (fZ fs)
  | _,_=>.fail
 | .clo t f ids::fs=>need (ids.all fun id=>dz id fs) <| .getP t fun p=>match p with
  | .clo f' caps=>need (Nat.beq f f') ((rn caps ids).bind fun _=>fZ fs)
  | _=>.fail
 | .wrd id id'::fs=>need (dz id fs&&dz id' fs) <| .getP (wT id) fun q=>match q with
  | .wrd s0 gs s' g'=>.getS id fun y=>.getS s' fun y'=>need (Nat.beq s0 id&&(Nat.beq s' id'&&(Nat.beq gs y.gen&&(y.box&&Nat.ble y'.born g')))) (fZ fs)
  | _=>.fail
 | .frz _ _ _::_=>.fail
def mq:List Form→ME E (List (DV E.G.T))
 | .frz t id b::fs=>need (!cI id fs&&Nat.ble (16*fn.np) id) <| .getP t fun p=>match p with
  | .ali s [] g=>.getS s fun x=>match x.cont with
   | .frz d=>need (Nat.beq s id&&(!x.box&&Nat.ble x.born g)) ((mq fs).bind fun ds=>.ret (d::ds))
   | _=>.fail
  | _=>.fail
 | []=>fZ fn []
 | f::fs=>fZ fn (f::fs)
def cV{G:Gam}:(fs:List Form)→Bs G.T (cE fs)→St G
 | [],_=>St.empty G
 | .val t b::fs,x=>(cV fs x.2).setP t (.val ⟨b,x.1⟩)
 | .own t id b::fs,x=>((cV fs x.2).setS id ⟨0,0,false,none,.data ⟨b,x.1⟩⟩).setP t (.ali id [] 0)
 | .slot id b box orig::fs,x=>(cV fs x.2).setS id ⟨0,0,box,orig,.data ⟨b,x.1⟩⟩
 | .ptr t id::fs,x=>(cV fs x).setP t (.ptr id [] 0 0)
 | .ali t t1::fs,x=>let σ:St G:=cV fs x;σ.setP t (σ.pin t1)
 | .clo t f ids::fs,x=>(cV fs x).setP t (.clo f (ids.map fun i=>.ptr i [] 0 0))
 | .wrd id id'::fs,x=>(cV fs x).setP (wT id) (.wrd id 0 id' 0)
 | .frz t id b::fs,x=>((cV fs x.2).setS id ⟨1,0,false,none,.frz ⟨b,x.1⟩⟩).setP t (.ali id [] 0)
def jB:List BT→Bool
 | b::_=>dT b
 | []=>false
def oW(p:bX E):ME E (DV E.G.T) :=
 match p with
 | .ptr s [] 0 g=>.getS s fun x=>match x.cont with
  | .data d=>need (Nat.ble x.born g&&x.box) (.setS s { x with gen:=x.gen+1,cont:=.dead } (.ret ⟨.pr (.hole 0) d.b,((),d.x)⟩))
  | _=>.fail
 | _=>.fail
def lP:List BT→Bool
 | b::_=>iu b
 | []=>false
def sC(p:bX E):ME E (DV E.G.T) :=
 match p with
 | .one=>.ret ⟨.hole 1,()⟩
 | _=>.fail
def rp(ft:FT)(s:Nat)(x:Slot E.Z.G):ME E (DV E.G.T):=match x.cont with
 | .word q=>eK (some ft) q
 | _=>iE (.ali s [] x.gen)
def nS:List ResultVar→List BT→ME E (List (DV E.G.T))
 | [],_=>.ret []
 | .tmp t::rs,bs=>.getP t fun p=>(bif lP bs then sC p else(bif jB bs then oW p else(eK (bs.head?.bind jI) p).bind fun d=>need (!dT d.b) (.ret d))).bind fun d=>(nS rs bs.tail).bind fun ds=>.ret (d::ds)
 | .cell a t::rs,bs=>.getP a fun p=>match p,E.ty t with
  | .ptr s [] 0 g,some ft=>.getS s fun x=>need (Nat.ble x.born g&&x.box) ((rp ft s x).bind fun d=>need (shp E.G deep ft d.b&&(!jB bs && !dT d.b) && !lP bs) ((nS rs bs.tail).bind fun ds=>.ret (d::ds)))
  | _,_=>.fail
def pO(np s:Nat)(x:Slot E.Z.G):IoK→Bool
 | .box=>x.box&&Nat.blt s (16*np)
 | .reg=>!x.box&&Nat.blt s (16*np)
 | .orig i=>x.box&&oV x.orig (some i)
def si:List (Nat×IoK)→ME E (List (DV E.G.T))
 | []=>.ret []
 | (s,k)::l=>.getS s fun x=>match x.cont with
  | .data d=>need (pO fn.np s x k) (.setS s { x with gen:=x.gen+1,cont:=.dead } ((si l).bind fun ds=>.ret (d::ds)))
  | _=>.fail
end
def mg{E:Env}:Nat→List Mode→ME E Unit
 | i,.ref _ _ _ _::ms=>.getP (wT (16*i)) fun q=>(match q with
  | .wrd s0 gs s' g'=>.getS (16*i) fun y=>.getS s' fun y'=>need (Nat.beq s0 (16*i)&&(Nat.beq s' (16*i+1)&&(Nat.beq gs y.gen&&(y.box&&Nat.ble y'.born g')))) (mg (i+1) ms)
  | _=>.fail)
 | i,_::ms=>mg (i+1) ms
 | _,[]=>.ret ()
def gg(i:Nat):Nat→List BT→List Form
 | _,[]=>[]
 | j,b::bs=>.slot (16*i+j) b true none::gg i (j+1) bs
def pJ(i:Nat):Nat→List BT→List Nat
 | _,[]=>[]
 | j,_::bs=>(16*i+j)::pJ i (j+1) bs
def dE:Nat→List Mode→List Form
 | _,[]=>[]
 | i,.val b::ms=>.val i b::dE (i+1) ms
 | i,.own b::ms=>.own i (16*i) b::dE (i+1) ms
 | i,.io b::ms=>.own i (16*i) b::dE (i+1) ms
 | i,.ptr b _::ms=>.ptr i (16*i) :: .slot (16*i) b true none::dE (i+1) ms
 | i,.clo f bs::ms=>.clo i f (pJ i 0 bs)::(gg i 0 bs++dE (i+1) ms)
 | i,.ref b _ b' _::ms=>.ptr i (16*i) :: .wrd (16*i) (16*i+1) :: .slot (16*i) b true none :: .slot (16*i+1) b' true none::dE (i+1) ms
section
variable (T:Tab) (F:cr T.Z) (e:Nat)
abbrev Tab.Out:Type:=Option (Bs T.G.T (eR (T.ent e)))
abbrev Tab.Co:Type:=St T.G→T.Out e
def Tab.toKey(κ:Nat):T.Co e:=fun σ =>
 (mq (E:=T.E) (T.ent e).f (T.key κ).forms).go F σ fun ds _ =>
  match fv T.E (T.Z.inp κ) ds with
  | some x=>if h:(T.key κ).ent=e then cast (by show Option (Bs T.G.T (eR (T.ent (T.key κ).ent)))=_;rw[h]) (F κ x)else none
  | none=>none
def Tab.join(p:Nat)(k:T.Co e):T.Co e :=
 match iV (T.ent e).joins p with
 | some κ=>T.toKey F e κ
 | none=>k
def Tab.retC:T.Co e:=fun σ =>
 (mg (E:=T.E) 0 (T.ent e).modes).go F σ fun _ σ=>(nS (E:=T.E) (T.ent e).results (T.ent e).res).go F σ fun ds σ=>(si (E:=T.E) (T.ent e).f (T.ent e).ios).go F σ fun ds' _ =>
  fv T.E (eR (T.ent e)) (ds++ds')
def ik{α:Type}:List (Nat×α)→Nat→Option α
 | [],_=>none
 | (i,k)::l,x=>bif Nat.beq i x then some k else ik l x
noncomputable def evC:Code→Nat→List (Nat×T.Co e)→T.Co e→T.Co e
 | .skip,_,_,k=>k
 | .region _ ops false,_,_,k=>fun σ=>fX (E:=T.E) (T.ent e).f F ops ops.toList σ k
 | .region _ ops true,_,_,k=>fun σ=>ej (E:=T.E) (T.ent e).f F ops ops.toList σ [] fun σ L=>bif jv 0 ops.toList&&ordered (Region.before ops) L then k σ else none
 | .seq a b,p,c,k=>evC a (2*p) c (T.join F e (2*p+1) (evC b (2*p+1) c k))
 | .cond x a b,p,c,k=>fun σ=>(opd (E:=T.E) x).go F σ fun q σ=>match asB q with
  | some t=>if t=true then evC a (2*p) c k σ else evC b (2*p+1) c k σ
  | none=>bif wZ q then amb (evC a (2*p) c k σ) (evC b (2*p+1) c k σ)else none
 | .block i a,p,c,k=>evC a (2*p) ((i,k)::c) k
 | .loop _,p,_,_=>T.join F e p fun _=>none
 | .exit i,_,c,_=>match ik c i with
  | some k=>k
  | none=>fun _=>none
 | .ret,_,_,_=>T.retC F e
 | _,_,_,_=>fun _=>none
noncomputable def il:Code→List Bool→Nat→List (Nat×T.Co e)→T.Co e→T.Co e
 | .seq a b,false::ds,p,c,k=>il a ds (2*p) c (T.join F e (2*p+1) (evC T F e b (2*p+1) c k))
 | .seq _ b,true::ds,p,c,k=>il b ds (2*p+1) c k
 | .cond _ a _,false::ds,p,c,k=>il a ds (2*p) c k
 | .cond _ _ b,true::ds,p,c,k=>il b ds (2*p+1) c k
 | .block i a,_::ds,p,c,k=>il a ds (2*p) ((i,k)::c) k
 | .loop a,_::ds,p,c,k=>il a ds (2*p) c (T.join F e p fun _=>none)
 | .loop a,[],p,c,k=>evC T F e a (2*p) c (T.join F e p fun _=>none)
 | a,[],p,c,k=>evC T F e a p c k
 | _,_,_,_,_=>fun _=>none
end
noncomputable def Tab.run(T:Tab):Nat→cr T.Z
 | 0=>fun _ _=>none
 | n+1=>fun κ x=>bif (T.ent (T.key κ).ent).ex then T.ext κ x else il T (T.run n) (T.key κ).ent (T.ent (T.key κ).ent).code (T.key κ).dirs 1 [] (T.retC (T.run n) (T.key κ).ent) (cV (T.key κ).forms x)
end
section
section lists
variable {α β:Type}
def RepL(R:α→List Value→List Nat→Prop):List α→List Value→List Nat→Prop
 | [],cs,F=>cs=[]∧F=[]
 | x::xs,cs,F=>∃ c1 c2 F1 F2,cs=c1++c2∧F=F1++F2∧R x c1 F1∧RepL R xs c2 F2
def RepFs{T:Nat→Type}(R:(t:FT)→J T t→List Value→List Nat→Prop):(ts:List FT)→Js T ts→List Value→List Nat→Prop
 | [],_,cs,F=>cs=[]∧F=[]
 | t::ts,x,cs,F=>∃ c1 c2 F1 F2,cs=c1++c2∧F=F1++F2∧R t x.1 c1 F1∧RepFs R ts x.2 c2 F2
theorem RepL.mono{R R':α→List Value→List Nat→Prop}:∀ (xs:List α) (cs:List Value) (F:List Nat),(∀ x∈xs,∀ c G,(∀ b∈G,b∈F)→R x c G→R' x c G)→RepL R xs cs F→RepL R' xs cs F
 | [],cs,F,_,h=>h
 | x::xs,cs,F,hr,⟨c1,c2,F1,F2,h1,h2,h3,h4⟩ =>
  ⟨c1,c2,F1,F2,h1,h2,hr x (by simp) _ _ (fun b hb=>by rw[h2];exact ax _ hb) h3,
   RepL.mono xs c2 F2 (fun y hy c G hG=>hr y (by simp[hy]) c G fun b hb=>by rw[h2];exact ay _ (hG b hb)) h4⟩
theorem RepFs.mono{T:Nat→Type}{R R':(t:FT)→J T t→List Value→List Nat→Prop}:∀ (ts:List FT) (x:Js T ts) (cs:List Value) (F:List Nat),
  (∀ t∈ts,∀ y c G,(∀ b∈G,b∈F)→R t y c G→R' t y c G)→RepFs R ts x cs F→RepFs R' ts x cs F
 | [],x,cs,F,_,h=>h
 | t::ts,x,cs,F,hr,⟨c1,c2,F1,F2,h1,h2,h3,h4⟩ =>
  ⟨c1,c2,F1,F2,h1,h2,hr t (by simp) _ _ _ (fun b hb=>by rw[h2];exact ax _ hb) h3,
   RepFs.mono ts x.2 c2 F2 (fun y hy z c G hG=>hr y (by simp[hy]) z c G fun b hb=>by rw[h2];exact ay _ (hG b hb)) h4⟩
theorem RepL.len{R:α→List Value→List Nat→Prop}{n:Nat}:∀ (xs:List α) (cs:List Value) (F:List Nat),(∀ x∈xs,∀ c G,R x c G→c.length=n)→RepL R xs cs F→cs.length=xs.length*n
 | [],cs,F,_,h=>by rw[h.1];simp
 | x::xs,cs,F,hr,⟨c1,c2,F1,F2,h1,h2,h3,h4⟩=>by
  rw[h1,List.length_append,hr x (by simp) _ _ h3,RepL.len xs c2 F2 (fun y hy=>hr y (by simp[hy])) h4,aW,Nat.add_mul];omega
theorem RepL.app{R:α→List Value→List Nat→Prop}:∀ (xs ys:List α) (cs ds:List Value) (F G:List Nat),RepL R xs cs F→RepL R ys ds G→RepL R (xs++ys) (cs++ds) (F++G)
 | [],ys,cs,ds,F,G,h,h'=>by rw[h.1,h.2];exact h'
 | x::xs,ys,cs,ds,F,G,⟨c1,c2,F1,F2,h1,h2,h3,h4⟩,h' =>
  ⟨c1,c2++ds,F1,F2++G,by rw[h1,List.append_assoc],by rw[h2,List.append_assoc],h3,RepL.app xs ys c2 ds F2 G h4 h'⟩
theorem RepL.at{R:α→List Value→List Nat→Prop}{n:Nat}:∀ (xs:List α) (i:Nat) (cs:List Value) (F:List Nat) (hi:i<xs.length),(∀ x∈xs,∀ c G,R x c G→c.length=n)→RepL R xs cs F →
  ∃ ca cb cc Fa Fb Fc,cs=ca++cb++cc∧F=Fa++Fb++Fc∧ca.length=i*n∧cb.length=n∧R xs[i] cb Fb∧RepL R (xs.take i) ca Fa∧RepL R (xs.drop (i+1)) cc Fc
 | x::xs,0,cs,F,hi,hr,⟨c1,c2,F1,F2,h1,h2,h3,h4⟩ =>
  ⟨[],c1,c2,[],F1,F2,by simp[h1],by simp[h2],by simp,hr x (by simp) _ _ h3,h3,⟨rfl,rfl⟩,h4⟩
 | x::xs,i+1,cs,F,hi,hr,⟨c1,c2,F1,F2,h1,h2,h3,h4⟩=>by
  obtain⟨ca,cb,cc,Fa,Fb,Fc,e1,e2,e3,e4,e5,e6,e7⟩:=RepL.at xs i c2 F2 (by simpa using hi) (fun y hy=>hr y (by simp[hy])) h4
  refine⟨c1++ca,cb,cc,F1++Fa,Fb,Fc,by rw[h1,e1];simp,by rw[h2,e2];simp,?_,e4,e5,⟨c1,ca,F1,Fa,rfl,rfl,h3,e6⟩,e7⟩
  rw[List.length_append,hr x (by simp) _ _ h3,e3,Nat.add_mul];omega
end lists
def EmptyS(o:Bool)(cs:List Value):Prop:=∃ base cap,cs=[.slice base 0 cap]∧(base=none→cap=0)∧(o=true→base=none)
theorem lM(o:Bool):EmptyS o [.slice none 0 0]:=⟨none,0,rfl,fun _=>rfl,fun _=>rfl⟩
theorem EmptyS.nil{cs:List Value}(h:EmptyS true cs):cs=[.slice none 0 0]:=by
 obtain⟨base,cap,rfl,h1,h2⟩:=h
 have:=h2 rfl
 subst this
 rw[h1 rfl]
theorem EmptyS.share{o:Bool}{cs:List Value}(h:EmptyS o cs):EmptyS false cs:=by
 obtain⟨base,cap,e,h1,h2⟩:=h
 exact⟨base,cap,e,h1,fun h=>by cases h⟩
def jo(fz:Nat×Nat)(n:Nat):Prop:=fz=(0,0)∨n≤fz.1
def oR(e:FT)(fz:Nat×Nat)(n:Nat):Prop:=jo fz n∧(e ≠ .int .u8→fz=(0,0))
section
variable {G:Gam} (S:Nat→Prop) (w:World)
def Rep:Nat→Bool→(t:FT)→J G.T t→List Value→List Nat→Prop
 | 0,_,_,_,_,_=>False
 | d+1,o,t,x,cs,F=>match t,x with
  | .int k,n=>cs=[.int k n]∧k.wrap n=n∧F=[]
  | .bool,b=>cs=[.bool b]∧F=[]
  | .str,l=>∃ s:ByteArray,cs=[.string s]∧l=ct s∧F=[]∧s.size≤9223372036854775807
  | .ptr,_=>∃ a,cs=[.pointer a]∧F=[]
  | .sl e,l=>(EmptyS o cs∧l=([]:List (J G.T e))∧F=[]) ∨
    ∃ b off cap c E fz F',cs=[.slice (some ⟨b,off,none⟩) (List.length (α:=J G.T e) l) cap]∧List.length (α:=J G.T e) l≤cap∧w.heap[b]? = some (.cells c E fz) ∧
     RepL (Rep d o e) l ((c.toList.drop off).take (List.length (α:=J G.T e) l*e.sz G.sz)) F' ∧
     (if o=true then off=0∧oR e fz c.size∧c.size=cap*e.sz G.sz∧cap≤9223372036854775807∧F=b::F' else S b∧F=[]∧off+List.length (α:=J G.T e) l*e.sz G.sz≤c.size∧List.length (α:=J G.T e) l≤9223372036854775807)
  | .nm n,x=>RepFs (fun t y=>Rep d o t y) (G.fs n) (G.un n x) cs F
theorem Rep.step{S:Nat→Prop}{w:World}:∀ (d:Nat) (o:Bool) (t:FT) (x:J G.T t) (cs:List Value) (F:List Nat),Rep S w d o t x cs F→Rep S w (d+1) o t x cs F:=by
 intro d
 induction d with
 | zero=>intro o t x cs F h;exact h.elim
 | succ d ih =>
  intro o t x cs F h
  cases t with
  | int k=>exact h
  | bool=>exact h
  | str=>exact h
  | ptr=>exact h
  | sl e =>
   rcases h with h | ⟨b,off,cap,c,E,fz,F',h1,h2,h3,h4,h5⟩
   ·exact .inl h
   ·exact .inr ⟨b,off,cap,c,E,fz,F',h1,h2,h3,RepL.mono _ _ _ (fun x _ c G _ h=>ih o e x c G h) h4,h5⟩
  | nm n=>exact RepFs.mono _ _ _ _ (fun t _ y c G _ h=>ih o t y c G h) h
theorem Rep.le{S:Nat→Prop}{w:World}{d d':Nat}(hd:d≤d'){o:Bool}{t:FT}{x:J G.T t}{cs:List Value}{F:List Nat}(h:Rep S w d o t x cs F):Rep S w d' o t x cs F:=by
 induction hd with
 | refl=>exact h
 | step _ ih=>exact Rep.step _ _ _ _ _ _ ih
def RepE(o:Bool)(t:FT)(x:J G.T t)(cs:List Value)(F:List Nat):Prop:=∃ d,Rep S w d o t x cs F
def RepB:(b:BT)→B G.T b→List Value→List Nat→Prop
 | .leaf o t,x,cs,F=>RepE S w o t x cs F
 | .un,_,cs,F=>cs=[]∧F=[]
 | .pr a b,x,cs,F=>∃ c1 c2 F1 F2,cs=c1++c2∧F=F1++F2∧RepB a x.1 c1 F1∧RepB b x.2 c2 F2
 | .hole n,_,cs,F=>cs.length=n∧F=[]
 | .sp e,l,cs,F=>(cs=[.slice none 0 0]∧l=([]:List (J G.T e))∧F=[]) ∨
   ∃ b cap c E fz,cs=[.slice (some ⟨b,0,none⟩) (List.length (α:=J G.T e) l) cap]∧List.length (α:=J G.T e) l≤cap∧w.heap[b]? = some (.cells c E fz) ∧
    RepL (RepE S w false e) l (c.toList.take (List.length (α:=J G.T e) l*e.sz G.sz)) []∧oR e fz c.size∧c.size=cap*e.sz G.sz∧cap≤9223372036854775807∧F=[b]
 | .fn h,_,cs,F=>cs=[.func (.func h) #[] #[]]∧F=[]
end
section
variable {G:Gam} {S:Nat→Prop} {w:World}
theorem Jp{α:Type}{R:Nat→α→List Value→List Nat→Prop}(hmono:∀ d d',d≤d'→∀ x c G,R d x c G→R d' x c G) :
  ∀ (xs:List α) (cs:List Value) (F:List Nat),RepL (fun x c G=>∃ d,R d x c G) xs cs F→∃ d,RepL (R d) xs cs F
 | [],cs,F,h=>⟨0,h⟩
 | x::xs,cs,F,⟨c1,c2,F1,F2,h1,h2,⟨d,h3⟩,h4⟩=>by
  obtain⟨d',h5⟩:=Jp hmono xs c2 F2 h4
  exact⟨max d d',c1,c2,F1,F2,h1,h2,hmono _ _ (Nat.le_max_left ..) _ _ _ h3,RepL.mono _ _ _ (fun x _ c G _ h=>hmono _ _ (Nat.le_max_right ..) _ _ _ h) h5⟩
theorem Jn{T:Nat→Type}{R:Nat→(t:FT)→J T t→List Value→List Nat→Prop}(hmono:∀ d d',d≤d'→∀ t x c G,R d t x c G→R d' t x c G) :
  ∀ (ts:List FT) (x:Js T ts) (cs:List Value) (F:List Nat),RepFs (fun t x c G=>∃ d,R d t x c G) ts x cs F→∃ d,RepFs (R d) ts x cs F
 | [],x,cs,F,h=>⟨0,h⟩
 | t::ts,x,cs,F,⟨c1,c2,F1,F2,h1,h2,⟨d,h3⟩,h4⟩=>by
  obtain⟨d',h5⟩:=Jn hmono ts x.2 c2 F2 h4
  exact⟨max d d',c1,c2,F1,F2,h1,h2,hmono _ _ (Nat.le_max_left ..) _ _ _ _ h3,RepFs.mono _ _ _ _ (fun t _ x c G _ h=>hmono _ _ (Nat.le_max_right ..) _ _ _ _ h) h5⟩
theorem repE_int{o:Bool}{k:IntKind}{n:J G.T (.int k)}{cs:List Value}{F:List Nat}:RepE (G:=G) S w o (.int k) n cs F↔cs=[.int k n]∧k.wrap n=n∧F=[] :=
 ⟨fun⟨d,h⟩=>by cases d with | zero=>exact h.elim | succ d=>exact h,fun h=>⟨1,h⟩⟩
theorem repE_bool{o:Bool}{b:J G.T .bool}{cs:List Value}{F:List Nat}:RepE (G:=G) S w o .bool b cs F↔cs=[.bool b]∧F=[] :=
 ⟨fun⟨d,h⟩=>by cases d with | zero=>exact h.elim | succ d=>exact h,fun h=>⟨1,h⟩⟩
theorem repE_str{o:Bool}{l:J G.T .str}{cs:List Value}{F:List Nat}:RepE (G:=G) S w o .str l cs F ↔ ∃ s:ByteArray,cs=[.string s]∧l=ct s∧F=[]∧s.size≤9223372036854775807 :=
 ⟨fun⟨d,h⟩=>by cases d with | zero=>exact h.elim | succ d=>exact h,fun h=>⟨1,h⟩⟩
theorem repE_nm{o:Bool}{n:Nat}{x:J G.T (.nm n)}{cs:List Value}{F:List Nat}:RepE (G:=G) S w o (.nm n) x cs F↔RepFs (fun t y=>RepE S w o t y) (G.fs n) (G.un n x) cs F:=by
 constructor
 ·rintro ⟨d,h⟩
  cases d with
  | zero=>exact h.elim
  | succ d=>exact RepFs.mono _ _ _ _ (fun t _ y c G _ h=>⟨d,h⟩) h
 ·intro h
  obtain⟨d,h⟩:=Jn (R:=fun d t y=>Rep S w d o t y) (fun d d' hd t x c G h=>h.le hd) _ _ _ _ h
  exact⟨d+1,h⟩
theorem repE_ptr{o:Bool}{x:J G.T .ptr}{cs:List Value}{F:List Nat}:RepE (G:=G) S w o .ptr x cs F ↔ ∃ a,cs=[.pointer a]∧F=[]:=by
 constructor
 ·rintro ⟨d,h⟩
  cases d with
  | zero=>exact h.elim
  | succ d=>exact h
 ·intro h;exact⟨1,h⟩
theorem repE_sl{o:Bool}{e:FT}{l:List (J G.T e)}{cs:List Value}{F:List Nat}:RepE (G:=G) S w o (.sl e) l cs F ↔
  (EmptyS o cs∧l=[]∧F=[]) ∨
    ∃ b off cap c E fz F',cs=[.slice (some ⟨b,off,none⟩) l.length cap]∧l.length≤cap∧w.heap[b]? = some (.cells c E fz) ∧
     RepL (RepE S w o e) l ((c.toList.drop off).take (l.length*e.sz G.sz)) F' ∧
     (if o=true then off=0∧oR e fz c.size∧c.size=cap*e.sz G.sz∧cap≤9223372036854775807∧F=b::F' else S b∧F=[]∧off+l.length*e.sz G.sz≤c.size∧l.length≤9223372036854775807):=by
 constructor
 ·rintro ⟨d,h⟩
  cases d with
  | zero=>exact h.elim
  | succ d =>
   rcases h with h | ⟨b,off,cap,c,E,fz,F',h1,h2,h3,h4,h5⟩
   ·exact .inl h
   ·exact .inr ⟨b,off,cap,c,E,fz,F',h1,h2,h3,RepL.mono _ _ _ (fun x _ c G _ h=>⟨d,h⟩) h4,h5⟩
 ·rintro (h | ⟨b,off,cap,c,E,fz,F',h1,h2,h3,h4,h5⟩)
  ·exact⟨1,.inl h⟩
  ·obtain⟨d,h⟩:=Jp (R:=fun d x=>Rep S w d o e x) (fun d d' hd x c G h=>h.le hd) _ _ _ h4
   exact⟨d+1,.inr ⟨b,off,cap,c,E,fz,F',h1,h2,h3,h,h5⟩⟩
theorem repE_slT{e:FT}{l:List (J G.T e)}{cs:List Value}{F:List Nat}:RepE (G:=G) S w true (.sl e) l cs F ↔
  (cs=[.slice none 0 0]∧l=[]∧F=[]) ∨
    ∃ b off cap c E fz F',cs=[.slice (some ⟨b,off,none⟩) l.length cap]∧l.length≤cap∧w.heap[b]? = some (.cells c E fz) ∧
     RepL (RepE S w true e) l ((c.toList.drop off).take (l.length*e.sz G.sz)) F' ∧
     (if true=true then off=0∧oR e fz c.size∧c.size=cap*e.sz G.sz∧cap≤9223372036854775807∧F=b::F' else S b∧F=[]∧off+l.length*e.sz G.sz≤c.size∧l.length≤9223372036854775807) :=
 repE_sl.trans ⟨fun h=>h.imp (fun h=>⟨h.1.nil,h.2⟩) id,fun h=>h.imp (fun h=>⟨by rw[h.1];exact lM _,h.2⟩) id⟩
theorem Rep.len:∀ (d:Nat) (o:Bool) (t:FT) (x:J G.T t) (cs:List Value) (F:List Nat),Rep S w d o t x cs F→cs.length=t.sz G.sz:=by
 intro d
 induction d with
 | zero=>intro o t x cs F h;exact h.elim
 | succ d ih =>
  intro o t x cs F h
  cases t with
  | int k=>rw[h.1];rfl
  | bool=>rw[h.1];rfl
  | str=>obtain⟨s,h,_⟩:=h;rw[h];rfl
  | ptr=>obtain⟨s,h,_⟩:=h;rw[h];rfl
  | sl e =>
   rcases h with ⟨⟨base,cap,h1,_⟩,_⟩ | ⟨b,off,cap,c,E,fz,F',h1,_⟩
   ·rw[h1];rfl
   ·rw[h1];rfl
  | nm n =>
   have key:∀ (ts:List FT) (y:Js G.T ts) (cs:List Value) (F:List Nat),RepFs (fun t y=>Rep S w d o t y) ts y cs F→cs.length=FT.szs G.sz ts:=by
    intro ts
    induction ts with
    | nil=>intro y cs F h;rw[h.1];rfl
    | cons t ts ih' =>
     rintro y cs F ⟨c1,c2,F1,F2,rfl,_,h3,h4⟩
     rw[List.length_append,ih _ _ _ _ _ h3,ih' _ _ _ h4];rfl
   rw[key _ _ _ _ h];exact(G.sz_eq n).symm
theorem RepE.len{o:Bool}{t:FT}{x:J G.T t}{cs:List Value}{F:List Nat}(h:RepE (G:=G) S w o t x cs F):cs.length=t.sz G.sz:=by
 obtain⟨d,h⟩:=h;exact Rep.len d o t x cs F h
theorem RepB.len:∀ {b:BT} {x:B G.T b} {cs:List Value} {F:List Nat},RepB (G:=G) S w b x cs F→cs.length=b.sz G
 | .leaf o t,x,cs,F,h=>RepE.len h
 | .un,x,cs,F,h=>by rw[h.1];rfl
 | .pr a b,x,cs,F,⟨c1,c2,F1,F2,h1,h2,h3,h4⟩=>by rw[h1,List.length_append,RepB.len h3,RepB.len h4];rfl
 | .hole n,x,cs,F,h=>h.1
 | .sp e,x,cs,F,h=>by rcases h with ⟨h,_⟩ | ⟨b,cap,c,E,fz,h,_⟩ <;> rw[h] <;> rfl
 | .fn h',x,cs,F,h=>by rw[h.1];rfl
theorem Rep.shared:∀ (d:Nat) (t:FT) (x:J G.T t) (cs:List Value) (F:List Nat),Rep S w d false t x cs F→F=[]:=by
 intro d
 induction d with
 | zero=>intro t x cs F h;exact h.elim
 | succ d ih =>
  intro t x cs F h
  cases t with
  | int k=>exact h.2.2
  | bool=>exact h.2
  | str=>obtain⟨s,_,_,h⟩:=h;exact h.1
  | ptr=>obtain⟨s,_,h⟩:=h;exact h
  | sl e=>rcases h with h | ⟨b,off,cap,c,E,fz,F',h1,h2,h3,h4,h5⟩
          ·exact h.2.2
          ·rw[bz (by decide)]at h5;exact h5.2.1
  | nm n =>
   have key:∀ (ts:List FT) (y:Js G.T ts) (cs:List Value) (F:List Nat),RepFs (fun t y=>Rep S w d false t y) ts y cs F→F=[]:=by
    intro ts
    induction ts with
    | nil=>intro y cs F h;exact h.2
    | cons t ts ih' =>
     rintro y cs F ⟨c1,c2,F1,F2,_,rfl,h3,h4⟩
     rw[ih _ _ _ _ h3,ih' _ _ _ h4];rfl
   exact key _ _ _ _ h
theorem RepE.shared{t:FT}{x:J G.T t}{cs:List Value}{F:List Nat}(h:RepE (G:=G) S w false t x cs F):F=[]:=by
 obtain⟨d,h⟩:=h;exact Rep.shared d t x cs F h
theorem Rep.flat:∀ (d:Nat) (o o':Bool) (t:FT) (x:J G.T t) (cs:List Value) (F:List Nat) (S':Nat→Prop) (w':World),t.flat G.flat=true→Rep S w d o t x cs F→F=[]∧Rep S' w' d o' t x cs []:=by
 intro d
 induction d with
 | zero=>intro o o' t x cs F S' w' hf h;exact h.elim
 | succ d ih =>
  intro o o' t x cs F S' w' hf h
  cases t with
  | int k=>exact⟨h.2.2,h.1,h.2.1,rfl⟩
  | bool=>exact⟨h.2,h.1,rfl⟩
  | str=>obtain⟨s,h1,h2,h3⟩:=h;exact⟨h3.1,s,h1,h2,rfl,h3.2⟩
  | ptr=>obtain⟨s,h1,h2⟩:=h;exact⟨h2,s,h1,rfl⟩
  | sl e=>cases hf
  | nm n =>
   have key:∀ (ts:List FT) (y:Js G.T ts) (cs:List Value) (F:List Nat),FT.flats G.flat ts=true→RepFs (fun t y=>Rep S w d o t y) ts y cs F→F=[]∧RepFs (fun t y=>Rep S' w' d o' t y) ts y cs []:=by
    intro ts
    induction ts with
    | nil=>intro y cs F _ h;exact⟨h.2,h.1,rfl⟩
    | cons t ts ih' =>
     rintro y cs F hf ⟨c1,c2,F1,F2,rfl,rfl,h3,h4⟩
     simp only[FT.flats,aD]at hf
     obtain⟨e1,h5⟩:=ih o o' _ _ _ _ S' w' hf.1 h3
     obtain⟨e2,h6⟩:=ih' _ _ _ hf.2 h4
     exact⟨by rw[e1,e2];rfl,c1,c2,[],[],rfl,rfl,h5,h6⟩
   exact key _ _ _ _ (G.flat_eq n hf) h
theorem RepE.flat{o:Bool}{t:FT}{x:J G.T t}{cs:List Value}{F:List Nat}(hf:t.flat G.flat=true)(h:RepE (G:=G) S w o t x cs F)(o':Bool)(S':Nat→Prop)(w':World):F=[]∧RepE S' w' o' t x cs []:=by
 obtain⟨d,h⟩:=h
 obtain⟨h1,h2⟩:=Rep.flat d o o' t x cs F S' w' hf h
 exact⟨h1,d,h2⟩
theorem RepB.cp:∀ {b:BT} {x:B G.T b} {cs:List Value} {F:List Nat},b.cp G=true→RepB (G:=G) S w b x cs F→F=[]
 | .leaf o t,x,cs,F,hc,h=>by
  simp only[BT.cp,aY,Bool.not_eq_true']at hc
  rcases hc with rfl | hf
  ·exact RepE.shared h
  ·exact(RepE.flat hf h o S w).1
 | .un,x,cs,F,_,h=>h.2
 | .pr a b,x,cs,F,hc,⟨c1,c2,F1,F2,h1,h2,h3,h4⟩=>by
  simp only[BT.cp,aD]at hc
  rw[h2,RepB.cp hc.1 h3,RepB.cp hc.2 h4];rfl
 | .hole n,x,cs,F,hc,h=>h.2
 | .sp e,x,cs,F,hc,h=>by cases hc
 | .fn h',x,cs,F,hc,h=>h.2
theorem Rep.frame{S':Nat→Prop}{w':World}:∀ (d:Nat) (o:Bool) (t:FT) (x:J G.T t) (cs:List Value) (F:List Nat),Rep S w d o t x cs F →
  (∀ b,S b→S' b∧w'.heap[b]? = w.heap[b]?)→(∀ b∈F,w'.heap[b]? = w.heap[b]?)→Rep S' w' d o t x cs F:=by
 intro d
 induction d with
 | zero=>intro o t x cs F h;exact h.elim
 | succ d ih =>
  intro o t x cs F h hS hF
  cases t with
  | int k=>exact h
  | bool=>exact h
  | str=>exact h
  | ptr=>exact h
  | sl e =>
   rcases h with h | ⟨b,off,cap,c,E,fz,F',h1,h2,h3,h4,h5⟩
   ·exact .inl h
   ·have hsub:∀ y∈F',w'.heap[y]? = w.heap[y]?:=by
     intro y hy
     cases o with
     | true=>rw[bw rfl]at h5;exact hF y (by rw[h5.2.2.2.2];exact aI _ hy)
     | false =>
      have key:∀ (xs:List (J G.T e)) (cs:List Value) (F:List Nat),RepL (Rep S w d false e) xs cs F→F=[]:=by
       intro xs
       induction xs with
       | nil=>intro cs F h;exact h.2
       | cons x xs ih' =>
        rintro cs F ⟨c1,c2,F1,F2,_,rfl,h3,h4⟩
        rw[Rep.shared _ _ _ _ _ h3,ih' _ _ h4];rfl
      rw[key _ _ _ h4]at hy;cases hy
    refine .inr ⟨b,off,cap,c,E,fz,F',h1,h2,?_,RepL.mono _ _ _ (fun x _ c G hG h=>ih o e x c G h hS fun y hy=>hsub y (hG y hy)) h4,?_⟩
    ·cases o with
     | true=>rw[bw rfl]at h5;rw[hF b (by rw[h5.2.2.2.2];exact aH ..)];exact h3
     | false=>rw[bz (by decide)]at h5;rw[(hS b h5.1).2];exact h3
    ·cases o with
     | true=>exact h5
     | false=>rw[bz (by decide)]at h5 ⊢;exact⟨(hS b h5.1).1,h5.2⟩
  | nm n=>exact RepFs.mono _ _ _ _ (fun t _ y c G hG h=>ih o t y c G h hS fun b hb=>hF b (hG b hb)) h
theorem RepE.frame{S':Nat→Prop}{w':World}{o:Bool}{t:FT}{x:J G.T t}{cs:List Value}{F:List Nat}(h:RepE (G:=G) S w o t x cs F)
  (hS:∀ b,S b→S' b∧w'.heap[b]? = w.heap[b]?) (hF:∀ b∈F,w'.heap[b]? = w.heap[b]?):RepE S' w' o t x cs F:=by
 obtain⟨d,h⟩:=h;exact⟨d,Rep.frame d o t x cs F h hS hF⟩
theorem RepB.frame{S':Nat→Prop}{w':World}(hS:∀ b,S b→S' b∧w'.heap[b]? = w.heap[b]?):∀ {b:BT} {x:B G.T b} {cs:List Value} {F:List Nat},RepB (G:=G) S w b x cs F →
  (∀ b∈F,w'.heap[b]? = w.heap[b]?)→RepB S' w' b x cs F
 | .leaf o t,x,cs,F,h,hF=>RepE.frame h hS hF
 | .un,x,cs,F,h,hF=>h
 | .pr a b,x,cs,F,⟨c1,c2,F1,F2,h1,h2,h3,h4⟩,hF =>
  ⟨c1,c2,F1,F2,h1,h2,RepB.frame hS h3 fun b hb=>hF b (by rw[h2];exact ax _ hb),RepB.frame hS h4 fun b hb=>hF b (by rw[h2];exact ay _ hb)⟩
 | .hole n,x,cs,F,h,hF=>h
 | .fn h',x,cs,F,h,hF=>h
 | .sp e,x,cs,F,h,hF=>by
  rcases h with h | ⟨b,cap,c,E,fz,h1,h2,h3,h4,h5,h6,h7,h8⟩
  ·exact .inl h
  ·exact .inr ⟨b,cap,c,E,fz,h1,h2,by rw[hF b (by rw[h8];exact aN.2 rfl)];exact h3,RepL.mono _ _ _ (fun x _ c G hG h=>RepE.frame h hS fun y hy=>by cases hG y hy) h4,h5,h6,h7,h8⟩
theorem Rep.freeze:∀ (d:Nat) (o:Bool) (t:FT) (x:J G.T t) (cs:List Value) (F:List Nat) (S':Nat→Prop),Rep S w d o t x cs F→(∀ b,S b→S' b)→(∀ b∈F,S' b)→Rep S' w d false t x cs []:=by
 intro d
 induction d with
 | zero=>intro o t x cs F S' h;exact h.elim
 | succ d ih =>
  intro o t x cs F S' h hS hF
  cases t with
  | int k=>exact⟨h.1,h.2.1,rfl⟩
  | bool=>exact⟨h.1,rfl⟩
  | str=>obtain⟨s,h1,h2,h3⟩:=h;exact⟨s,h1,h2,rfl,h3.2⟩
  | ptr=>obtain⟨s,h1,h2⟩:=h;exact⟨s,h1,rfl⟩
  | sl e =>
   rcases h with h | ⟨b,off,cap,c,E,fz,F',h1,h2,h3,h4,h5⟩
   ·exact .inl ⟨h.1.share,h.2.1,rfl⟩
   ·have key:∀ (xs:List (J G.T e)) (cs:List Value) (F:List Nat),RepL (Rep S w d o e) xs cs F→(∀ b∈F,S' b)→RepL (Rep S' w d false e) xs cs []:=by
     intro xs
     induction xs with
     | nil=>intro cs F h _;exact⟨h.1,rfl⟩
     | cons x xs ih' =>
      rintro cs F ⟨c1,c2,F1,F2,e1,e2,h3,h4⟩ hF
      exact⟨c1,c2,[],[],e1,rfl,ih _ _ _ _ _ _ h3 hS fun b hb=>hF b (by rw[e2];exact ax _ hb),ih' _ _ h4 fun b hb=>hF b (by rw[e2];exact ay _ hb)⟩
    have hlen:=RepL.len (n:=e.sz G.sz) _ _ _ (fun x _ c G h=>Rep.len d o e x c G h) h4
    cases o with
    | true =>
     rw[bw rfl]at h5
     obtain⟨rfl,_,hsz,hcap,rfl⟩:=h5
     refine .inr ⟨b,0,cap,c,E,fz,[],h1,h2,h3,key _ _ _ h4 (fun y hy=>hF y (aI _ hy)),?_⟩
     rw[bz (by decide)]
     refine⟨hF b (aH ..),rfl,?_,Nat.le_trans h2 hcap⟩
     rw[hsz,Nat.zero_add];exact aM _ h2
    | false =>
     rw[bz (by decide)]at h5
     have key2:∀ (xs:List (J G.T e)) (cs:List Value) (F:List Nat),RepL (Rep S w d false e) xs cs F→F=[]:=by
       intro xs
       induction xs with
       | nil=>intro cs F h;exact h.2
       | cons x xs ih' =>
        rintro cs F ⟨c1,c2,F1,F2,_,rfl,h3,h4⟩
        rw[Rep.shared _ _ _ _ _ h3,ih' _ _ h4];rfl
     have e0:=key2 _ _ _ h4
     refine .inr ⟨b,off,cap,c,E,fz,[],h1,h2,h3,key _ _ _ h4 (fun y hy=>by rw[e0]at hy;cases hy),?_⟩
     rw[bz (by decide)]
     exact⟨hS b h5.1,rfl,h5.2.2⟩
  | nm n =>
   have key:∀ (ts:List FT) (y:Js G.T ts) (cs:List Value) (F:List Nat),RepFs (fun t y=>Rep S w d o t y) ts y cs F→(∀ b∈F,S' b)→RepFs (fun t y=>Rep S' w d false t y) ts y cs []:=by
    intro ts
    induction ts with
    | nil=>intro y cs F h _;exact⟨h.1,rfl⟩
    | cons t ts ih' =>
     rintro y cs F ⟨c1,c2,F1,F2,e1,e2,h3,h4⟩ hF
     exact⟨c1,c2,[],[],e1,rfl,ih _ _ _ _ _ _ h3 hS fun b hb=>hF b (by rw[e2];exact ax _ hb),ih' _ _ _ h4 fun b hb=>hF b (by rw[e2];exact ay _ hb)⟩
   exact key _ _ _ _ h hF
theorem RepE.freeze{S':Nat→Prop}{o:Bool}{t:FT}{x:J G.T t}{cs:List Value}{F:List Nat}(h:RepE (G:=G) S w o t x cs F)(hS:∀ b,S b→S' b)(hF:∀ b∈F,S' b):RepE S' w false t x cs []:=by
 obtain⟨d,h⟩:=h;exact⟨d,Rep.freeze d o t x cs F S' h hS hF⟩
theorem sO{o:Bool}:∀ (ts:List FT) (y:Js G.T ts) (cs:List Value) (F:List Nat),RepFs (fun t y=>RepE S w o t y) ts y cs F↔RepB S w (prs o ts) (toB o ts y) cs F
 | [],y,cs,F=>Iff.rfl
 | t::ts,y,cs,F=>⟨fun⟨c1,c2,F1,F2,h1,h2,h3,h4⟩=>⟨c1,c2,F1,F2,h1,h2,h3,(sO ts y.2 c2 F2).1 h4⟩,fun⟨c1,c2,F1,F2,h1,h2,h3,h4⟩=>⟨c1,c2,F1,F2,h1,h2,h3,(sO ts y.2 c2 F2).2 h4⟩⟩
theorem Vb{o:Bool}{n:Nat}{x:J G.T (.nm n)}{cs:List Value}{F:List Nat}:RepB (G:=G) S w (.leaf o (.nm n)) x cs F↔RepB S w (prs o (G.fs n)) (toB o (G.fs n) (G.un n x)) cs F :=
 repE_nm.trans (sO _ _ _ _)
theorem kV(d:DV G.T){cs:List Value}{F:List Nat}:RepB (G:=G) S w d.b d.x cs F↔RepB S w (dp G d).b (dp G d).x cs F:=by
 obtain⟨b,x⟩:=d
 cases b with
 | leaf o t=>cases t with
  | nm n=>exact Vb
  | _=>exact Iff.rfl
 | _=>exact Iff.rfl
end
end
section
section
variable {G:Gam} {S:Nat→Prop} {w:World}
theorem b7{α:Type}{y:α}{p:Prop}(h:(none:Option α)=some y):p:=by cases h
def fI(o:Bool)(F:List Nat):List Nat:=if o=true then F else []
theorem Us(o:Bool)(F:List Nat):(fI o F).Sublist F:=by
 unfold fI;split
 ·exact List.Sublist.refl _
 ·exact List.nil_sublist _
theorem vF{o:Bool}{d:Nat}{t t':FT}{o':Bool}{x:J G.T t'}{y:J G.T t}(h:coJ G o (d+1) t (.leaf o' t') x=some y) :
  (o'=o∨o=false∨t'.flat G.flat=true)∧∃ e:t'=t,y=cast (by rw[e]) x:=by
 cases t <;> (
  simp only[coJ]at h
  split at h
  ·rename_i hc
   split at h
   ·rename_i e he
    refine⟨?_,e,(aR h).symm⟩
    simp only[aY,beq_iff_eq,Bool.not_eq_true']at hc
    rcases hc with (hc | hc) | hc
    ·exact .inl hc
    ·exact .inr (.inl hc)
    ·exact .inr (.inr hc)
   ·cases h
  ·cases h)
theorem xV{e:FT}{x:List (J G.T e)}{cs:List Value}{F:List Nat}{S':Nat→Prop}(hr:RepB S w (.sp e) x cs F)(hS:∀ b,S b→S' b)(hF:∀ b∈F,S' b):RepE S' w false (.sl e) x cs []:=by
 refine repE_sl.2 ?_
 rcases hr with ⟨rfl,rfl,rfl⟩ | ⟨b,cap,c,E,fz,rfl,h2,h3,h4,h5,h6,h7,rfl⟩
 ·exact .inl ⟨lM _,rfl,rfl⟩
 ·refine .inr ⟨b,0,cap,c,E,fz,[],rfl,h2,h3,?_,?_⟩
  ·rw[aQ]
   exact RepL.mono _ _ _ (fun x _ c G hG h=>h.frame (fun y hy=>⟨hS y hy,rfl⟩) fun y hy=>rfl) h4
  ·rw[bz (by decide)]
   exact⟨hF b (aN.2 rfl),rfl,by rw[h6,Nat.zero_add];exact aM _ h2,Nat.le_trans h2 h7⟩
theorem Nw{o:Bool}{d:Nat}{e e':FT}{x:List (J G.T e')}{y:J G.T (.sl e)}(h:coJ G o (d+1) (.sl e) (.sp e') x=some y):o=false∧∃ h:e'=e,y=cast (by rw[h];rfl) x:=by
 simp only[coJ]at h
 cases o with
 | true=>cases h
 | false =>
  refine⟨rfl,?_⟩
  simp only[cond_false]at h
  split at h
  ·rename_i k hk
   exact⟨k,(aR h).symm⟩
  ·cases h
theorem NC(o:Bool):∀ (d:Nat),
  (∀ (t:FT) (b:BT) (x:B G.T b) (y:J G.T t) (cs:List Value) (F:List Nat) (S':Nat→Prop),coJ G o d t b x=some y→RepB S w b x cs F→(∀ b,S b→S' b)→(o=false→∀ b∈F,S' b)→RepE S' w o t y cs (fI o F)) ∧
  (∀ (ts:List FT) (b:BT) (x:B G.T b) (y:Js G.T ts) (cs:List Value) (F:List Nat) (S':Nat→Prop),dY G o d ts b x=some y→RepB S w b x cs F→(∀ b,S b→S' b)→(o=false→∀ b∈F,S' b)→RepFs (fun t y=>RepE S' w o t y) ts y cs (fI o F)):=by
 intro d
 induction d with
 | zero=>exact⟨fun t b x y cs F S' h=>by simp[coJ]at h,fun ts b x y cs F S' h=>by simp[dY]at h⟩
 | succ d ih =>
  refine⟨fun t b x y cs F S' h hr hS hF=>?_,fun ts b x y cs F S' h hr hS hF=>?_⟩
  ·have struct:∀ (n:Nat) (y:J G.T (.nm n)),(match dY G o d (G.fs n) b x with | some y=>some (G.pk n y) | none=>none)=some y→RepE S' w o (.nm n) y cs (fI o F):=by
    intro n y h
    split at h
    ·rename_i z hz
     obtain rfl:=aR h
     refine repE_nm.2 ?_
     show RepFs _ _ (G.un n (G.pk n z)) _ _
     rw[G.un_pk]
     exact ih.2 _ _ _ _ _ _ _ hz hr hS hF
    ·cases h
   cases b with
   | leaf o' t' =>
    obtain⟨hc,e,hy⟩:=vF h
    subst e
    replace hy:y=x:=hy
    subst hy
    have hr':RepE S w o' t' y cs F:=hr
    cases o with
    | true =>
     rcases hc with rfl | hc | hc
     ·exact hr'.frame (fun b hb=>⟨hS b hb,rfl⟩) (fun _ _=>rfl)
     ·cases hc
     ·obtain⟨e1,e2⟩:=hr'.flat hc true S' w
      rw[e1];exact e2
    | false=>exact hr'.freeze hS (hF rfl)
   | un=>cases t with
    | nm n=>exact struct n y (by simp only[coJ]at h;exact h)
    | _=>simp only[coJ]at h;exact b7 h
   | pr a c=>cases t with
    | nm n=>exact struct n y (by simp only[coJ]at h;exact h)
    | _=>simp only[coJ]at h;exact b7 h
   | hole n=>cases t with
    | nm n=>exact struct n y (by simp only[coJ]at h;exact h)
    | _=>simp only[coJ]at h;exact b7 h
   | sp e'=>cases t with
    | nm n=>exact struct n y (by simp only[coJ]at h;exact h)
    | sl e =>
     obtain⟨rfl,rfl,hy⟩:=Nw h
     replace hy:y=x:=hy
     subst hy
     exact xV hr hS (hF rfl)
    | _=>simp only[coJ]at h;exact b7 h
   | fn _=>cases t with
    | nm n=>exact struct n y (by simp only[coJ]at h;exact h)
    | _=>simp only[coJ]at h;exact b7 h
  ·cases ts with
   | nil =>
    cases b with
    | un =>
     obtain⟨rfl,rfl⟩:=hr
     exact⟨rfl,by unfold fI;split <;> rfl⟩
    | _=>simp only[dY]at h;exact b7 h
   | cons t ts =>
    cases b with
    | leaf _ _=>simp only[dY]at h;exact b7 h
    | un=>simp only[dY]at h;exact b7 h
    | hole _=>simp only[dY]at h;exact b7 h
    | sp _=>simp only[dY]at h;exact b7 h
    | fn _=>simp only[dY]at h;exact b7 h
    | pr a c =>
    simp only[dY]at h
    obtain⟨c1,c2,F1,F2,rfl,rfl,h3,h4⟩:=hr
    split at h
    ·rename_i y1 y2 e1 e2
     obtain rfl:=aR h
     refine⟨c1,c2,fI o F1,fI o F2,rfl,by unfold fI;split <;> rfl,ih.1 _ _ _ _ _ _ _ e1 h3 hS (fun ho b hb=>hF ho b (ax _ hb)),ih.2 _ _ _ _ _ _ _ e2 h4 hS (fun ho b hb=>hF ho b (ay _ hb))⟩
    ·exact b7 h
theorem gt{o:Bool}{d:Nat}{t:FT}{b:BT}{x:B G.T b}{y:J G.T t}{cs:List Value}{F:List Nat}{S':Nat→Prop}(h:coJ G o d t b x=some y)(hr:RepB S w b x cs F)
  (hS:∀ b,S b→S' b) (hF:o=false→∀ b∈F,S' b):RepE S' w o t y cs (fI o F):=(NC o d).1 _ _ _ _ _ _ _ h hr hS hF
theorem gL:∀ (want:BT) (d:DV G.T) (y:B G.T want) (cs:List Value) (F:List Nat),coB G want d=some y→RepB S w d.b d.x cs F→F.Nodup →
  ∃ F',F'.Sublist F∧∀ S':Nat→Prop,(∀ b,S b→S' b)→(∀ b∈F,b∉F'→S' b)→RepB S' w want y cs F':=by
 intro want
 induction want with
 | leaf o t =>
  intro d y cs F h hr hn
  refine⟨fI o F,Us o F,fun S' hS hF=>gt (show coJ G o deep t d.b d.x=some y from h) hr hS fun ho b hb=>hF b hb ?_⟩
  subst ho;simp[fI]
 | un =>
  intro d y cs F h hr hn
  obtain⟨b,x⟩:=d
  cases b with
  | un =>
   obtain⟨rfl,rfl⟩:=hr
   exact⟨[],List.Sublist.refl _,fun S' _ _=>⟨rfl,rfl⟩⟩
  | _=>exact b7 h
 | hole n =>
  intro d y cs F h hr hn
  have h':(bif Nat.beq n (d.b.sz G)then some ()else none)=some y:=h
  refine⟨[],List.nil_sublist _,fun S' _ _=>⟨?_,rfl⟩⟩
  rw[RepB.len hr]
  cases hb:Nat.beq n (d.b.sz G) with
  | true=>exact(Nat.eq_of_beq_eq_true hb).symm
  | false=>rw[hb]at h';exact b7 h'
 | sp e =>
  intro d y cs F h hr hn
  obtain⟨b,x⟩:=d
  cases b with
  | sp e' =>
   have h':(match FT.eq? e' e with
    | some ⟨h⟩=>some (cast (by rw[h]) x)
    | none=>none)=some y:=h
   split at h'
   ·rename_i k hk
    subst k
    obtain rfl:=aR h'
    exact⟨F,List.Sublist.refl _,fun S' hS _=>RepB.frame (fun b hb=>⟨hS b hb,rfl⟩) hr fun _ _=>rfl⟩
   ·exact b7 h'
  | _=>exact b7 h
 | fn k =>
  intro d y cs F h hr hn
  obtain⟨b,x⟩:=d
  cases b with
  | fn k' =>
   have h':(bif Nat.beq k' k then some ()else none)=some y:=h
   cases hk:Nat.beq k' k with
   | true =>
    have e:=Nat.eq_of_beq_eq_true hk
    subst e
    obtain⟨rfl,rfl⟩:=hr
    exact⟨[],List.Sublist.refl _,fun S' _ _=>⟨rfl,rfl⟩⟩
   | false=>rw[hk]at h';exact b7 h'
  | _=>exact b7 h
 | pr a c iha ihc =>
  intro d y cs F h hr hn
  have h':ju (coB G a) (coB G c) (dp G d)=some y:=h
  have hr':=(kV d).1 hr
  generalize dp G d=d' at h' hr'
  obtain⟨b',x'⟩:=d'
  cases b' with
  | leaf _ _=>exact b7 h'
  | un=>exact b7 h'
  | hole _=>exact b7 h'
  | sp _=>exact b7 h'
  | fn _=>exact b7 h'
  | pr a' b' =>
   obtain⟨c1,c2,F1,F2,rfl,rfl,h3,h4⟩:=hr'
   cases e1:coB G a ⟨a',x'.1⟩ with
   | none=>exact b7 (α:=B G.T (.pr a c)) (y:=y) (by rw[← h'];unfold ju;simp only[e1];rfl)
   | some y1 =>
   cases e2:coB G c ⟨b',x'.2⟩ with
   | none=>exact b7 (α:=B G.T (.pr a c)) (y:=y) (by rw[← h'];unfold ju;simp only[e1,e2];rfl)
   | some y2 =>
   have e3:ju (coB G a) (coB G c) ⟨.pr a' b',x'⟩=some (y1,y2):=by unfold ju;simp only[e1,e2]
   rw[e3]at h'
   obtain rfl:=aR h'
   have hn':=aF.1 hn
   obtain⟨G1,s1,k1⟩:=iha _ _ _ _ e1 h3 hn'.1
   obtain⟨G2,s2,k2⟩:=ihc _ _ _ _ e2 h4 hn'.2.1
   refine⟨G1++G2,s1.append s2,fun S' hS hF=>⟨c1,c2,G1,G2,rfl,rfl,k1 S' hS fun b hb hb'=>hF b (ax _ hb) ?_,k2 S' hS fun b hb hb'=>hF b (ay _ hb) ?_⟩⟩
   ·rw[aE]
    rintro (h | h)
    ·exact hb' h
    ·exact hn'.2.2 b hb b (s2.subset h) rfl
   ·rw[aE]
    rintro (h | h)
    ·exact hn'.2.2 b (s1.subset h) b hb rfl
    ·exact hb' h
theorem wW{o:Bool}{n:Nat}(d:DV G.T){cs:List Value}{F:List Nat}(h:RepB S w d.b d.x cs F):RepB S w (implode G o n d).b (implode G o n d).x cs F:=by
 unfold implode
 have key:∀ (ts:List FT) (b:BT) (x:B G.T b) (y:Js G.T ts) (cs:List Value) (F:List Nat),implode.coJx G o ts b x=some y→RepB S w b x cs F→RepFs (fun t y=>RepE S w o t y) ts y cs F:=by
  intro ts
  induction ts with
  | nil =>
   intro b x y cs F h hr
   cases b with
   | un=>exact hr
   | _=>simp only[implode.coJx]at h;exact b7 h
  | cons t ts ih =>
   intro b x y cs F h hr
   cases b with
   | pr a c =>
    cases a with
    | leaf o' t' =>
     simp only[implode.coJx]at h
     obtain⟨c1,c2,F1,F2,rfl,rfl,h3,h4⟩:=hr
     split at h
     ·rename_i hc
      split at h
      ·rename_i e ys he hys
       subst e
       obtain rfl:=aR h
       have h3':RepE S w o' t' x.1 c1 F1:=h3
       refine⟨c1,c2,F1,F2,rfl,rfl,?_,ih _ _ _ _ _ hys h4⟩
       simp only[aY,beq_iff_eq]at hc
       rcases hc with rfl | hc
       ·exact h3'
       ·obtain⟨e1,e2⟩:=h3'.flat hc o S w
        rw[e1];exact e2
      ·exact b7 h
     ·exact b7 h
    | _=>simp only[implode.coJx]at h;exact b7 h
   | _=>simp only[implode.coJx]at h;exact b7 h
 split
 ·rename_i y hy
  refine(repE_nm (n:=n)).2 ?_
  show RepFs _ _ (G.un n (G.pk n y)) _ _
  rw[G.un_pk]
  exact key _ _ _ _ _ _ hy h
 ·exact h
end
end
section
section
variable {G:Gam} {S:Nat→Prop} {w:World}
theorem kA(i:Nat)(p:cT)(d:DV G.T):get G (.fld i::p) d=(match nth i (dp G d).b (dp G d).x with | some c=>get G p c | none=>none):=by
 obtain⟨b,x⟩:=d
 cases b with
 | leaf o t=>cases t <;> cases i <;> rfl
 | un=>cases i <;> rfl
 | pr a b=>rfl
 | hole n=>cases i <;> rfl
 | sp _=>cases i <;> rfl
 | fn _=>cases i <;> rfl
theorem sK{v:DV G.T}{i:Nat}{p:cT}{d dn:DV G.T}(h:put G v (.fld i::p) d=some dn) :
  ∃ c c' dm,nth i (dp G d).b (dp G d).x=some c∧put G v p c=some c'∧g9 c' i (dp G d).b (dp G d).x=some dm∧(dn=dm∨∃ o n,dn=implode G o n dm):=by
 obtain⟨b,x⟩:=d
 cases b with
 | leaf o t =>
  cases t with
  | nm n =>
   have h':(match nth i (prs o (G.fs n)) (toB o (G.fs n) (G.un n x)) with
    | some c=>(match put G v p c with
     | some c'=>(match g9 c' i (prs o (G.fs n)) (toB o (G.fs n) (G.un n x)) with
      | some d=>some (implode G o n d)
      | none=>none)
     | none=>none)
    | none=>none)=some dn:=h
   show ∃ c c' dm,nth i (prs o (G.fs n)) (toB o (G.fs n) (G.un n x))=some c∧_∧g9 c' i (prs o (G.fs n)) (toB o (G.fs n) (G.un n x))=some dm∧_
   split at h'
   ·rename_i c hc
    split at h'
    ·rename_i c' hc'
     split at h'
     ·rename_i dm hm
      exact⟨c,c',dm,hc,hc',hm,.inr ⟨o,n,(aR h').symm⟩⟩
     ·exact b7 h'
    ·exact b7 h'
   ·exact b7 h'
  | _=>exact b7 h
 | un=>exact b7 h
 | hole n=>exact b7 h
 | sp _=>exact b7 h
 | fn _=>exact b7 h
 | pr a b =>
  have h':(match nth i (.pr a b) x with
    | some c=>(match put G v p c with
     | some c'=>g9 c' i (.pr a b) x
     | none=>none)
    | none=>none)=some dn:=h
  show ∃ c c' dm,nth i (.pr a b) x=some c∧_∧g9 c' i (.pr a b) x=some dm∧_
  split at h'
  ·rename_i c hc
   split at h'
   ·rename_i c' hc'
    exact⟨c,c',dn,hc,hc',h',.inl rfl⟩
   ·exact b7 h'
  ·exact b7 h'
theorem sJ{v:DV G.T}{i:Nat}{p:cT}{d dn:DV G.T}(h:put G v (.el i::p) d=some dn) :
  ∃ (e:FT) (l:List (J G.T e)) (c':DV G.T) (y:J G.T e),d=⟨.leaf true (.sl e),l⟩∧put G v p ⟨.leaf true e,l.getD i (cP G.zero e)⟩=some c'∧coJ G true deep e c'.b c'.x=some y∧dn=⟨.leaf true (.sl e),l.set i y⟩:=by
 obtain⟨b,x⟩:=d
 cases b with
 | leaf o t =>
  cases t with
  | sl e =>
   cases o with
   | true =>
    have h':(match put G v p ⟨.leaf true e,List.getD x i (cP G.zero e)⟩ with
     | some c'=>(match coJ G true deep e c'.b c'.x with
      | some y=>some (⟨.leaf true (.sl e),List.set x i y⟩:DV G.T)
      | none=>none)
     | none=>none)=some dn:=h
    split at h'
    ·rename_i c' hc'
     split at h'
     ·rename_i y hy
      exact⟨e,x,c',y,rfl,hc',hy,(aR h').symm⟩
     ·exact b7 h'
    ·exact b7 h'
   | false=>exact b7 h
  | _=>cases o <;> exact b7 h
 | un=>exact b7 h
 | hole n=>exact b7 h
 | sp _=>exact b7 h
 | fn _=>exact b7 h
 | pr a b=>exact b7 h
theorem jP:∀ (i:Nat) (b:BT) (x:B G.T b) (c:DV G.T) (cs:List Value) (F:List Nat),nth i b x=some c→RepB S w b x cs F →
  ∃ n ca cc cb Fa Fc Fb,fG G i b=some (n,c.b)∧cs=ca++cc++cb∧F=Fa++Fc++Fb∧ca.length=n∧RepB S w c.b c.x cc Fc ∧
   ∀ (S':Nat→Prop) (w':World) (c' dm:DV G.T) (cc':List Value) (Fc':List Nat),(∀ b,S b→S' b∧w'.heap[b]? = w.heap[b]?)→(∀ b∈Fa,w'.heap[b]? = w.heap[b]?)→(∀ b∈Fb,w'.heap[b]? = w.heap[b]?) →
    RepB S' w' c'.b c'.x cc' Fc'→g9 c' i b x=some dm→RepB S' w' dm.b dm.x (ca++cc'++cb) (Fa++Fc'++Fb)
 | 0,.pr a b,x,c,cs,F,h,⟨c1,c2,F1,F2,h1,h2,h3,h4⟩=>by
  obtain rfl:=aR h
  refine⟨0,[],c1,c2,[],F1,F2,rfl,by simp[h1],by simp[h2],rfl,h3,fun S' w' c' dm cc' Fc' hS hFa hFb hc' hs=>?_⟩
  obtain rfl:=aR hs
  exact⟨cc',c2,Fc',F2,by simp,by simp,hc',RepB.frame hS h4 hFb⟩
 | i+1,.pr a b,x,c,cs,F,h,⟨c1,c2,F1,F2,h1,h2,h3,h4⟩=>by
  obtain⟨n,ca,cc,cb,Fa,Fc,Fb,e1,e2,e3,e4,e5,e6⟩:=jP i b x.2 c c2 F2 h h4
  refine⟨a.sz G+n,c1++ca,cc,cb,F1++Fa,Fc,Fb,by simp[fG,e1],by simp[h1,e2],by simp[h2,e3],by rw[List.length_append,RepB.len h3,e4],e5,fun S' w' c' dm cc' Fc' hS hFa hFb hc' hs=>?_⟩
  simp only[g9]at hs
  split at hs
  ·rename_i b' y hb'
   obtain rfl:=aR hs
   have:=e6 S' w' c' ⟨b',y⟩ cc' Fc' hS (fun b hb=>hFa b (ay _ hb)) hFb hc' hb'
   exact⟨c1,ca++cc'++cb,F1,Fa++Fc'++Fb,by simp,by simp,RepB.frame hS h3 fun b hb=>hFa b (ax _ hb),this⟩
  ·exact b7 hs
 | 0,.leaf _ _,x,c,cs,F,h,_=>b7 h
 | 0,.un,x,c,cs,F,h,_=>b7 h
 | 0,.hole _,x,c,cs,F,h,_=>b7 h
 | _+1,.leaf _ _,x,c,cs,F,h,_=>b7 h
 | _+1,.un,x,c,cs,F,h,_=>b7 h
 | _+1,.hole _,x,c,cs,F,h,_=>b7 h
theorem nk(d:DV G.T):vX G d.b=(dp G d).b:=by
 obtain⟨b,x⟩:=d
 cases b with
 | leaf o t=>cases t <;> rfl
 | _=>rfl
theorem mt:∀ (p:cT) (d d':DV G.T) (cs:List Value) (F:List Nat),cZ p=true→get G p d=some d'→RepB S w d.b d.x cs F →
  ∃ n ca cc cb Fa Fc Fb,kP G p d.b=some n∧cs=ca++cc++cb∧F=Fa++Fc++Fb∧ca.length=n∧RepB S w d'.b d'.x cc Fc ∧
   ∀ (v dn:DV G.T),put G v p d=some dn→∀ (S':Nat→Prop) (w':World) (csn:List Value) (Fv:List Nat),(∀ b,S b→S' b∧w'.heap[b]? = w.heap[b]?)→(∀ b∈Fa,w'.heap[b]? = w.heap[b]?)→(∀ b∈Fb,w'.heap[b]? = w.heap[b]?) →
    RepB S' w' v.b v.x csn Fv→RepB S' w' dn.b dn.x (ca++csn++cb) (Fa++Fv++Fb)
 | [],d,d',cs,F,_,h,hr=>by
  obtain rfl:=aR h
  refine⟨0,[],cs,[],[],F,[],rfl,by simp,by simp,rfl,hr,fun v dn hp S' w' csn Fv hS _ _ hv=>?_⟩
  obtain rfl:=aR hp
  simpa using hv
 | .fld i::p,d,d',cs,F,he,h,hr=>by
  rw[kA]at h
  have hr':=(kV d).1 hr
  cases hc:nth i (dp G d).b (dp G d).x with
  | none=>rw[hc]at h;exact b7 h
  | some c =>
  rw[hc]at h
  obtain⟨n,ca,cc,cb,Fa,Fc,Fb,e1,e2,e3,e4,e5,e6⟩:=jP i _ _ c cs F hc hr'
  obtain⟨m,ca',cc',cb',Fa',Fc',Fb',g1,g2,g3,g4,g5,g6⟩:=mt p c d' cc Fc he h e5
  refine⟨n+m,ca++ca',cc',cb'++cb,Fa++Fa',Fc',Fb'++Fb,by simp[kP,nk,e1,g1],by simp[e2,g2],by simp[e3,g3],by rw[List.length_append,e4,g4],g5,fun v dn hp S' w' csn Fv hS hFa hFb hv=>?_⟩
  obtain⟨c0,c',dm,k1,k2,k3,k4⟩:=sK hp
  rw[hc]at k1
  obtain rfl:=aR k1
  have r1:=g6 v c' k2 S' w' csn Fv hS (fun b hb=>hFa b (ay _ hb)) (fun b hb=>hFb b (ax _ hb)) hv
  have r2:=e6 S' w' c' dm _ _ hS (fun b hb=>hFa b (ax _ hb)) (fun b hb=>hFb b (ay _ hb)) r1 k3
  have r3:RepB S' w' dn.b dn.x (ca++(ca'++csn++cb')++cb) (Fa++(Fa'++Fv++Fb')++Fb):=by
   rcases k4 with rfl | ⟨o,n,rfl⟩
   ·exact r2
   ·exact wW dm r2
  simpa using r3
def loc(w:World):cT→DV G.T→List Value→Option (Nat×Nat)→Option (DV G.T×List Value×Option (Nat×Nat))
 | [],d,cs,ad=>some (d,cs,ad)
 | .fld i::p,d,cs,ad=>match nth i (dp G d).b (dp G d).x,fG G i (dp G d).b with
  | some c,some (n,_)=>loc w p c ((cs.drop n).take (c.b.sz G)) (ad.map fun a=>(a.1,a.2+n))
  | _,_=>none
 | .el i::p,⟨.leaf true (.sl e),l⟩,[.slice (some ⟨b,0,none⟩) _ _],_=>match w.heap[b]? with
  | some (.cells c _ _)=>if i<List.length (α:=J G.T e) l then loc w p ⟨.leaf true e,List.getD l i (cP G.zero e)⟩ ((c.toList.drop (i*e.sz G.sz)).take (e.sz G.sz)) (some (b,i*e.sz G.sz))else none
  | _=>none
 | _,_,_,_=>none
theorem fj{α:Type}{ca cc cb:List α}{n:Nat}(h:ca.length=n){m:Nat}(hm:cc.length=m):((ca++cc++cb).drop n).take m=cc:=by
 subst h;subst hm
 rw[List.append_assoc,List.drop_left,List.take_left]
theorem xn:∀ (p:cT) (d d':DV G.T) (cs cs':List Value) (F:List Nat) (ad ad':Option (Nat×Nat)),cZ p=true→RepB S w d.b d.x cs F→loc w p d cs ad=some (d',cs',ad') →
  ∃ n,kP G p d.b=some n∧get G p d=some d'∧cs'=(cs.drop n).take (d'.b.sz G)∧ad'=ad.map fun a=>(a.1,a.2+n)
 | [],d,d',cs,cs',F,ad,ad',_,hr,h=>by
  simp only[loc,Option.some.injEq,Prod.mk.injEq]at h
  obtain⟨rfl,rfl,rfl⟩:=h
  refine⟨0,rfl,rfl,?_,by cases ad <;> rfl⟩
  rw[aQ,← RepB.len hr,List.take_length]
 | .fld i::p,d,d',cs,cs',F,ad,ad',he,hr,h=>by
  have hr':=(kV d).1 hr
  simp only[loc]at h
  cases hc:nth i (dp G d).b (dp G d).x with
  | none=>rw[hc]at h;exact b7 h
  | some c =>
  obtain⟨n,ca,cc,cb,Fa,Fc,Fb,e1,e2,e3,e4,e5,e6⟩:=jP i _ _ c cs F hc hr'
  rw[hc,e1]at h
  simp only at h
  have hm:(cs.drop n).take (c.b.sz G)=cc:=by rw[e2];exact fj e4 (RepB.len e5)
  rw[hm]at h
  obtain⟨m,g1,g2,g3,g4⟩:=xn p c d' cc cs' Fc _ ad' he e5 h
  refine⟨n+m,by simp[kP,nk,e1,g1],by rw[kA,hc];exact g2,?_,by rw[g4];cases ad <;> simp[Nat.add_assoc]⟩
  have hr2:=mt p c d' cc Fc he g2 e5
  obtain⟨m',ca',cc',cb',Fa',Fc',Fb',k1,k2,k3,k4,k5,_⟩:=hr2
  rw[g1]at k1
  obtain rfl:=aR k1
  rw[g3,k2,fj k4 (RepB.len k5),e2,k2]
  rw[show ca++(ca'++cc'++cb')++cb=(ca++ca')++cc'++(cb'++cb) by simp,fj (by rw[List.length_append,e4,k4]) (RepB.len k5)]
structure Upd (w w':World) (b off:Nat) (csn:List Value):Prop where
 ex:∃ c c' E fz,w.heap[b]? = some (.cells c E fz)∧w'.heap[b]? = some (.cells c' E fz)∧off+csn.length≤c.size∧c'.toList=c.toList.take off++csn++c.toList.drop (off+csn.length)
 other:∀ k,k≠b→w'.heap[k]? = w.heap[k]?
theorem xT{α:Type}{R:α→List Value→List Nat→Prop}:∀ (i:Nat) (xs:List α) (y:α) (ca cb cc:List Value) (Fa Fb Fc:List Nat),i<xs.length→RepL R (xs.take i) ca Fa→R y cb Fb→RepL R (xs.drop (i+1)) cc Fc →
  RepL R (xs.set i y) (ca++cb++cc) (Fa++Fb++Fc)
 | 0,x::xs,y,ca,cb,cc,Fa,Fb,Fc,_,h1,h2,h3=>by
  obtain⟨rfl,rfl⟩:=h1
  exact⟨cb,cc,Fb,Fc,by simp,by simp,h2,h3⟩
 | i+1,x::xs,y,ca,cb,cc,Fa,Fb,Fc,hi,⟨c1,c2,F1,F2,e1,e2,h3,h4⟩,h2,h5 =>
  ⟨c1,c2++cb++cc,F1,F2++Fb++Fc,by simp[e1],by simp[e2],h3,xT i xs y c2 cb cc F2 Fb Fc (by simpa using hi) h4 h2 h5⟩
def FB(S:Nat→Prop)(w:World)(p:cT):Prop:=∀ (d d':DV G.T) (cs cs':List Value) (F:List Nat) (ad ad':Option (Nat×Nat)),loc w p d cs ad=some (d',cs',ad')→RepB S w d.b d.x cs F→F.Nodup →
  ∃ Fa Fc Fb,F=Fa++Fc++Fb∧RepB S w d'.b d'.x cs' Fc∧get G p d=some d' ∧
   (cZ p=false→∃ b' off',ad'=some (b',off')∧b'∈Fa∧(∃ c E fz,w.heap[b']? = some (.cells c E fz)∧jo fz c.size∧(c.toList.drop off').take cs'.length=cs'∧off'+cs'.length≤c.size) ∧
    ∀ (v dn:DV G.T),put G v p d=some dn→∀ (S':Nat→Prop) (w':World) (csn:List Value) (Fv:List Nat),csn.length=cs'.length→Upd w w' b' off' csn→(∀ b,S b→S' b∧w'.heap[b]? = w.heap[b]?) →
     RepB S' w' v.b v.x csn Fv→RepB S' w' dn.b dn.x cs (Fa++Fv++Fb))
theorem US{p:cT}(ih:FB (G:=G) S w p){i:Nat}{e:FT}(x0:List (J G.T e)){d':DV G.T}{cs cs':List Value}{F:List Nat}{ad ad':Option (Nat×Nat)}
  (h:loc w (.el i::p) (⟨.leaf true (.sl e),x0⟩:DV G.T) cs ad=some (d',cs',ad')) (hr:RepE S w true (.sl e) x0 cs F) (hn:F.Nodup) :
  ∃ Fa Fc Fb,F=Fa++Fc++Fb∧RepB S w d'.b d'.x cs' Fc∧get G (.el i::p) ⟨.leaf true (.sl e),x0⟩=some d' ∧
   (cZ (.el i::p)=false→∃ b' off',ad'=some (b',off')∧b'∈Fa∧(∃ c E fz,w.heap[b']? = some (.cells c E fz)∧jo fz c.size∧(c.toList.drop off').take cs'.length=cs'∧off'+cs'.length≤c.size) ∧
    ∀ (v dn:DV G.T),put G v (.el i::p) ⟨.leaf true (.sl e),x0⟩=some dn→∀ (S':Nat→Prop) (w':World) (csn:List Value) (Fv:List Nat),csn.length=cs'.length→Upd w w' b' off' csn→(∀ b,S b→S' b∧w'.heap[b]? = w.heap[b]?) →
     RepB S' w' v.b v.x csn Fv→RepB S' w' dn.b dn.x cs (Fa++Fv++Fb)):=by
 rcases repE_slT.1 hr with ⟨rfl,_,_⟩ | ⟨b,off,cap,c,E,fz,F',rfl,h2,h3,h4,h5⟩
 ·exact b7 h
 ·rw[bw rfl]at h5
  obtain⟨rfl,hfz,hsz,hcap,rfl⟩:=h5
  have h0:(match w.heap[b]? with
   | some (.cells c _ _)=>if i<x0.length then loc w p ⟨.leaf true e,x0.getD i (cP G.zero e)⟩ ((c.toList.drop (i*e.sz G.sz)).take (e.sz G.sz)) (some (b,i*e.sz G.sz))else none
   | _=>none)=some (d',cs',ad'):=h
  clear h
  rw[h3]at h0
  simp only at h0
  split at h0
  ·rename_i hi
   have h:=h0
   clear h0
   rw[aQ]at h4
   obtain⟨ca,cb,cc,Fa,Fb,Fc,e1,e2,e3,e4,e5,e6,e7⟩:=RepL.at (n:=e.sz G.sz) _ i _ _ hi (fun x _ c G h=>h.len) h4
   have hlen:=RepL.len (n:=e.sz G.sz) _ _ _ (fun x _ c G h=>h.len) h4
   have hcl:c.toList.length=c.size:=aJ
   have hle:x0.length*e.sz G.sz≤c.toList.length:=by rw[hcl,hsz];exact aM _ h2
   have hsplit:c.toList=ca++cb++cc++c.toList.drop (x0.length*e.sz G.sz):=by rw[← e1,List.take_append_drop]
   have hmid:(c.toList.drop (i*e.sz G.sz)).take (e.sz G.sz)=cb:=by
    conv=>lhs;rw[hsplit,List.append_assoc (ca++cb)]
    exact fj e3 e4
   rw[hmid]at h
   have hget:x0.getD i (cP G.zero e)=x0[i]:=by simp[List.getD,hi]
   rw[hget]at h
   have he5:RepB S w (DV.b (T:=G.T) ⟨.leaf true e,x0[i]⟩) (DV.x (T:=G.T) ⟨.leaf true e,x0[i]⟩) cb Fb:=e5
   have hn':=List.nodup_cons.1 hn
   rw[e2]at hn'
   have hnb:=aF.1 hn'.2
   have hna:=aF.1 hnb.1
   have hci:i*e.sz G.sz+e.sz G.sz≤c.size:=by
    have:(i+1)*e.sz G.sz≤x0.length*e.sz G.sz:=aM _ hi
    rw[Nat.add_mul,Nat.one_mul]at this
    rw[hcl]at hle;omega
   obtain⟨Fa',Fc',Fb',g1,g2,g3,g4⟩:=ih _ d' cb cs' Fb _ ad' h he5 hna.2.1
   have hgg:get G (.el i::p) ⟨.leaf true (.sl e),x0⟩=some d':=by
    show get G p ⟨.leaf true e,x0.getD i (cP G.zero e)⟩=some d'
    rw[hget];exact g3
   have rebuild:∀ (S':Nat→Prop) (w':World) (y:J G.T e) (c':Array Value) (cb':List Value) (Fy:List Nat),w'.heap[b]? = some (.cells c' E fz)→c'.toList=ca++cb'++cc++c.toList.drop (x0.length*e.sz G.sz)→cb'.length=e.sz G.sz →
     (∀ b,S b→S' b∧w'.heap[b]? = w.heap[b]?)→(∀ k∈Fa,w'.heap[k]? = w.heap[k]?)→(∀ k∈Fc,w'.heap[k]? = w.heap[k]?)→RepE S' w' true e y cb' Fy →
     RepB S' w' (.leaf true (.sl e)) (x0.set i y) [.slice (some ⟨b,0,none⟩) (x0.length) cap] (b::(Fa++Fy++Fc)):=by
    intro S' w' y c' cb' Fy hb hc' hl hS hFa hFc hy
    have hcc:c'.size=c.size:=by
     have q0:c'.toList.length=c'.size:=aJ
     have q1:=congrArg List.length hc'
     have q2:=congrArg List.length hsplit
     simp only[List.length_append]at q1 q2
     omega
    refine repE_sl.2 (.inr ⟨b,0,cap,c',E,fz,Fa++Fy++Fc,by rw[a8],by rw[a8];exact h2,hb,?_,?_⟩)
    ·rw[a8,aQ,hc',← hlen,e1]
     rw[show ca++cb'++cc++c.toList.drop ((ca++cb++cc).length)=(ca++cb'++cc)++c.toList.drop ((ca++cb++cc).length)from rfl,List.take_append_of_le_length (by simp[hl,e4]),bg (by simp[hl,e4])]
     exact xT i _ y ca cb' cc Fa Fy Fc hi (RepL.mono _ _ _ (fun x _ c G hG h=>h.frame hS fun k hk=>hFa k (hG k hk)) e6) hy (RepL.mono _ _ _ (fun x _ c G hG h=>h.frame hS fun k hk=>hFc k (hG k hk)) e7)
    ·rw[bw rfl];exact⟨rfl,by rw[hcc];exact hfz,by rw[hcc,hsz],hcap,rfl⟩
   cases hne:cZ p with
   | true =>
    obtain⟨n,q1,q2,q3,q4⟩:=xn p _ d' cb cs' Fb _ ad' hne he5 h
    obtain⟨n',ca',cc',cb',Ga,Gc,Gb,m1,m2,m3,m4,m5,m6⟩:=mt p _ d' cb Fb hne q2 he5
    rw[q1]at m1
    obtain rfl:=aR m1
    have hcs':cs'=cc':=by rw[q3,m2];exact fj m4 (RepB.len m5)
    have hlb:cb.length=ca'.length+cc'.length+cb'.length:=by rw[m2];simp[Nat.add_assoc]
    refine⟨b::(Fa++Ga),Gc,Gb++Fc,by simp[e2,m3],by rw[hcs'];exact m5,hgg,fun _=>?_⟩
    refine⟨b,i*e.sz G.sz+n,q4,aH ..,⟨c,E,fz,h3,hfz.1,?_,?_⟩,fun v dn hp S' w' csn Fv hl hu hS hv=>?_⟩
    ·rw[hcs',hsplit,m2,← e3,← m4]
     rw[show ca++(ca'++cc'++cb')++cc++c.toList.drop (x0.length*e.sz G.sz)=(ca++ca')++cc'++(cb'++cc++c.toList.drop (x0.length*e.sz G.sz)) by simp]
     exact fj (by simp) rfl
    ·rw[hcs'];omega
    ·obtain⟨e',l',c',y,k1,k2,k3,k4⟩:=sJ hp
     cases k1
     subst k4
     rw[hget]at k2
     obtain⟨c1,c2,E',fz',u1,u2,u3,u4⟩:=hu.ex
     rw[h3]at u1
     obtain⟨rfl,rfl,rfl⟩:c=c1∧E=E'∧fz=fz':=by simpa using u1
     have hbF:∀ k∈Fb,k≠b:=fun k hk e0=>hn'.1 (by rw[← e0];exact ax _ (ay _ hk))
     have r1:=m6 v c' k2 S' w' csn Fv hS (fun k hk=>hu.other k (hbF k (by rw[m3];exact ax _ (ax _ hk)))) (fun k hk=>hu.other k (hbF k (by rw[m3];exact ay _ hk))) hv
     have r2:=gt (S':=S') k3 r1 (fun _ h=>h) (fun h=>by cases h)
     have hcb:(ca'++csn++cb').length=e.sz G.sz:=by rw[← e4,hlb];simp[hl,hcs',Nat.add_assoc]
     have r3:=rebuild S' w' y c2 (ca'++csn++cb') _ u2 (by
      rw[u4,hl,hcs']
      conv=>lhs;rw[hsplit,m2]
      rw[show ca++(ca'++cc'++cb')++cc++c.toList.drop (x0.length*e.sz G.sz)=(ca++ca')++(cc'++(cb'++cc++c.toList.drop (x0.length*e.sz G.sz))) by simp]
      rw[← e3,← m4,← List.length_append,List.take_left,← List.drop_drop,List.drop_left,List.drop_left]
      simp) hcb hS (fun k hk=>hu.other k fun e0=>hn'.1 (by rw[← e0];exact ax _ (ax _ hk))) (fun k hk=>hu.other k fun e0=>hn'.1 (by rw[← e0];exact ay _ hk)) r2
     have hF:fI true (Ga++Fv++Gb)=Ga++Fv++Gb:=rfl
     rw[hF]at r3
     simpa using r3
   | false =>
    refine⟨b::(Fa++Fa'),Fc',Fb'++Fc,by simp[e2,g1],g2,hgg,fun _=>?_⟩
    obtain⟨b',off',k1,k2,k3,k4⟩:=g4 hne
    have hb'F:b'∈Fb:=by rw[g1];exact ax _ (ax _ k2)
    have hb'b:b≠b':=fun e0=>hn'.1 (by rw[e0];exact ax _ (ay _ hb'F))
    refine⟨b',off',k1,aI _ (ay _ k2),k3,fun v dn hp S' w' csn Fv hl hu hS hv=>?_⟩
    obtain⟨e',l',c',y,q1,q2,q3,q4⟩:=sJ hp
    cases q1
    subst q4
    rw[hget]at q2
    have r1:=k4 v c' q2 S' w' csn Fv hl hu hS hv
    have r2:=gt (S':=S') q3 r1 (fun _ h=>h) (fun h=>by cases h)
    have r3:=rebuild S' w' y c cb _ ((hu.other b hb'b).trans h3) hsplit e4 hS (fun k hk=>hu.other k fun e0=>hna.2.2 k hk b' hb'F e0) (fun k hk=>hu.other k fun e0=>hnb.2.2 b' (ay _ hb'F) k hk e0.symm) r2
    simpa [fI]using r3
  ·exact b7 h0
theorem gU:∀ (p:cT),FB (G:=G) S w p
 | []=>fun d d' cs cs' F ad ad' h hr hn=>by
  simp only[loc,Option.some.injEq,Prod.mk.injEq]at h
  obtain⟨rfl,rfl,rfl⟩:=h
  exact⟨[],F,[],by simp,hr,rfl,fun h=>by cases h⟩
 | .fld i::p=>fun d d' cs cs' F ad ad' h hr hn=>by
  have hr':=(kV d).1 hr
  simp only[loc]at h
  cases hc:nth i (dp G d).b (dp G d).x with
  | none=>rw[hc]at h;exact b7 h
  | some c =>
  obtain⟨n,ca,cc,cb,Fa,Fc,Fb,e1,e2,e3,e4,e5,e6⟩:=jP i _ _ c cs F hc hr'
  rw[hc,e1]at h
  simp only at h
  have hm:(cs.drop n).take (c.b.sz G)=cc:=by rw[e2];exact fj e4 (RepB.len e5)
  rw[hm]at h
  rw[e3]at hn
  have hn2:=aF.1 hn
  have hn1:=aF.1 hn2.1
  obtain⟨Fa',Fc',Fb',g1,g2,g3,g4⟩:=gU p c d' cc cs' Fc _ ad' h e5 hn1.2.1
  refine⟨Fa++Fa',Fc',Fb'++Fb,by simp[e3,g1],g2,by rw[kA,hc];exact g3,fun he=>?_⟩
  obtain⟨b',off',k1,k2,k3,k4⟩:=g4 he
  refine⟨b',off',k1,ay _ k2,k3,fun v dn hp S' w' csn Fv hl hu hS hv=>?_⟩
  obtain⟨c0,c',dm,q1,q2,q3,q4⟩:=sK hp
  rw[hc]at q1
  obtain rfl:=aR q1
  have hbc:b'∈Fc:=by rw[g1];exact ax _ (ax _ k2)
  have r1:=k4 v c' q2 S' w' csn Fv hl hu hS hv
  have r2:=e6 S' w' c' dm _ _ hS (fun b hb=>hu.other b fun e=>hn1.2.2 b hb b' hbc e) (fun b hb=>hu.other b fun e=>hn2.2.2 b' (ay _ hbc) b hb e.symm) r1 q3
  have r3:RepB S' w' dn.b dn.x (ca++cc++cb) (Fa++(Fa'++Fv++Fb')++Fb):=by
   rcases q4 with rfl | ⟨o,n,rfl⟩
   ·exact r2
   ·exact wW dm r2
  rw[← e2]at r3
  simpa using r3
 | .el i::p=>fun⟨b0,x0⟩ d' cs cs' F ad ad' h hr hn=>by
  cases b0 with
  | leaf o t=>cases o with
   | true=>cases t with
    | sl e=>exact US (gU p) x0 h hr hn
    | _=>exact b7 h
   | false=>cases t <;> exact b7 h
  | _=>exact b7 h
def FC(S:Nat→Prop)(w:World)(p:cT):Prop:=∀ (d d':DV G.T) (cs cs':List Value) (F:List Nat) (ad ad':Option (Nat×Nat)),loc w p d cs ad=some (d',cs',ad')→RepB S w d.b d.x cs F→F.Nodup →
  ∃ Fa Fc Fb,F=Fa++Fc++Fb∧RepB S w d'.b d'.x cs' Fc∧get G p d=some d' ∧
   ∀ (v dn:DV G.T),put G v p d=some dn→∀ (S':Nat→Prop) (w':World) (Fv:List Nat),(∀ b,S b→S' b∧w'.heap[b]? = w.heap[b]?)→(∀ b∈Fa,w'.heap[b]? = w.heap[b]?)→(∀ b∈Fb,w'.heap[b]? = w.heap[b]?) →
     RepB S' w' v.b v.x cs' Fv→RepB S' w' dn.b dn.x cs (Fa++Fv++Fb)
theorem UT{p:cT}(ih:FC (G:=G) S w p){i:Nat}{e:FT}(x0:List (J G.T e)){d':DV G.T}{cs cs':List Value}{F:List Nat}{ad ad':Option (Nat×Nat)}
  (h:loc w (.el i::p) (⟨.leaf true (.sl e),x0⟩:DV G.T) cs ad=some (d',cs',ad')) (hr:RepE S w true (.sl e) x0 cs F) (hn:F.Nodup) :
  ∃ Fa Fc Fb,F=Fa++Fc++Fb∧RepB S w d'.b d'.x cs' Fc∧get G (.el i::p) ⟨.leaf true (.sl e),x0⟩=some d' ∧
   ∀ (v dn:DV G.T),put G v (.el i::p) ⟨.leaf true (.sl e),x0⟩=some dn→∀ (S':Nat→Prop) (w':World) (Fv:List Nat),(∀ b,S b→S' b∧w'.heap[b]? = w.heap[b]?)→(∀ b∈Fa,w'.heap[b]? = w.heap[b]?)→(∀ b∈Fb,w'.heap[b]? = w.heap[b]?) →
     RepB S' w' v.b v.x cs' Fv→RepB S' w' dn.b dn.x cs (Fa++Fv++Fb):=by
 rcases repE_slT.1 hr with ⟨rfl,_,_⟩ | ⟨b,off,cap,c,E,fz,F',rfl,h2,h3,h4,h5⟩
 ·exact b7 h
 ·rw[bw rfl]at h5
  obtain⟨rfl,hfz,hsz,hcap,rfl⟩:=h5
  have h0:(match w.heap[b]? with
   | some (.cells c _ _)=>if i<x0.length then loc w p ⟨.leaf true e,x0.getD i (cP G.zero e)⟩ ((c.toList.drop (i*e.sz G.sz)).take (e.sz G.sz)) (some (b,i*e.sz G.sz))else none
   | _=>none)=some (d',cs',ad'):=h
  clear h
  rw[h3]at h0
  simp only at h0
  split at h0
  ·rename_i hi
   have h:=h0
   clear h0
   rw[aQ]at h4
   obtain⟨ca,cb,cc,Fa,Fb,Fc,e1,e2,e3,e4,e5,e6,e7⟩:=RepL.at (n:=e.sz G.sz) _ i _ _ hi (fun x _ c G h=>h.len) h4
   have hlen:=RepL.len (n:=e.sz G.sz) _ _ _ (fun x _ c G h=>h.len) h4
   have hcl:c.toList.length=c.size:=aJ
   have hle:x0.length*e.sz G.sz≤c.toList.length:=by rw[hcl,hsz];exact aM _ h2
   have hsplit:c.toList=ca++cb++cc++c.toList.drop (x0.length*e.sz G.sz):=by rw[← e1,List.take_append_drop]
   have hmid:(c.toList.drop (i*e.sz G.sz)).take (e.sz G.sz)=cb:=by
    conv=>lhs;rw[hsplit,List.append_assoc (ca++cb)]
    exact fj e3 e4
   rw[hmid]at h
   have hget:x0.getD i (cP G.zero e)=x0[i]:=by simp[List.getD,hi]
   rw[hget]at h
   have he5:RepB S w (DV.b (T:=G.T) ⟨.leaf true e,x0[i]⟩) (DV.x (T:=G.T) ⟨.leaf true e,x0[i]⟩) cb Fb:=e5
   have hn':=List.nodup_cons.1 hn
   rw[e2]at hn'
   have hnb:=aF.1 hn'.2
   have hna:=aF.1 hnb.1
   have hci:i*e.sz G.sz+e.sz G.sz≤c.size:=by
    have:(i+1)*e.sz G.sz≤x0.length*e.sz G.sz:=aM _ hi
    rw[Nat.add_mul,Nat.one_mul]at this
    rw[hcl]at hle;omega
   obtain⟨Fa',Fc',Fb',g1,g2,g3,g4⟩:=ih _ d' cb cs' Fb _ ad' h he5 hna.2.1
   have hgg:get G (.el i::p) ⟨.leaf true (.sl e),x0⟩=some d':=by
    show get G p ⟨.leaf true e,x0.getD i (cP G.zero e)⟩=some d'
    rw[hget];exact g3
   have rebuild:∀ (S':Nat→Prop) (w':World) (y:J G.T e) (c':Array Value) (cb':List Value) (Fy:List Nat),w'.heap[b]? = some (.cells c' E fz)→c'.toList=ca++cb'++cc++c.toList.drop (x0.length*e.sz G.sz)→cb'.length=e.sz G.sz →
     (∀ b,S b→S' b∧w'.heap[b]? = w.heap[b]?)→(∀ k∈Fa,w'.heap[k]? = w.heap[k]?)→(∀ k∈Fc,w'.heap[k]? = w.heap[k]?)→RepE S' w' true e y cb' Fy →
     RepB S' w' (.leaf true (.sl e)) (x0.set i y) [.slice (some ⟨b,0,none⟩) (x0.length) cap] (b::(Fa++Fy++Fc)):=by
    intro S' w' y c' cb' Fy hb hc' hl hS hFa hFc hy
    have hcc:c'.size=c.size:=by
     have q0:c'.toList.length=c'.size:=aJ
     have q1:=congrArg List.length hc'
     have q2:=congrArg List.length hsplit
     simp only[List.length_append]at q1 q2
     omega
    refine repE_sl.2 (.inr ⟨b,0,cap,c',E,fz,Fa++Fy++Fc,by rw[a8],by rw[a8];exact h2,hb,?_,?_⟩)
    ·rw[a8,aQ,hc',← hlen,e1]
     rw[show ca++cb'++cc++c.toList.drop ((ca++cb++cc).length)=(ca++cb'++cc)++c.toList.drop ((ca++cb++cc).length)from rfl,List.take_append_of_le_length (by simp[hl,e4]),bg (by simp[hl,e4])]
     exact xT i _ y ca cb' cc Fa Fy Fc hi (RepL.mono _ _ _ (fun x _ c G hG h=>h.frame hS fun k hk=>hFa k (hG k hk)) e6) hy (RepL.mono _ _ _ (fun x _ c G hG h=>h.frame hS fun k hk=>hFc k (hG k hk)) e7)
    ·rw[bw rfl];exact⟨rfl,by rw[hcc];exact hfz,by rw[hcc,hsz],hcap,rfl⟩
   refine⟨b::(Fa++Fa'),Fc',Fb'++Fc,by simp[e2,g1],g2,hgg,fun v dn hp S' w' Fv hS h1 h2 hv=>?_⟩
   obtain⟨e',l',c',y,q1,q2,q3,q4⟩:=sJ hp
   cases q1
   subst q4
   rw[hget]at q2
   have r1:=g4 v c' q2 S' w' Fv hS (fun k hk=>h1 k (aI _ (ay _ hk))) (fun k hk=>h2 k (ax _ hk)) hv
   have r2:=gt (S':=S') q3 r1 (fun _ h=>h) (fun h=>by cases h)
   have r3:=rebuild S' w' y c cb _ ((h1 b (aH ..)).trans h3) hsplit e4 hS (fun k hk=>h1 k (aI _ (ax _ hk))) (fun k hk=>h2 k (ay _ hk)) r2
   simpa [fI]using r3
  ·exact b7 h0
theorem xJ:∀ (p:cT),FC (G:=G) S w p
 | []=>fun d d' cs cs' F ad ad' h hr hn=>by
  simp only[loc,Option.some.injEq,Prod.mk.injEq]at h
  obtain⟨rfl,rfl,rfl⟩:=h
  refine⟨[],F,[],by simp,hr,rfl,fun v dn hp S' w' Fv _ _ _ hv=>?_⟩
  obtain rfl:=aR hp
  simpa using hv
 | .fld i::p=>fun d d' cs cs' F ad ad' h hr hn=>by
  have hr':=(kV d).1 hr
  simp only[loc]at h
  cases hc:nth i (dp G d).b (dp G d).x with
  | none=>rw[hc]at h;exact b7 h
  | some c =>
  obtain⟨n,ca,cc,cb,Fa,Fc,Fb,e1,e2,e3,e4,e5,e6⟩:=jP i _ _ c cs F hc hr'
  rw[hc,e1]at h
  simp only at h
  have hm:(cs.drop n).take (c.b.sz G)=cc:=by rw[e2];exact fj e4 (RepB.len e5)
  rw[hm]at h
  rw[e3]at hn
  have hn2:=aF.1 hn
  have hn1:=aF.1 hn2.1
  obtain⟨Fa',Fc',Fb',g1,g2,g3,g4⟩:=xJ p c d' cc cs' Fc _ ad' h e5 hn1.2.1
  refine⟨Fa++Fa',Fc',Fb'++Fb,by simp[e3,g1],g2,by rw[kA,hc];exact g3,fun v dn hp S' w' Fv hS h1 h2 hv=>?_⟩
  obtain⟨c0,c',dm,q1,q2,q3,q4⟩:=sK hp
  rw[hc]at q1
  obtain rfl:=aR q1
  have r1:=g4 v c' q2 S' w' Fv hS (fun b hb=>h1 b (ay _ hb)) (fun b hb=>h2 b (ax _ hb)) hv
  have r2:=e6 S' w' c' dm _ _ hS (fun b hb=>h1 b (ax _ hb)) (fun b hb=>h2 b (ay _ hb)) r1 q3
  have r3:RepB S' w' dn.b dn.x (ca++cc++cb) (Fa++(Fa'++Fv++Fb')++Fb):=by
   rcases q4 with rfl | ⟨o,n,rfl⟩
   ·exact r2
   ·exact wW dm r2
  rw[← e2]at r3
  simpa using r3
 | .el i::p=>fun⟨b0,x0⟩ d' cs cs' F ad ad' h hr hn=>by
  cases b0 with
  | leaf o t=>cases o with
   | true=>cases t with
    | sl e=>exact UT (xJ p) x0 h hr hn
    | _=>exact b7 h
   | false=>cases t <;> exact b7 h
  | _=>exact b7 h
end
end
section
section
variable {G:Gam}
def Shaped:BT→Value→Prop
 | .leaf _ (.nm _),v=>∃ cs,v = .agg cs
 | .pr _ _,v=>∃ cs,v = .agg cs
 | .un,v=>∃ cs,v = .agg cs
 | .leaf _ _,v=>∀ cs,v ≠ .agg cs
 | .sp _,v=>∀ cs,v ≠ .agg cs
 | .fn _,v=>∀ cs,v ≠ .agg cs
 | .hole _,_=>True
def Root(w:World)(x:Slot G)(V:Value)(cs:List Value)(ad:Option (Nat×Nat)):Prop :=
 if x.box=true then ∃ b c E,V = .pointer (some ⟨b,0,none⟩)∧w.heap[b]? = some (.cells c E (0,0))∧cs=c.toList∧ad=some (b,0)
 else cs=V.cells.toList∧ad=none
def fd(w:World)(box:Bool)(v u:Value):Prop :=
 if box=true then ∃ b c E fz,v = .pointer (some ⟨b,0,none⟩)∧w.heap[b]? = some (.cells c E fz)∧c[0]? = some u else v.cells[0]? = some u
mutual
def b9(S:Nat→Prop)(w:World)(sl:Nat→Slot G)(V:Nat→Value):Pin G→Value→Prop
 | .no,_=>True
 | .und,v=>v=undef
 | .ind,v=>∃ b,v = .bool b
 | .one,v=>v = .nilIface
 | .len n,v=>(∃ base cap,v = .slice base n cap)∧n≤9223372036854775807
 | .val d,v=>RepB S w d.b d.x v.cells.toList []∧Shaped d.b v∧d.b.cp G=true
 | .adr t x,v=>∃ b off c E fz,v = .pointer (some ⟨b,off,none⟩)∧S b∧w.heap[b]? = some (.cells c E fz)∧RepE S w false t x ((c.toList.drop off).take (t.sz G.sz)) []∧off+t.sz G.sz≤c.size
 | .ptr s p off g,v=>(g≤(sl s).gen∧∃ b o,v = .pointer (some ⟨b,o,none⟩)) ∧
   (cZ p=true→(sl s).born≤g→(sl s).box=true∧∃ b,V s = .pointer (some ⟨b,0,none⟩)∧v = .pointer (some ⟨b,off,none⟩)) ∧
   (cZ p=false→g=(sl s).gen→∃ d cs ad d' cs' b o',(sl s).cont = .data d∧Root w (sl s) (V s) cs ad∧loc w p d cs ad=some (d',cs',some (b,o'))∧v = .pointer (some ⟨b,o',none⟩))
 | .ali s p g,v=>g≤(sl s).gen ∧
   (p=[]→(sl s).box=false→(sl s).born≤g→v=V s) ∧
   (g=(sl s).gen→∃ d cs ad d' cs' ad',(sl s).cont = .data d∧Root w (sl s) (V s) cs ad∧loc w p d cs ad=some (d',cs',ad')∧v.cells.toList=cs'∧Shaped d'.b v)
 | .view s p g lo hi,v=>g≤(sl s).gen ∧
   (g=(sl s).gen→∃ d cs ad e l cs' ad',(sl s).cont = .data d∧Root w (sl s) (V s) cs ad∧loc w p d cs ad=some (⟨.leaf true (.sl e),l⟩,cs',ad')∧lo≤hi∧hi≤List.length (α:=J G.T e) l ∧
    ((cs'=[.slice none 0 0]∧v = .slice none 0 0)∨∃ b n cap off cap',cs'=[.slice (some ⟨b,0,none⟩) n cap]∧v = .slice (some ⟨b,off,none⟩) (hi-lo) cap'∧hi-lo≤cap'∧(off=lo*e.sz G.sz∨(off=0∧lo=hi))))
 | .nil,v=>v = .slice none 0 0
 | .clo f caps,v=>∃ vs:Array Value,v = .func (.func f) #[] vs∧PinsOK S w sl V caps vs.toList
 | .tup ps,v=>∃ vs:Array Value,v = .tuple vs∧PinsOK S w sl V ps vs.toList
 | .wrd s gs s' g',_=>gs≤(sl s).gen∧(g'≤(sl s').gen∧((sl s').born≤g'→(sl s').box=true∧∃ b,V s' = .pointer (some ⟨b,0,none⟩))) ∧
   (gs=(sl s).gen→(sl s').born≤g'→(∃ d,(sl s).cont = .data d)∧fd w (sl s).box (V s) (V s'))
def PinsOK(S:Nat→Prop)(w:World)(sl:Nat→Slot G)(V:Nat→Value):List (Pin G)→List Value→Prop
 | [],vs=>vs=[]
 | p::ps,vs=>∃ v vs',vs=v::vs'∧b9 S w sl V p v∧PinsOK S w sl V ps vs'
end
def cO(S:Nat→Prop)(w:World)(sl:Nat→Slot G)(V:Nat→Value)(x:Slot G)(v:Value)(F:List Nat):Prop :=
 match x.cont with
 | .dead=>F=[]
 | .data d=>if x.box=true then ∃ b c E F',v = .pointer (some ⟨b,0,none⟩)∧w.heap[b]? = some (.cells c E (0,0))∧F=b::F'∧RepB S w d.b d.x c.toList F'
   else RepB S w d.b d.x v.cells.toList F∧Shaped d.b v
 | .word p=>x.box=true∧∃ b c E cv,v = .pointer (some ⟨b,0,none⟩)∧w.heap[b]? = some (.cells c E (0,0))∧F=[b]∧c.toList=cv.cells.toList∧b9 S w sl V p cv
 | .frz d=>x.box=false∧(RepB S w d.b d.x v.cells.toList F∧Shaped d.b v)∧∀ b∈F,S b
def kg(w w':World)(x x':Slot G)(V V':Value)(F:List Nat):Prop :=
 (x'=x∧V'=V∧∀ b∈F,w'.heap[b]? = w.heap[b]?)∨(x.gen<x'.gen∧(x.gen<x'.born∨(x'.born=x.born∧x'.box=x.box∧V'=V)))
theorem pY{S:Nat→Prop}{w w':World}:∀ (p:cT) (d:DV G.T) (cs:List Value) (F:List Nat) (ad:Option (Nat×Nat)),RepB S w d.b d.x cs F→(∀ b∈F,w'.heap[b]? = w.heap[b]?)→loc w' p d cs ad=loc w p d cs ad
 | [],d,cs,F,ad,_,_=>rfl
 | .fld i::p,d,cs,F,ad,hr,hF=>by
  have hr':=(kV d).1 hr
  simp only[loc]
  cases hc:nth i (dp G d).b (dp G d).x with
  | none=>rfl
  | some c =>
  obtain⟨n,ca,cc,cb,Fa,Fc,Fb,e1,e2,e3,e4,e5,e6⟩:=jP i _ _ c cs F hc hr'
  rw[e1]
  simp only
  have hm:(cs.drop n).take (c.b.sz G)=cc:=by rw[e2];exact fj e4 (RepB.len e5)
  rw[hm]
  exact pY p c cc Fc _ e5 fun b hb=>hF b (by rw[e3];exact ax _ (ay _ hb))
 | .el i::p,⟨b0,x0⟩,cs,F,ad,hr,hF=>by
  cases b0 with
  | un=>rfl
  | pr _ _=>rfl
  | hole _=>rfl
  | sp _=>rfl
  | fn _=>rfl
  | leaf o t=>cases o with
   | false=>cases t <;> rfl
   | true=>cases t with
    | int _=>rfl
    | bool=>rfl
    | str=>rfl
    | ptr=>rfl
    | nm _=>rfl
    | sl e =>
     obtain⟨l,hl⟩:∃ l:List (J G.T e),l=x0:=⟨x0,rfl⟩
     subst hl
     rcases repE_slT.1 (show RepE S w true (.sl e) l cs F from hr)with ⟨rfl,_,_⟩ | ⟨b,off,cap,c,E,fz,F',rfl,h2,h3,h4,h5⟩
     ·rfl
     ·rw[bw rfl]at h5
      obtain⟨rfl,_,hsz,hcap,rfl⟩:=h5
      have h3':w'.heap[b]? = some (.cells c E fz):=(hF b (aH ..)).trans h3
      have key:∀ (w:World),w.heap[b]? = some (.cells c E fz)→loc w (.el i::p) (⟨.leaf true (.sl e),l⟩:DV G.T) [.slice (some ⟨b,0,none⟩) l.length cap] ad =
           if i<l.length then loc w p ⟨.leaf true e,l.getD i (cP G.zero e)⟩ ((c.toList.drop (i*e.sz G.sz)).take (e.sz G.sz)) (some (b,i*e.sz G.sz))else none:=by
       intro w hw
       show(match w.heap[b]? with
           | some (.cells c _ _)=>if i<l.length then loc w p ⟨.leaf true e,l.getD i (cP G.zero e)⟩ ((c.toList.drop (i*e.sz G.sz)).take (e.sz G.sz)) (some (b,i*e.sz G.sz))else none
           | _=>none)=_
       rw[hw]
      rw[show(DV.mk (BT.leaf true e.sl) l:DV G.T)=⟨.leaf true (.sl e),l⟩from rfl,key w h3,key w' h3']
      split
      ·rename_i hi
       rw[aQ]at h4
       obtain⟨ca,cb,cc,Fa,Fb,Fc,e1,e2,e3,e4,e5,e6,e7⟩:=RepL.at (n:=e.sz G.sz) _ i _ _ hi (fun x _ c G h=>h.len) h4
       have hsplit:c.toList=ca++cb++cc++c.toList.drop (l.length*e.sz G.sz):=by rw[← e1,List.take_append_drop]
       have hmid:(c.toList.drop (i*e.sz G.sz)).take (e.sz G.sz)=cb:=by
           conv=>lhs;rw[hsplit,List.append_assoc (ca++cb)]
           exact fj e3 e4
       have hget:l.getD i (cP G.zero e)=l[i]:=by simp[List.getD,hi]
       rw[hmid,hget]
       exact pY p ⟨.leaf true e,l[i]⟩ cb Fb _ e5 fun k hk=>hF k (aI _ (by rw[e2];exact ax _ (ay _ hk)))
      ·rfl
section
variable {S S':Nat→Prop} {w w':World} {sl sl':Nat→Slot G} {V V':Nat→Value} {F:Nat→List Nat}
theorem mv{x:Slot G}{v:Value}{Fs:List Nat}{d:DV G.T}(h:cO S w sl V x v Fs)(hd:x.cont = .data d):∃ cs ad F',Root w x v cs ad∧RepB S w d.b d.x cs F'∧F'.Sublist Fs:=by
 unfold cO at h
 rw[hd]at h
 simp only at h
 unfold Root
 split at h
 ·rename_i hb
  obtain⟨b,c,E,F',rfl,h2,rfl,h4⟩:=h
  exact⟨c.toList,some (b,0),F',by rw[bw hb];exact⟨b,c,E,rfl,h2,rfl,rfl⟩,h4,List.sublist_cons_self ..⟩
 ·rename_i hb
  exact⟨v.cells.toList,none,Fs,by rw[bz hb];exact⟨rfl,rfl⟩,h.1,List.Sublist.refl _⟩
theorem Root.eq{x:Slot G}{v:Value}{cs cs':List Value}{ad ad':Option (Nat×Nat)}(h:Root w x v cs ad)(h':Root w x v cs' ad'):cs'=cs∧ad'=ad:=by
 unfold Root at h h'
 split at h
 ·rename_i hb
  rw[bw hb]at h'
  obtain⟨b,c,E,rfl,h2,rfl,rfl⟩:=h
  obtain⟨b',c',E',h1',h2',rfl,rfl⟩:=h'
  cases h1'
  rw[h2]at h2'
  cases h2'
  exact⟨rfl,rfl⟩
 ·rename_i hb
  rw[bz hb]at h'
  obtain⟨rfl,rfl⟩:=h
  exact h'
theorem Root.frame{x:Slot G}{v:Value}{cs:List Value}{ad:Option (Nat×Nat)}{Fs:List Nat}{d:DV G.T}(h:Root w x v cs ad)(hs:cO S w sl V x v Fs)(hd:x.cont = .data d)(hF:∀ b∈Fs,w'.heap[b]? = w.heap[b]?):Root w' x v cs ad:=by
 unfold Root at h ⊢
 unfold cO at hs
 rw[hd]at hs
 simp only at hs
 split
 ·rename_i hb
  rw[bw hb]at h hs
  obtain⟨b,c,E,rfl,h2,h3,h4⟩:=h
  obtain⟨b',c',E',F',h1',h2',rfl,h4'⟩:=hs
  cases h1'
  exact⟨b,c,E,rfl,(hF b (aH ..)).trans h2,h3,h4⟩
 ·rename_i hb
  rw[bz hb]at h
  exact h
mutual
theorem iA(hs:∀ s,cO S w sl V (sl s) (V s) (F s))(hS:∀ b,S b→S' b∧w'.heap[b]? = w.heap[b]?)(ht:∀ s,kg w w' (sl s) (sl' s) (V s) (V' s) (F s)):∀ (p:Pin G) (v:Value),b9 S w sl V p v→b9 S' w' sl' V' p v
 | .no,_,_=>trivial
 | .und,_,h=>h
 | .ind,_,h=>h
 | .one,_,h=>h
 | .len _,_,h=>h
 | .val d,v,h=>⟨RepB.frame hS h.1 (fun _ hb=>by cases hb),h.2⟩
 | .adr t x,v,⟨b,off,c,E,fz,h1,h2,h3,h4,h5⟩=>⟨b,off,c,E,fz,h1,(hS b h2).1,(hS b h2).2.trans h3,h4.frame hS (fun _ hb=>by cases hb),h5⟩
 | .ptr s p off g,v,h=>by
  obtain⟨h1,h2,h3⟩:=h
  have h1':=h1.1
  show(g≤(sl' s).gen∧_)∧_∧_
  rcases ht s with ⟨e1,e2,e3⟩ | ⟨e1,e2⟩
  ·rw[e1,e2]
   refine⟨h1,h2,fun hp hg=>?_⟩
   obtain⟨d,cs,ad,d',cs',b,o',k1,k2,k3,k4⟩:=h3 hp hg
   obtain⟨cs0,ad0,F',q1,q2,q3⟩:=mv (hs s) k1
   obtain⟨rfl,rfl⟩:=q1.eq k2
   exact⟨d,cs,ad,d',cs',b,o',k1,k2.frame (hs s) k1 e3,by rw[pY p d cs F' ad q2 fun b hb=>e3 b (q3.subset hb)];exact k3,k4⟩
  ·refine⟨⟨by omega,h1.2⟩,fun hp hg=>?_,fun hp hg=>by omega⟩
   rcases e2 with e2 | ⟨e2,e3,e4⟩
   ·omega
   ·rw[e3,e4];exact h2 hp (by omega)
 | .ali s p g,v,h=>by
  obtain⟨h1,h2,h3⟩:=h
  show g≤(sl' s).gen∧_∧_
  rcases ht s with ⟨e1,e2,e3⟩ | ⟨e1,e2⟩
  ·rw[e1,e2]
   refine⟨h1,h2,fun hg=>?_⟩
   obtain⟨d,cs,ad,d',cs',ad',k1,k2,k3,k4⟩:=h3 hg
   obtain⟨cs0,ad0,F',q1,q2,q3⟩:=mv (hs s) k1
   obtain⟨rfl,rfl⟩:=q1.eq k2
   exact⟨d,cs,ad,d',cs',ad',k1,k2.frame (hs s) k1 e3,by rw[pY p d cs F' ad q2 fun b hb=>e3 b (q3.subset hb)];exact k3,k4⟩
  ·refine⟨by omega,fun hp hb hg=>?_,fun hg=>by omega⟩
   rcases e2 with e2 | ⟨e2,e3,e4⟩
   ·omega
   ·rw[e4];exact h2 hp (by rw[← e3];exact hb) (by omega)
 | .view s p g lo hi,v,h=>by
  obtain⟨h1,h3⟩:=h
  show g≤(sl' s).gen∧_
  rcases ht s with ⟨e1,e2,e3⟩ | ⟨e1,e2⟩
  ·rw[e1,e2]
   refine⟨h1,fun hg=>?_⟩
   obtain⟨d,cs,ad,e,l,cs',ad',k1,k2,k3,k4⟩:=h3 hg
   obtain⟨cs0,ad0,F',q1,q2,q3⟩:=mv (hs s) k1
   obtain⟨rfl,rfl⟩:=q1.eq k2
   exact⟨d,cs,ad,e,l,cs',ad',k1,k2.frame (hs s) k1 e3,by rw[pY p d cs F' ad q2 fun b hb=>e3 b (q3.subset hb)];exact k3,k4⟩
  ·exact⟨by omega,fun hg=>by omega⟩
 | .nil,v,h=>h
 | .clo f caps,v,⟨vs,h1,h2⟩=>⟨vs,h1,xI hs hS ht caps vs.toList h2⟩
 | .tup ps,v,⟨vs,h1,h2⟩=>⟨vs,h1,xI hs hS ht ps vs.toList h2⟩
 | .wrd s gs s' g',v,⟨h1,⟨h2,h3⟩,h4⟩=>by
  show gs≤(sl' s).gen∧(g'≤(sl' s').gen∧_)∧_
  have k2:g'≤(sl' s').gen∧((sl' s').born≤g'→(sl s').born≤g'∧(sl' s').box=(sl s').box∧V' s'=V s'):=by
   rcases ht s' with ⟨e1,e2,e3⟩ | ⟨e1,e2⟩
   ·rw[e1,e2];exact⟨h2,fun h=>⟨h,rfl,rfl⟩⟩
   ·refine⟨by omega,fun hb=>?_⟩
    rcases e2 with e2 | ⟨e2,e3,e4⟩
    ·omega
    ·exact⟨by omega,e3,e4⟩
  have k1:gs≤(sl' s).gen:=by
   rcases ht s with ⟨e1,e2,e3⟩ | ⟨e1,e2⟩
   ·rw[e1];exact h1
   ·omega
  refine⟨k1,⟨k2.1,fun hb=>?_⟩,fun hg hb=>?_⟩
  ·obtain⟨q1,q2,q3⟩:=k2.2 hb
   rw[q2,q3];exact h3 q1
  ·obtain⟨q1,q2,q3⟩:=k2.2 hb
   rcases ht s with ⟨e1,e2,e3⟩ | ⟨e1,e2⟩
   ·rw[e1]at hg
    rw[e1,e2,q3]
    obtain⟨⟨d,hd⟩,hc⟩:=h4 hg q1
    refine⟨⟨d,hd⟩,?_⟩
    have hsl:=hs s
    unfold cO at hsl
    rw[hd]at hsl
    simp only at hsl
    unfold fd at hc ⊢
    split
    ·rename_i hbx
     rw[bw hbx]at hc hsl
     obtain⟨b,c,E,fz,r1,r2,r3⟩:=hc
     obtain⟨b',c',E',F',t1,t2,t3,t4⟩:=hsl
     rw[r1]at t1
     cases t1
     exact⟨b,c,E,fz,r1,(e3 b (by rw[t3];exact aH ..)).trans r2,r3⟩
    ·rename_i hbx
     rw[bz hbx]at hc
     exact hc
   ·omega
theorem xI(hs:∀ s,cO S w sl V (sl s) (V s) (F s))(hS:∀ b,S b→S' b∧w'.heap[b]? = w.heap[b]?)(ht:∀ s,kg w w' (sl s) (sl' s) (V s) (V' s) (F s)):∀ (ps:List (Pin G)) (vs:List Value),PinsOK S w sl V ps vs→PinsOK S' w' sl' V' ps vs
 | [],vs,h=>h
 | p::ps,vs,⟨v,vs',h1,h2,h3⟩=>⟨v,vs',h1,iA hs hS ht p v h2,xI hs hS ht ps vs' h3⟩
end
theorem qF(hs:∀ s,cO S w sl V (sl s) (V s) (F s))(hS:∀ b,S b→S' b∧w'.heap[b]? = w.heap[b]?)(ht:∀ s,kg w w' (sl s) (sl' s) (V s) (V' s) (F s)){s:Nat}(he:sl' s=sl s)(hv:V' s=V s)(hF:∀ b∈F s,w'.heap[b]? = w.heap[b]?) :
  cO S' w' sl' V' (sl' s) (V' s) (F s):=by
 have h:=hs s
 rw[he,hv]
 unfold cO at h ⊢
 cases hc:(sl s).cont with
 | dead=>rw[hc]at h;exact h
 | data d =>
  rw[hc]at h
  simp only at h ⊢
  split
  ·rename_i hb
   rw[bw hb]at h
   obtain⟨b,c,E,F',h1,h2,h3,h4⟩:=h
   exact⟨b,c,E,F',h1,(hF b (by rw[h3];exact aH ..)).trans h2,h3,RepB.frame hS h4 fun k hk=>hF k (by rw[h3];exact aI _ hk)⟩
  ·rename_i hb
   rw[bz hb]at h
   exact⟨RepB.frame hS h.1 hF,h.2⟩
 | word p =>
  rw[hc]at h
  simp only at h ⊢
  obtain⟨h0,b,c,E,cv,h1,h2,h3,h4,h5⟩:=h
  exact⟨h0,b,c,E,cv,h1,(hF b (by rw[h3];exact aH ..)).trans h2,h3,h4,iA hs hS ht p cv h5⟩
 | frz d =>
  rw[hc]at h
  simp only at h ⊢
  exact⟨h.1,⟨RepB.frame hS h.2.1.1 hF,h.2.1.2⟩,fun b hb=>(hS b (h.2.2 b hb)).1⟩
end
end
structure Ctx where
 P:Program
 w0:World
 F0:List Nat
 S0:Nat→Prop
 V0:Nat→Value
 np:Nat
 nt:Nat
structure Ok {G:Gam} (C:Ctx) (σ:St G) (a:Act) (w:World) (S:Nat→Prop) (F:Nat→List Nat) (V:Nat→Value):Prop where
 pins:∀ t,b9 S w σ.slot V (σ.pin t) (a.tmps.getD t undef)
 slots:∀ s,cO S w σ.slot V (σ.slot s) (V s) (F s)
 born:∀ s,(σ.slot s).born≤(σ.slot s).gen
 nd:∀ s,(F s).Nodup
 apart:∀ s s',s≠s'→∀ b∈F s,b∉F s'
 notS:∀ s,∀ b∈F s,nfz (σ.slot s)=true→¬ S b
 bnd:∀ s,∀ b∈F s,b<w.heap.size
 bndS:∀ b,S b→b<w.heap.size
 keep:∀ b,b<C.w0.heap.size→b∉C.F0→w.heap[b]? = C.w0.heap[b]?
 fromF:∀ s,∀ b∈F s,b∈C.F0∨C.w0.heap.size≤b
 fromS:∀ b,S b→C.S0 b∨b∈C.F0∨C.w0.heap.size≤b
 inS:∀ b,C.S0 b→S b
 grow:C.w0.heap.size≤w.heap.size
 os:w.os=C.w0.os
 tape:w.tape=C.w0.tape
 output:w.output=C.w0.output
 defers:a.defers=[]
 size:a.tmps.size=C.nt
 V0:∀ s,s<16*C.np→V s=C.V0 s
 orig:∀ s i,(σ.slot s).orig=some i→(σ.slot s).box=true→(σ.slot s).cont ≠ .dead→∀ cs ad,Root w (σ.slot s) (V s) cs ad→cs=(C.V0 (16*i)).cells.toList
theorem Ok.notSd{G:Gam}{C:Ctx}{σ:St G}{a:Act}{w:World}{S:Nat→Prop}{F:Nat→List Nat}{V:Nat→Value}(h:Ok C σ a w S F V){s:Nat}{d:DV G.T}(hc:(σ.slot s).cont = .data d):∀ b∈F s,¬ S b :=
 fun b hb=>h.notS s b hb (by unfold nfz;rw[hc])
def df{G:Gam}(C:Ctx)(σ:St G)(a:Act)(w:World):Prop:=∃ S F V,Ok C σ a w S F V
def upd{α:Type}(f:Nat→α)(s:Nat)(x:α):Nat→α:=fun s'=>if s'=s then x else f s'
theorem ck{α:Type}(f:Nat→α)(s:Nat)(x:α):upd f s x s=x:=bw rfl
theorem cj{α:Type}(f:Nat→α){s s':Nat}(x:α)(h:s'≠s):upd f s x s'=f s':=bz h
section
variable {G:Gam}
theorem St.setS_slot(σ:St G)(s:Nat)(x:Slot G):(σ.setS s x).slot=upd σ.slot s x:=by
 funext s'
 show(bif Nat.beq s' s then x else σ.slot s')=_
 unfold upd
 by_cases h:s'=s
 ·subst h;simp[Nat.beq_refl]
 ·rw[bz h]
  have:Nat.beq s' s=false:=by
   cases hb:Nat.beq s' s with
   | true=>exact absurd (Nat.eq_of_beq_eq_true hb) h
   | false=>rfl
  rw[this];rfl
theorem St.setP_pin(σ:St G)(s:Nat)(x:Pin G):(σ.setP s x).pin=upd σ.pin s x:=by
 funext s'
 show(bif Nat.beq s' s then x else σ.pin s')=_
 unfold upd
 by_cases h:s'=s
 ·subst h;simp[Nat.beq_refl]
 ·rw[bz h]
  have:Nat.beq s' s=false:=by
   cases hb:Nat.beq s' s with
   | true=>exact absurd (Nat.eq_of_beq_eq_true hb) h
   | false=>rfl
  rw[this];rfl
theorem Ok.setP{C:Ctx}{σ:St G}{a:Act}{w:World}{S:Nat→Prop}{F:Nat→List Nat}{V:Nat→Value}(h:Ok C σ a w S F V){d:Nat}{p:Pin G}{v:Value}(hd:d<C.nt)(hp:b9 S w σ.slot V p v):Ok C (σ.setP d p) (a.put (some d) v) w S F V:=by
 refine { h with pins:=fun t=>?_,size:=by simp[Act.put,h.size],defers:=h.defers }
 rw[St.setP_pin]
 unfold upd
 by_cases ht:t=d
 ·subst ht
  rw[bw rfl]
  have:(a.put (some t) v).tmps.getD t undef=v:=by simp[Act.put,Array.getD,h.size,hd]
  rw[this];exact hp
 ·rw[bz ht]
  have:(a.put (some d) v).tmps.getD t undef=a.tmps.getD t undef:=by
   simp only[Act.put,Array.getD_eq_getD_getElem?]
   rw[Array.getElem?_setIfInBounds_ne (fun e=>ht e.symm)]
  rw[this];exact h.pins t
theorem Ok.turnF{C:Ctx}{σ:St G}{a:Act}{w:World}{S:Nat→Prop}{F:Nat→List Nat}{V:Nat→Value}(h:Ok C σ a w S F V){s0:Nat}{x':Slot G}{v':Value}{F':List Nat}{S':Nat→Prop}{w':World}
  (hS:∀ b,S b→S' b∧w'.heap[b]? = w.heap[b]?) (hoth:∀ s,s≠s0→∀ b∈F s,w'.heap[b]? = w.heap[b]?)
  (hgen:(σ.slot s0).gen<x'.gen) (hturn:(σ.slot s0).gen<x'.born∨(x'.born=(σ.slot s0).born∧x'.box=(σ.slot s0).box∧v'=V s0)) (hborn:x'.born≤x'.gen)
  (hslot:cO S' w' (upd σ.slot s0 x') (upd V s0 v') x' v' F') (hnd:F'.Nodup) (hnS:∀ b∈F',nfz x'=true→¬ S' b) (hap:∀ s,s≠s0→∀ b∈F s,b∉F'∧(nfz (σ.slot s)=true→¬ S' b))
  (hbnd:∀ b∈F',b<w'.heap.size) (hbndS:∀ b,S' b→b<w'.heap.size) (hsz:w.heap.size≤w'.heap.size)
  (hkeep:∀ b,b<C.w0.heap.size→b∉C.F0→w'.heap[b]? = w.heap[b]?) (hfF:∀ b∈F',b∈C.F0∨C.w0.heap.size≤b) (hfS:∀ b,S' b→C.S0 b∨b∈C.F0∨C.w0.heap.size≤b)
  (hos:w'.os=w.os) (htape:w'.tape=w.tape) (hout:w'.output=w.output) (hV0:s0<16*C.np→v'=V s0)
  (horig:∀ i,x'.orig=some i→x'.box=true→x'.cont ≠ .dead→∀ cs ad,Root w' x' v' cs ad→cs=(C.V0 (16*i)).cells.toList) :
  Ok C (σ.setS s0 x') a w' S' (E.upd F s0 F') (E.upd V s0 v'):=by
 have ht:∀ s,kg w w' (σ.slot s) (E.upd σ.slot s0 x' s) (V s) (E.upd V s0 v' s) (F s):=by
  intro s
  by_cases e:s=s0
  ·subst e;rw[ck,ck];exact .inr ⟨hgen,hturn⟩
  ·rw[cj _ _ e,cj _ _ e];exact .inl ⟨rfl,rfl,hoth s e⟩
 have hsl:(σ.setS s0 x').slot=E.upd σ.slot s0 x':=St.setS_slot ..
 have e1:∀ t,b9 S' w' (σ.setS s0 x').slot (E.upd V s0 v') ((σ.setS s0 x').pin t) (a.tmps.getD t undef):=by
  intro t
  rw[hsl];exact iA h.slots hS ht _ _ (h.pins t)
 have e2:∀ s,cO S' w' (σ.setS s0 x').slot (E.upd V s0 v') ((σ.setS s0 x').slot s) (E.upd V s0 v' s) (E.upd F s0 F' s):=by
  intro s
  rw[hsl]
  by_cases e:s=s0
  ·subst e;rw[ck,ck,ck];exact hslot
  ·have:=qF h.slots hS ht (s:=s) (cj _ _ e) (cj _ _ e) (hoth s e)
   rw[cj F _ e];exact this
 have e3:∀ s,((σ.setS s0 x').slot s).born≤((σ.setS s0 x').slot s).gen:=by
  intro s
  rw[hsl]
  by_cases e:s=s0
  ·subst e;rw[ck];exact hborn
  ·rw[cj _ _ e];exact h.born s
 have e4:∀ s,(E.upd F s0 F' s).Nodup:=by
  intro s
  by_cases e:s=s0
  ·subst e;rw[ck];exact hnd
  ·rw[cj _ _ e];exact h.nd s
 have e5:∀ s s',s≠s'→∀ b∈E.upd F s0 F' s,b∉E.upd F s0 F' s':=by
  intro s s' hne b hb
  by_cases e:s=s0
  ·subst e
   rw[ck]at hb
   rw[cj _ _ (fun e=>hne e.symm)]
   exact fun hb'=>(hap s' (fun e=>hne e.symm) b hb').1 hb
  ·rw[cj _ _ e]at hb
   by_cases e':s'=s0
   ·subst e';rw[ck];exact(hap s e b hb).1
   ·rw[cj _ _ e'];exact h.apart s s' hne b hb
 have e6:∀ s,∀ b∈E.upd F s0 F' s,nfz ((σ.setS s0 x').slot s)=true→¬ S' b:=by
  intro s b hb
  rw[hsl]
  by_cases e:s=s0
  ·subst e;rw[ck]at hb ⊢;exact hnS b hb
  ·rw[cj _ _ e]at hb ⊢;exact(hap s e b hb).2
 have e7:∀ s,∀ b∈E.upd F s0 F' s,b<w'.heap.size:=by
  intro s b hb
  by_cases e:s=s0
  ·subst e;rw[ck]at hb;exact hbnd b hb
  ·rw[cj _ _ e]at hb;exact Nat.lt_of_lt_of_le (h.bnd s b hb) hsz
 have e8:∀ s,∀ b∈E.upd F s0 F' s,b∈C.F0∨C.w0.heap.size≤b:=by
  intro s b hb
  by_cases e:s=s0
  ·subst e;rw[ck]at hb;exact hfF b hb
  ·rw[cj _ _ e]at hb;exact h.fromF s b hb
 have e9:∀ s,s<16*C.np→E.upd V s0 v' s=C.V0 s:=by
  intro s hs
  by_cases e:s=s0
  ·subst e;rw[ck];exact(hV0 hs).trans (h.V0 s hs)
  ·rw[cj _ _ e];exact h.V0 s hs
 have e10:∀ s i,((σ.setS s0 x').slot s).orig=some i→((σ.setS s0 x').slot s).box=true→((σ.setS s0 x').slot s).cont ≠ .dead→∀ cs ad,Root w' ((σ.setS s0 x').slot s) (E.upd V s0 v' s) cs ad→cs=(C.V0 (16*i)).cells.toList:=by
  intro s i h1 h2 h4 cs ad h3
  rw[hsl]at h1 h2 h3 h4
  by_cases e:s=s0
  ·subst e;rw[ck]at h1 h2 h3 h4;rw[ck]at h3;exact horig i h1 h2 h4 cs ad h3
  ·rw[cj _ _ e]at h1 h2 h3 h4
   rw[cj _ _ e]at h3
   refine h.orig s i h1 h2 h4 cs ad ?_
   unfold Root at h3 ⊢
   rw[bw h2]at h3 ⊢
   obtain⟨b,c,E',k1,k2,k3,k4⟩:=h3
   refine⟨b,c,E',k1,?_,k3,k4⟩
   have hs:=h.slots s
   unfold cO at hs
   cases hc:(σ.slot s).cont with
   | dead=>exact absurd hc h4
   | data d =>
    rw[hc]at hs
    simp only at hs
    rw[bw h2]at hs
    obtain⟨b',c',E'',F'',q1,q2,q3,q4⟩:=hs
    rw[k1]at q1
    cases q1
    rw[← hoth s e b (by rw[q3];exact aH ..)];exact k2
   | word p =>
    rw[hc]at hs
    simp only at hs
    obtain⟨q0,b',c',E'',cv,q1,q2,q3,q4⟩:=hs
    rw[k1]at q1
    cases q1
    rw[← hoth s e b (by rw[q3];exact aH ..)];exact k2
   | frz d =>
    rw[hc]at hs
    exact absurd (h2.symm.trans hs.1) (by decide)
 exact⟨e1,e2,e3,e4,e5,e6,e7,hbndS,fun b h1 h2=>(hkeep b h1 h2).trans (h.keep b h1 h2),e8,hfS,fun b hb=>(hS b (h.inS b hb)).1,Nat.le_trans h.grow hsz,hos.trans h.os,htape.trans h.tape,hout.trans h.output,h.defers,h.size,e9,e10⟩
theorem Ok.turn{C:Ctx}{σ:St G}{a:Act}{w:World}{S:Nat→Prop}{F:Nat→List Nat}{V:Nat→Value}(h:Ok C σ a w S F V){s0:Nat}{x':Slot G}{v':Value}{F':List Nat}{S':Nat→Prop}{w':World}
  (hS:∀ b,S b→S' b∧w'.heap[b]? = w.heap[b]?) (hoth:∀ s,s≠s0→∀ b∈F s,w'.heap[b]? = w.heap[b]?)
  (hgen:(σ.slot s0).gen<x'.gen) (hturn:(σ.slot s0).gen<x'.born∨(x'.born=(σ.slot s0).born∧x'.box=(σ.slot s0).box∧v'=V s0)) (hborn:x'.born≤x'.gen)
  (hslot:cO S' w' (upd σ.slot s0 x') (upd V s0 v') x' v' F') (hnd:F'.Nodup) (hnS:∀ b∈F',¬ S' b) (hap:∀ s,s≠s0→∀ b∈F s,b∉F'∧(nfz (σ.slot s)=true→¬ S' b))
  (hbnd:∀ b∈F',b<w'.heap.size) (hbndS:∀ b,S' b→b<w'.heap.size) (hsz:w.heap.size≤w'.heap.size)
  (hkeep:∀ b,b<C.w0.heap.size→b∉C.F0→w'.heap[b]? = w.heap[b]?) (hfF:∀ b∈F',b∈C.F0∨C.w0.heap.size≤b) (hfS:∀ b,S' b→C.S0 b∨b∈C.F0∨C.w0.heap.size≤b)
  (hos:w'.os=w.os) (htape:w'.tape=w.tape) (hout:w'.output=w.output) (hV0:s0<16*C.np→v'=V s0)
  (horig:∀ i,x'.orig=some i→x'.box=true→x'.cont ≠ .dead→∀ cs ad,Root w' x' v' cs ad→cs=(C.V0 (16*i)).cells.toList) :
  Ok C (σ.setS s0 x') a w' S' (E.upd F s0 F') (E.upd V s0 v') :=
 h.turnF hS hoth hgen hturn hborn hslot hnd (fun b hb _=>hnS b hb) hap hbnd hbndS hsz hkeep hfF hfS hos htape hout hV0 horig
end
end
section
def uP(k:IntKind):List Value→Bool
 | [.int k' n]=>k==k'&&decide (n=0)
 | _=>false
def uO:List Value→Bool
 | [.bool b]=>!b
 | _=>false
def uR:List Value→Bool
 | [.string s]=>Nat.beq s.size 0
 | _=>false
def uQ:List Value→Bool
 | [.pointer none]=>true
 | _=>false
def zSl:List Value→Bool
 | [.slice none n c]=>Nat.beq n 0&&Nat.beq c 0
 | _=>false
def oM(G:Gam)(f:FT→List Value→Bool):List FT→List Value→Bool
 | [],cs=>cs.isEmpty
 | t::ts,cs=>f t (cs.take (t.sz G.sz))&&oM G f ts (cs.drop (t.sz G.sz))
def oK{G:Gam}:Nat→FT→List Value→Bool
 | 0,_,_=>false
 | d+1,t,cs=>match t with
  | .int k=>uP k cs
  | .bool=>uO cs
  | .str=>uR cs
  | .ptr=>uQ cs
  | .sl _=>zSl cs
  | .nm n=>oM G (oK (G:=G) d) (G.fs n) cs
theorem ZH{k:IntKind}{cs:List Value}(h:uP k cs=true):cs=[.int k 0]:=by
 unfold uP at h;split at h
 ·simp only[aD,beq_iff_eq,decide_eq_true_eq]at h;rw[h.1,h.2]
 ·cases h
theorem ZG{cs:List Value}(h:uO cs=true):cs=[.bool false]:=by
 unfold uO at h;split at h
 ·rename_i b;cases b <;> first | rfl | cases h
 ·cases h
theorem ZK{cs:List Value}(h:uR cs=true):∃ s:ByteArray,cs=[.string s]∧s.size=0:=by
 unfold uR at h;split at h
 ·rename_i s;exact⟨s,rfl,Nat.eq_of_beq_eq_true h⟩
 ·cases h
theorem ZI{cs:List Value}(h:uQ cs=true):cs=[.pointer none]:=by
 unfold uQ at h;split at h
 ·rfl
 ·cases h
theorem ZJ{cs:List Value}(h:zSl cs=true):cs=[.slice none 0 0]:=by
 unfold zSl at h;split at h
 ·simp only[aD]at h;rw[Nat.eq_of_beq_eq_true h.1,Nat.eq_of_beq_eq_true h.2]
 ·cases h
def FT.isNm:FT→Bool
 | .nm _=>true
 | _=>false
def fg(G:Gam)(P:Program)(ty:Nat→Option FT):Nat→List Field→List FT→Bool
 | _,[],[]=>true
 | off,f::fs,t::ts=>Nat.beq f.offset off&&(match ty f.type with | some t'=>(FT.eq? t' t).isSome | none=>false)&&(match P.info? f.type with | some i=>Nat.beq i.size (t.sz G.sz) && !Nat.beq i.size 0 | none=>false)&&fg G P ty (off+t.sz G.sz) fs ts
 | _,_,_=>false
def rr (P : Program) (t : TypeId) (fs : List Field) : Bool := !P.stoodInHeld t && !P.eqGuardType P.depth t && fs.all fun f => f.name != "_"
def dh(G:Gam)(P:Program)(ty:Nat→Option FT)(t:TypeId)(ft:FT):Bool :=
 (match P.info? t with
  | some i=>Nat.beq i.size (ft.sz G.sz)&&Nat.ble i.bytes 16384 && !Nat.beq i.size 0&&(match i.zero with | some z=>oK (G:=G) deep ft z.cells.toList&&(match z with | .agg _=>ft.isNm | _=>!ft.isNm) | none=>false)
  | none=>false) &&
 (match ft with
  | .int k=>(match P.underlying t with | some (.int k')=>k==k' | _=>false)
  | .bool=>(match P.underlying t with | some .bool=>true | _=>false)
  | .str=>(match P.underlying t with | some .string=>true | _=>false)
  | .ptr=>(match P.underlying t with | some (.pointer _)=>true | _=>false)
  | .sl e=>(match P.underlying t with | some (.slice et)=>(match ty et with | some e'=>(FT.eq? e' e).isSome | none=>false) | _=>false)
  | .nm n=>(match P.underlying t with | some (.struct fs)=>fg G P ty 0 fs.toList (G.fs n)&&rr P t fs.toList | _=>false))
section
variable {G:Gam} {P:Program} {ty:Nat→Option FT}
theorem ZV:∀ (d:Nat) (ft:FT) (cs:List Value),oK (G:=G) d ft cs=true→∀ (S:Nat→Prop) (w:World) (o:Bool),RepE S w o ft (cP G.zero ft) cs []:=by
 intro d
 induction d with
 | zero=>intro ft cs h;simp[oK]at h
 | succ d ih =>
  intro ft cs h S w o
  cases ft with
  | int k =>
   obtain rfl:=ZH (show uP k cs=true from h)
   exact repE_int.2 ⟨rfl,by show k.wrap 0=0;cases k <;> decide,rfl⟩
  | bool =>
   obtain rfl:=ZG (show uO cs=true from h)
   exact repE_bool.2 ⟨rfl,rfl⟩
  | str =>
   obtain⟨s,rfl,h'⟩:=ZK (show uR cs=true from h)
   refine repE_str.2 ⟨s,rfl,?_,rfl,by rw[h'];exact Nat.zero_le _⟩
   have:s.data.toList=[]:=List.eq_nil_of_length_eq_zero h'
   show([]:List Int)=ct s
   unfold ct
   rw[this];rfl
  | ptr =>
   obtain rfl:=ZI (show uQ cs=true from h)
   exact repE_ptr.2 ⟨none,rfl,rfl⟩
  | sl e =>
   obtain rfl:=ZJ (show zSl cs=true from h)
   exact repE_sl.2 (.inl ⟨lM _,rfl,rfl⟩)
  | nm n =>
   refine repE_nm.2 ?_
   show RepFs _ (G.fs n) (G.un n (G.zero n)) cs []
   rw[G.un_zero]
   have h':oM G (oK (G:=G) d) (G.fs n) cs=true:=h
   have key:∀ (ts:List FT) (cs:List Value),oM G (oK (G:=G) d) ts cs=true→RepFs (fun t y=>RepE S w o t y) ts (iH G.zero ts) cs []:=by
    intro ts
    induction ts with
    | nil=>intro cs h;exact⟨by simpa [oM]using h,rfl⟩
    | cons t ts ih' =>
     intro cs h
     simp only[oM,aD]at h
     exact⟨cs.take (t.sz G.sz),cs.drop (t.sz G.sz),[],[],(List.take_append_drop ..).symm,rfl,ih _ _ h.1 S w o,ih' _ h.2⟩
   exact key _ _ h'
structure TyOK (G:Gam) (P:Program) (ty:Nat→Option FT) (t:TypeId) (ft:FT) (i:TypeInfo) (z:Value):Prop where
 info:P.info? t=some i
 size:i.size=ft.sz G.sz
 pos:0<ft.sz G.sz
 bytes:i.bytes≤16384
 zero:i.zero=some z
 zrep:∀ (S:Nat→Prop) (w:World) (o:Bool),RepE S w o ft (cP G.zero ft) z.cells.toList []
 zshape:Shaped (.leaf true ft) z
 desc:match ft with
  | .int k=>P.underlying t=some (.int k)
  | .bool=>P.underlying t=some .bool
  | .str=>P.underlying t=some .string
  | .ptr=>∃ et,P.underlying t=some (.pointer et)
  | .sl e=>∃ et,P.underlying t=some (.slice et)∧ty et=some e
  | .nm n=>∃ fs,P.underlying t=some (.struct fs)∧fg G P ty 0 fs.toList (G.fs n)=true
 cmp:ft.isNm=true→∃ fs,P.underlying t=some (.struct fs)∧rr P t fs.toList=true
theorem FT.eq?_some{a b:FT}(h:(FT.eq? a b).isSome=true):a=b:=by
 cases he:FT.eq? a b with
 | none=>rw[he]at h;cases h
 | some x=>exact x.down
theorem cn{a b:Nat}(h:Nat.beq a b=true):a=b:=Nat.eq_of_beq_eq_true h
theorem TyOK.of{t:TypeId}{ft:FT}(h:dh G P ty t ft=true):∃ i z,TyOK G P ty t ft i z:=by
 simp only[dh,aD]at h
 obtain⟨h1,h2⟩:=h
 cases hi:P.info? t with
 | none=>rw[hi]at h1;cases h1
 | some i =>
  rw[hi]at h1
  simp only[aD]at h1
  obtain⟨⟨⟨a1,a2⟩,a3⟩,a4⟩:=h1
  cases hz:i.zero with
  | none=>rw[hz]at a4;cases a4
  | some z =>
   rw[hz]at a4
   simp only[aD]at a4
   obtain⟨b1,b2⟩:=a4
   have hsz:=cn a1
   have hpos:0<ft.sz G.sz:=by
    rcases Nat.eq_zero_or_pos (ft.sz G.sz)with e | e
    ·rw[hsz,e]at a3;simp[Nat.beq]at a3
    ·exact e
   refine⟨i,z,hi,hsz,hpos,aG a2,hz,fun S w o=>ZV deep ft _ b1 S w o,?_,?_,?_⟩
   ·have hz2:(∃ cs,z = .agg cs)∨ft.isNm=false:=by
     cases z <;> first | exact .inl ⟨_,rfl⟩ | exact .inr (by simpa using b2)
    have hz3:ft.isNm=true→∃ cs,z = .agg cs:=fun h=>hz2.resolve_right (by rw[h];simp)
    have hz4:ft.isNm=false→∀ cs,z ≠ .agg cs:=by
     intro h cs e
     subst e
     rw[h]at b2;cases b2
    cases ft with
    | nm n=>exact hz3 rfl
    | int k=>exact hz4 rfl
    | bool=>exact hz4 rfl
    | str=>exact hz4 rfl
    | ptr=>exact hz4 rfl
    | sl e=>exact hz4 rfl
   ·cases ft with
    | int k =>
     simp only at h2 ⊢
     split at h2
     ·rename_i k' hk;rw[hk,eq_of_beq h2]
     ·cases h2
    | bool =>
     simp only at h2 ⊢
     split at h2
     ·assumption
     ·cases h2
    | str =>
     simp only at h2 ⊢
     split at h2
     ·assumption
     ·cases h2
    | ptr =>
     simp only at h2 ⊢
     split at h2
     ·rename_i et he;exact⟨et,he⟩
     ·cases h2
    | sl e =>
     simp only at h2 ⊢
     split at h2
     ·rename_i et he
      cases ht:ty et with
      | none=>rw[ht]at h2;cases h2
      | some e'=>rw[ht]at h2;exact⟨et,he,by rw[ht,FT.eq?_some h2]⟩
     ·cases h2
    | nm n =>
     simp only at h2 ⊢
     split at h2
     ·rename_i fs hf;exact⟨fs,hf,(Bool.and_eq_true_iff.1 h2).1⟩
     ·cases h2
   ·cases ft with
    | nm n =>
     intro _
     simp only at h2
     split at h2
     ·rename_i fs hf;exact⟨fs,hf,(Bool.and_eq_true_iff.1 h2).2⟩
     ·cases h2
    | int k=>intro h;cases h
    | bool=>intro h;cases h
    | str=>intro h;cases h
    | ptr=>intro h;cases h
    | sl e=>intro h;cases h
section runs
variable {t:TypeId} {ft:FT} {i:TypeInfo} {z:Value} (hT:TyOK G P ty t ft i z) (w:World)
include hT
theorem TyOK.run_sizeOf:(sizeOf t).run P w = .ok (ft.sz G.sz) w:=by
 simp[sizeOf,typeInfo,hT.info,hT.size]
theorem TyOK.run_zero:(zeroValue t).run P w = .ok z w:=by
 simp[zeroValue,typeInfo,hT.info,hT.zero]
theorem TyOK.run_info:(typeInfo t).run P w = .ok i w:=by simp[typeInfo,hT.info]
theorem TyOK.run_isAgg:(isAgg t).run P w = .ok ft.isNm w:=by
 have hd:=hT.desc
 cases ft <;> simp only at hd
 case int k=>simp[isAgg,run_underlying hd,FT.isNm]
 case bool=>simp[isAgg,run_underlying hd,FT.isNm]
 case str=>simp[isAgg,run_underlying hd,FT.isNm]
 case ptr=>obtain⟨et,hd⟩:=hd;simp[isAgg,run_underlying hd,FT.isNm]
 case sl e=>obtain⟨et,hd,_⟩:=hd;simp[isAgg,run_underlying hd,FT.isNm]
 case nm n=>obtain⟨fs,hd,_⟩:=hd;simp[isAgg,run_underlying hd,FT.isNm]
end runs
theorem gH(b o j:Nat):(⟨b,o,none⟩:Addr).add j=⟨b,o+j,none⟩:=by unfold Addr.add;split <;> simp_all
def eL(nm:Bool)(cs:List Value):Value:=if nm=true then .agg cs.toArray else cs.headD undef
theorem sR{t:TypeId}{ft:FT}{i:TypeInfo}{z:Value}(hT:TyOK G P ty t ft i z)(w:World){b off:Nat}{c:Array Value}{E:TypeId}{fz:Nat×Nat}(hb:w.heap[b]? = some (.cells c E fz)){cs:List Value}
  (hc:(c.toList.drop off).take (ft.sz G.sz)=cs) (hl:cs.length=ft.sz G.sz):(loadVar t ⟨b,off,none⟩).run P w = .ok (eL ft.isNm cs) w:=by
 have hcell:∀ j v,cs[j]? = some v→w.cell? ((⟨b,off,none⟩:Addr).add j)=some v:=by
  intro j v hv
  rw[gH]
  simp only[World.cell?,hb]
  have hj:j<cs.length:=(List.getElem?_eq_some_iff.1 hv).1
  rw[← hc,List.getElem?_take,bw (by omega),List.getElem?_drop]at hv
  simpa using hv
 unfold loadVar
 rw[Sem.run_bind,hT.run_isAgg]
 simp only[aS]
 cases hnm:ft.isNm with
 | true =>
  have hlc:=run_loadCells_list (P:=P) w ⟨b,off,none⟩ cs hcell
  rw[hl]at hlc
  simp[eL,hT.run_sizeOf,hlc]
 | false =>
  have h1:ft.sz G.sz=1:=by cases ft <;> first | rfl | cases hnm
  match cs,hl with
  | [v],_ =>
   have:=hcell 0 v rfl
   rw[gH,Nat.add_zero]at this
   simp[eL,this]
  | [],hl=>rw[h1]at hl;cases hl
  | _::_::_,hl=>rw[h1]at hl;simp at hl
theorem Rep.one{S:Nat→Prop}{w:World}:∀ (d:Nat) (o:Bool) (t:FT) (x:J G.T t) (cs:List Value) (F:List Nat),Rep S w d o t x cs F→∀ v∈cs,v.oneCell'=true:=by
 intro d
 induction d with
 | zero=>intro o t x cs F h;exact h.elim
 | succ d ih =>
  intro o t x cs F h v hv
  cases t with
  | int k=>rw[h.1]at hv;simp at hv;subst hv;rfl
  | bool=>rw[h.1]at hv;simp at hv;subst hv;rfl
  | str=>obtain⟨s,h,_⟩:=h;rw[h]at hv;simp at hv;subst hv;rfl
  | ptr=>obtain⟨s,h,_⟩:=h;rw[h]at hv;simp at hv;subst hv;rfl
  | sl e=>rcases h with ⟨⟨base,cap,h1,_⟩,_⟩ | ⟨b,off,cap,c,E,fz,F',h1,_⟩
          ·rw[h1]at hv;simp at hv;subst hv;rfl
          ·rw[h1]at hv;simp at hv;subst hv;rfl
  | nm n =>
   have key:∀ (ts:List FT) (y:Js G.T ts) (cs:List Value) (F:List Nat),RepFs (fun t y=>Rep S w d o t y) ts y cs F→∀ v∈cs,v.oneCell'=true:=by
    intro ts
    induction ts with
    | nil=>intro y cs F h v hv;rw[h.1]at hv;cases hv
    | cons t ts ih' =>
     rintro y cs F ⟨c1,c2,F1,F2,rfl,_,h3,h4⟩ v hv
     rcases aE.1 hv with hv | hv
     ·exact ih _ _ _ _ _ h3 v hv
     ·exact ih' _ _ _ h4 v hv
   exact key _ _ _ _ h v hv
theorem RepB.one{S:Nat→Prop}{w:World}:∀ {b:BT} {x:B G.T b} {cs:List Value} {F:List Nat},b.whole=true→RepB (G:=G) S w b x cs F→∀ v∈cs,v.oneCell'=true
 | .leaf o t,x,cs,F,_,h,v,hv=>by obtain⟨d,h⟩:=h;exact Rep.one d o t x cs F h v hv
 | .un,x,cs,F,_,h,v,hv=>by rw[h.1]at hv;cases hv
 | .pr a b,x,cs,F,hw,⟨c1,c2,F1,F2,h1,h2,h3,h4⟩,v,hv=>by
  simp only[BT.whole,aD]at hw
  rw[h1]at hv
  rcases aE.1 hv with hv | hv
  ·exact RepB.one hw.1 h3 v hv
  ·exact RepB.one hw.2 h4 v hv
 | .fn k,x,cs,F,_,h,v,hv=>by rw[h.1]at hv;obtain rfl:=aN.1 hv;rfl
 | .sp e,x,cs,F,_,h,v,hv=>by rcases h with ⟨h,_⟩ | ⟨b,cap,c,E,fz,h,_⟩ <;> (rw[h]at hv;obtain rfl:=aN.1 hv;rfl)
theorem Ud{v:Value}(h:v.oneCell'=true):∀ cs,v ≠ .agg cs:=by
 intro cs e;subst e;cases h
theorem qk(P:Program)(g o:Nat)(t:TypeId)(fz:Nat×Nat):∀ (vs:List Value) (i:Nat) (cur:Array Value) (w:World),w.heap[g]? = some (.cells cur t fz)→jo fz cur.size→o+i+vs.length≤cur.size→(∀ v∈vs,v.oneCell'=true) →
  (storeCells ⟨g,o,none⟩ vs i).run P w = .ok () (w.setRow g (cur.toList.take (o+i)++vs++cur.toList.drop (o+i+vs.length)).toArray)
 | [],i,cur,w,hg,_,_,_=>by
  simp only[storeCells,aL,List.length_nil,Nat.add_zero,List.take_append_drop,Array.toArray_toList]
  rw[setRow_self w g cur t fz hg]
  rfl
 | v::rest,i,cur,w,hg,hf,hl,h1=>by
  have hi:o+i<cur.size:=by simp at hl;omega
  have hadd:(⟨g,o,none⟩:Addr).add i=⟨g,o+i,none⟩:=by unfold Addr.add;split <;> simp_all
  have hcell:w.cell? ⟨g,o+i,none⟩=some cur[o+i]:=by simp[World.cell?,hg,hi]
  have hfro:w.frozen? ⟨g,o+i,none⟩=false:=by
   obtain⟨lo,up⟩:=fz
   simp only[World.frozen?,hg]
   rcases hf with hf | hf
   ·cases hf;simp
   ·have:¬ lo≤o+i:=fun h=>by
     have hf':cur.size≤lo:=hf
     omega
    simp[this]
  have hst:(store ((⟨g,o,none⟩:Addr).add i) v).run P w = .ok () (w.setRow g (cur.setIfInBounds (o+i) v)):=by
   rw[hadd,run_store P w _ v _ (h1 v (by simp)),hcell]
   simp[hfro,setCell_eq_setRow w g (o+i) cur t fz v hg]
  have ih:=qk P g o t fz rest (i+1) (cur.setIfInBounds (o+i) v) (w.setRow g (cur.setIfInBounds (o+i) v)) (setRow_heap w g cur _ t _ hg) (by rw[Array.size_setIfInBounds];exact hf) (by simp at hl ⊢;omega) (fun x hx=>h1 x (by simp[hx]))
  simp only[storeCells,Sem.run_bind,hst,aS,ih,setRow_setRow]
  congr 3
  have e:=list_seg_step cur.toList (o+i) v rest (by simp at hl ⊢;omega)
  simpa [Array.toList_setIfInBounds,Nat.add_assoc]using e
theorem JB{t:TypeId}{ft:FT}{i:TypeInfo}{z:Value}(hT:TyOK G P ty t ft i z)(w:World){b off:Nat}{c:Array Value}{E:TypeId}{fz:Nat×Nat}(hb:w.heap[b]? = some (.cells c E fz))(hfz:jo fz c.size){v:Value}
  (hl:v.cells.toList.length=ft.sz G.sz) (hfit:off+ft.sz G.sz≤c.size) (h1:∀ u∈v.cells.toList,u.oneCell'=true) :
  ∃ w',(storeVar t ⟨b,off,none⟩ v).run P w = .ok () w'∧Upd w w' b off v.cells.toList∧w'.heap.size=w.heap.size∧w'.os=w.os∧w'.tape=w.tape∧w'.output=w.output:=by
 have hst:=qk P b off E fz v.cells.toList 0 c w hb hfz (by rw[hl];simpa using hfit) h1
 simp only[Nat.add_zero]at hst
 refine⟨w.setRow b (c.toList.take off++v.cells.toList++c.toList.drop (off+v.cells.toList.length)).toArray,?_,⟨⟨c,_,E,fz,hb,setRow_heap w b c _ E _ hb,by rw[hl];exact hfit,?_⟩,fun k hk=>setRow_other w b k _ hk⟩,size_setRow ..,rfl,rfl,rfl⟩
 ·unfold storeVar
  rw[Sem.run_bind,hT.run_sizeOf]
  have:v.cells.size=ft.sz G.sz:=by rw[← hl,aJ]
  simp only[aS,this,ne_eq,not_true_eq_false,if_false]
  simpa using hst
 ·simp
end
end
section
theorem yd{P:Program}{G:Gam}{ty:Nat→Option FT}{t:TypeId}{ft:FT}{i:TypeInfo}{z:Value}(hty:TyOK G P ty t ft i z)(w:World){cs:Array Value}{off:Nat}(hfit:off+ft.sz G.sz≤cs.size) :
  (part t cs off).run P w = .ok (eL ft.isNm ((cs.toList.drop off).take (ft.sz G.sz))) w:=by
 unfold part
 rw[Sem.run_bind,hty.run_isAgg]
 simp only[aS]
 cases hn:ft.isNm with
 | true =>
  simp only[if_true,Sem.run_bind,hty.run_sizeOf,aS,Sem.run_pure,eL]
  congr 2
  apply Array.ext'
  simp[Array.toList_extract,List.extract]
 | false =>
  have h1:ft.sz G.sz=1:=by cases ft <;> first | rfl | cases hn
  rw[h1]at hfit ⊢
  have hlt:off<cs.size:=by omega
  have:(cs.toList.drop off).take 1=[cs[off]]:=by
   rw[List.take_one,List.head?_drop]
   simp[hlt]
  rw[this]
  simp[eL,hlt]
def mf(P:Program)(t:TypeId):Bool:=match P.underlying t with
 | some (.interface _)=>true
 | _=>false
def nG(P:Program)(t:TypeId):Bool:=match P.underlying t with
 | some (.func _ _ _)=>true
 | _=>false
theorem Vo(d:Nat){P:Program}{t:TypeId}(h:mf P t=true)(w:World):(Op.equalIn (d+1) t .nilIface .nilIface).run P w = .ok true w:=by
 unfold mf at h
 split at h
 ·rename_i ms hu
  simp[Op.equalIn,run_underlying hu]
 ·cases h
theorem Vp{P:Program}{op:BinOp}{t:TypeId}{x y:Operand}(h:nE x=true∨nE y=true)(w:World):(eqGuard op t x y .nilIface .nilIface).run P w = .ok () w:=by
 unfold eqGuard
 rcases h with h | h
 ·cases x with
  | const v=>cases op <;> simp
  | _=>cases h
 ·cases y with
  | const v=>cases op <;> simp
  | _=>cases h
section
variable {G:Gam} {P:Program} {ty:Nat→Option FT}
theorem Of(a b:ByteArray):(a.toList==b.toList)=eqL (ct a) (ct b):=by
 rw[ByteArray.toList_eq,ByteArray.toList_eq,Bool.eq_iff_iff]
 unfold eqL
 simp only[decide_eq_true_eq,beq_iff_eq]
 refine⟨fun h=>by unfold ct;rw[h],fun h=>?_⟩
 refine(List.map_inj_right (fun x y hxy=>?_)).1 h
 have:x.toNat=y.toNat:=by exact_mod_cast hxy
 exact UInt8.toNat_inj.1 this
theorem Oe(hT:∀ t ft,ty t=some ft→dh G P ty t ft=true){S S':Nat→Prop}{w:World}:∀ (d:Nat) (ft:FT) (x y:J G.T ft) (r:Bool),eqJ G d ft x y=some r→∀ (t:TypeId),ty t=some ft→∀ (o o':Bool) (cs ds:List Value) (F F':List Nat),
  RepE S w o ft x cs F→RepE S' w o' ft y ds F'→∀ k,d≤k→(Op.equalIn k t (eL ft.isNm cs) (eL ft.isNm ds)).run P w = .ok r w:=by
 intro d
 induction d with
 | zero=>intro ft x y r h;simp[eqJ]at h
 | succ d ih =>
  intro ft x y r h t ht o o' cs ds F F' hx hy k hk
  obtain⟨k,rfl⟩:∃ j,k=j+1:=⟨k-1,by omega⟩
  obtain⟨i,z,hok⟩:=TyOK.of (hT _ _ ht)
  cases ft with
  | int q =>
   obtain⟨rfl,_⟩:=repE_int.1 hx
   obtain⟨rfl,_⟩:=repE_int.1 hy
   obtain rfl:=aR h
   show(Op.equalIn (k+1) t (.int q x) (.int q y)).run P w=_
   rw[run_equalIn_int w k t q q x y hok.desc]
   rfl
  | ptr=>cases h
  | bool =>
   obtain⟨rfl,_⟩:=repE_bool.1 hx
   obtain⟨rfl,_⟩:=repE_bool.1 hy
   obtain rfl:=aR h
   show(Op.equalIn (k+1) t (.bool x) (.bool y)).run P w=_
   rw[run_equalIn_bool w k t x y hok.desc]
   cases x <;> cases y <;> rfl
  | str =>
   obtain⟨s,rfl,rfl,_⟩:=repE_str.1 hx
   obtain⟨u,rfl,rfl,_⟩:=repE_str.1 hy
   obtain rfl:=aR h
   show(Op.equalIn (k+1) t (.string s) (.string u)).run P w=_
   rw[run_equalIn_string w k t s u hok.desc,Of]
  | sl e=>simp[eqJ]at h
  | nm n =>
   obtain⟨fs,hu,hf⟩:=hok.desc
   obtain⟨fs',hu',hc⟩:=hok.cmp rfl
   have hff:P.fieldsOf t=fs:=by simp[Program.fieldsOf,hu]
   have:fs'=fs:=by rw[hu]at hu';simpa using hu'.symm
   subst this
   simp only[rr,aD,Bool.not_eq_true']at hc
   show(Op.equalIn (k+1) t (.agg cs.toArray) (.agg ds.toArray)).run P w=_
   rw[run_equalIn_struct w k t _ _ (by rw[hff];exact hu) hc.1.1,hff]
   have hx':=repE_nm.1 hx
   have hy':=repE_nm.1 hy
   have key : ∀ (ts : List FT) (fl : List Field) (x y : Js G.T ts) (r : Bool) (off : Nat) (ca cb da db : List Value) (F F' : List Nat), rE (eqJ G d) ts x y = some r → fg G P ty off fl ts = true → (fl.all fun f => f.name != "_") = true →
     cs=ca++cb→ds=da++db→ca.length=off→da.length=off→RepFs (fun t y=>RepE S w o t y) ts x cb F→RepFs (fun t y=>RepE S' w o' t y) ts y db F'→(Op.eqFields k cs.toArray ds.toArray fl).run P w = .ok r w:=by
    intro ts
    induction ts with
    | nil =>
     intro fl x y r off ca cb da db F F' h hfo _ _ _ _ _ _ _
     obtain rfl:=aR h
     cases fl with
     | nil=>simp[Op.eqFields]
     | cons f fl=>simp[fg]at hfo
    | cons t1 ts ih2 =>
     intro fl x y r off ca cb da db F F' h hfo hnm ec ed lc ld hx hy
     cases fl with
     | nil=>simp[fg]at hfo
     | cons f fl =>
      simp only[fg,aD]at hfo
      obtain⟨⟨⟨h1,h2⟩,h3⟩,h4⟩:=hfo
      have hoff:=cn h1
      have hty:ty f.type=some t1:=by
       cases he:ty f.type with
       | none=>rw[he]at h2;cases h2
       | some t'=>rw[he]at h2;rw[FT.eq?_some h2]
      simp only[List.all_cons,aD,bne_iff_ne,ne_eq]at hnm
      obtain⟨c1,c2,F1,F2,rfl,rfl,hx1,hx2⟩:=hx
      obtain⟨d1,d2,F1',F2',rfl,rfl,hy1,hy2⟩:=hy
      obtain⟨i1,z1,hok1⟩:=TyOK.of (hT _ _ hty)
      have l1:=hx1.len
      have l2:=hy1.len
      have p1:(part f.type cs.toArray f.offset).run P w = .ok (eL t1.isNm c1) w:=by
       rw[yd hok1 w (by rw[ec,hoff];simp only[List.size_toArray,List.length_append];omega)]
       rw[ec,hoff,← lc]
       simp only[List.drop_left,← l1,List.take_left]
      have p2:(part f.type ds.toArray f.offset).run P w = .ok (eL t1.isNm d1) w:=by
       rw[yd hok1 w (by rw[ed,hoff];simp only[List.size_toArray,List.length_append];omega)]
       rw[ed,hoff,← ld]
       simp only[List.drop_left,← l2,List.take_left]
      simp only[rE]at h
      split at h
      ·rename_i ra rb ha hb
       obtain rfl:=aR h
       have q1:=ih t1 x.1 y.1 ra ha f.type hty o o' c1 d1 F1 F1' hx1 hy1 k (by omega)
       have q2:=ih2 fl x.2 y.2 rb (off+t1.sz G.sz) (ca++c1) c2 (da++d1) d2 F2 F2' hb h4 hnm.2 (by rw[ec,List.append_assoc]) (by rw[ed,List.append_assoc]) (by rw[List.length_append,lc,l1]) (by rw[List.length_append,ld,l2]) hx2 hy2
       simp only[Op.eqFields,ne_eq,hnm.1,not_false_eq_true,if_true,Sem.run_bind,p1,p2,q1,aS]
       cases ra
       ·simp
       ·simpa using q2
      ·cases h
   exact key (G.fs n) fs'.toList (G.un n x) (G.un n y) r 0 [] cs [] ds F F' h hf hc.2 rfl rfl rfl rfl hx' hy'
theorem Vm(hT:∀ t ft,ty t=some ft→dh G P ty t ft=true){S S':Nat→Prop}{w:World}{n:Nat}{x y:J G.T (.nm n)}{r:Bool}(h:eqJ G deep (.nm n) x y=some r){t:TypeId}(ht:ty t=some (.nm n)){o o':Bool}{cs ds:Array Value}{F F':List Nat}
  (hx:RepE S w o (.nm n) x cs.toList F) (hy:RepE S' w o' (.nm n) y ds.toList F'):(Op.equalIn 10000 t (.agg cs) (.agg ds)).run P w = .ok r w :=
 Oe hT deep (.nm n) x y r h t ht o o' cs.toList ds.toList F F' hx hy 10000 (by unfold deep;omega)
theorem Vn(hT:∀ t ft,ty t=some ft→dh G P ty t ft=true){n:Nat}{t:TypeId}(ht:ty t=some (.nm n)):P.eqGuardType P.depth t=false:=by
 obtain⟨i,z,hok⟩:=TyOK.of (hT _ _ ht)
 obtain⟨fs,hu,hc⟩:=hok.cmp rfl
 simp only[rr,aD,Bool.not_eq_true']at hc
 exact hc.1.2
end
end
end Go.Proofs.YtemajhlhgphhjaaGreatDoor.E
