/- What the pure statement needs (1). No condition. -/
import Derived.Test.YtemajhlhgphhjaaGreatDoorEG4
import Derived.Laws.BitsLemmas
import Derived.Test.YtemajhlhgphhjaaGreatDoorTMe1
import Derived.Test.YtemajhlhgphhjaaGreatDoorTMe2
import Derived.Test.YtemajhlhgphhjaaGreatDoorTMe3
import Derived.Test.YtemajhlhgphhjaaGreatDoorTMe4
namespace Go.Proofs.YtemajhlhgphhjaaGreatDoor.E
set_option linter.unusedVariables false
theorem aa{α β:Type _}(a:α)(f:α→Option β):(some a).bind f=f a:=rfl
theorem ab{p:Prop}[Decidable p]:(decide p=true)=p:=decide_eq_true_eq
theorem ac{p:Prop}[Decidable p](a:p):decide p=true:=decide_eq_true a
theorem af{p:Prop}[Decidable p](a:¬p):decide p=false:=decide_eq_false a
theorem ag(n:Nat):((n:Int)).toNat=n:=Int.toNat_natCast n
theorem ah{α:Type _}{x y:List α}:(x++y).length=x.length+y.length:=List.length_append
theorem ai{α:Type _}(x y z:List α):x++y++z=x++(y++z):=List.append_assoc x y z
theorem aj{α:Type _}{i:Nat}{l:List α}(h:i<l.length):l.drop i=l[i]::l.drop (i+1):=List.drop_eq_getElem_cons h
theorem al{α:Sort _}{p:Prop}[Decidable p]{a b:α}(h:¬p):(if decide p=true then a else b)=b:=if_neg (by rw[decide_eq_true_eq];exact h)
theorem am{α:Sort _}{p:Prop}[Decidable p]{a b:α}(h:p):(if decide p=true then a else b)=a:=if_pos (decide_eq_true h)
theorem ap{α:Sort _}{c:Prop}[Decidable c]{a b:α}(h:c:=by omega):(if c then a else b)=a:=if_pos h
theorem aq{α:Sort _}{c:Prop}[Decidable c]{a b:α}(h:¬c:=by omega):(if c then a else b)=b:=if_neg h
theorem au{α:Sort _}{p:Prop}[Decidable p]{a b:α}(h:p:=by omega):(if decide p=true then a else b)=a:=if_pos (decide_eq_true h)
theorem av{α:Sort _}{p:Prop}[Decidable p]{a b:α}(h:¬p:=by omega):(if decide p=true then a else b)=b:=if_neg (by rw[decide_eq_true_eq];exact h)
set_option linter.defProp false
def aZ:=@List.getElem_mem
def a9:=@Bool.and_assoc
def bh:=@Int.tdiv_eq_ediv_of_nonneg
def bk:=@List.suffix_refl
def bo:=@List.length_singleton
theorem b8{n:Int}(h:-9223372036854775808≤n)(h':n≤9223372036854775807):w64 n=n:=by
 show IntKind.i64.wrap n=n
 rw[IntKind.wrap_i64];omega
theorem aw{n:Int}(h:-9223372036854775808≤n:=by omega)(h':n≤9223372036854775807:=by omega):w64 n=n:=b8 h h'
theorem uD{n:Int}(h:0≤n)(h':n≤255):w8 n=n:=by
 show IntKind.u8.wrap n=n
 rw[IntKind.wrap_u8];omega
theorem LI(n:Int):0≤w8 n∧w8 n≤255:=by
 show 0≤IntKind.u8.wrap n∧IntKind.u8.wrap n≤255
 rw[IntKind.wrap_u8];omega
theorem cF{i:Nat}{n:Nat}(h:i<n)(hn:n≤9223372036854775807):w64 ((i:Int)+1)=((i+1:Nat):Int):=by
 rw[aw];omega
theorem EZ(j:Nat)(hj:j≤63)(n:Int)(h₀:0≤n)(h₁:n<2 ^ j):IntKind.i64.wrap n=n:=by
 rw[IntKind.wrap_i64]
 have:(2:Int) ^ j≤2 ^ 63:=by exact_mod_cast Nat.pow_le_pow_right (by omega) hj
 omega
theorem FP{x:Int}(h0:0≤x)(h1:x<9223372036854775808):Go.bits .and .i64 x 127=x%128 :=
 bits_mask .i64 63 (by decide) (EZ 63 (by omega)) 7 (by decide) x h0 h1
theorem Uq{x:Int}(h0:0≤x)(h1:x<128):Go.bits .or .i64 x 128=x+128:=by
 obtain⟨a,rfl⟩:=Int.eq_ofNat_of_zero_le h0
 have e:=(bits_nat .i64 63 (by decide) (EZ 63 (by omega)) a 128 (by omega) (by decide)).2
 have e2:=Nat.two_pow_add_eq_or_of_lt (i:=7) (b:=a) (by omega) 1
 have e3:((128:Nat):Int)=128:=rfl
 rw[e3]at e
 rw[e,Nat.or_comm]
 simp at e2
 omega
theorem ce:room=4294967296:=rfl
theorem dj{α:Type}{l:List α}{i:Nat}(h:i<l.length)(z:α):l.getD i z=l[i]:=by
 rw[List.getD_eq_getElem?_getD,List.getElem?_eq_getElem h];rfl
theorem cX{α:Type}{l:List α}{i:Nat}(h:i<l.length)(z:α):l.getD (i:Int).toNat z=l[i]:=by
 rw[ag];exact dj h z
theorem OL{α:Type}{l:List α}{i:Nat}(h:i<l.length)(a z:α):(l.set i a).getD i z=a:=by
 rw[List.getD_eq_getElem?_getD,List.getElem?_set_self h];rfl
end Go.Proofs.YtemajhlhgphhjaaGreatDoor.E
namespace Go.Proofs.YtemajhlhgphhjaaGreatDoor.E.TM
def LeO{α:Type}(a b:Option α):Prop:=∀ y,a=some y→b=some y
theorem lr{α:Type}{a:Option α}:LeO a a:=fun _ h=>h
theorem ln{α:Type}{b:Option α}:LeO none b:=fun _ h=>by cases h
theorem li{α:Type}{c:Prop}[Decidable c]{a b a' b':Option α}(h:LeO a a')(k:LeO b b'):LeO (if c then a else b) (if c then a' else b'):=by
 by_cases hc:c
 ·rw[bw hc,bw hc];exact h
 ·rw[bz hc,bz hc];exact k
theorem lb{α β:Type}{a a':Option α}{k k':α→Option β}(h:LeO a a')(hk:∀ r,LeO (k r) (k' r)):LeO (a.bind k) (a'.bind k'):=by
 intro y hy
 cases a with
 | none=>cases hy
 | some r=>rw[h r rfl];exact hk r y hy
theorem leh{α:Type}{a b c:Option α}(h:c=b)(k:LeO a b):LeO a c:=h ▸ k
def Fw{δ:Type}(f g:Option δ):Prop:=LeO f g
def cf{α0 δ:Type}(f g:α0→Option δ):Prop:=∀ x0,LeO (f x0) (g x0)
def cg{α0 α1 δ:Type}(f g:α0→α1→Option δ):Prop:=∀ x0 x1,LeO (f x0 x1) (g x0 x1)
def cJ{α0 α1 α2 δ:Type}(f g:α0→α1→α2→Option δ):Prop:=∀ x0 x1 x2,LeO (f x0 x1 x2) (g x0 x1 x2)
def cB{α0 α1 α2 α3 δ:Type}(f g:α0→α1→α2→α3→Option δ):Prop:=∀ x0 x1 x2 x3,LeO (f x0 x1 x2 x3) (g x0 x1 x2 x3)
def fP{α0 α1 α2 α3 α4 δ:Type}(f g:α0→α1→α2→α3→α4→Option δ):Prop:=∀ x0 x1 x2 x3 x4,LeO (f x0 x1 x2 x3 x4) (g x0 x1 x2 x3 x4)
def fQ{α0 α1 α2 α3 α4 α5 δ:Type}(f g:α0→α1→α2→α3→α4→α5→Option δ):Prop:=∀ x0 x1 x2 x3 x4 x5,LeO (f x0 x1 x2 x3 x4 x5) (g x0 x1 x2 x3 x4 x5)
def gG{α0 α1 α2 α3 α4 α5 α6 δ:Type}(f g:α0→α1→α2→α3→α4→α5→α6→Option δ):Prop:=∀ x0 x1 x2 x3 x4 x5 x6,LeO (f x0 x1 x2 x3 x4 x5 x6) (g x0 x1 x2 x3 x4 x5 x6)
def qZ{α0 α1 α2 α3 α4 α5 α6 α7 δ:Type}(f g:α0→α1→α2→α3→α4→α5→α6→α7→Option δ):Prop:=∀ x0 x1 x2 x3 x4 x5 x6 x7,LeO (f x0 x1 x2 x3 x4 x5 x6 x7) (g x0 x1 x2 x3 x4 x5 x6 x7)
def q8{α0 α1 α2 α3 α4 α5 α6 α7 α8 δ:Type}(f g:α0→α1→α2→α3→α4→α5→α6→α7→α8→Option δ):Prop:=∀ x0 x1 x2 x3 x4 x5 x6 x7 x8,LeO (f x0 x1 x2 x3 x4 x5 x6 x7 x8) (g x0 x1 x2 x3 x4 x5 x6 x7 x8)
def Fz{α0 α1 α2 α3 α4 α5 α6 α7 α8 α9 α10 δ:Type}(f g:α0→α1→α2→α3→α4→α5→α6→α7→α8→α9→α10→Option δ):Prop:=∀ x0 x1 x2 x3 x4 x5 x6 x7 x8 x9 x10,LeO (f x0 x1 x2 x3 x4 x5 x6 x7 x8 x9 x10) (g x0 x1 x2 x3 x4 x5 x6 x7 x8 x9 x10)
set_option maxRecDepth 100000
structure FsBuild where
 f0:Int→Int→Int→Option (Bool×Unit)
 s_ProgOk:bG→Option (Bool×Unit)
 f2:Int→bG→Option (Bool×Unit)
 f3:Int→bG→Option (Bool×Unit)
 f4:(List Int)→Option (Bool×Unit)
 f5:(List Int)→Int→Option (Bool×Unit)
 f6:(List (List Int))→(List Int)→Option (Bool×Unit)
 f7:(List (List Int))→(List Int)→Int→Option (Bool×Unit)
 f8:(List bE)→Int→Int→Option (Bool×Unit)
 f9:(List bE)→Int→Int→Int→Int→Option (Bool×Unit)
 s_Build:(List Int)→Option (bG×Int×Unit)
 f11:Int→Option (Bool×Unit)
 f12:(List Int)→Option (Bool×Unit)
 f13:bE→Int→Int→Int→Option (Bool×Unit)
 f14:Int→Int→Int→Int→Bool→bE→Option (Bool×Unit)
 f15:Int→Int→Int→Bool→bE→Option (Bool×Unit)
 f16:Int→Int→Bool→bE→Option (Bool×Unit)
 f17:Int→Int→Bool→bE→Option (Bool×Unit)
 f18:Int→Option (Bool×Unit)
 f19:(List Int)→Option ((List bI)×Int×Unit)
 f20:(List bI)→(List bI)→Int→(List bK)→Int→Int→Bool→bD→Option ((List bI)×Int×Unit)
 f21:(List bI)→Option (bG×Int×Unit)
 f22:(List (List Int))→(List (List Int))→(List bI)→Int→bG→(List (List Int))→(List (List Int))→(List bE)→(List (List Int))→(List (List Int))→(List bE)→Option (bG×Int×Unit)
 f23:(List Int)→Option (Bool×Unit)
 f24:(List Int)→Int→Option (Bool×Unit)
 f25:Int→Int→Option (Int×Unit)
 f26:Option ((List (List Int))×Unit)
 s_RexParse:(List Int)→Option (bH×Bool×Unit)
 f28:(List Int)→Option (Int×Int×Unit)
 f29:(List Int)→Int→Option (Int×Int×Unit)
 f30:(List Int)→Int→Bool→Option (Int×Int×Unit)
 f31:(List Int)→Int→Bool→Int→Int→Option (Int×Int×Unit)
 f32:(List Int)→Int→Bool→Int→Int→Int→Option (Int×Int×Unit)
 f33:Int→Bool→Int→Int→Option (Int×Int×Unit)
 f34:(List Int)→Option ((List bK)×Int×Unit)
 f35:(List Int)→(List bK)→Int→Option ((List bK)×Int×Unit)
 f36:(List Int)→(List bK)→Int→Option ((List bK)×Int×Unit)
 f37:bU→Option (bK×bU×Unit)
 f38:bU→Option (bI×bU×Unit)
 f39:bD→Option (Int×Unit)
 f40:Int→Int→bD→Option (Int×Unit)
 f41:(List bI)→Option (Int×Unit)
 f42:(List bI)→Int→Option (Int×Unit)
 f43:(List bI)→(List (List Int))→(List (List Int))→Int→Option (Int×Unit)
 f44:(List bI)→Int→Option (Int×Unit)
 f45:(List bI)→Int→Option (Int×Unit)
 f46:(List bI)→Option ((List (List Int))×(List (List Int))×Unit)
 f47:(List bI)→(List (List Int))→(List (List Int))→Int→Option ((List (List Int))×(List (List Int))×Unit)
 f48:(List (List Int))→(List (List Int))→(List bE)→bD→Option (((List (List Int))×((List (List Int))×((List bE)×Unit)))×Unit)
 f49:Int→(List (List Int))→(List (List Int))→(List bE)→bD→Option (((List (List Int))×((List (List Int))×((List bE)×Unit)))×Unit)
 f50:(List (List Int))→(List (List Int))→(List bE)→bD→Option (((List (List Int))×((List (List Int))×((List bE)×Unit)))×Unit)
 f51:Int→Bool→(List (List Int))→(List (List Int))→(List bE)→bD→Option (((List (List Int))×((List (List Int))×((List bE)×Unit)))×Unit)
 f52:Int→(List (List Int))→(List (List Int))→(List bE)→bD→Option (((List (List Int))×((List (List Int))×((List bE)×Unit)))×Unit)
 f53:(List (List Int))→(List (List Int))→(List bE)→Int→Int→(List Int)→Option (Int×((List (List Int))×((List (List Int))×((List bE)×Unit)))×Unit)
 f54:bT→Int→Option (bH×bT×Unit)
 f55:Int→(List bH)→bT→bH→Option (bH×bT×Unit)
 f56:bH→Option (Int×Unit)
 f57:Int→Int→bH→Option (Int×Unit)
 f58:Int→Option (Bool×Unit)
 f59:(List Int)→Int→(List bK)→Option (bK×Int×Bool×Unit)
 f60:(List Int)→Int→Int→bK→Option (bK×Int×Bool×Unit)
 f61:bU→(List Int)→Option (Bool×bU×Unit)
 f62:bU→Option (bU×Unit)
 f63:bU→Option (bD×bU×Unit)
 f64:bU→Int→Int→(List Int)→(List bD)→Int→Int→(List Int)→(List bD)→Option (bD×bU×Unit)
 f65:bU→(List Int)→Option (Bool×bU×Unit)
 f66:bU→Option (bD×bU×Unit)
 f67:Int→bU→Int→Int→(List Int)→(List bD)→bD→Option (bD×bU×Unit)
 f68:Int→(List bD)→Option ((Int×(Int×((List Int)×((List bD)×Unit))))×Unit)
 f69:(List bI)→Option (Bool×Unit)
 f70:(List bI)→Int→Option (Bool×Unit)
 f71:bD→Option (Bool×Unit)
 f72:Int→bD→Option (Bool×Unit)
 f73:bD→Option (Bool×Unit)
 f74:Int→bD→Option (Bool×Unit)
 f75:Int→Int→bD→Option (Bool×Unit)
 f76:bD→Option (Bool×Unit)
 f77:Int→bD→Option (Bool×Unit)
 f78:bD→(List (List Int))→(List (List Int))→Option ((List (List Int))×(List (List Int))×Unit)
 f79:(List (List Int))→(List (List Int))→bD→Option ((List (List Int))×(List (List Int))×Unit)
 f80:(List (List Int))→(List (List Int))→Int→bD→Option ((List (List Int))×(List (List Int))×Unit)
 f81:(List (List Int))→(List (List Int))→(List bE)→bD→Option (((List (List Int))×((List (List Int))×((List bE)×Unit)))×Unit)
 f82:(List (List Int))→(List (List Int))→(List bE)→bD→Option (((List (List Int))×((List (List Int))×((List bE)×Unit)))×Unit)
 f83:(List (List Int))→(List (List Int))→(List bE)→bD→Option (((List (List Int))×((List (List Int))×((List bE)×Unit)))×Unit)
 f84:(List (List Int))→(List (List Int))→(List bE)→bD→Option (((List (List Int))×((List (List Int))×((List bE)×Unit)))×Unit)
 f85:(List (List Int))→(List (List Int))→(List bE)→bD→Option (((List (List Int))×((List (List Int))×((List bE)×Unit)))×Unit)
 f86:bT→Int→Option (bH×bT×Unit)
 f87:Int→(List bH)→bT→bH→Option (bH×bT×Unit)
 f88:bT→Int→Option (Bool×bT×Unit)
 f89:(List Int)→Int→Option (Int×Int×Bool×Unit)
 f90:(List Int)→Int→Int→Option (Int×Int×Bool×Unit)
 f91:(List Int)→Int→Int→Int→Option (Int×Int×Bool×Unit)
 f92:(List Int)→Int→Int→Option (Int×Int×Bool×Unit)
 f93:(List Int)→Int→Option ((List Int)×Int×Bool×Unit)
 f94:(List Int)→(List Int)→Int→Option ((List Int)×Int×Bool×Unit)
 f95:(List bK)→Option (Bool×Unit)
 f96:(List Int)→Int→Option ((List Int)×Int×Bool×Unit)
 f97:(List Int)→(List Int)→Int→Option ((List Int)×Int×Bool×Unit)
 f98:(List Int)→Int→Option ((List Int)×Unit)
 f99:(List Int)→Int→(List (List Int))→Int→Option ((List Int)×Unit)
 f100:bU→(List Int)→Option (bU×Unit)
 f101:bU→Option (bD×bU×Unit)
 f102:bU→Option (bD×bU×Unit)
 f103:bU→Int→Option (bD×bU×Unit)
 f104:bD→Option (Bool×Unit)
 f105:Int→Bool→bD→Option (Bool×Unit)
 f106:Int→Option (Bool×Unit)
 f107:(List (List Int))→(List Int)→Option ((List (List Int))×Unit)
 f108:(List (List Int))→(List Int)→Int→Option ((List (List Int))×Unit)
 f109:(List (List Int))→(List (List Int))→(List bE)→bD→Option (((List (List Int))×((List (List Int))×((List bE)×Unit)))×Unit)
 f110:(List (List Int))→(List (List Int))→(List bE)→bD→Option (((List (List Int))×((List (List Int))×((List bE)×Unit)))×Unit)
 f111:Int→(List (List Int))→(List (List Int))→(List bE)→bD→Option (((List (List Int))×((List (List Int))×((List bE)×Unit)))×Unit)
 f112:(List (List Int))→(List (List Int))→(List bE)→bD→Option (((List (List Int))×((List (List Int))×((List bE)×Unit)))×Unit)
 f113:(List (List Int))→(List (List Int))→(List bE)→bD→Option (((List (List Int))×((List (List Int))×((List bE)×Unit)))×Unit)
 f114:(List (List Int))→(List Int)→Option (Int×Unit)
 f115:(List (List Int))→(List Int)→Int→Option (Int×Unit)
 f116:Bool→Option (Int×Unit)
 f117:bT→Int→Option (bH×bT×Unit)
 f118:bT→bH→bH→Option (bH×bT×Unit)
 f119:Int→bT→bH→bH→Option (bH×bT×Unit)
 f120:bU→Option (bU×Unit)
 f121:bU→Int→Option (bD×bU×Unit)
 f122:bU→Option (bD×bU×Unit)
 f123:bU→Int→Int→(List Int)→(List bD)→Int→Int→(List Int)→(List bD)→Option (bD×bU×Unit)
 f124:bU→(List Int)→Option ((List bD)×bU×Unit)
 f125:(List Int)→(List bD)→bU→Option ((List bD)×bU×Unit)
 f126:bU→Option ((List Int)×bU×Unit)
 f127:bU→Option (bD×bU×Unit)
 f128:(List (List Int))→Int→bU→Int→Int→(List Int)→(List bD)→bD→Option (bD×bU×Unit)
 f129:bU→Option (bD×bU×Unit)
 f130:bU→Int→Int→(List Int)→(List bD)→bD→Option (bD×bU×Unit)
 f131:bU→Option (bD×bU×Unit)
 f132:bU→Int→Option (bD×bU×Unit)
 f133:Int→(List (List (List Int)))→(List (List Int))→bU→bD→bD→Option (bD×bU×Unit)
 f134:Int→(List (List (List Int)))→(List (List Int))→Int→bU→bD→bD→Option (bD×bU×Unit)
 f135:Int→(List (List (List Int)))→(List (List Int))→Int→bU→bD→bD→Option (bD×bU×Unit)
 f136:bD→Option (Bool×Unit)
 f137:Int→Int→Bool→bD→Option (Bool×Unit)
 f138:Int→Int→Bool→bD→Option (Bool×Unit)
 f139:Int→Int→Bool→bD→Option (Bool×Unit)
 f140:Int→Int→Bool→bD→Option (Bool×Unit)
 f141:Int→Int→bD→Option (Bool×Unit)
 f142:(List Int)→Option (Bool×Unit)
 f143:(List Int)→Int→Option (Bool×Unit)
 f144:bT→Int→Option (bH×bT×Unit)
 f145:Int→bT→bH→Option (bH×bT×Unit)
 f146:bU→Option (Bool×bU×Unit)
 f147:Int→Bool→bU→bK→Option (Bool×bU×Unit)
 f148:bU→Option (bD×bU×Unit)
 f149:bD→Int→Int→Option (Bool×Unit)
 f150:Int→Int→bD→Option (Bool×Unit)
 f151:bD→Int→Option (Bool×Unit)
 f152:Int→bD→Option (Bool×Unit)
 f153:bT→Option (bH×bT×Unit)
 f154:bT→bH→bH→Option (bH×bT×Unit)
 f155:(List Bool)→Int→bT→bH→bH→Option (bH×bT×Unit)
 f156:(List Bool)→Int→Int→Int→bT→bH→bH→Option (bH×bT×Unit)
 f157:(List Bool)→bT→bH→bH→Option (bH×bT×Unit)
 f158:(List Bool)→Int→Int→Int→bT→bH→bH→Option (bH×bT×Unit)
 f159:(List Bool)→(List Int)→Int→bT→bH→bH→Option (bH×bT×Unit)
 f160:(List Bool)→Int→Int→Int→bT→bH→bH→Option (bH×bT×Unit)
 s_NfaOf:bH→Option ((List bF)×Unit)
 f162:bH→Option (Bool×Unit)
 f163:(List bF)→bH→Option ((List bF)×Unit)
 f164:(List bF)→Int→bH→Option ((List bF)×Unit)
 f165:(List bF)→Option ((List bF)×Unit)
 f166:(List bF)→Int→Option ((List bF)×Unit)
 f167:bH→Option (Bool×Unit)
 f168:Int→bH→Option (Bool×Unit)
 f169:Int→Int→Bool→bH→Option (Bool×Unit)
 f170:Int→Bool→bH→Option (Bool×Unit)
 f171:(List bF)→(List bH)→Option ((List bF)×Unit)
 f172:(List bF)→(List bH)→(List Int)→Int→Option ((List bF)×Unit)
 f173:(List bF)→(List Int)→Int→Option ((List bF)×Unit)
 f174:(List Int)→Option (Bool×Unit)
 f175:(List Int)→Int→Option (Bool×Unit)
structure LeFsBuild (F:FsBuild):Prop where
 f0:cJ F.f0 dB
 s_ProgOk:cf F.s_ProgOk s_ProgOk
 f2:cg F.f2 i7
 f3:cg F.f3 iB
 f4:cf F.f4 mO
 f5:cg F.f5 j2
 f6:cg F.f6 jh
 f7:cJ F.f7 j1
 f8:cJ F.f8 mA
 f9:fP F.f9 jT
 s_Build:cf F.s_Build s_Build
 f11:cf F.f11 oA
 f12:cf F.f12 nV
 f13:cB F.f13 om
 f14:fQ F.f14 mC
 f15:fP F.f15 kZ
 f16:cB F.f16 oo
 f17:cB F.f17 mD
 f18:cf F.f18 eU
 f19:cf F.f19 nZ
 f20:qZ F.f20 yN
 f21:cf F.f21 my
 f22:Fz F.f22 yn
 f23:cf F.f23 oB
 f24:cg F.f24 mN
 f25:cg F.f25 jc
 f26:Fw F.f26 mM
 s_RexParse:cf F.s_RexParse s_RexParse
 f28:cf F.f28 jQ
 f29:cg F.f29 kW
 f30:cJ F.f30 em
 f31:fP F.f31 jR
 f32:fQ F.f32 i5
 f33:cB F.f33 eT
 f34:cf F.f34 yU
 f35:cJ F.f35 yV
 f36:cJ F.f36 yW
 f37:cf F.f37 A9
 f38:cf F.f38 Bc
 f39:cf F.f39 yv
 f40:cJ F.f40 yw
 f41:cf F.f41 yg
 f42:cg F.f42 yh
 f43:cB F.f43 yi
 f44:cg F.f44 yj
 f45:cg F.f45 yk
 f46:cf F.f46 yK
 f47:cB F.f47 yL
 f48:cB F.f48 zt
 f49:fP F.f49 zu
 f50:cB F.f50 zw
 f51:fQ F.f51 zx
 f52:fP F.f52 zy
 f53:fQ F.f53 zF
 f54:cg F.f54 jf
 f55:cB F.f55 lk
 f56:cf F.f56 mG
 f57:cJ F.f57 mH
 f58:cf F.f58 jd
 f59:cJ F.f59 AB
 f60:cB F.f60 AC
 f61:cg F.f61 AZ
 f62:cf F.f62 A8
 f63:cf F.f63 AP
 f64:q8 F.f64 AQ
 f65:cg F.f65 Bd
 f66:cf F.f66 AV
 f67:gG F.f67 AW
 f68:cg F.f68 A0
 f69:cf F.f69 yS
 f70:cg F.f70 yT
 f71:cf F.f71 y6
 f72:cg F.f72 y7
 f73:cf F.f73 yX
 f74:cg F.f74 yY
 f75:cJ F.f75 yZ
 f76:cf F.f76 zd
 f77:cg F.f77 ze
 f78:cJ F.f78 y8
 f79:cJ F.f79 y9
 f80:cB F.f80 za
 f81:cB F.f81 zH
 f82:cB F.f82 zG
 f83:cB F.f83 zr
 f84:cB F.f84 zB
 f85:cB F.f85 zA
 f86:cg F.f86 lh
 f87:cB F.f87 lj
 f88:cg F.f88 ge
 f89:cg F.f89 Ax
 f90:cJ F.f90 Ay
 f91:cB F.f91 Az
 f92:cJ F.f92 AA
 f93:cg F.f93 AJ
 f94:cJ F.f94 AK
 f95:cf F.f95 Av
 f96:cg F.f96 AE
 f97:cJ F.f97 AF
 f98:cg F.f98 AG
 f99:cB F.f99 AH
 f100:cg F.f100 Bh
 f101:cf F.f101 Bg
 f102:cf F.f102 A7
 f103:cg F.f103 A5
 f104:cf F.f104 Bx
 f105:cJ F.f105 Bz
 f106:cf F.f106 Bo
 f107:cg F.f107 zb
 f108:cJ F.f108 zc
 f109:cB F.f109 zC
 f110:cB F.f110 zD
 f111:fP F.f111 zE
 f112:cB F.f112 zz
 f113:cB F.f113 zI
 f114:cg F.f114 zn
 f115:cJ F.f115 zo
 f116:cf F.f116 jb
 f117:cg F.f117 mI
 f118:cJ F.f118 ll
 f119:cB F.f119 j0
 f120:cf F.f120 AM
 f121:cg F.f121 Bj
 f122:cf F.f122 Be
 f123:q8 F.f123 Bf
 f124:cg F.f124 AX
 f125:cJ F.f125 AY
 f126:cf F.f126 A6
 f127:cf F.f127 AR
 f128:qZ F.f128 AU
 f129:cf F.f129 Ba
 f130:fQ F.f130 Bb
 f131:cf F.f131 Bi
 f132:cg F.f132 A1
 f133:fQ F.f133 A2
 f134:gG F.f134 A3
 f135:gG F.f135 A4
 f136:cf F.f136 Bp
 f137:cB F.f137 Bq
 f138:cB F.f138 Br
 f139:cB F.f139 Bu
 f140:cB F.f140 Bv
 f141:cJ F.f141 Bw
 f142:cf F.f142 BA
 f143:cg F.f143 BB
 f144:cg F.f144 mF
 f145:cJ F.f145 je
 f146:cf F.f146 AN
 f147:cB F.f147 AO
 f148:cf F.f148 AL
 f149:cJ F.f149 Bm
 f150:cJ F.f150 Bn
 f151:cg F.f151 Bk
 f152:cg F.f152 Bl
 f153:cf F.f153 ox
 f154:cJ F.f154 mJ
 f155:fP F.f155 iD
 f156:gG F.f156 jg
 f157:cB F.f157 gf
 f158:gG F.f158 mK
 f159:fQ F.f159 lm
 f160:gG F.f160 lp
 s_NfaOf:cf F.s_NfaOf s_NfaOf
 f162:cf F.f162 yQ
 f163:cg F.f163 Aj
 f164:cJ F.f164 Ak
 f165:cf F.f165 Al
 f166:cg F.f166 Aq
 f167:cf F.f167 Ab
 f168:cg F.f168 Ac
 f169:cB F.f169 Ad
 f170:cJ F.f170 Ae
 f171:cg F.f171 Am
 f172:cB F.f172 An
 f173:cJ F.f173 Ao
 f174:cf F.f174 Af
 f175:cg F.f175 Ag
def C0(_F:FsBuild)(t0:Int)(t1:Int)(t2:Int):Option (Bool×Unit) :=
 if(decide (t0≥t1))=true then
  some ((decide (t0≤t2)),())
 else
  some (false,())
def Ce(F:FsBuild)(t0:bG):Option (Bool×Unit) :=
 F.f2 0 t0
def Cf(F:FsBuild)(t3:Int)(s16:bG):Option (Bool×Unit) :=
 if(decide (t3<(List.length s16.Vars:Int)))=true then
  if(0:Int)≤t3∧t3<(List.length s16.Vars:Int) then
   (F.f4 (List.getD s16.Vars t3.toNat [])).bind fun(r0:Bool×Unit) =>
   if(!r0.1)=true then
    some (false,())
   else
    if(0:Int)≤t3∧t3<(List.length s16.Vars:Int) then
     (F.f6 s16.Cells (List.getD s16.Vars t3.toNat [])).bind fun(r1:Bool×Unit) =>
     if r1.1=true then
      some (false,())
     else
      if(decide (t3>0))=true then
       if(0:Int)≤(w64 (t3-1))∧(w64 (t3-1))<(List.length s16.Vars:Int) then
        if(0:Int)≤t3∧t3<(List.length s16.Vars:Int) then
         if(!(ltS (List.getD s16.Vars (w64 (t3-1)).toNat []) (List.getD s16.Vars t3.toNat [])))=true then
          some (false,())
         else
          F.f2 (w64 (t3+1)) s16
        else none
       else none
      else
       F.f2 (w64 (t3+1)) s16
    else none
  else none
 else
  F.f3 0 s16
def Cg(F:FsBuild)(t4:Int)(s16:bG):Option (Bool×Unit) :=
 if(decide (t4<(List.length s16.Cells:Int)))=true then
  if(0:Int)≤t4∧t4<(List.length s16.Cells:Int) then
   (F.f4 (List.getD s16.Cells t4.toNat [])).bind fun(r0:Bool×Unit) =>
   if(!r0.1)=true then
    some (false,())
   else
    if(decide (t4>0))=true then
     if(0:Int)≤(w64 (t4-1))∧(w64 (t4-1))<(List.length s16.Cells:Int) then
      if(0:Int)≤t4∧t4<(List.length s16.Cells:Int) then
       if(!(ltS (List.getD s16.Cells (w64 (t4-1)).toNat []) (List.getD s16.Cells t4.toNat [])))=true then
        some (false,())
       else
        F.f3 (w64 (t4+1)) s16
      else none
     else none
    else
     F.f3 (w64 (t4+1)) s16
  else none
 else
  if(decide ((List.length s16.Vars:Int)≤8))=true then
   if(decide ((List.length s16.Cells:Int)≤8))=true then
    (F.f8 s16.Start (List.length s16.Vars:Int) (List.length s16.Cells:Int)).bind fun(r1:Bool×Unit) =>
    if r1.1=true then
     (F.f8 s16.Main (List.length s16.Vars:Int) (List.length s16.Cells:Int)).bind fun(r2:Bool×Unit) =>
     some (r2.1,())
    else
     some (false,())
   else
    some (false,())
  else
   some (false,())
def EJ(F:FsBuild)(t0:(List Int)):Option (Bool×Unit) :=
 F.f5 t0 0
def EK(F:FsBuild)(t0:(List Int))(t3:Int):Option (Bool×Unit) :=
 if(decide (t3<(List.length t0:Int)))=true then
  if(0:Int)≤t3∧t3<(List.length t0:Int) then
   (F.f11 (List.getD t0 t3.toNat 0)).bind fun(r0:Bool×Unit) =>
   if(!r0.1)=true then
    some (false,())
   else
    F.f5 t0 (w64 (t3+1))
  else none
 else
  (F.f0 (List.length t0:Int) 1 8).bind fun(r1:Bool×Unit) =>
  if r1.1=true then
   (F.f12 t0).bind fun(r2:Bool×Unit) =>
   some ((!r2.1),())
  else
   some (false,())
def DS(F:FsBuild)(t0:(List (List Int)))(t1:(List Int)):Option (Bool×Unit) :=
 F.f7 t0 t1 0
def DT(F:FsBuild)(t0:(List (List Int)))(t1:(List Int))(t5:Int):Option (Bool×Unit) :=
 if(decide (t5<(List.length t0:Int)))=true then
  if(0:Int)≤t5∧t5<(List.length t0:Int) then
   if(decide ((List.getD t0 t5.toNat [])=t1))=true then
    some (true,())
   else
    F.f7 t0 t1 (w64 (t5+1))
  else none
 else
  some (false,())
def Ca(F:FsBuild)(t0:(List bE))(t1:Int)(t2:Int):Option (Bool×Unit) :=
 (F.f0 (List.length t0:Int) 1 1500).bind fun(r0:Bool×Unit) =>
 if(!r0.1)=true then
  some (false,())
 else
  if(0:Int)≤(w64 ((List.length t0:Int)-1))∧(w64 ((List.length t0:Int)-1))<(List.length t0:Int) then
   if(!(decide (((List.getD t0 (w64 ((List.length t0:Int)-1)).toNat de).Code)=36)))=true then
    some (false,())
   else
    F.f9 t0 t1 t2 (List.length t0:Int) 0
  else none
def Cb(F:FsBuild)(t0:(List bE))(t1:Int)(t2:Int)(t7:Int)(t8:Int):Option (Bool×Unit) :=
 if(decide (t8<t7))=true then
  if(0:Int)≤t8∧t8<(List.length t0:Int) then
   (F.f13 (List.getD t0 t8.toNat de) t7 t1 t2).bind fun(r0:Bool×Unit) =>
   if(!r0.1)=true then
    some (false,())
   else
    F.f9 t0 t1 t2 t7 (w64 (t8+1))
  else none
 else
  some (true,())
def BM(F:FsBuild)(t0:(List Int)):Option (bG×Int×Unit) :=
 (F.f19 t0).bind fun(r0:(List bI)×Int×Unit) =>
 if(decide (r0.2.1≥0))=true then
  some ((bG.mk [] [] [] []),(-1),())
 else
  (F.f21 r0.1).bind fun(r1:bG×Int×Unit) =>
  some (r1.1,r1.2.1,())
def DE(_F:FsBuild)(t0:Int):Option (Bool×Unit) :=
 if(decide (t0≥97))=true then
  if(decide (t0≤122))=true then
   some (true,())
  else
   if(decide (t0≥65))=true then
    some ((decide (t0≤90)),())
   else
    some (false,())
 else
  if(decide (t0≥65))=true then
   some ((decide (t0≤90)),())
  else
   some (false,())
def B6(F:FsBuild)(t0:(List Int)):Option (Bool×Unit) :=
 (F.f6 [[66,69,71,73,78],[112,114,105,110,116],[105,102],[101,108,115,101],[119,104,105,108,101],[110,101,120,116],[100,101,108,101,116,101],[78,82],[78,70]] t0).bind fun(r0:Bool×Unit) =>
 if r0.1=true then
  some (true,())
 else
  (F.f26 ).bind fun(r1:(List (List Int))×Unit) =>
  (F.f6 r1.1 t0).bind fun(r2:Bool×Unit) =>
  some (r2.1,())
def CE(F:FsBuild)(t0:bE)(t1:Int)(t2:Int)(t3:Int):Option (Bool×Unit) :=
 if(decide (t0.Code=1))=true then
  (F.f18 t0.N).bind fun(r0:Bool×Unit) =>
  if r0.1=true then
   some ((decide (t0.S=[])),())
  else
   some (false,())
 else
  if(decide (t0.Code=2))=true then
   some ((decide (t0.N=0)),())
  else
   if(decide (t0.Code=3))=true then
    F.f14 t1 t2 t3 t0.Code (decide (t0.Code=3)) t0
   else
    if(decide (t0.Code=4))=true then
     F.f14 t1 t2 t3 t0.Code (decide (t0.Code=4)) t0
    else
     F.f14 t1 t2 t3 t0.Code (decide (t0.Code=5)) t0
def CF(F:FsBuild)(t1:Int)(t2:Int)(t3:Int)(t12:Int)(t28:Bool)(s64:bE):Option (Bool×Unit) :=
 if t28=true then
  if(decide (s64.N≥0))=true then
   if(decide (s64.N<t2))=true then
    some ((decide (s64.S=[])),())
   else
    some (false,())
  else
   some (false,())
 else
  if(decide (t12=6))=true then
   F.f15 t1 t3 t12 (decide (t12=6)) s64
  else
   if(decide (t12=7))=true then
    F.f15 t1 t3 t12 (decide (t12=7)) s64
   else
    if(decide (t12=8))=true then
     F.f15 t1 t3 t12 (decide (t12=8)) s64
    else
     F.f15 t1 t3 t12 (decide (t12=35)) s64
def CG(F:FsBuild)(t1:Int)(t3:Int)(t12:Int)(t46:Bool)(s64:bE):Option (Bool×Unit) :=
 if t46=true then
  if(decide (s64.N≥0))=true then
   if(decide (s64.N<t3))=true then
    some ((decide (s64.S=[])),())
   else
    some (false,())
  else
   some (false,())
 else
  if(decide (t12=24))=true then
   F.f16 t1 t12 (decide (t12=24)) s64
  else
   F.f16 t1 t12 (decide (t12=25)) s64
def CH(F:FsBuild)(t1:Int)(t12:Int)(t65:Bool)(s64:bE):Option (Bool×Unit) :=
 if t65=true then
  (F.s_RexParse s64.S).bind fun(r0:bH×Bool×Unit) =>
  if r0.2.1=true then
   some ((decide (s64.N=0)),())
  else
   some (false,())
 else
  if(decide (t12=29))=true then
   (F.f0 s64.N 1 3).bind fun(r1:Bool×Unit) =>
   if r1.1=true then
    (F.f26 ).bind fun(r2:(List (List Int))×Unit) =>
    (F.f6 r2.1 s64.S).bind fun(r3:Bool×Unit) =>
    some (r3.1,())
   else
    some (false,())
  else
   if(decide (t12=30))=true then
    F.f17 t1 t12 (decide (t12=30)) s64
   else
    F.f17 t1 t12 (decide (t12=31)) s64
def CI(F:FsBuild)(t1:Int)(t12:Int)(t91:Bool)(s64:bE):Option (Bool×Unit) :=
 if t91=true then
  (F.f0 s64.N 0 (w64 (t1-1))).bind fun(r0:Bool×Unit) =>
  if r0.1=true then
   some ((decide (s64.S=[])),())
  else
   some (false,())
 else
  if(decide (t12=33))=true then
   (F.f0 s64.N 0 1).bind fun(r1:Bool×Unit) =>
   if r1.1=true then
    some ((decide (s64.S=[])),())
   else
    some (false,())
  else
   (F.f0 s64.Code 1 36).bind fun(r2:Bool×Unit) =>
   if r2.1=true then
    if(decide (s64.N=0))=true then
     some ((decide (s64.S=[])),())
    else
     some (false,())
   else
    some (false,())
def B3(F:FsBuild)(t0:Int):Option (Bool×Unit) :=
 (F.f0 t0 (-9000000000000) 9000000000000).bind fun(r0:Bool×Unit) =>
 some (r0.1,())
def Cc(F:FsBuild)(t0:(List Int)):Option ((List bI)×Int×Unit) :=
 (F.f34 t0).bind fun(r0:(List bK)×Int×Unit) =>
 if(decide (r0.2.1≥0))=true then
  some ([],r0.2.1,())
 else
  F.f20 [] [] 0 r0.1 0 (-1) false cS
def Cd(F:FsBuild)(t4:(List bI))(t8:(List bI))(t9:Int)(s368_0:(List bK))(s368_1:Int)(s368_2:Int)(s368_3:Bool)(s368_4:bD):Option ((List bI)×Int×Unit) :=
 if(decide (s368_2<0))=true then
  (F.f37 (bU.mk s368_0 s368_1 s368_2 s368_3 s368_4)).bind fun(r0:bK×bU×Unit) =>
  if(!(decide (r0.1.Kind=0)))=true then
   (F.f38 r0.2.1).bind fun(r1:bI×bU×Unit) =>
   if List.length t8+1≤room then
    (F.f39 r1.1.Pat).bind fun(r2:Int×Unit) =>
    (F.f39 r1.1.Body).bind fun(r3:Int×Unit) =>
    (F.f25 r2.1 r3.1).bind fun(r4:Int×Unit) =>
    (F.f25 t9 r4.1).bind fun(r5:Int×Unit) =>
    F.f20 t4 (List.append t8 [r1.1]) r5.1 r1.2.1.list r1.2.1.at_ r1.2.1.bad r1.2.1.has r1.2.1.kept
   else none
  else
   if(decide (r0.2.1.bad≥0))=true then
    some (t4,r0.2.1.bad,())
   else
    if(decide (t9>16))=true then
     some (t4,0,())
    else
     some (t8,(-1),())
 else
  if(decide (s368_2≥0))=true then
   some (t4,s368_2,())
  else
   if(decide (t9>16))=true then
    some (t4,0,())
   else
    some (t8,(-1),())
def BS(F:FsBuild)(t0:(List bI)):Option (bG×Int×Unit) :=
 (F.f41 t0).bind fun(r0:Int×Unit) =>
 if(!(decide (r0.1=0)))=true then
  some ((bG.mk [] [] [] []),r0.1,())
 else
  (F.f46 t0).bind fun(r1:(List (List Int))×(List (List Int))×Unit) =>
  F.f22 r1.1 r1.2.1 t0 0 gh r1.1 r1.2.1 [] r1.1 r1.2.1 []
def BU(F:FsBuild)(t5:(List (List Int)))(t6:(List (List Int)))(t0:(List bI))(t9:Int)(s32:bG)(s432_0:(List (List Int)))(s432_1:(List (List Int)))(s432_2:(List bE))(s496_0:(List (List Int)))(s496_1:(List (List Int)))(s496_2:(List bE)):Option (bG×Int×Unit) :=
 if(decide (t9<(List.length t0:Int)))=true then
  if(0:Int)≤t9∧t9<(List.length t0:Int) then
   if(decide (((List.getD t0 t9.toNat ci).Kind)=1))=true then
    (F.f48 s432_0 s432_1 s432_2 ((List.getD t0 t9.toNat ci).Body)).bind fun(r0:((List (List Int))×((List (List Int))×((List bE)×Unit)))×Unit) =>
    F.f22 t5 t6 t0 (w64 (t9+1)) s32 r0.1.1 r0.1.2.1 r0.1.2.2.1 s496_0 s496_1 s496_2
   else
    if(decide (((List.getD t0 t9.toNat ci).Kind)=2))=true then
     (F.f48 s496_0 s496_1 s496_2 ((List.getD t0 t9.toNat ci).Body)).bind fun(r1:((List (List Int))×((List (List Int))×((List bE)×Unit)))×Unit) =>
     F.f22 t5 t6 t0 (w64 (t9+1)) s32 s432_0 s432_1 s432_2 r1.1.1 r1.1.2.1 r1.1.2.2.1
    else
     (F.f50 s496_0 s496_1 s496_2 ((List.getD t0 t9.toNat ci).Pat)).bind fun(r2:((List (List Int))×((List (List Int))×((List bE)×Unit)))×Unit) =>
     (F.f53 r2.1.1 r2.1.2.1 r2.1.2.2.1 31 0 []).bind fun(r3:Int×((List (List Int))×((List (List Int))×((List bE)×Unit)))×Unit) =>
     (F.f48 r3.2.1.1 r3.2.1.2.1 r3.2.1.2.2.1 ((List.getD t0 t9.toNat ci).Body)).bind fun(r4:((List (List Int))×((List (List Int))×((List bE)×Unit)))×Unit) =>
     if(0:Int)≤r3.1∧r3.1<(List.length r4.1.2.2.1:Int) then
      let v0:(List bE):=(List.set r4.1.2.2.1 r3.1.toNat (bE.mk ((List.getD r4.1.2.2.1 r3.1.toNat de).Code) (List.length r4.1.2.2.1:Int) ((List.getD r4.1.2.2.1 r3.1.toNat de).S)))
      F.f22 t5 t6 t0 (w64 (t9+1)) s32 s432_0 s432_1 s432_2 r4.1.1 r4.1.2.1 v0
     else none
  else none
 else
  (F.f53 s432_0 s432_1 s432_2 36 0 []).bind fun(r5:Int×((List (List Int))×((List (List Int))×((List bE)×Unit)))×Unit) =>
  (F.f53 s496_0 s496_1 s496_2 36 0 []).bind fun(r6:Int×((List (List Int))×((List (List Int))×((List bE)×Unit)))×Unit) =>
  (F.s_ProgOk (bG.mk t5 t6 r5.2.1.2.2.1 r6.2.1.2.2.1)).bind fun(r7:Bool×Unit) =>
  if(!r7.1)=true then
   some ((bG.mk [] [] [] []),3,())
  else
   some ((bG.mk t5 t6 r5.2.1.2.2.1 r6.2.1.2.2.1),0,())
def EH(F:FsBuild)(t0:(List Int)):Option (Bool×Unit) :=
 F.f24 t0 0
def EI(F:FsBuild)(t0:(List Int))(t3:Int):Option (Bool×Unit) :=
 if(decide (t3<(List.length t0:Int)))=true then
  if(0:Int)≤t3∧t3<(List.length t0:Int) then
   if(decide ((List.getD t0 t3.toNat 0)=10))=true then
    some (false,())
   else
    F.f24 t0 (w64 (t3+1))
  else none
 else
  some (true,())
def C1(_F:FsBuild)(t0:Int)(t1:Int):Option (Int×Unit) :=
 if(decide (t0>t1))=true then
  some (t0,())
 else
  some (t1,())
def DD(_F:FsBuild) :Option ((List (List Int))×Unit) :=
 some ([[108,101,110,103,116,104],[115,117,98,115,116,114],[105,110,100,101,120],[105,110,116],[117,112,112,101,114],[108,111,119,101,114]],())
def Ci(F:FsBuild)(t0:(List Int)):Option (bH×Bool×Unit) :=
 if(decide ((List.length t0:Int)>60))=true then
  some ((bH.mk 0 0 [] false []),false,())
 else
  (F.f54 (bT.mk t0 0 false) 0).bind fun(r0:bH×bT×Unit) =>
  if r0.2.1.bad=true then
   some ((bH.mk 0 0 [] false []),false,())
  else
   if(!(decide (r0.2.1.at_=(List.length t0:Int))))=true then
    some ((bH.mk 0 0 [] false []),false,())
   else
    (F.f56 r0.1).bind fun(r1:Int×Unit) =>
    if(decide (r1.1>12))=true then
     some ((bH.mk 0 0 [] false []),false,())
    else
     some (r0.1,true,())
def BV(F:FsBuild)(t0:(List Int)):Option (Int×Int×Unit) :=
 F.f29 t0 0
def BW(F:FsBuild)(t0:(List Int))(t4:Int):Option (Int×Int×Unit) :=
 if(decide (t4<(List.length t0:Int)))=true then
  if(0:Int)≤t4∧t4<(List.length t0:Int) then
   if(decide ((List.getD t0 t4.toNat 0)=32))=true then
    F.f29 t0 (w64 (t4+1))
   else
    if(decide (t4<(List.length t0:Int)))=true then
     if(0:Int)≤t4∧t4<(List.length t0:Int) then
      if(decide (t4<(List.length t0:Int)))=true then
       if(0:Int)≤t4∧t4<(List.length t0:Int) then
        if(decide ((List.getD t0 t4.toNat 0)=45))=true then
         F.f30 t0 (w64 (t4+1)) (decide ((List.getD t0 t4.toNat 0)=45))
        else
         if(0:Int)≤t4∧t4<(List.length t0:Int) then
          if(decide ((List.getD t0 t4.toNat 0)=43))=true then
           F.f30 t0 (w64 (t4+1)) (decide ((List.getD t0 t4.toNat 0)=45))
          else
           F.f30 t0 t4 (decide ((List.getD t0 t4.toNat 0)=45))
         else none
       else none
      else
       F.f30 t0 t4 (decide ((List.getD t0 t4.toNat 0)=45))
     else none
    else
     if(decide (t4<(List.length t0:Int)))=true then
      if(0:Int)≤t4∧t4<(List.length t0:Int) then
       if(decide ((List.getD t0 t4.toNat 0)=45))=true then
        F.f30 t0 (w64 (t4+1)) false
       else
        if(0:Int)≤t4∧t4<(List.length t0:Int) then
         if(decide ((List.getD t0 t4.toNat 0)=43))=true then
          F.f30 t0 (w64 (t4+1)) false
         else
          F.f30 t0 t4 false
        else none
      else none
     else
      F.f30 t0 t4 false
  else none
 else
  if(decide (t4<(List.length t0:Int)))=true then
   if(0:Int)≤t4∧t4<(List.length t0:Int) then
    if(decide (t4<(List.length t0:Int)))=true then
     if(0:Int)≤t4∧t4<(List.length t0:Int) then
      if(decide ((List.getD t0 t4.toNat 0)=45))=true then
       F.f30 t0 (w64 (t4+1)) (decide ((List.getD t0 t4.toNat 0)=45))
      else
       if(0:Int)≤t4∧t4<(List.length t0:Int) then
        if(decide ((List.getD t0 t4.toNat 0)=43))=true then
         F.f30 t0 (w64 (t4+1)) (decide ((List.getD t0 t4.toNat 0)=45))
        else
         F.f30 t0 t4 (decide ((List.getD t0 t4.toNat 0)=45))
       else none
     else none
    else
     F.f30 t0 t4 (decide ((List.getD t0 t4.toNat 0)=45))
   else none
  else
   if(decide (t4<(List.length t0:Int)))=true then
    if(0:Int)≤t4∧t4<(List.length t0:Int) then
     if(decide ((List.getD t0 t4.toNat 0)=45))=true then
      F.f30 t0 (w64 (t4+1)) false
     else
      if(0:Int)≤t4∧t4<(List.length t0:Int) then
       if(decide ((List.getD t0 t4.toNat 0)=43))=true then
        F.f30 t0 (w64 (t4+1)) false
       else
        F.f30 t0 t4 false
      else none
    else none
   else
    F.f30 t0 t4 false
def BX(F:FsBuild)(t0:(List Int))(t4:Int)(t5:Bool):Option (Int×Int×Unit) :=
 F.f31 t0 t4 t5 0 0
def BZ(F:FsBuild)(t0:(List Int))(t4:Int)(t5:Bool)(t6:Int)(t7:Int):Option (Int×Int×Unit) :=
 if(decide (t4<(List.length t0:Int)))=true then
  if(0:Int)≤t4∧t4<(List.length t0:Int) then
   (F.f58 (List.getD t0 t4.toNat 0)).bind fun(r0:Bool×Unit) =>
   if r0.1=true then
    if(decide (t6≤9000000000000))=true then
     if(0:Int)≤t4∧t4<(List.length t0:Int) then
      F.f31 t0 (w64 (t4+1)) t5 (w64 ((w64 (10*t6))+(w64 ((w64 ((w64 (List.getD t0 t4.toNat 0))-48))*1000000)))) (w64 (t7+1))
     else none
    else
     F.f31 t0 (w64 (t4+1)) t5 t6 (w64 (t7+1))
   else
    if(decide ((w64 (t4+1))<(List.length t0:Int)))=true then
     if(0:Int)≤t4∧t4<(List.length t0:Int) then
      if(decide ((List.getD t0 t4.toNat 0)=46))=true then
       if(0:Int)≤(w64 (t4+1))∧(w64 (t4+1))<(List.length t0:Int) then
        (F.f58 (List.getD t0 (w64 (t4+1)).toNat 0)).bind fun(r1:Bool×Unit) =>
        if r1.1=true then
         F.f32 t0 (w64 (t4+1)) t5 t6 t7 100000
        else
         F.f33 t4 t5 t6 t7
       else none
      else
       F.f33 t4 t5 t6 t7
     else none
    else
     F.f33 t4 t5 t6 t7
  else none
 else
  if(decide ((w64 (t4+1))<(List.length t0:Int)))=true then
   if(0:Int)≤t4∧t4<(List.length t0:Int) then
    if(decide ((List.getD t0 t4.toNat 0)=46))=true then
     if(0:Int)≤(w64 (t4+1))∧(w64 (t4+1))<(List.length t0:Int) then
      (F.f58 (List.getD t0 (w64 (t4+1)).toNat 0)).bind fun(r2:Bool×Unit) =>
      if r2.1=true then
       F.f32 t0 (w64 (t4+1)) t5 t6 t7 100000
      else
       F.f33 t4 t5 t6 t7
     else none
    else
     F.f33 t4 t5 t6 t7
   else none
  else
   F.f33 t4 t5 t6 t7
def B0(F:FsBuild)(t0:(List Int))(t4:Int)(t5:Bool)(t6:Int)(t7:Int)(t8:Int):Option (Int×Int×Unit) :=
 if(decide (t4<(List.length t0:Int)))=true then
  if(0:Int)≤t4∧t4<(List.length t0:Int) then
   (F.f58 (List.getD t0 t4.toNat 0)).bind fun(r0:Bool×Unit) =>
   if r0.1=true then
    if(0:Int)≤t4∧t4<(List.length t0:Int) then
     F.f32 t0 (w64 (t4+1)) t5 (w64 (t6+(w64 ((w64 ((w64 (List.getD t0 t4.toNat 0))-48))*t8)))) (w64 (t7+1)) (w64 (Int.tdiv t8 10))
    else none
   else
    F.f33 t4 t5 t6 t7
  else none
 else
  F.f33 t4 t5 t6 t7
def B1(_F:FsBuild)(t4:Int)(t5:Bool)(t6:Int)(t7:Int):Option (Int×Int×Unit) :=
 if(decide (t7=0))=true then
  some (0,0,())
 else
  if(decide (t6>9000000000000))=true then
   some (0,0,())
  else
   if t5=true then
    some ((w64 (0-t6)),t4,())
   else
    some (t6,t4,())
def Cl(F:FsBuild)(t0:(List Int)):Option ((List bK)×Int×Unit) :=
 if(decide ((List.length t0:Int)>2000))=true then
  some ([],0,())
 else
  F.f35 t0 [] 0
def Cm(F:FsBuild)(t0:(List Int))(t4:(List bK))(t5:Int):Option ((List bK)×Int×Unit) :=
 if(decide (t5<(List.length t0:Int)))=true then
  if(0:Int)≤t5∧t5<(List.length t0:Int) then
   if(decide ((List.getD t0 t5.toNat 0)=32))=true then
    F.f35 t0 t4 (w64 (t5+1))
   else
    if(0:Int)≤t5∧t5<(List.length t0:Int) then
     if(decide ((List.getD t0 t5.toNat 0)=10))=true then
      F.f35 t0 t4 (w64 (t5+1))
     else
      if(0:Int)≤t5∧t5<(List.length t0:Int) then
       if(decide ((List.getD t0 t5.toNat 0)=35))=true then
        F.f36 t0 t4 t5
       else
        (F.f59 t0 t5 t4).bind fun(r0:bK×Int×Bool×Unit) =>
        if(!r0.2.2.1)=true then
         some ([],t5,())
        else
         if List.length t4+1≤room then
          F.f35 t0 (List.append t4 [r0.1]) r0.2.1
         else none
      else none
    else none
  else none
 else
  if List.length t4+1≤room then
   some ((List.append t4 [(bK.mk 0 [] 0 (List.length t0:Int))]),(-1),())
  else none
def Cn(F:FsBuild)(t0:(List Int))(t4:(List bK))(t5:Int):Option ((List bK)×Int×Unit) :=
 if(decide (t5<(List.length t0:Int)))=true then
  if(0:Int)≤t5∧t5<(List.length t0:Int) then
   if(!(decide ((List.getD t0 t5.toNat 0)=10)))=true then
    F.f36 t0 t4 (w64 (t5+1))
   else
    F.f35 t0 t4 t5
  else none
 else
  F.f35 t0 t4 t5
def Ej(_F:FsBuild)(s0:bU):Option (bK×bU×Unit) :=
 if(0:Int)≤s0.at_∧s0.at_<(List.length s0.list:Int) then
  some ((List.getD s0.list s0.at_.toNat ly),s0,())
 else none
def Em(F:FsBuild)(s0:bU):Option (bI×bU×Unit) :=
 (F.f61 s0 [66,69,71,73,78]).bind fun(r0:Bool×bU×Unit) =>
 if r0.1=true then
  (F.f62 r0.2.1).bind fun(r1:bU×Unit) =>
  (F.f63 r1.1).bind fun(r2:bD×bU×Unit) =>
  some ((bI.mk 1 cS r2.1),r2.2.1,())
 else
  (F.f65 r0.2.1 [123]).bind fun(r3:Bool×bU×Unit) =>
  if r3.1=true then
   (F.f63 r3.2.1).bind fun(r4:bD×bU×Unit) =>
   some ((bI.mk 2 cS r4.1),r4.2.1,())
  else
   (F.f66 r3.2.1).bind fun(r5:bD×bU×Unit) =>
   (F.f65 r5.2.1 [123]).bind fun(r6:Bool×bU×Unit) =>
   if r6.1=true then
    (F.f63 r6.2.1).bind fun(r7:bD×bU×Unit) =>
    some ((bI.mk 3 r5.1 r7.1),r7.2.1,())
   else
    (F.f68 29 [(bD.mk 30 0 [] [])]).bind fun(r8:(Int×(Int×((List Int)×((List bD)×Unit))))×Unit) =>
    some ((bI.mk 3 r5.1 (bD.mk r8.1.1 r8.1.2.1 r8.1.2.2.1 r8.1.2.2.2.1)),r6.2.1,())
def B4(F:FsBuild)(t0:bD):Option (Int×Unit) :=
 F.f40 0 0 t0
def B5(F:FsBuild)(t3:Int)(t4:Int)(s16:bD):Option (Int×Unit) :=
 if(decide (t4<(List.length s16.Kids:Int)))=true then
  if(0:Int)≤t4∧t4<(List.length s16.Kids:Int) then
   (F.f39 (List.getD s16.Kids t4.toNat cS)).bind fun(r0:Int×Unit) =>
   (F.f25 t3 r0.1).bind fun(r1:Int×Unit) =>
   F.f40 r1.1 (w64 (t4+1)) s16
  else none
 else
  some ((w64 (t3+1)),())
def BN(F:FsBuild)(t0:(List bI)):Option (Int×Unit) :=
 (F.f69 t0).bind fun(r0:Bool×Unit) =>
 if(!r0.1)=true then
  some (1,())
 else
  F.f42 t0 0
def BO(F:FsBuild)(t0:(List bI))(t3:Int):Option (Int×Unit) :=
 if(decide (t3<(List.length t0:Int)))=true then
  if(0:Int)≤t3∧t3<(List.length t0:Int) then
   if(decide (((List.getD t0 t3.toNat ci).Kind)=1))=true then
    if(decide (t3>0))=true then
     some (2,())
    else
     if(0:Int)≤t3∧t3<(List.length t0:Int) then
      (F.f71 ((List.getD t0 t3.toNat ci).Body)).bind fun(r0:Bool×Unit) =>
      if r0.1=true then
       some (2,())
      else
       F.f42 t0 (w64 (t3+1))
     else none
   else
    F.f42 t0 (w64 (t3+1))
  else none
 else
  (F.f46 t0).bind fun(r1:(List (List Int))×(List (List Int))×Unit) =>
  if(decide ((List.length r1.1:Int)>8))=true then
   some (3,())
  else
   if(decide ((List.length r1.2.1:Int)>8))=true then
    some (3,())
   else
    F.f43 t0 r1.1 r1.2.1 0
def BP(F:FsBuild)(t0:(List bI))(t4:(List (List Int)))(t5:(List (List Int)))(t6:Int):Option (Int×Unit) :=
 if(decide (t6<(List.length t4:Int)))=true then
  if(0:Int)≤t6∧t6<(List.length t4:Int) then
   (F.f6 t5 (List.getD t4 t6.toNat [])).bind fun(r0:Bool×Unit) =>
   if r0.1=true then
    some (4,())
   else
    F.f43 t0 t4 t5 (w64 (t6+1))
  else none
 else
  F.f44 t0 0
def BQ(F:FsBuild)(t0:(List bI))(t7:Int):Option (Int×Unit) :=
 if(decide (t7<(List.length t0:Int)))=true then
  if(0:Int)≤t7∧t7<(List.length t0:Int) then
   (F.f73 ((List.getD t0 t7.toNat ci).Pat)).bind fun(r0:Bool×Unit) =>
   if(!r0.1)=true then
    some (5,())
   else
    if(0:Int)≤t7∧t7<(List.length t0:Int) then
     (F.f73 ((List.getD t0 t7.toNat ci).Body)).bind fun(r1:Bool×Unit) =>
     if(!r1.1)=true then
      some (5,())
     else
      F.f44 t0 (w64 (t7+1))
    else none
  else none
 else
  F.f45 t0 0
def BR(F:FsBuild)(t0:(List bI))(t8:Int):Option (Int×Unit) :=
 if(decide (t8<(List.length t0:Int)))=true then
  if(0:Int)≤t8∧t8<(List.length t0:Int) then
   (F.f76 ((List.getD t0 t8.toNat ci).Pat)).bind fun(r0:Bool×Unit) =>
   if(!r0.1)=true then
    some (6,())
   else
    if(0:Int)≤t8∧t8<(List.length t0:Int) then
     (F.f76 ((List.getD t0 t8.toNat ci).Body)).bind fun(r1:Bool×Unit) =>
     if(!r1.1)=true then
      some (6,())
     else
      F.f45 t0 (w64 (t8+1))
    else none
  else none
 else
  some (0,())
def B7(F:FsBuild)(t0:(List bI)):Option ((List (List Int))×(List (List Int))×Unit) :=
 F.f47 t0 [] [] 0
def B8(F:FsBuild)(t0:(List bI))(t4:(List (List Int)))(t5:(List (List Int)))(t6:Int):Option ((List (List Int))×(List (List Int))×Unit) :=
 if(decide (t6<(List.length t0:Int)))=true then
  if(0:Int)≤t6∧t6<(List.length t0:Int) then
   (F.f78 ((List.getD t0 t6.toNat ci).Pat) t4 t5).bind fun(r0:(List (List Int))×(List (List Int))×Unit) =>
   if(0:Int)≤t6∧t6<(List.length t0:Int) then
    (F.f78 ((List.getD t0 t6.toNat ci).Body) r0.1 r0.2.1).bind fun(r1:(List (List Int))×(List (List Int))×Unit) =>
    F.f47 t0 r1.1 r1.2.1 (w64 (t6+1))
   else none
  else none
 else
  some (t4,t5,())
def CK(F:FsBuild)(s0_0:(List (List Int)))(s0_1:(List (List Int)))(s0_2:(List bE))(t1:bD):Option (((List (List Int))×((List (List Int))×((List bE)×Unit)))×Unit) :=
 F.f49 0 s0_0 s0_1 s0_2 t1
def CL(F:FsBuild)(t4:Int)(s0_0:(List (List Int)))(s0_1:(List (List Int)))(s0_2:(List bE))(s48:bD):Option (((List (List Int))×((List (List Int))×((List bE)×Unit)))×Unit) :=
 if(decide (t4<(List.length s48.Kids:Int)))=true then
  if(0:Int)≤t4∧t4<(List.length s48.Kids:Int) then
   (F.f81 s0_0 s0_1 s0_2 (List.getD s48.Kids t4.toNat cS)).bind fun(r0:((List (List Int))×((List (List Int))×((List bE)×Unit)))×Unit) =>
   F.f49 (w64 (t4+1)) r0.1.1 r0.1.2.1 r0.1.2.2.1 s48
  else none
 else
  some ((s0_0,(s0_1,(s0_2,()))),())
def CM(F:FsBuild)(s0_0:(List (List Int)))(s0_1:(List (List Int)))(s0_2:(List bE))(t1:bD):Option (((List (List Int))×((List (List Int))×((List bE)×Unit)))×Unit) :=
 if(decide (t1.Op=26))=true then
  F.f51 t1.Op (decide (t1.Op=26)) s0_0 s0_1 s0_2 t1
 else
  F.f51 t1.Op (decide (t1.Op=27)) s0_0 s0_1 s0_2 t1
def CN(F:FsBuild)(t6:Int)(t24:Bool)(s0_0:(List (List Int)))(s0_1:(List (List Int)))(s0_2:(List bE))(s48:bD):Option (((List (List Int))×((List (List Int))×((List bE)×Unit)))×Unit) :=
 if t24=true then
  (F.f82 s0_0 s0_1 s0_2 s48).bind fun(r0:((List (List Int))×((List (List Int))×((List bE)×Unit)))×Unit) =>
  some ((r0.1.1,(r0.1.2.1,(r0.1.2.2.1,()))),())
 else
  if(decide (t6=24))=true then
   (F.f83 s0_0 s0_1 s0_2 s48).bind fun(r1:((List (List Int))×((List (List Int))×((List bE)×Unit)))×Unit) =>
   some ((r1.1.1,(r1.1.2.1,(r1.1.2.2.1,()))),())
  else
   if(decide (t6=25))=true then
    (F.f84 s0_0 s0_1 s0_2 s48).bind fun(r2:((List (List Int))×((List (List Int))×((List bE)×Unit)))×Unit) =>
    some ((r2.1.1,(r2.1.2.1,(r2.1.2.2.1,()))),())
   else
    if(decide (t6=21))=true then
     if(0:Int)≤0∧(0:Int)<(List.length s48.Kids:Int) then
      (F.f50 s0_0 s0_1 s0_2 (List.getD s48.Kids 0 cS)).bind fun(r3:((List (List Int))×((List (List Int))×((List bE)×Unit)))×Unit) =>
      if(0:Int)≤1∧(1:Int)<(List.length s48.Kids:Int) then
       (F.f53 r3.1.1 r3.1.2.1 r3.1.2.2.1 24 0 ((List.getD s48.Kids 1 cS).S)).bind fun(r4:Int×((List (List Int))×((List (List Int))×((List bE)×Unit)))×Unit) =>
       some ((r4.2.1.1,(r4.2.1.2.1,(r4.2.1.2.2.1,()))),())
      else none
     else none
    else
     F.f52 0 s0_0 s0_1 s0_2 s48
def CO(F:FsBuild)(t4:Int)(s0_0:(List (List Int)))(s0_1:(List (List Int)))(s0_2:(List bE))(s48:bD):Option (((List (List Int))×((List (List Int))×((List bE)×Unit)))×Unit) :=
 if(decide (t4<(List.length s48.Kids:Int)))=true then
  if(0:Int)≤t4∧t4<(List.length s48.Kids:Int) then
   (F.f50 s0_0 s0_1 s0_2 (List.getD s48.Kids t4.toNat cS)).bind fun(r0:((List (List Int))×((List (List Int))×((List bE)×Unit)))×Unit) =>
   F.f52 (w64 (t4+1)) r0.1.1 r0.1.2.1 r0.1.2.2.1 s48
  else none
 else
  (F.f85 s0_0 s0_1 s0_2 s48).bind fun(r1:((List (List Int))×((List (List Int))×((List bE)×Unit)))×Unit) =>
  some ((r1.1.1,(r1.1.2.1,(r1.1.2.2.1,()))),())
def CV(_F:FsBuild)(s0_0:(List (List Int)))(s0_1:(List (List Int)))(s0_2:(List bE))(t1:Int)(t2:Int)(t3:(List Int)):Option (Int×((List (List Int))×((List (List Int))×((List bE)×Unit)))×Unit) :=
 if List.length s0_2+1≤room then
  some ((w64 ((List.length (List.append s0_2 [(bE.mk t1 t2 t3)]):Int)-1)),(s0_0,(s0_1,((List.append s0_2 [(bE.mk t1 t2 t3)]),()))),())
 else none
def Da(F:FsBuild)(s0:bT)(t1:Int):Option (bH×bT×Unit) :=
 (F.f86 s0 t1).bind fun(r0:bH×bT×Unit) =>
 F.f55 t1 [r0.1] r0.2.1 ch
def Db(F:FsBuild)(t1:Int)(t5:(List bH))(s0:bT)(s64:bH):Option (bH×bT×Unit) :=
 (F.f88 s0 124).bind fun(r0:Bool×bT×Unit) =>
 if r0.1=true then
  (F.f86 (bT.mk r0.2.1.s (w64 (r0.2.1.at_+1)) r0.2.1.bad) t1).bind fun(r1:bH×bT×Unit) =>
  if List.length t5+1≤room then
   F.f55 t1 (List.append t5 [r1.1]) r1.2.1 s64
  else none
 else
  if(decide ((List.length t5:Int)=1))=true then
   if(0:Int)≤0∧(0:Int)<(List.length t5:Int) then
    some ((List.getD t5 0 ch),r0.2.1,())
   else none
  else
   some ((bH.mk 7 0 [] false t5),r0.2.1,())
def C5(F:FsBuild)(t0:bH):Option (Int×Unit) :=
 F.f57 0 0 t0
def C6(F:FsBuild)(t3:Int)(t4:Int)(s16:bH):Option (Int×Unit) :=
 if(decide (t4<(List.length s16.Kids:Int)))=true then
  if(0:Int)≤t4∧t4<(List.length s16.Kids:Int) then
   (F.f56 (List.getD s16.Kids t4.toNat ch)).bind fun(r0:Int×Unit) =>
   (F.f25 t3 r0.1).bind fun(r1:Int×Unit) =>
   F.f57 r1.1 (w64 (t4+1)) s16
  else none
 else
  some ((w64 (t3+1)),())
def C2(_F:FsBuild)(t0:Int):Option (Bool×Unit) :=
 if(decide (t0≥48))=true then
  some ((decide (t0≤57)),())
 else
  some (false,())
def DJ(F:FsBuild)(t0:(List Int))(t1:Int)(t2:(List bK)):Option (bK×Int×Bool×Unit) :=
 if(0:Int)≤t1∧t1<(List.length t0:Int) then
  (F.f11 (List.getD t0 t1.toNat 0)).bind fun(r0:Bool×Unit) =>
  if r0.1=true then
   F.f60 t0 t1 t1 ly
  else
   (F.f58 (List.getD t0 t1.toNat 0)).bind fun(r1:Bool×Unit) =>
   if r1.1=true then
    (F.f89 t0 t1).bind fun(r2:Int×Int×Bool×Unit) =>
    some ((bK.mk 2 [] r2.1 t1),r2.2.1,r2.2.2.1,())
   else
    if(decide ((List.getD t0 t1.toNat 0)=34))=true then
     (F.f93 t0 t1).bind fun(r3:(List Int)×Int×Bool×Unit) =>
     some ((bK.mk 3 r3.1 0 t1),r3.2.1,r3.2.2.1,())
    else
     if(decide ((List.getD t0 t1.toNat 0)=47))=true then
      (F.f95 t2).bind fun(r4:Bool×Unit) =>
      if(!r4.1)=true then
       (F.f96 t0 t1).bind fun(r5:(List Int)×Int×Bool×Unit) =>
       some ((bK.mk 4 r5.1 0 t1),r5.2.1,r5.2.2.1,())
      else
       (F.f98 t0 t1).bind fun(r6:(List Int)×Unit) =>
       some ((bK.mk 5 r6.1 0 t1),(w64 (t1+(List.length r6.1:Int))),(!(decide (r6.1=[]))),())
     else
      (F.f98 t0 t1).bind fun(r7:(List Int)×Unit) =>
      some ((bK.mk 5 r7.1 0 t1),(w64 (t1+(List.length r7.1:Int))),(!(decide (r7.1=[]))),())
 else none
def DK(F:FsBuild)(t0:(List Int))(t1:Int)(t10:Int)(s96:bK):Option (bK×Int×Bool×Unit) :=
 if(decide (t10<(List.length t0:Int)))=true then
  if(0:Int)≤t10∧t10<(List.length t0:Int) then
   (F.f11 (List.getD t0 t10.toNat 0)).bind fun(r0:Bool×Unit) =>
   if r0.1=true then
    F.f60 t0 t1 (w64 (t10+1)) s96
   else
    if(0:Int)≤t1∧t1≤t10∧t10≤(List.length t0:Int) then
     some ((bK.mk 1 (List.take (t10.toNat-t1.toNat) (List.drop t1.toNat t0)) 0 t1),t10,(decide ((w64 (t10-t1))≤8)),())
    else none
  else none
 else
  if(0:Int)≤t1∧t1≤t10∧t10≤(List.length t0:Int) then
   some ((bK.mk 1 (List.take (t10.toNat-t1.toNat) (List.drop t1.toNat t0)) 0 t1),t10,(decide ((w64 (t10-t1))≤8)),())
  else none
def D9(F:FsBuild)(s0:bU)(t1:(List Int)):Option (Bool×bU×Unit) :=
 (F.f37 s0).bind fun(r0:bK×bU×Unit) =>
 if(decide (r0.2.1.bad<0))=true then
  if(decide (r0.1.Kind=1))=true then
   some ((decide (r0.1.Text=t1)),r0.2.1,())
  else
   some (false,r0.2.1,())
 else
  some (false,r0.2.1,())
def Ei(_F:FsBuild)(s0:bU):Option (bU×Unit) :=
 if(decide (s0.at_<(w64 ((List.length s0.list:Int)-1))))=true then
  some ((bU.mk s0.list (w64 (s0.at_+1)) s0.bad s0.has s0.kept),())
 else
  some (s0,())
def DZ(F:FsBuild)(s0:bU):Option (bD×bU×Unit) :=
 (F.f100 s0 [123]).bind fun(r0:bU×Unit) =>
 F.f64 r0.1 0 0 [] [] 29 0 [] []
def D0(F:FsBuild)(s0:bU)(s32_0:Int)(s32_1:Int)(s32_2:(List Int))(s32_3:(List bD))(s48_0:Int)(s48_1:Int)(s48_2:(List Int))(s48_3:(List bD)):Option (bD×bU×Unit) :=
 if(decide (s0.bad<0))=true then
  (F.f65 s0 [125]).bind fun(r0:Bool×bU×Unit) =>
  if(!r0.1)=true then
   (F.f65 r0.2.1 [59]).bind fun(r1:Bool×bU×Unit) =>
   if r1.1=true then
    (F.f62 r1.2.1).bind fun(r2:bU×Unit) =>
    F.f64 r2.1 s32_0 s32_1 s32_2 s32_3 s48_0 s48_1 s48_2 s48_3
   else
    (F.f101 r1.2.1).bind fun(r3:bD×bU×Unit) =>
    if List.length s48_3+1≤room then
     F.f64 r3.2.1 s32_0 s32_1 s32_2 s32_3 s48_0 s48_1 s48_2 (List.append s48_3 [r3.1])
    else none
  else
   (F.f100 r0.2.1 [125]).bind fun(r4:bU×Unit) =>
   some ((bD.mk s48_0 s48_1 s48_2 s48_3),r4.1,())
 else
  (F.f100 s0 [125]).bind fun(r5:bU×Unit) =>
  some ((bD.mk s48_0 s48_1 s48_2 s48_3),r5.1,())
def En(F:FsBuild)(s0:bU)(t1:(List Int)):Option (Bool×bU×Unit) :=
 (F.f37 s0).bind fun(r0:bK×bU×Unit) =>
 if(decide (r0.2.1.bad<0))=true then
  if(decide (r0.1.Kind=5))=true then
   some ((decide (r0.1.Text=t1)),r0.2.1,())
  else
   some (false,r0.2.1,())
 else
  some (false,r0.2.1,())
def D5(F:FsBuild)(s0:bU):Option (bD×bU×Unit) :=
 (F.f37 s0).bind fun(r0:bK×bU×Unit) =>
 if(decide (r0.2.1.bad<0))=true then
  if(decide (r0.1.Kind=1))=true then
   (F.f12 r0.1.Text).bind fun(r1:Bool×Unit) =>
   if(!r1.1)=true then
    (F.f102 r0.2.1).bind fun(r2:bD×bU×Unit) =>
    (F.f65 r2.2.1 [61]).bind fun(r3:Bool×bU×Unit) =>
    if r3.1=true then
     F.f67 26 r3.2.1 0 0 [] [] r2.1
    else
     (F.f65 r3.2.1 [43,61]).bind fun(r4:Bool×bU×Unit) =>
     if r4.1=true then
      F.f67 27 r4.2.1 0 0 [] [] r2.1
     else
      F.f67 0 r4.2.1 0 0 [] [] r2.1
   else
    (F.f103 r0.2.1 0).bind fun(r5:bD×bU×Unit) =>
    some (r5.1,r5.2.1,())
  else
   (F.f103 r0.2.1 0).bind fun(r6:bD×bU×Unit) =>
   some (r6.1,r6.2.1,())
 else
  (F.f103 r0.2.1 0).bind fun(r7:bD×bU×Unit) =>
  some (r7.1,r7.2.1,())
def D6(F:FsBuild)(t5:Int)(s0:bU)(s32_0:Int)(s32_1:Int)(s32_2:(List Int))(s32_3:(List bD))(s64:bD):Option (bD×bU×Unit) :=
 if(decide (t5>0))=true then
  (F.f62 s0).bind fun(r0:bU×Unit) =>
  (F.f66 r0.1).bind fun(r1:bD×bU×Unit) =>
  (F.f68 t5 [s64,r1.1]).bind fun(r2:(Int×(Int×((List Int)×((List bD)×Unit))))×Unit) =>
  some ((bD.mk r2.1.1 r2.1.2.1 r2.1.2.2.1 r2.1.2.2.2.1),r1.2.1,())
 else
  (F.f103 (bU.mk s0.list s0.at_ s0.bad true s64) 0).bind fun(r3:bD×bU×Unit) =>
  some (r3.1,r3.2.1,())
def Ea(_F:FsBuild)(t0:Int)(t1:(List bD)):Option ((Int×(Int×((List Int)×((List bD)×Unit))))×Unit) :=
 if 0+List.length t1≤room then
  some ((t0,(0,([],((List.append [] t1),())))),())
 else none
def Cj(F:FsBuild)(t0:(List bI)):Option (Bool×Unit) :=
 F.f70 t0 0
def Ck(F:FsBuild)(t0:(List bI))(t3:Int):Option (Bool×Unit) :=
 if(decide (t3<(List.length t0:Int)))=true then
  if(0:Int)≤t3∧t3<(List.length t0:Int) then
   if(decide ((((List.getD t0 t3.toNat ci).Pat).Op)=0))=true then
    if(decide ((((List.getD t0 t3.toNat ci).Pat).N)=0))=true then
     if(decide ((((List.getD t0 t3.toNat ci).Pat).S)=[]))=true then
      (F.f0 ((List.getD t0 t3.toNat ci).Kind) 1 2).bind fun(r0:Bool×Unit) =>
      if r0.1=true then
       if(decide ((List.length (((List.getD t0 t3.toNat ci).Pat).Kids):Int)=0))=true then
        if(!(decide ((((List.getD t0 t3.toNat ci).Body).Op)=29)))=true then
         some (false,())
        else
         (F.f39 ((List.getD t0 t3.toNat ci).Body)).bind fun(r1:Int×Unit) =>
         if(decide (r1.1>16))=true then
          some (false,())
         else
          (F.f104 ((List.getD t0 t3.toNat ci).Body)).bind fun(r2:Bool×Unit) =>
          if(!r2.1)=true then
           some (false,())
          else
           F.f70 t0 (w64 (t3+1))
       else
        if(decide (((List.getD t0 t3.toNat ci).Kind)=3))=true then
         (F.f106 (((List.getD t0 t3.toNat ci).Pat).Op)).bind fun(r3:Bool×Unit) =>
         if r3.1=true then
          (F.f104 ((List.getD t0 t3.toNat ci).Pat)).bind fun(r4:Bool×Unit) =>
          if r4.1=true then
           (F.f39 ((List.getD t0 t3.toNat ci).Pat)).bind fun(r5:Int×Unit) =>
           if(!(decide (r5.1≤16)))=true then
            some (false,())
           else
            if(!(decide ((((List.getD t0 t3.toNat ci).Body).Op)=29)))=true then
             some (false,())
            else
             (F.f39 ((List.getD t0 t3.toNat ci).Body)).bind fun(r6:Int×Unit) =>
             if(decide (r6.1>16))=true then
              some (false,())
             else
              (F.f104 ((List.getD t0 t3.toNat ci).Body)).bind fun(r7:Bool×Unit) =>
              if(!r7.1)=true then
               some (false,())
              else
               F.f70 t0 (w64 (t3+1))
          else
           some (false,())
         else
          some (false,())
        else
         some (false,())
      else
       if(decide (((List.getD t0 t3.toNat ci).Kind)=3))=true then
        (F.f106 (((List.getD t0 t3.toNat ci).Pat).Op)).bind fun(r8:Bool×Unit) =>
        if r8.1=true then
         (F.f104 ((List.getD t0 t3.toNat ci).Pat)).bind fun(r9:Bool×Unit) =>
         if r9.1=true then
          (F.f39 ((List.getD t0 t3.toNat ci).Pat)).bind fun(r10:Int×Unit) =>
          if(!(decide (r10.1≤16)))=true then
           some (false,())
          else
           if(!(decide ((((List.getD t0 t3.toNat ci).Body).Op)=29)))=true then
            some (false,())
           else
            (F.f39 ((List.getD t0 t3.toNat ci).Body)).bind fun(r11:Int×Unit) =>
            if(decide (r11.1>16))=true then
             some (false,())
            else
             (F.f104 ((List.getD t0 t3.toNat ci).Body)).bind fun(r12:Bool×Unit) =>
             if(!r12.1)=true then
              some (false,())
             else
              F.f70 t0 (w64 (t3+1))
         else
          some (false,())
        else
         some (false,())
       else
        some (false,())
     else
      (F.f0 ((List.getD t0 t3.toNat ci).Kind) 1 2).bind fun(r13:Bool×Unit) =>
      if r13.1=true then
       if(decide (((List.getD t0 t3.toNat ci).Kind)=3))=true then
        (F.f106 (((List.getD t0 t3.toNat ci).Pat).Op)).bind fun(r14:Bool×Unit) =>
        if r14.1=true then
         (F.f104 ((List.getD t0 t3.toNat ci).Pat)).bind fun(r15:Bool×Unit) =>
         if r15.1=true then
          (F.f39 ((List.getD t0 t3.toNat ci).Pat)).bind fun(r16:Int×Unit) =>
          if(!(decide (r16.1≤16)))=true then
           some (false,())
          else
           if(!(decide ((((List.getD t0 t3.toNat ci).Body).Op)=29)))=true then
            some (false,())
           else
            (F.f39 ((List.getD t0 t3.toNat ci).Body)).bind fun(r17:Int×Unit) =>
            if(decide (r17.1>16))=true then
             some (false,())
            else
             (F.f104 ((List.getD t0 t3.toNat ci).Body)).bind fun(r18:Bool×Unit) =>
             if(!r18.1)=true then
              some (false,())
             else
              F.f70 t0 (w64 (t3+1))
         else
          some (false,())
        else
         some (false,())
       else
        some (false,())
      else
       if(decide (((List.getD t0 t3.toNat ci).Kind)=3))=true then
        (F.f106 (((List.getD t0 t3.toNat ci).Pat).Op)).bind fun(r19:Bool×Unit) =>
        if r19.1=true then
         (F.f104 ((List.getD t0 t3.toNat ci).Pat)).bind fun(r20:Bool×Unit) =>
         if r20.1=true then
          (F.f39 ((List.getD t0 t3.toNat ci).Pat)).bind fun(r21:Int×Unit) =>
          if(!(decide (r21.1≤16)))=true then
           some (false,())
          else
           if(!(decide ((((List.getD t0 t3.toNat ci).Body).Op)=29)))=true then
            some (false,())
           else
            (F.f39 ((List.getD t0 t3.toNat ci).Body)).bind fun(r22:Int×Unit) =>
            if(decide (r22.1>16))=true then
             some (false,())
            else
             (F.f104 ((List.getD t0 t3.toNat ci).Body)).bind fun(r23:Bool×Unit) =>
             if(!r23.1)=true then
              some (false,())
             else
              F.f70 t0 (w64 (t3+1))
         else
          some (false,())
        else
         some (false,())
       else
        some (false,())
    else
     (F.f0 ((List.getD t0 t3.toNat ci).Kind) 1 2).bind fun(r24:Bool×Unit) =>
     if r24.1=true then
      if(decide (((List.getD t0 t3.toNat ci).Kind)=3))=true then
       (F.f106 (((List.getD t0 t3.toNat ci).Pat).Op)).bind fun(r25:Bool×Unit) =>
       if r25.1=true then
        (F.f104 ((List.getD t0 t3.toNat ci).Pat)).bind fun(r26:Bool×Unit) =>
        if r26.1=true then
         (F.f39 ((List.getD t0 t3.toNat ci).Pat)).bind fun(r27:Int×Unit) =>
         if(!(decide (r27.1≤16)))=true then
          some (false,())
         else
          if(!(decide ((((List.getD t0 t3.toNat ci).Body).Op)=29)))=true then
           some (false,())
          else
           (F.f39 ((List.getD t0 t3.toNat ci).Body)).bind fun(r28:Int×Unit) =>
           if(decide (r28.1>16))=true then
            some (false,())
           else
            (F.f104 ((List.getD t0 t3.toNat ci).Body)).bind fun(r29:Bool×Unit) =>
            if(!r29.1)=true then
             some (false,())
            else
             F.f70 t0 (w64 (t3+1))
        else
         some (false,())
       else
        some (false,())
      else
       some (false,())
     else
      if(decide (((List.getD t0 t3.toNat ci).Kind)=3))=true then
       (F.f106 (((List.getD t0 t3.toNat ci).Pat).Op)).bind fun(r30:Bool×Unit) =>
       if r30.1=true then
        (F.f104 ((List.getD t0 t3.toNat ci).Pat)).bind fun(r31:Bool×Unit) =>
        if r31.1=true then
         (F.f39 ((List.getD t0 t3.toNat ci).Pat)).bind fun(r32:Int×Unit) =>
         if(!(decide (r32.1≤16)))=true then
          some (false,())
         else
          if(!(decide ((((List.getD t0 t3.toNat ci).Body).Op)=29)))=true then
           some (false,())
          else
           (F.f39 ((List.getD t0 t3.toNat ci).Body)).bind fun(r33:Int×Unit) =>
           if(decide (r33.1>16))=true then
            some (false,())
           else
            (F.f104 ((List.getD t0 t3.toNat ci).Body)).bind fun(r34:Bool×Unit) =>
            if(!r34.1)=true then
             some (false,())
            else
             F.f70 t0 (w64 (t3+1))
        else
         some (false,())
       else
        some (false,())
      else
       some (false,())
   else
    (F.f0 ((List.getD t0 t3.toNat ci).Kind) 1 2).bind fun(r35:Bool×Unit) =>
    if r35.1=true then
     if(decide (((List.getD t0 t3.toNat ci).Kind)=3))=true then
      (F.f106 (((List.getD t0 t3.toNat ci).Pat).Op)).bind fun(r36:Bool×Unit) =>
      if r36.1=true then
       (F.f104 ((List.getD t0 t3.toNat ci).Pat)).bind fun(r37:Bool×Unit) =>
       if r37.1=true then
        (F.f39 ((List.getD t0 t3.toNat ci).Pat)).bind fun(r38:Int×Unit) =>
        if(!(decide (r38.1≤16)))=true then
         some (false,())
        else
         if(!(decide ((((List.getD t0 t3.toNat ci).Body).Op)=29)))=true then
          some (false,())
         else
          (F.f39 ((List.getD t0 t3.toNat ci).Body)).bind fun(r39:Int×Unit) =>
          if(decide (r39.1>16))=true then
           some (false,())
          else
           (F.f104 ((List.getD t0 t3.toNat ci).Body)).bind fun(r40:Bool×Unit) =>
           if(!r40.1)=true then
            some (false,())
           else
            F.f70 t0 (w64 (t3+1))
       else
        some (false,())
      else
       some (false,())
     else
      some (false,())
    else
     if(decide (((List.getD t0 t3.toNat ci).Kind)=3))=true then
      (F.f106 (((List.getD t0 t3.toNat ci).Pat).Op)).bind fun(r41:Bool×Unit) =>
      if r41.1=true then
       (F.f104 ((List.getD t0 t3.toNat ci).Pat)).bind fun(r42:Bool×Unit) =>
       if r42.1=true then
        (F.f39 ((List.getD t0 t3.toNat ci).Pat)).bind fun(r43:Int×Unit) =>
        if(!(decide (r43.1≤16)))=true then
         some (false,())
        else
         if(!(decide ((((List.getD t0 t3.toNat ci).Body).Op)=29)))=true then
          some (false,())
         else
          (F.f39 ((List.getD t0 t3.toNat ci).Body)).bind fun(r44:Int×Unit) =>
          if(decide (r44.1>16))=true then
           some (false,())
          else
           (F.f104 ((List.getD t0 t3.toNat ci).Body)).bind fun(r45:Bool×Unit) =>
           if(!r45.1)=true then
            some (false,())
           else
            F.f70 t0 (w64 (t3+1))
       else
        some (false,())
      else
       some (false,())
     else
      some (false,())
  else none
 else
  some (true,())
def Cs(F:FsBuild)(t0:bD):Option (Bool×Unit) :=
 if(decide (t0.Op=6))=true then
  some (true,())
 else
  if(decide (t0.Op=7))=true then
   some (true,())
  else
   if(decide (t0.Op=8))=true then
    some (true,())
   else
    if(decide (t0.Op=33))=true then
     some (true,())
    else
     if(decide (t0.Op=3))=true then
      some (true,())
     else
      F.f72 0 t0
def Ct(F:FsBuild)(t3:Int)(s16:bD):Option (Bool×Unit) :=
 if(decide (t3<(List.length s16.Kids:Int)))=true then
  if(decide (s16.Op=21))=true then
   if(decide (t3=1))=true then
    if(0:Int)≤t3∧t3<(List.length s16.Kids:Int) then
     if(decide (((List.getD s16.Kids t3.toNat cS).Op)=3))=true then
      F.f72 (w64 (t3+1)) s16
     else
      if(0:Int)≤t3∧t3<(List.length s16.Kids:Int) then
       (F.f71 (List.getD s16.Kids t3.toNat cS)).bind fun(r0:Bool×Unit) =>
       if r0.1=true then
        some (true,())
       else
        F.f72 (w64 (t3+1)) s16
      else none
    else none
   else
    if(0:Int)≤t3∧t3<(List.length s16.Kids:Int) then
     (F.f71 (List.getD s16.Kids t3.toNat cS)).bind fun(r1:Bool×Unit) =>
     if r1.1=true then
      some (true,())
     else
      F.f72 (w64 (t3+1)) s16
    else none
  else
   if(0:Int)≤t3∧t3<(List.length s16.Kids:Int) then
    (F.f71 (List.getD s16.Kids t3.toNat cS)).bind fun(r2:Bool×Unit) =>
    if r2.1=true then
     some (true,())
    else
     F.f72 (w64 (t3+1)) s16
   else none
 else
  some (false,())
def Cp(F:FsBuild)(t0:bD):Option (Bool×Unit) :=
 if(decide (t0.Op=28))=true then
  if(decide (t0.S=[105,110,100,101,120]))=true then
   if(!(decide ((List.length t0.Kids:Int)=2)))=true then
    some (false,())
   else
    F.f74 (List.length t0.Kids:Int) t0
  else
   if(decide (t0.S=[115,117,98,115,116,114]))=true then
    if(!(decide ((List.length t0.Kids:Int)=2)))=true then
     if(!(decide ((List.length t0.Kids:Int)=3)))=true then
      some (false,())
     else
      F.f74 (List.length t0.Kids:Int) t0
    else
     F.f74 (List.length t0.Kids:Int) t0
   else
    if(!(decide ((List.length t0.Kids:Int)=1)))=true then
     some (false,())
    else
     F.f74 (List.length t0.Kids:Int) t0
 else
  F.f74 (List.length t0.Kids:Int) t0
def Cq(F:FsBuild)(t3:Int)(s16:bD):Option (Bool×Unit) :=
 F.f75 t3 0 s16
def Cr(F:FsBuild)(t3:Int)(t4:Int)(s16:bD):Option (Bool×Unit) :=
 if(decide (t4<t3))=true then
  if(0:Int)≤t4∧t4<(List.length s16.Kids:Int) then
   (F.f73 (List.getD s16.Kids t4.toNat cS)).bind fun(r0:Bool×Unit) =>
   if(!r0.1)=true then
    some (false,())
   else
    F.f75 t3 (w64 (t4+1)) s16
  else none
 else
  some (true,())
def CA(F:FsBuild)(t0:bD):Option (Bool×Unit) :=
 if(decide (t0.Op=3))=true then
  (F.s_RexParse t0.S).bind fun(r0:bH×Bool×Unit) =>
  some (r0.2.1,())
 else
  if(decide (t0.Op=21))=true then
   if(0:Int)≤1∧(1:Int)<(List.length t0.Kids:Int) then
    if(!(decide (((List.getD t0.Kids 1 cS).Op)=3)))=true then
     some (false,())
    else
     F.f77 0 t0
   else none
  else
   F.f77 0 t0
def CB(F:FsBuild)(t5:Int)(s16:bD):Option (Bool×Unit) :=
 if(decide (t5<(List.length s16.Kids:Int)))=true then
  if(0:Int)≤t5∧t5<(List.length s16.Kids:Int) then
   (F.f76 (List.getD s16.Kids t5.toNat cS)).bind fun(r0:Bool×Unit) =>
   if(!r0.1)=true then
    some (false,())
   else
    F.f77 (w64 (t5+1)) s16
  else none
 else
  some (true,())
def Cu(F:FsBuild)(t0:bD)(t1:(List (List Int)))(t2:(List (List Int))):Option ((List (List Int))×(List (List Int))×Unit) :=
 if(decide (t0.Op=4))=true then
  (F.f107 t1 t0.S).bind fun(r0:(List (List Int))×Unit) =>
  F.f79 r0.1 t2 t0
 else
  if(decide (t0.Op=5))=true then
   if(decide (t0.Op=5))=true then
    (F.f107 t2 t0.S).bind fun(r1:(List (List Int))×Unit) =>
    F.f79 t1 r1.1 t0
   else
    F.f79 t1 t2 t0
  else
   if(decide (t0.Op=34))=true then
    (F.f107 t2 t0.S).bind fun(r2:(List (List Int))×Unit) =>
    F.f79 t1 r2.1 t0
   else
    F.f79 t1 t2 t0
def Cv(F:FsBuild)(t1:(List (List Int)))(t2:(List (List Int)))(s48:bD):Option ((List (List Int))×(List (List Int))×Unit) :=
 F.f80 t1 t2 0 s48
def Cw(F:FsBuild)(t1:(List (List Int)))(t2:(List (List Int)))(t8:Int)(s48:bD):Option ((List (List Int))×(List (List Int))×Unit) :=
 if(decide (t8<(List.length s48.Kids:Int)))=true then
  if(0:Int)≤t8∧t8<(List.length s48.Kids:Int) then
   (F.f78 (List.getD s48.Kids t8.toNat cS) t1 t2).bind fun(r0:(List (List Int))×(List (List Int))×Unit) =>
   F.f80 r0.1 r0.2.1 (w64 (t8+1)) s48
  else none
 else
  some (t1,t2,())
def CX(F:FsBuild)(s0_0:(List (List Int)))(s0_1:(List (List Int)))(s0_2:(List bE))(t1:bD):Option (((List (List Int))×((List (List Int))×((List bE)×Unit)))×Unit) :=
 if(decide (t1.Op=29))=true then
  (F.f48 s0_0 s0_1 s0_2 t1).bind fun(r0:((List (List Int))×((List (List Int))×((List bE)×Unit)))×Unit) =>
  some ((r0.1.1,(r0.1.2.1,(r0.1.2.2.1,()))),())
 else
  if(decide (t1.Op=30))=true then
   (F.f109 s0_0 s0_1 s0_2 t1).bind fun(r1:((List (List Int))×((List (List Int))×((List bE)×Unit)))×Unit) =>
   some ((r1.1.1,(r1.1.2.1,(r1.1.2.2.1,()))),())
  else
   if(decide (t1.Op=31))=true then
    (F.f112 s0_0 s0_1 s0_2 t1).bind fun(r2:((List (List Int))×((List (List Int))×((List bE)×Unit)))×Unit) =>
    some ((r2.1.1,(r2.1.2.1,(r2.1.2.2.1,()))),())
   else
    if(decide (t1.Op=32))=true then
     (F.f113 s0_0 s0_1 s0_2 t1).bind fun(r3:((List (List Int))×((List (List Int))×((List bE)×Unit)))×Unit) =>
     some ((r3.1.1,(r3.1.2.1,(r3.1.2.2.1,()))),())
    else
     if(decide (t1.Op=33))=true then
      (F.f53 s0_0 s0_1 s0_2 36 0 []).bind fun(r4:Int×((List (List Int))×((List (List Int))×((List bE)×Unit)))×Unit) =>
      some ((r4.2.1.1,(r4.2.1.2.1,(r4.2.1.2.2.1,()))),())
     else
      if(decide (t1.Op=34))=true then
       if(0:Int)≤0∧(0:Int)<(List.length t1.Kids:Int) then
        (F.f50 s0_0 s0_1 s0_2 (List.getD t1.Kids 0 cS)).bind fun(r5:((List (List Int))×((List (List Int))×((List bE)×Unit)))×Unit) =>
        (F.f114 r5.1.2.1 t1.S).bind fun(r6:Int×Unit) =>
        (F.f53 r5.1.1 r5.1.2.1 r5.1.2.2.1 35 r6.1 []).bind fun(r7:Int×((List (List Int))×((List (List Int))×((List bE)×Unit)))×Unit) =>
        some ((r7.2.1.1,(r7.2.1.2.1,(r7.2.1.2.2.1,()))),())
       else none
      else
       if(0:Int)≤0∧(0:Int)<(List.length t1.Kids:Int) then
        (F.f50 s0_0 s0_1 s0_2 (List.getD t1.Kids 0 cS)).bind fun(r8:((List (List Int))×((List (List Int))×((List bE)×Unit)))×Unit) =>
        (F.f53 r8.1.1 r8.1.2.1 r8.1.2.2.1 32 0 []).bind fun(r9:Int×((List (List Int))×((List (List Int))×((List bE)×Unit)))×Unit) =>
        some ((r9.2.1.1,(r9.2.1.2.1,(r9.2.1.2.2.1,()))),())
       else none
def CW(F:FsBuild)(s0_0:(List (List Int)))(s0_1:(List (List Int)))(s0_2:(List bE))(t1:bD):Option (((List (List Int))×((List (List Int))×((List bE)×Unit)))×Unit) :=
 if(0:Int)≤0∧(0:Int)<(List.length t1.Kids:Int) then
  (F.f116 (decide (t1.Op=27))).bind fun(r0:Int×Unit) =>
  if(decide (((List.getD t1.Kids 0 cS).Op)=4))=true then
   if(0:Int)≤1∧(1:Int)<(List.length t1.Kids:Int) then
    (F.f50 s0_0 s0_1 s0_2 (List.getD t1.Kids 1 cS)).bind fun(r1:((List (List Int))×((List (List Int))×((List bE)×Unit)))×Unit) =>
    (F.f114 r1.1.1 ((List.getD t1.Kids 0 cS).S)).bind fun(r2:Int×Unit) =>
    (F.f53 r1.1.1 r1.1.2.1 r1.1.2.2.1 (w64 (4+r0.1)) r2.1 []).bind fun(r3:Int×((List (List Int))×((List (List Int))×((List bE)×Unit)))×Unit) =>
    some ((r3.2.1.1,(r3.2.1.2.1,(r3.2.1.2.2.1,()))),())
   else none
  else
   if(0:Int)≤0∧(0:Int)<(List.length ((List.getD t1.Kids 0 cS).Kids):Int) then
    (F.f50 s0_0 s0_1 s0_2 (List.getD ((List.getD t1.Kids 0 cS).Kids) 0 cS)).bind fun(r4:((List (List Int))×((List (List Int))×((List bE)×Unit)))×Unit) =>
    if(0:Int)≤1∧(1:Int)<(List.length t1.Kids:Int) then
     (F.f50 r4.1.1 r4.1.2.1 r4.1.2.2.1 (List.getD t1.Kids 1 cS)).bind fun(r5:((List (List Int))×((List (List Int))×((List bE)×Unit)))×Unit) =>
     (F.f114 r5.1.2.1 ((List.getD t1.Kids 0 cS).S)).bind fun(r6:Int×Unit) =>
     (F.f53 r5.1.1 r5.1.2.1 r5.1.2.2.1 (w64 (7+r0.1)) r6.1 []).bind fun(r7:Int×((List (List Int))×((List (List Int))×((List bE)×Unit)))×Unit) =>
     some ((r7.2.1.1,(r7.2.1.2.1,(r7.2.1.2.2.1,()))),())
    else none
   else none
 else none
def CJ(F:FsBuild)(s0_0:(List (List Int)))(s0_1:(List (List Int)))(s0_2:(List bE))(t1:bD):Option (((List (List Int))×((List (List Int))×((List bE)×Unit)))×Unit) :=
 if(0:Int)≤0∧(0:Int)<(List.length t1.Kids:Int) then
  (F.f50 s0_0 s0_1 s0_2 (List.getD t1.Kids 0 cS)).bind fun(r0:((List (List Int))×((List (List Int))×((List bE)×Unit)))×Unit) =>
  (F.f53 r0.1.1 r0.1.2.1 r0.1.2.2.1 31 0 []).bind fun(r1:Int×((List (List Int))×((List (List Int))×((List bE)×Unit)))×Unit) =>
  if(0:Int)≤1∧(1:Int)<(List.length t1.Kids:Int) then
   (F.f50 r1.2.1.1 r1.2.1.2.1 r1.2.1.2.2.1 (List.getD t1.Kids 1 cS)).bind fun(r2:((List (List Int))×((List (List Int))×((List bE)×Unit)))×Unit) =>
   (F.f53 r2.1.1 r2.1.2.1 r2.1.2.2.1 28 0 []).bind fun(r3:Int×((List (List Int))×((List (List Int))×((List bE)×Unit)))×Unit) =>
   (F.f53 r3.2.1.1 r3.2.1.2.1 r3.2.1.2.2.1 30 0 []).bind fun(r4:Int×((List (List Int))×((List (List Int))×((List bE)×Unit)))×Unit) =>
   if(0:Int)≤r1.1∧r1.1<(List.length r4.2.1.2.2.1:Int) then
    let v0:(List bE):=(List.set r4.2.1.2.2.1 r1.1.toNat (bE.mk ((List.getD r4.2.1.2.2.1 r1.1.toNat de).Code) (List.length r4.2.1.2.2.1:Int) ((List.getD r4.2.1.2.2.1 r1.1.toNat de).S)))
    (F.f53 r4.2.1.1 r4.2.1.2.1 v0 1 0 []).bind fun(r5:Int×((List (List Int))×((List (List Int))×((List bE)×Unit)))×Unit) =>
    if(0:Int)≤r4.1∧r4.1<(List.length r5.2.1.2.2.1:Int) then
     let v1:(List bE):=(List.set r5.2.1.2.2.1 r4.1.toNat (bE.mk ((List.getD r5.2.1.2.2.1 r4.1.toNat de).Code) (List.length r5.2.1.2.2.1:Int) ((List.getD r5.2.1.2.2.1 r4.1.toNat de).S)))
     some ((r5.2.1.1,(r5.2.1.2.1,(v1,()))),())
    else none
   else none
  else none
 else none
def CR(F:FsBuild)(s0_0:(List (List Int)))(s0_1:(List (List Int)))(s0_2:(List bE))(t1:bD):Option (((List (List Int))×((List (List Int))×((List bE)×Unit)))×Unit) :=
 if(0:Int)≤0∧(0:Int)<(List.length t1.Kids:Int) then
  (F.f50 s0_0 s0_1 s0_2 (List.getD t1.Kids 0 cS)).bind fun(r0:((List (List Int))×((List (List Int))×((List bE)×Unit)))×Unit) =>
  (F.f53 r0.1.1 r0.1.2.1 r0.1.2.2.1 31 0 []).bind fun(r1:Int×((List (List Int))×((List (List Int))×((List bE)×Unit)))×Unit) =>
  (F.f53 r1.2.1.1 r1.2.1.2.1 r1.2.1.2.2.1 1 1000000 []).bind fun(r2:Int×((List (List Int))×((List (List Int))×((List bE)×Unit)))×Unit) =>
  (F.f53 r2.2.1.1 r2.2.1.2.1 r2.2.1.2.2.1 30 0 []).bind fun(r3:Int×((List (List Int))×((List (List Int))×((List bE)×Unit)))×Unit) =>
  if(0:Int)≤r1.1∧r1.1<(List.length r3.2.1.2.2.1:Int) then
   let v0:(List bE):=(List.set r3.2.1.2.2.1 r1.1.toNat (bE.mk ((List.getD r3.2.1.2.2.1 r1.1.toNat de).Code) (List.length r3.2.1.2.2.1:Int) ((List.getD r3.2.1.2.2.1 r1.1.toNat de).S)))
   if(0:Int)≤1∧(1:Int)<(List.length t1.Kids:Int) then
    (F.f50 r3.2.1.1 r3.2.1.2.1 v0 (List.getD t1.Kids 1 cS)).bind fun(r4:((List (List Int))×((List (List Int))×((List bE)×Unit)))×Unit) =>
    (F.f53 r4.1.1 r4.1.2.1 r4.1.2.2.1 28 0 []).bind fun(r5:Int×((List (List Int))×((List (List Int))×((List bE)×Unit)))×Unit) =>
    if(0:Int)≤r3.1∧r3.1<(List.length r5.2.1.2.2.1:Int) then
     let v1:(List bE):=(List.set r5.2.1.2.2.1 r3.1.toNat (bE.mk ((List.getD r5.2.1.2.2.1 r3.1.toNat de).Code) (List.length r5.2.1.2.2.1:Int) ((List.getD r5.2.1.2.2.1 r3.1.toNat de).S)))
     some ((r5.2.1.1,(r5.2.1.2.1,(v1,()))),())
    else none
   else none
  else none
 else none
def CQ(F:FsBuild)(s0_0:(List (List Int)))(s0_1:(List (List Int)))(s0_2:(List bE))(t1:bD):Option (((List (List Int))×((List (List Int))×((List bE)×Unit)))×Unit) :=
 if(decide (t1.Op=1))=true then
  (F.f53 s0_0 s0_1 s0_2 1 t1.N []).bind fun(r0:Int×((List (List Int))×((List (List Int))×((List bE)×Unit)))×Unit) =>
  some ((r0.2.1.1,(r0.2.1.2.1,(r0.2.1.2.2.1,()))),())
 else
  if(decide (t1.Op=2))=true then
   (F.f53 s0_0 s0_1 s0_2 2 0 t1.S).bind fun(r1:Int×((List (List Int))×((List (List Int))×((List bE)×Unit)))×Unit) =>
   some ((r1.2.1.1,(r1.2.1.2.1,(r1.2.1.2.2.1,()))),())
  else
   if(decide (t1.Op=3))=true then
    (F.f53 s0_0 s0_1 s0_2 25 0 t1.S).bind fun(r2:Int×((List (List Int))×((List (List Int))×((List bE)×Unit)))×Unit) =>
    some ((r2.2.1.1,(r2.2.1.2.1,(r2.2.1.2.2.1,()))),())
   else
    if(decide (t1.Op=4))=true then
     (F.f114 s0_0 t1.S).bind fun(r3:Int×Unit) =>
     (F.f53 s0_0 s0_1 s0_2 3 r3.1 []).bind fun(r4:Int×((List (List Int))×((List (List Int))×((List bE)×Unit)))×Unit) =>
     some ((r4.2.1.1,(r4.2.1.2.1,(r4.2.1.2.2.1,()))),())
    else
     if(decide (t1.Op=5))=true then
      (F.f114 s0_1 t1.S).bind fun(r5:Int×Unit) =>
      (F.f53 s0_0 s0_1 s0_2 6 r5.1 []).bind fun(r6:Int×((List (List Int))×((List (List Int))×((List bE)×Unit)))×Unit) =>
      some ((r6.2.1.1,(r6.2.1.2.1,(r6.2.1.2.2.1,()))),())
     else
      if(decide (t1.Op=6))=true then
       (F.f53 s0_0 s0_1 s0_2 9 0 []).bind fun(r7:Int×((List (List Int))×((List (List Int))×((List bE)×Unit)))×Unit) =>
       some ((r7.2.1.1,(r7.2.1.2.1,(r7.2.1.2.2.1,()))),())
      else
       if(decide (t1.Op=7))=true then
        (F.f53 s0_0 s0_1 s0_2 10 0 []).bind fun(r8:Int×((List (List Int))×((List (List Int))×((List bE)×Unit)))×Unit) =>
        some ((r8.2.1.1,(r8.2.1.2.1,(r8.2.1.2.2.1,()))),())
       else
        if(decide (t1.Op=8))=true then
         (F.f53 s0_0 s0_1 s0_2 11 0 []).bind fun(r9:Int×((List (List Int))×((List (List Int))×((List bE)×Unit)))×Unit) =>
         some ((r9.2.1.1,(r9.2.1.2.1,(r9.2.1.2.2.1,()))),())
        else
         if(decide (t1.Op=22))=true then
          (F.f53 s0_0 s0_1 s0_2 26 0 []).bind fun(r10:Int×((List (List Int))×((List (List Int))×((List bE)×Unit)))×Unit) =>
          some ((r10.2.1.1,(r10.2.1.2.1,(r10.2.1.2.2.1,()))),())
         else
          if(decide (t1.Op=23))=true then
           (F.f53 s0_0 s0_1 s0_2 27 0 []).bind fun(r11:Int×((List (List Int))×((List (List Int))×((List bE)×Unit)))×Unit) =>
           some ((r11.2.1.1,(r11.2.1.2.1,(r11.2.1.2.2.1,()))),())
          else
           if(decide (t1.Op=28))=true then
            (F.f53 s0_0 s0_1 s0_2 29 (List.length t1.Kids:Int) t1.S).bind fun(r12:Int×((List (List Int))×((List (List Int))×((List bE)×Unit)))×Unit) =>
            some ((r12.2.1.1,(r12.2.1.2.1,(r12.2.1.2.2.1,()))),())
           else
            (F.f53 s0_0 s0_1 s0_2 (w64 ((w64 (12+t1.Op))-9)) 0 []).bind fun(r13:Int×((List (List Int))×((List (List Int))×((List bE)×Unit)))×Unit) =>
            some ((r13.2.1.1,(r13.2.1.2.1,(r13.2.1.2.2.1,()))),())
def C8(F:FsBuild)(s0:bT)(t1:Int):Option (bH×bT×Unit) :=
 F.f87 t1 [] s0 ch
def C9(F:FsBuild)(t1:Int)(t5:(List bH))(s0:bT)(s64:bH):Option (bH×bT×Unit) :=
 if(!s0.bad)=true then
  if(decide (s0.at_<(List.length s0.s:Int)))=true then
   if(0:Int)≤s0.at_∧s0.at_<(List.length s0.s:Int) then
    if(!(decide ((List.getD s0.s s0.at_.toNat 0)=124)))=true then
     if(0:Int)≤s0.at_∧s0.at_<(List.length s0.s:Int) then
      if(!(decide ((List.getD s0.s s0.at_.toNat 0)=41)))=true then
       (F.f117 s0 t1).bind fun(r0:bH×bT×Unit) =>
       if List.length t5+1≤room then
        F.f87 t1 (List.append t5 [r0.1]) r0.2.1 s64
       else none
      else
       if(decide ((List.length t5:Int)=0))=true then
        some ((bH.mk 11 0 [] false []),s0,())
       else
        if(decide ((List.length t5:Int)=1))=true then
         if(0:Int)≤0∧(0:Int)<(List.length t5:Int) then
          some ((List.getD t5 0 ch),s0,())
         else none
        else
         some ((bH.mk 6 0 [] false t5),s0,())
     else none
    else
     if(decide ((List.length t5:Int)=0))=true then
      some ((bH.mk 11 0 [] false []),s0,())
     else
      if(decide ((List.length t5:Int)=1))=true then
       if(0:Int)≤0∧(0:Int)<(List.length t5:Int) then
        some ((List.getD t5 0 ch),s0,())
       else none
      else
       some ((bH.mk 6 0 [] false t5),s0,())
   else none
  else
   if(decide ((List.length t5:Int)=0))=true then
    some ((bH.mk 11 0 [] false []),s0,())
   else
    if(decide ((List.length t5:Int)=1))=true then
     if(0:Int)≤0∧(0:Int)<(List.length t5:Int) then
      some ((List.getD t5 0 ch),s0,())
     else none
    else
     some ((bH.mk 6 0 [] false t5),s0,())
 else
  if(decide ((List.length t5:Int)=0))=true then
   some ((bH.mk 11 0 [] false []),s0,())
  else
   if(decide ((List.length t5:Int)=1))=true then
    if(0:Int)≤0∧(0:Int)<(List.length t5:Int) then
     some ((List.getD t5 0 ch),s0,())
    else none
   else
    some ((bH.mk 6 0 [] false t5),s0,())
def C7(_F:FsBuild)(s0:bT)(t1:Int):Option (Bool×bT×Unit) :=
 if(!s0.bad)=true then
  if(decide (s0.at_<(List.length s0.s:Int)))=true then
   if(0:Int)≤s0.at_∧s0.at_<(List.length s0.s:Int) then
    some ((decide ((List.getD s0.s s0.at_.toNat 0)=t1)),s0,())
   else none
  else
   some (false,s0,())
 else
  some (false,s0,())
def DF(F:FsBuild)(t0:(List Int))(t1:Int):Option (Int×Int×Bool×Unit) :=
 F.f90 t0 t1 t1
def DG(F:FsBuild)(t0:(List Int))(t1:Int)(t7:Int):Option (Int×Int×Bool×Unit) :=
 if(decide (t7<(List.length t0:Int)))=true then
  if(0:Int)≤t7∧t7<(List.length t0:Int) then
   (F.f58 (List.getD t0 t7.toNat 0)).bind fun(r0:Bool×Unit) =>
   if r0.1=true then
    F.f90 t0 t1 (w64 (t7+1))
   else
    if(decide ((w64 (t7+1))<(List.length t0:Int)))=true then
     if(0:Int)≤t7∧t7<(List.length t0:Int) then
      if(decide ((List.getD t0 t7.toNat 0)=46))=true then
       if(0:Int)≤(w64 (t7+1))∧(w64 (t7+1))<(List.length t0:Int) then
        (F.f58 (List.getD t0 (w64 (t7+1)).toNat 0)).bind fun(r1:Bool×Unit) =>
        if r1.1=true then
         F.f91 t0 t1 (w64 (t7+1)) t7
        else
         F.f92 t0 t1 t7
       else none
      else
       F.f92 t0 t1 t7
     else none
    else
     F.f92 t0 t1 t7
  else none
 else
  if(decide ((w64 (t7+1))<(List.length t0:Int)))=true then
   if(0:Int)≤t7∧t7<(List.length t0:Int) then
    if(decide ((List.getD t0 t7.toNat 0)=46))=true then
     if(0:Int)≤(w64 (t7+1))∧(w64 (t7+1))<(List.length t0:Int) then
      (F.f58 (List.getD t0 (w64 (t7+1)).toNat 0)).bind fun(r2:Bool×Unit) =>
      if r2.1=true then
       F.f91 t0 t1 (w64 (t7+1)) t7
      else
       F.f92 t0 t1 t7
     else none
    else
     F.f92 t0 t1 t7
   else none
  else
   F.f92 t0 t1 t7
def DH(F:FsBuild)(t0:(List Int))(t1:Int)(t7:Int)(t8:Int):Option (Int×Int×Bool×Unit) :=
 if(decide (t7<(List.length t0:Int)))=true then
  if(0:Int)≤t7∧t7<(List.length t0:Int) then
   (F.f58 (List.getD t0 t7.toNat 0)).bind fun(r0:Bool×Unit) =>
   if r0.1=true then
    F.f91 t0 t1 (w64 (t7+1)) t8
   else
    if(decide ((w64 (t7-t8))>7))=true then
     some (0,t7,false,())
    else
     F.f92 t0 t1 t7
  else none
 else
  if(decide ((w64 (t7-t8))>7))=true then
   some (0,t7,false,())
  else
   F.f92 t0 t1 t7
def DI(F:FsBuild)(t0:(List Int))(t1:Int)(t7:Int):Option (Int×Int×Bool×Unit) :=
 if(0:Int)≤t1∧t1≤t7∧t7≤(List.length t0:Int) then
  (F.f28 (List.take (t7.toNat-t1.toNat) (List.drop t1.toNat t0))).bind fun(r0:Int×Int×Unit) =>
  some (r0.1,t7,(decide (r0.2.1=(w64 (t7-t1)))),())
 else none
def DQ(F:FsBuild)(t0:(List Int))(t1:Int):Option ((List Int)×Int×Bool×Unit) :=
 F.f94 t0 [] (w64 (t1+1))
def DR(F:FsBuild)(t0:(List Int))(t7:(List Int))(t8:Int):Option ((List Int)×Int×Bool×Unit) :=
 if(decide (t8<(List.length t0:Int)))=true then
  if(0:Int)≤t8∧t8<(List.length t0:Int) then
   if(decide ((List.getD t0 t8.toNat 0)=34))=true then
    some (t7,(w64 (t8+1)),true,())
   else
    if(decide ((List.getD t0 t8.toNat 0)=10))=true then
     some ([],0,false,())
    else
     if(decide ((List.getD t0 t8.toNat 0)=92))=true then
      if(decide ((w64 (t8+1))≥(List.length t0:Int)))=true then
       some ([],0,false,())
      else
       if(0:Int)≤(w64 (t8+1))∧(w64 (t8+1))<(List.length t0:Int) then
        if(decide ((List.getD t0 (w64 (t8+1)).toNat 0)=10))=true then
         some ([],0,false,())
        else
         if(0:Int)≤(w64 (t8+1))∧(w64 (t8+1))<(List.length t0:Int) then
          if List.length t7+1≤room then
           F.f94 t0 (List.append t7 [(List.getD t0 (w64 (t8+1)).toNat 0)]) (w64 ((w64 (t8+1))+1))
          else none
         else none
       else none
     else
      if(0:Int)≤t8∧t8<(List.length t0:Int) then
       if List.length t7+1≤room then
        F.f94 t0 (List.append t7 [(List.getD t0 t8.toNat 0)]) (w64 (t8+1))
       else none
      else none
  else none
 else
  some ([],0,false,())
def DC(F:FsBuild)(t0:(List bK)):Option (Bool×Unit) :=
 if(decide ((List.length t0:Int)=0))=true then
  some (false,())
 else
  if(0:Int)≤(w64 ((List.length t0:Int)-1))∧(w64 ((List.length t0:Int)-1))<(List.length t0:Int) then
   if(decide (((List.getD t0 (w64 ((List.length t0:Int)-1)).toNat ly).Kind)=5))=true then
    if(decide (((List.getD t0 (w64 ((List.length t0:Int)-1)).toNat ly).Text)=[41]))=true then
     some (true,())
    else
     if(decide (((List.getD t0 (w64 ((List.length t0:Int)-1)).toNat ly).Text)=[93]))=true then
      some (true,())
     else
      (F.f0 ((List.getD t0 (w64 ((List.length t0:Int)-1)).toNat ly).Kind) 1 4).bind fun(r0:Bool×Unit) =>
      some (r0.1,())
   else
    (F.f0 ((List.getD t0 (w64 ((List.length t0:Int)-1)).toNat ly).Kind) 1 4).bind fun(r1:Bool×Unit) =>
    some (r1.1,())
  else none
def DL(F:FsBuild)(t0:(List Int))(t1:Int):Option ((List Int)×Int×Bool×Unit) :=
 F.f97 t0 [] (w64 (t1+1))
def DM(F:FsBuild)(t0:(List Int))(t7:(List Int))(t8:Int):Option ((List Int)×Int×Bool×Unit) :=
 if(decide (t8<(List.length t0:Int)))=true then
  if(0:Int)≤t8∧t8<(List.length t0:Int) then
   if(decide ((List.getD t0 t8.toNat 0)=47))=true then
    some (t7,(w64 (t8+1)),true,())
   else
    if(decide ((List.getD t0 t8.toNat 0)=10))=true then
     some ([],0,false,())
    else
     if(decide ((List.getD t0 t8.toNat 0)=92))=true then
      if(decide ((w64 (t8+1))≥(List.length t0:Int)))=true then
       some ([],0,false,())
      else
       if(0:Int)≤(w64 (t8+1))∧(w64 (t8+1))<(List.length t0:Int) then
        if(decide ((List.getD t0 (w64 (t8+1)).toNat 0)=10))=true then
         some ([],0,false,())
        else
         if(0:Int)≤(w64 (t8+1))∧(w64 (t8+1))<(List.length t0:Int) then
          if(!(decide ((List.getD t0 (w64 (t8+1)).toNat 0)=47)))=true then
           if(0:Int)≤t8∧t8<(List.length t0:Int) then
            if List.length t7+1≤room then
             if(0:Int)≤(w64 (t8+1))∧(w64 (t8+1))<(List.length t0:Int) then
              if List.length (List.append t7 [(List.getD t0 t8.toNat 0)])+1≤room then
               F.f97 t0 (List.append (List.append t7 [(List.getD t0 t8.toNat 0)]) [(List.getD t0 (w64 (t8+1)).toNat 0)]) (w64 ((w64 (t8+1))+1))
              else none
             else none
            else none
           else none
          else
           if(0:Int)≤(w64 (t8+1))∧(w64 (t8+1))<(List.length t0:Int) then
            if List.length t7+1≤room then
             F.f97 t0 (List.append t7 [(List.getD t0 (w64 (t8+1)).toNat 0)]) (w64 ((w64 (t8+1))+1))
            else none
           else none
         else none
       else none
     else
      if(0:Int)≤t8∧t8<(List.length t0:Int) then
       if List.length t7+1≤room then
        F.f97 t0 (List.append t7 [(List.getD t0 t8.toNat 0)]) (w64 (t8+1))
       else none
      else none
  else none
 else
  some ([],0,false,())
def DN(F:FsBuild)(t0:(List Int))(t1:Int):Option ((List Int)×Unit) :=
 F.f99 t0 t1 [[61,61],[33,61],[60,61],[62,61],[38,38],[124,124],[43,61],[33,126],[40],[41],[123],[125],[91],[93],[44],[59],[61],[60],[62],[33],[126],[43],[45],[42],[47],[37],[36]] 0
def DP(F:FsBuild)(t0:(List Int))(t1:Int)(t5:(List (List Int)))(t6:Int):Option ((List Int)×Unit) :=
 if(decide (t6<(List.length t5:Int)))=true then
  if(0:Int)≤t6∧t6<(List.length t5:Int) then
   if(decide ((w64 (t1+(List.length (List.getD t5 t6.toNat []):Int)))≤(List.length t0:Int)))=true then
    if(0:Int)≤t1∧t1≤(w64 (t1+(List.length (List.getD t5 t6.toNat []):Int)))∧(w64 (t1+(List.length (List.getD t5 t6.toNat []):Int)))≤(List.length t0:Int) then
     if(0:Int)≤t6∧t6<(List.length t5:Int) then
      if(decide ((List.take ((w64 (t1+(List.length (List.getD t5 t6.toNat []):Int))).toNat-t1.toNat) (List.drop t1.toNat t0))=(List.getD t5 t6.toNat [])))=true then
       if(0:Int)≤t6∧t6<(List.length t5:Int) then
        some ((List.getD t5 t6.toNat []),())
       else none
      else
       F.f99 t0 t1 t5 (w64 (t6+1))
     else none
    else none
   else
    F.f99 t0 t1 t5 (w64 (t6+1))
  else none
 else
  some ([],())
def Es(F:FsBuild)(s0:bU)(t1:(List Int)):Option (bU×Unit) :=
 (F.f65 s0 t1).bind fun(r0:Bool×bU×Unit) =>
 if(!r0.1)=true then
  (F.f120 r0.2.1).bind fun(r1:bU×Unit) =>
  some (r1.1,())
 else
  (F.f62 r0.2.1).bind fun(r2:bU×Unit) =>
  some (r2.1,())
def Er(F:FsBuild)(s0:bU):Option (bD×bU×Unit) :=
 (F.f61 s0 [105,102]).bind fun(r0:Bool×bU×Unit) =>
 if r0.1=true then
  (F.f121 r0.2.1 31).bind fun(r1:bD×bU×Unit) =>
  some (r1.1,r1.2.1,())
 else
  (F.f61 r0.2.1 [119,104,105,108,101]).bind fun(r2:Bool×bU×Unit) =>
  if r2.1=true then
   (F.f121 r2.2.1 32).bind fun(r3:bD×bU×Unit) =>
   some (r3.1,r3.2.1,())
  else
   (F.f65 r2.2.1 [123]).bind fun(r4:Bool×bU×Unit) =>
   if r4.1=true then
    (F.f63 r4.2.1).bind fun(r5:bD×bU×Unit) =>
    some (r5.1,r5.2.1,())
   else
    (F.f122 r4.2.1).bind fun(r6:bD×bU×Unit) =>
    (F.f65 r6.2.1 [125]).bind fun(r7:Bool×bU×Unit) =>
    if(!r7.1)=true then
     (F.f100 r7.2.1 [59]).bind fun(r8:bU×Unit) =>
     some (r6.1,r8.1,())
    else
     some (r6.1,r7.2.1,())
def Eh(F:FsBuild)(s0:bU):Option (bD×bU×Unit) :=
 (F.f37 s0).bind fun(r0:bK×bU×Unit) =>
 (F.f61 r0.2.1 [78,82]).bind fun(r1:Bool×bU×Unit) =>
 if r1.1=true then
  (F.f62 r1.2.1).bind fun(r2:bU×Unit) =>
  some ((bD.mk 7 0 [] []),r2.1,())
 else
  (F.f61 r1.2.1 [78,70]).bind fun(r3:Bool×bU×Unit) =>
  if r3.1=true then
   (F.f62 r3.2.1).bind fun(r4:bU×Unit) =>
   some ((bD.mk 8 0 [] []),r4.1,())
  else
   if(decide (r3.2.1.bad<0))=true then
    (F.f26 ).bind fun(r5:(List (List Int))×Unit) =>
    (F.f6 r5.1 r0.1.Text).bind fun(r6:Bool×Unit) =>
    if r6.1=true then
     (F.f62 r3.2.1).bind fun(r7:bU×Unit) =>
     (F.f100 r7.1 [40]).bind fun(r8:bU×Unit) =>
     (F.f124 r8.1 [41]).bind fun(r9:(List bD)×bU×Unit) =>
     (F.f100 r9.2.1 [41]).bind fun(r10:bU×Unit) =>
     some ((bD.mk 28 0 r0.1.Text r9.1),r10.1,())
    else
     (F.f126 r3.2.1).bind fun(r11:(List Int)×bU×Unit) =>
     (F.f65 r11.2.1 [91]).bind fun(r12:Bool×bU×Unit) =>
     if(!r12.1)=true then
      some ((bD.mk 4 0 r11.1 []),r12.2.1,())
     else
      (F.f62 r12.2.1).bind fun(r13:bU×Unit) =>
      (F.f66 r13.1).bind fun(r14:bD×bU×Unit) =>
      (F.f100 r14.2.1 [93]).bind fun(r15:bU×Unit) =>
      some ((bD.mk 5 0 r11.1 [r14.1]),r15.1,())
   else
    (F.f126 r3.2.1).bind fun(r16:(List Int)×bU×Unit) =>
    (F.f65 r16.2.1 [91]).bind fun(r17:Bool×bU×Unit) =>
    if(!r17.1)=true then
     some ((bD.mk 4 0 r16.1 []),r17.2.1,())
    else
     (F.f62 r17.2.1).bind fun(r18:bU×Unit) =>
     (F.f66 r18.1).bind fun(r19:bD×bU×Unit) =>
     (F.f100 r19.2.1 [93]).bind fun(r20:bU×Unit) =>
     some ((bD.mk 5 0 r16.1 [r19.1]),r20.1,())
def Ef(F:FsBuild)(s0:bU)(t1:Int):Option (bD×bU×Unit) :=
 if(decide (t1=3))=true then
  (F.f127 s0).bind fun(r0:bD×bU×Unit) =>
  some (r0.1,r0.2.1,())
 else
  if(decide (t1=4))=true then
   (F.f129 s0).bind fun(r1:bD×bU×Unit) =>
   some (r1.1,r1.2.1,())
  else
   if(decide (t1=7))=true then
    (F.f131 s0).bind fun(r2:bD×bU×Unit) =>
    some (r2.1,r2.2.1,())
   else
    (F.f132 s0 t1).bind fun(r3:bD×bU×Unit) =>
    some (r3.1,r3.2.1,())
def EL(F:FsBuild)(t0:bD):Option (Bool×Unit) :=
 (F.f136 t0).bind fun(r0:Bool×Unit) =>
 if(!r0.1)=true then
  some (false,())
 else
  (F.f0 t0.Op 1 35).bind fun(r1:Bool×Unit) =>
  if(!r1.1)=true then
   some (false,())
  else
   if(!(decide (t0.N=0)))=true then
    if(!(decide (t0.Op=1)))=true then
     some (false,())
    else
     if(decide (t0.Op=1))=true then
      if(decide (t0.S=[]))=true then
       (F.f0 t0.N 0 9000000000000).bind fun(r2:Bool×Unit) =>
       some (r2.1,())
      else
       some (false,())
     else
      if(decide (t0.Op=2))=true then
       (F.f23 t0.S).bind fun(r3:Bool×Unit) =>
       some (r3.1,())
      else
       if(decide (t0.Op=3))=true then
        (F.f142 t0.S).bind fun(r4:Bool×Unit) =>
        some (r4.1,())
       else
        if(decide (t0.Op=4))=true then
         F.f105 t0.Op (decide (t0.Op=4)) t0
        else
         if(decide (t0.Op=5))=true then
          F.f105 t0.Op (decide (t0.Op=5)) t0
         else
          F.f105 t0.Op (decide (t0.Op=34)) t0
   else
    if(decide (t0.Op=1))=true then
     if(decide (t0.S=[]))=true then
      (F.f0 t0.N 0 9000000000000).bind fun(r5:Bool×Unit) =>
      some (r5.1,())
     else
      some (false,())
    else
     if(decide (t0.Op=2))=true then
      (F.f23 t0.S).bind fun(r6:Bool×Unit) =>
      some (r6.1,())
     else
      if(decide (t0.Op=3))=true then
       (F.f142 t0.S).bind fun(r7:Bool×Unit) =>
       some (r7.1,())
      else
       if(decide (t0.Op=4))=true then
        F.f105 t0.Op (decide (t0.Op=4)) t0
       else
        if(decide (t0.Op=5))=true then
         F.f105 t0.Op (decide (t0.Op=5)) t0
        else
         F.f105 t0.Op (decide (t0.Op=34)) t0
def EM(F:FsBuild)(t23:Int)(t44:Bool)(s16:bD):Option (Bool×Unit) :=
 if t44=true then
  (F.f4 s16.S).bind fun(r0:Bool×Unit) =>
  some (r0.1,())
 else
  if(decide (t23=28))=true then
   (F.f26 ).bind fun(r1:(List (List Int))×Unit) =>
   (F.f6 r1.1 s16.S).bind fun(r2:Bool×Unit) =>
   some (r2.1,())
  else
   some ((decide (s16.S=[])),())
def EA(F:FsBuild)(t0:Int):Option (Bool×Unit) :=
 (F.f0 t0 1 28).bind fun(r0:Bool×Unit) =>
 some (r0.1,())
def Cy(F:FsBuild)(t0:(List (List Int)))(t1:(List Int)):Option ((List (List Int))×Unit) :=
 (F.f6 t0 t1).bind fun(r0:Bool×Unit) =>
 if r0.1=true then
  some (t0,())
 else
  F.f108 t0 t1 0
def Cz(F:FsBuild)(t0:(List (List Int)))(t1:(List Int))(t5:Int):Option ((List (List Int))×Unit) :=
 if(decide (t5<(List.length t0:Int)))=true then
  if(0:Int)≤t5∧t5<(List.length t0:Int) then
   if(ltS (List.getD t0 t5.toNat []) t1)=true then
    F.f108 t0 t1 (w64 (t5+1))
   else
    if(0:Int)≤t5∧t5≤(List.length t0:Int) then
     if 0+List.length (List.take (t5.toNat-0) (List.drop 0 t0))≤room then
      if List.length (List.append [] (List.take (t5.toNat-0) (List.drop 0 t0)))+1≤room then
       if(0:Int)≤t5∧t5≤(List.length t0:Int) then
        if List.length (List.append (List.append [] (List.take (t5.toNat-0) (List.drop 0 t0))) [t1])+List.length (List.take ((List.length t0)-t5.toNat) (List.drop t5.toNat t0))≤room then
         some ((List.append (List.append (List.append [] (List.take (t5.toNat-0) (List.drop 0 t0))) [t1]) (List.take ((List.length t0)-t5.toNat) (List.drop t5.toNat t0))),())
        else none
       else none
      else none
     else none
    else none
  else none
 else
  if(0:Int)≤t5∧t5≤(List.length t0:Int) then
   if 0+List.length (List.take (t5.toNat-0) (List.drop 0 t0))≤room then
    if List.length (List.append [] (List.take (t5.toNat-0) (List.drop 0 t0)))+1≤room then
     if(0:Int)≤t5∧t5≤(List.length t0:Int) then
      if List.length (List.append (List.append [] (List.take (t5.toNat-0) (List.drop 0 t0))) [t1])+List.length (List.take ((List.length t0)-t5.toNat) (List.drop t5.toNat t0))≤room then
       some ((List.append (List.append (List.append [] (List.take (t5.toNat-0) (List.drop 0 t0))) [t1]) (List.take ((List.length t0)-t5.toNat) (List.drop t5.toNat t0))),())
      else none
     else none
    else none
   else none
  else none
def CS(F:FsBuild)(s0_0:(List (List Int)))(s0_1:(List (List Int)))(s0_2:(List bE))(t1:bD):Option (((List (List Int))×((List (List Int))×((List bE)×Unit)))×Unit) :=
 if(decide ((List.length t1.Kids:Int)=0))=true then
  (F.f53 s0_0 s0_1 s0_2 1 0 []).bind fun(r0:Int×((List (List Int))×((List (List Int))×((List bE)×Unit)))×Unit) =>
  (F.f53 r0.2.1.1 r0.2.1.2.1 r0.2.1.2.2.1 9 0 []).bind fun(r1:Int×((List (List Int))×((List (List Int))×((List bE)×Unit)))×Unit) =>
  (F.f53 r1.2.1.1 r1.2.1.2.1 r1.2.1.2.2.1 33 0 []).bind fun(r2:Int×((List (List Int))×((List (List Int))×((List bE)×Unit)))×Unit) =>
  F.f110 r2.2.1.1 r2.2.1.2.1 r2.2.1.2.2.1 t1
 else
  F.f110 s0_0 s0_1 s0_2 t1
def CT(F:FsBuild)(s0_0:(List (List Int)))(s0_1:(List (List Int)))(s0_2:(List bE))(s48:bD):Option (((List (List Int))×((List (List Int))×((List bE)×Unit)))×Unit) :=
 F.f111 0 s0_0 s0_1 s0_2 s48
def CU(F:FsBuild)(t4:Int)(s0_0:(List (List Int)))(s0_1:(List (List Int)))(s0_2:(List bE))(s48:bD):Option (((List (List Int))×((List (List Int))×((List bE)×Unit)))×Unit) :=
 if(decide (t4<(List.length s48.Kids:Int)))=true then
  if(0:Int)≤t4∧t4<(List.length s48.Kids:Int) then
   (F.f50 s0_0 s0_1 s0_2 (List.getD s48.Kids t4.toNat cS)).bind fun(r0:((List (List Int))×((List (List Int))×((List bE)×Unit)))×Unit) =>
   (F.f116 (decide (t4>0))).bind fun(r1:Int×Unit) =>
   (F.f53 r0.1.1 r0.1.2.1 r0.1.2.2.1 33 r1.1 []).bind fun(r2:Int×((List (List Int))×((List (List Int))×((List bE)×Unit)))×Unit) =>
   F.f111 (w64 (t4+1)) r2.2.1.1 r2.2.1.2.1 r2.2.1.2.2.1 s48
  else none
 else
  (F.f53 s0_0 s0_1 s0_2 34 0 []).bind fun(r3:Int×((List (List Int))×((List (List Int))×((List bE)×Unit)))×Unit) =>
  some ((r3.2.1.1,(r3.2.1.2.1,(r3.2.1.2.2.1,()))),())
def CP(F:FsBuild)(s0_0:(List (List Int)))(s0_1:(List (List Int)))(s0_2:(List bE))(t1:bD):Option (((List (List Int))×((List (List Int))×((List bE)×Unit)))×Unit) :=
 if(0:Int)≤0∧(0:Int)<(List.length t1.Kids:Int) then
  (F.f50 s0_0 s0_1 s0_2 (List.getD t1.Kids 0 cS)).bind fun(r0:((List (List Int))×((List (List Int))×((List bE)×Unit)))×Unit) =>
  (F.f53 r0.1.1 r0.1.2.1 r0.1.2.2.1 31 0 []).bind fun(r1:Int×((List (List Int))×((List (List Int))×((List bE)×Unit)))×Unit) =>
  if(0:Int)≤1∧(1:Int)<(List.length t1.Kids:Int) then
   (F.f48 r1.2.1.1 r1.2.1.2.1 r1.2.1.2.2.1 (List.getD t1.Kids 1 cS)).bind fun(r2:((List (List Int))×((List (List Int))×((List bE)×Unit)))×Unit) =>
   if(decide ((List.length t1.Kids:Int)=3))=true then
    (F.f53 r2.1.1 r2.1.2.1 r2.1.2.2.1 30 0 []).bind fun(r3:Int×((List (List Int))×((List (List Int))×((List bE)×Unit)))×Unit) =>
    if(0:Int)≤r1.1∧r1.1<(List.length r3.2.1.2.2.1:Int) then
     let v0:(List bE):=(List.set r3.2.1.2.2.1 r1.1.toNat (bE.mk ((List.getD r3.2.1.2.2.1 r1.1.toNat de).Code) (List.length r3.2.1.2.2.1:Int) ((List.getD r3.2.1.2.2.1 r1.1.toNat de).S)))
     if(0:Int)≤2∧(2:Int)<(List.length t1.Kids:Int) then
      (F.f48 r3.2.1.1 r3.2.1.2.1 v0 (List.getD t1.Kids 2 cS)).bind fun(r4:((List (List Int))×((List (List Int))×((List bE)×Unit)))×Unit) =>
      if(0:Int)≤r3.1∧r3.1<(List.length r4.1.2.2.1:Int) then
       let v1:(List bE):=(List.set r4.1.2.2.1 r3.1.toNat (bE.mk ((List.getD r4.1.2.2.1 r3.1.toNat de).Code) (List.length r4.1.2.2.1:Int) ((List.getD r4.1.2.2.1 r3.1.toNat de).S)))
       some ((r4.1.1,(r4.1.2.1,(v1,()))),())
      else none
     else none
    else none
   else
    if(0:Int)≤r1.1∧r1.1<(List.length r2.1.2.2.1:Int) then
     let v2:(List bE):=(List.set r2.1.2.2.1 r1.1.toNat (bE.mk ((List.getD r2.1.2.2.1 r1.1.toNat de).Code) (List.length r2.1.2.2.1:Int) ((List.getD r2.1.2.2.1 r1.1.toNat de).S)))
     some ((r2.1.1,(r2.1.2.1,(v2,()))),())
    else none
  else none
 else none
def CY(F:FsBuild)(s0_0:(List (List Int)))(s0_1:(List (List Int)))(s0_2:(List bE))(t1:bD):Option (((List (List Int))×((List (List Int))×((List bE)×Unit)))×Unit) :=
 if(0:Int)≤0∧(0:Int)<(List.length t1.Kids:Int) then
  (F.f50 s0_0 s0_1 s0_2 (List.getD t1.Kids 0 cS)).bind fun(r0:((List (List Int))×((List (List Int))×((List bE)×Unit)))×Unit) =>
  (F.f53 r0.1.1 r0.1.2.1 r0.1.2.2.1 31 0 []).bind fun(r1:Int×((List (List Int))×((List (List Int))×((List bE)×Unit)))×Unit) =>
  if(0:Int)≤1∧(1:Int)<(List.length t1.Kids:Int) then
   (F.f48 r1.2.1.1 r1.2.1.2.1 r1.2.1.2.2.1 (List.getD t1.Kids 1 cS)).bind fun(r2:((List (List Int))×((List (List Int))×((List bE)×Unit)))×Unit) =>
   (F.f53 r2.1.1 r2.1.2.1 r2.1.2.2.1 30 (List.length s0_2:Int) []).bind fun(r3:Int×((List (List Int))×((List (List Int))×((List bE)×Unit)))×Unit) =>
   if(0:Int)≤r1.1∧r1.1<(List.length r3.2.1.2.2.1:Int) then
    let v0:(List bE):=(List.set r3.2.1.2.2.1 r1.1.toNat (bE.mk ((List.getD r3.2.1.2.2.1 r1.1.toNat de).Code) (List.length r3.2.1.2.2.1:Int) ((List.getD r3.2.1.2.2.1 r1.1.toNat de).S)))
    some ((r3.2.1.1,(r3.2.1.2.1,(v0,()))),())
   else none
  else none
 else none
def CC(F:FsBuild)(t0:(List (List Int)))(t1:(List Int)):Option (Int×Unit) :=
 F.f115 t0 t1 0
def CD(F:FsBuild)(t0:(List (List Int)))(t1:(List Int))(t5:Int):Option (Int×Unit) :=
 if(decide (t5<(List.length t0:Int)))=true then
  if(0:Int)≤t5∧t5<(List.length t0:Int) then
   if(decide ((List.getD t0 t5.toNat [])=t1))=true then
    some (t5,())
   else
    F.f115 t0 t1 (w64 (t5+1))
  else none
 else
  some (0,())
def CZ(_F:FsBuild)(t0:Bool):Option (Int×Unit) :=
 if t0=true then
  some (1,())
 else
  some (0,())
def Dd(F:FsBuild)(s0:bT)(t1:Int):Option (bH×bT×Unit) :=
 (F.f144 s0 t1).bind fun(r0:bH×bT×Unit) =>
 F.f118 r0.2.1 ch r0.1
def De(F:FsBuild)(s0:bT)(s64:bH)(s80:bH):Option (bH×bT×Unit) :=
 if(!s0.bad)=true then
  (F.f88 s0 42).bind fun(r0:Bool×bT×Unit) =>
  if r0.1=true then
   F.f119 8 r0.2.1 s64 s80
  else
   (F.f88 r0.2.1 43).bind fun(r1:Bool×bT×Unit) =>
   if r1.1=true then
    F.f119 9 r1.2.1 s64 s80
   else
    (F.f88 r1.2.1 63).bind fun(r2:Bool×bT×Unit) =>
    if r2.1=true then
     F.f119 10 r2.2.1 s64 s80
    else
     F.f119 0 r2.2.1 s64 s80
 else
  some (s80,s0,())
def Df(F:FsBuild)(t6:Int)(s0:bT)(s64:bH)(s80:bH):Option (bH×bT×Unit) :=
 if(decide (t6=0))=true then
  some (s80,s0,())
 else
  F.f118 (bT.mk s0.s (w64 (s0.at_+1)) s0.bad) s64 (bH.mk t6 0 [] false [s80])
def DW(F:FsBuild)(s0:bU):Option (bU×Unit) :=
 if(decide (s0.bad<0))=true then
  (F.f37 s0).bind fun(r0:bK×bU×Unit) =>
  some ((bU.mk r0.2.1.list r0.2.1.at_ r0.1.At r0.2.1.has r0.2.1.kept),())
 else
  some (s0,())
def Ev(F:FsBuild)(s0:bU)(t1:Int):Option (bD×bU×Unit) :=
 (F.f62 s0).bind fun(r0:bU×Unit) =>
 (F.f100 r0.1 [40]).bind fun(r1:bU×Unit) =>
 (F.f66 r1.1).bind fun(r2:bD×bU×Unit) =>
 (F.f100 r2.2.1 [41]).bind fun(r3:bU×Unit) =>
 (F.f63 r3.1).bind fun(r4:bD×bU×Unit) =>
 (F.f68 t1 [r2.1,r4.1]).bind fun(r5:(Int×(Int×((List Int)×((List bD)×Unit))))×Unit) =>
 if(decide (t1=31))=true then
  (F.f61 r4.2.1 [101,108,115,101]).bind fun(r6:Bool×bU×Unit) =>
  if r6.1=true then
   (F.f62 r6.2.1).bind fun(r7:bU×Unit) =>
   (F.f63 r7.1).bind fun(r8:bD×bU×Unit) =>
   if List.length r5.1.2.2.2.1+1≤room then
    some ((bD.mk r5.1.1 r5.1.2.1 r5.1.2.2.1 (List.append r5.1.2.2.2.1 [r8.1])),r8.2.1,())
   else none
  else
   some ((bD.mk r5.1.1 r5.1.2.1 r5.1.2.2.1 r5.1.2.2.2.1),r6.2.1,())
 else
  some ((bD.mk r5.1.1 r5.1.2.1 r5.1.2.2.1 r5.1.2.2.2.1),r4.2.1,())
def Eo(F:FsBuild)(s0:bU):Option (bD×bU×Unit) :=
 (F.f61 s0 [112,114,105,110,116]).bind fun(r0:Bool×bU×Unit) =>
 if r0.1=true then
  (F.f62 r0.2.1).bind fun(r1:bU×Unit) =>
  F.f123 r1.1 0 0 [] [] 30 0 [] []
 else
  (F.f61 r0.2.1 [110,101,120,116]).bind fun(r2:Bool×bU×Unit) =>
  if r2.1=true then
   (F.f62 r2.2.1).bind fun(r3:bU×Unit) =>
   some ((bD.mk 33 0 [] []),r3.1,())
  else
   (F.f61 r2.2.1 [100,101,108,101,116,101]).bind fun(r4:Bool×bU×Unit) =>
   if r4.1=true then
    (F.f62 r4.2.1).bind fun(r5:bU×Unit) =>
    (F.f126 r5.1).bind fun(r6:(List Int)×bU×Unit) =>
    (F.f100 r6.2.1 [91]).bind fun(r7:bU×Unit) =>
    (F.f66 r7.1).bind fun(r8:bD×bU×Unit) =>
    (F.f100 r8.2.1 [93]).bind fun(r9:bU×Unit) =>
    some ((bD.mk 34 0 r6.1 [r8.1]),r9.1,())
   else
    (F.f66 r4.2.1).bind fun(r10:bD×bU×Unit) =>
    (F.f68 35 [r10.1]).bind fun(r11:(Int×(Int×((List Int)×((List bD)×Unit))))×Unit) =>
    some ((bD.mk r11.1.1 r11.1.2.1 r11.1.2.2.1 r11.1.2.2.2.1),r10.2.1,())
def Ep(F:FsBuild)(s0:bU)(s32_0:Int)(s32_1:Int)(s32_2:(List Int))(s32_3:(List bD))(s48_0:Int)(s48_1:Int)(s48_2:(List Int))(s48_3:(List bD)):Option (bD×bU×Unit) :=
 if(decide (s0.bad<0))=true then
  (F.f65 s0 [59]).bind fun(r0:Bool×bU×Unit) =>
  if(!r0.1)=true then
   (F.f65 r0.2.1 [125]).bind fun(r1:Bool×bU×Unit) =>
   if(!r1.1)=true then
    if(decide ((List.length s48_3:Int)>0))=true then
     (F.f100 r1.2.1 [44]).bind fun(r2:bU×Unit) =>
     (F.f66 r2.1).bind fun(r3:bD×bU×Unit) =>
     if List.length s48_3+1≤room then
      F.f123 r3.2.1 s32_0 s32_1 s32_2 s32_3 s48_0 s48_1 s48_2 (List.append s48_3 [r3.1])
     else none
    else
     (F.f66 r1.2.1).bind fun(r4:bD×bU×Unit) =>
     if List.length s48_3+1≤room then
      F.f123 r4.2.1 s32_0 s32_1 s32_2 s32_3 s48_0 s48_1 s48_2 (List.append s48_3 [r4.1])
     else none
   else
    some ((bD.mk s48_0 s48_1 s48_2 s48_3),r1.2.1,())
  else
   some ((bD.mk s48_0 s48_1 s48_2 s48_3),r0.2.1,())
 else
  some ((bD.mk s48_0 s48_1 s48_2 s48_3),s0,())
def D7(F:FsBuild)(s0:bU)(t1:(List Int)):Option ((List bD)×bU×Unit) :=
 F.f125 t1 [] s0
def D8(F:FsBuild)(t1:(List Int))(t5:(List bD))(s0:bU):Option ((List bD)×bU×Unit) :=
 if(decide (s0.bad<0))=true then
  (F.f65 s0 t1).bind fun(r0:Bool×bU×Unit) =>
  if(!r0.1)=true then
   if(decide ((List.length t5:Int)>0))=true then
    (F.f100 r0.2.1 [44]).bind fun(r1:bU×Unit) =>
    (F.f66 r1.1).bind fun(r2:bD×bU×Unit) =>
    if List.length t5+1≤room then
     F.f125 t1 (List.append t5 [r2.1]) r2.2.1
    else none
   else
    (F.f66 r0.2.1).bind fun(r3:bD×bU×Unit) =>
    if List.length t5+1≤room then
     F.f125 t1 (List.append t5 [r3.1]) r3.2.1
    else none
  else
   some (t5,r0.2.1,())
 else
  some (t5,s0,())
def Eg(F:FsBuild)(s0:bU):Option ((List Int)×bU×Unit) :=
 (F.f37 s0).bind fun(r0:bK×bU×Unit) =>
 if(decide (r0.2.1.bad≥0))=true then
  (F.f120 r0.2.1).bind fun(r1:bU×Unit) =>
  some ([],r1.1,())
 else
  if(!(decide (r0.1.Kind=1)))=true then
   (F.f120 r0.2.1).bind fun(r2:bU×Unit) =>
   some ([],r2.1,())
  else
   (F.f12 r0.1.Text).bind fun(r3:Bool×Unit) =>
   if r3.1=true then
    (F.f120 r0.2.1).bind fun(r4:bU×Unit) =>
    some ([],r4.1,())
   else
    (F.f62 r0.2.1).bind fun(r5:bU×Unit) =>
    some (r0.1.Text,r5.1,())
def D3(F:FsBuild)(s0:bU):Option (bD×bU×Unit) :=
 (F.f103 s0 4).bind fun(r0:bD×bU×Unit) =>
 F.f128 [[60],[60,61],[62],[62,61],[61,61],[33,61]] 0 r0.2.1 0 0 [] [] r0.1
def D4(F:FsBuild)(t3:(List (List Int)))(t5:Int)(s0:bU)(s32_0:Int)(s32_1:Int)(s32_2:(List Int))(s32_3:(List bD))(s64:bD):Option (bD×bU×Unit) :=
 if(decide (t5<(List.length t3:Int)))=true then
  if(0:Int)≤t5∧t5<(List.length t3:Int) then
   (F.f65 s0 (List.getD t3 t5.toNat [])).bind fun(r0:Bool×bU×Unit) =>
   if r0.1=true then
    (F.f62 r0.2.1).bind fun(r1:bU×Unit) =>
    (F.f103 r1.1 4).bind fun(r2:bD×bU×Unit) =>
    (F.f68 (w64 (15+t5)) [s64,r2.1]).bind fun(r3:(Int×(Int×((List Int)×((List bD)×Unit))))×Unit) =>
    some ((bD.mk r3.1.1 r3.1.2.1 r3.1.2.2.1 r3.1.2.2.2.1),r2.2.1,())
   else
    F.f128 t3 (w64 (t5+1)) r0.2.1 s32_0 s32_1 s32_2 s32_3 s64
  else none
 else
  some (s64,s0,())
def Ek(F:FsBuild)(s0:bU):Option (bD×bU×Unit) :=
 (F.f103 s0 5).bind fun(r0:bD×bU×Unit) =>
 F.f130 r0.2.1 0 0 [] [] r0.1
def El(F:FsBuild)(s0:bU)(s32_0:Int)(s32_1:Int)(s32_2:(List Int))(s32_3:(List bD))(s48:bD):Option (bD×bU×Unit) :=
 (F.f146 s0).bind fun(r0:Bool×bU×Unit) =>
 if r0.1=true then
  (F.f103 r0.2.1 5).bind fun(r1:bD×bU×Unit) =>
  (F.f68 14 [s48,r1.1]).bind fun(r2:(Int×(Int×((List Int)×((List bD)×Unit))))×Unit) =>
  F.f130 r1.2.1 s32_0 s32_1 s32_2 s32_3 (bD.mk r2.1.1 r2.1.2.1 r2.1.2.2.1 r2.1.2.2.2.1)
 else
  some (s48,r0.2.1,())
def Et(F:FsBuild)(s0:bU):Option (bD×bU×Unit) :=
 if s0.has=true then
  (F.f148 s0).bind fun(r0:bD×bU×Unit) =>
  some (r0.1,r0.2.1,())
 else
  (F.f65 s0 [33]).bind fun(r1:Bool×bU×Unit) =>
  if r1.1=true then
   (F.f62 r1.2.1).bind fun(r2:bU×Unit) =>
   (F.f131 r2.1).bind fun(r3:bD×bU×Unit) =>
   (F.f68 22 [r3.1]).bind fun(r4:(Int×(Int×((List Int)×((List bD)×Unit))))×Unit) =>
   some ((bD.mk r4.1.1 r4.1.2.1 r4.1.2.2.1 r4.1.2.2.2.1),r3.2.1,())
  else
   (F.f65 r1.2.1 [45]).bind fun(r5:Bool×bU×Unit) =>
   if r5.1=true then
    (F.f62 r5.2.1).bind fun(r6:bU×Unit) =>
    (F.f131 r6.1).bind fun(r7:bD×bU×Unit) =>
    (F.f68 23 [r7.1]).bind fun(r8:(Int×(Int×((List Int)×((List bD)×Unit))))×Unit) =>
    some ((bD.mk r8.1.1 r8.1.2.1 r8.1.2.2.1 r8.1.2.2.2.1),r7.2.1,())
   else
    (F.f148 r5.2.1).bind fun(r9:bD×bU×Unit) =>
    some (r9.1,r9.2.1,())
def Eb(F:FsBuild)(s0:bU)(t1:Int):Option (bD×bU×Unit) :=
 (F.f103 s0 (w64 (t1+1))).bind fun(r0:bD×bU×Unit) =>
 F.f133 t1 [[[124,124]],[[38,38]],[[126],[33,126]],[],[],[[43],[45]],[[42],[47],[37]]] [[25],[24],[21,21],[],[],[9,10],[11,12,13]] r0.2.1 (bD.mk 0 0 [] []) r0.1
def Ec(F:FsBuild)(t1:Int)(t5:(List (List (List Int))))(t6:(List (List Int)))(s0:bU)(s64:bD)(s112:bD):Option (bD×bU×Unit) :=
 if(decide (s0.bad<0))=true then
  F.f134 t1 t5 t6 0 s0 s64 s112
 else
  some (s112,s0,())
def Ed(F:FsBuild)(t1:Int)(t5:(List (List (List Int))))(t6:(List (List Int)))(t8:Int)(s0:bU)(s64:bD)(s112:bD):Option (bD×bU×Unit) :=
 if(0:Int)≤t1∧t1<(List.length t5:Int) then
  if(decide (t8<(List.length (List.getD t5 t1.toNat []):Int)))=true then
   if(0:Int)≤t1∧t1<(List.length t5:Int) then
    if(0:Int)≤t8∧t8<(List.length (List.getD t5 t1.toNat []):Int) then
     (F.f65 s0 (List.getD (List.getD t5 t1.toNat []) t8.toNat [])).bind fun(r0:Bool×bU×Unit) =>
     if(!r0.1)=true then
      F.f134 t1 t5 t6 (w64 (t8+1)) r0.2.1 s64 s112
     else
      if(0:Int)≤t1∧t1<(List.length t5:Int) then
       if(decide (t8=(List.length (List.getD t5 t1.toNat []):Int)))=true then
        some (s112,r0.2.1,())
       else
        (F.f62 r0.2.1).bind fun(r1:bU×Unit) =>
        (F.f103 r1.1 (w64 (t1+1))).bind fun(r2:bD×bU×Unit) =>
        if(0:Int)≤t1∧t1<(List.length t6:Int) then
         if(0:Int)≤t8∧t8<(List.length (List.getD t6 t1.toNat []):Int) then
          (F.f68 (List.getD (List.getD t6 t1.toNat []) t8.toNat 0) [s112,r2.1]).bind fun(r3:(Int×(Int×((List Int)×((List bD)×Unit))))×Unit) =>
          F.f135 t1 t5 t6 t8 r2.2.1 s64 (bD.mk r3.1.1 r3.1.2.1 r3.1.2.2.1 r3.1.2.2.2.1)
         else none
        else none
      else none
    else none
   else none
  else
   if(0:Int)≤t1∧t1<(List.length t5:Int) then
    if(decide (t8=(List.length (List.getD t5 t1.toNat []):Int)))=true then
     some (s112,s0,())
    else
     (F.f62 s0).bind fun(r4:bU×Unit) =>
     (F.f103 r4.1 (w64 (t1+1))).bind fun(r5:bD×bU×Unit) =>
     if(0:Int)≤t1∧t1<(List.length t6:Int) then
      if(0:Int)≤t8∧t8<(List.length (List.getD t6 t1.toNat []):Int) then
       (F.f68 (List.getD (List.getD t6 t1.toNat []) t8.toNat 0) [s112,r5.1]).bind fun(r6:(Int×(Int×((List Int)×((List bD)×Unit))))×Unit) =>
       F.f135 t1 t5 t6 t8 r5.2.1 s64 (bD.mk r6.1.1 r6.1.2.1 r6.1.2.2.1 r6.1.2.2.2.1)
      else none
     else none
   else none
 else none
def Ee(F:FsBuild)(t1:Int)(t5:(List (List (List Int))))(t6:(List (List Int)))(t8:Int)(s0:bU)(s64:bD)(s112:bD):Option (bD×bU×Unit) :=
 if(decide (t1=2))=true then
  if(decide (t8=1))=true then
   (F.f68 22 [s112]).bind fun(r0:(Int×(Int×((List Int)×((List bD)×Unit))))×Unit) =>
   F.f133 t1 t5 t6 s0 s64 (bD.mk r0.1.1 r0.1.2.1 r0.1.2.2.1 r0.1.2.2.2.1)
  else
   F.f133 t1 t5 t6 s0 s64 s112
 else
  F.f133 t1 t5 t6 s0 s64 s112
def EB(F:FsBuild)(t0:bD):Option (Bool×Unit) :=
 if(decide (t0.Op=5))=true then
  F.f137 (List.length t0.Kids:Int) t0.Op (decide (t0.Op=5)) t0
 else
  if(decide (t0.Op=6))=true then
   F.f137 (List.length t0.Kids:Int) t0.Op (decide (t0.Op=6)) t0
  else
   if(decide (t0.Op=22))=true then
    F.f137 (List.length t0.Kids:Int) t0.Op (decide (t0.Op=22)) t0
   else
    if(decide (t0.Op=23))=true then
     F.f137 (List.length t0.Kids:Int) t0.Op (decide (t0.Op=23)) t0
    else
     if(decide (t0.Op=34))=true then
      F.f137 (List.length t0.Kids:Int) t0.Op (decide (t0.Op=34)) t0
     else
      F.f137 (List.length t0.Kids:Int) t0.Op (decide (t0.Op=35)) t0
def EC(F:FsBuild)(t3:Int)(t9:Int)(t10:Bool)(s16:bD):Option (Bool×Unit) :=
 if t10=true then
  if(decide (t3=1))=true then
   (F.f149 s16 0 1).bind fun(r0:Bool×Unit) =>
   some (r0.1,())
  else
   some (false,())
 else
  if(decide (t9=9))=true then
   F.f138 t3 t9 (decide (t9=9)) s16
  else
   if(decide (t9=10))=true then
    F.f138 t3 t9 (decide (t9=10)) s16
   else
    if(decide (t9=11))=true then
     F.f138 t3 t9 (decide (t9=11)) s16
    else
     if(decide (t9=12))=true then
      F.f138 t3 t9 (decide (t9=12)) s16
     else
      if(decide (t9=13))=true then
       F.f138 t3 t9 (decide (t9=13)) s16
      else
       if(decide (t9=14))=true then
        F.f138 t3 t9 (decide (t9=14)) s16
       else
        if(decide (t9=15))=true then
         F.f138 t3 t9 (decide (t9=15)) s16
        else
         if(decide (t9=16))=true then
          F.f138 t3 t9 (decide (t9=16)) s16
         else
          if(decide (t9=17))=true then
           F.f138 t3 t9 (decide (t9=17)) s16
          else
           if(decide (t9=18))=true then
            F.f138 t3 t9 (decide (t9=18)) s16
           else
            if(decide (t9=19))=true then
             F.f138 t3 t9 (decide (t9=19)) s16
            else
             if(decide (t9=20))=true then
              F.f138 t3 t9 (decide (t9=20)) s16
             else
              if(decide (t9=21))=true then
               F.f138 t3 t9 (decide (t9=21)) s16
              else
               if(decide (t9=24))=true then
                F.f138 t3 t9 (decide (t9=24)) s16
               else
                F.f138 t3 t9 (decide (t9=25)) s16
def ED(F:FsBuild)(t3:Int)(t9:Int)(t23:Bool)(s16:bD):Option (Bool×Unit) :=
 if t23=true then
  if(decide (t3=2))=true then
   (F.f149 s16 0 2).bind fun(r0:Bool×Unit) =>
   some (r0.1,())
  else
   some (false,())
 else
  if(decide (t9=26))=true then
   F.f139 t3 t9 (decide (t9=26)) s16
  else
   F.f139 t3 t9 (decide (t9=27)) s16
def EE(F:FsBuild)(t3:Int)(t9:Int)(t45:Bool)(s16:bD):Option (Bool×Unit) :=
 if t45=true then
  if(decide (t3=2))=true then
   if(0:Int)≤0∧(0:Int)<(List.length s16.Kids:Int) then
    if(decide (((List.getD s16.Kids 0 cS).Op)=4))=true then
     (F.f149 s16 0 2).bind fun(r0:Bool×Unit) =>
     some (r0.1,())
    else
     if(0:Int)≤0∧(0:Int)<(List.length s16.Kids:Int) then
      if(decide (((List.getD s16.Kids 0 cS).Op)=5))=true then
       (F.f149 s16 0 2).bind fun(r1:Bool×Unit) =>
       some (r1.1,())
      else
       some (false,())
     else none
   else none
  else
   some (false,())
 else
  if(decide (t9=28))=true then
   F.f140 t3 t9 (decide (t9=28)) s16
  else
   F.f140 t3 t9 (decide (t9=30)) s16
def EF(F:FsBuild)(t3:Int)(t9:Int)(t70:Bool)(s16:bD):Option (Bool×Unit) :=
 if t70=true then
  (F.f149 s16 0 t3).bind fun(r0:Bool×Unit) =>
  some (r0.1,())
 else
  if(decide (t9=31))=true then
   (F.f0 t3 2 3).bind fun(r1:Bool×Unit) =>
   if r1.1=true then
    (F.f149 s16 0 1).bind fun(r2:Bool×Unit) =>
    if r2.1=true then
     (F.f151 s16 1).bind fun(r3:Bool×Unit) =>
     some (r3.1,())
    else
     some (false,())
   else
    some (false,())
  else
   if(decide (t9=32))=true then
    if(decide (t3=2))=true then
     (F.f149 s16 0 1).bind fun(r4:Bool×Unit) =>
     if r4.1=true then
      (F.f151 s16 1).bind fun(r5:Bool×Unit) =>
      some (r5.1,())
     else
      some (false,())
    else
     some (false,())
   else
    if(decide (t9=29))=true then
     F.f141 t3 0 s16
    else
     some ((decide (t3=0)),())
def EG(F:FsBuild)(t3:Int)(t4:Int)(s16:bD):Option (Bool×Unit) :=
 if(decide (t4<t3))=true then
  if(0:Int)≤t4∧t4<(List.length s16.Kids:Int) then
   (F.f0 ((List.getD s16.Kids t4.toNat cS).Op) 29 35).bind fun(r0:Bool×Unit) =>
   if(!r0.1)=true then
    some (false,())
   else
    if(0:Int)≤t4∧t4<(List.length s16.Kids:Int) then
     (F.f104 (List.getD s16.Kids t4.toNat cS)).bind fun(r1:Bool×Unit) =>
     if(!r1.1)=true then
      some (false,())
     else
      F.f141 t3 (w64 (t4+1)) s16
    else none
  else none
 else
  some (true,())
def EN(F:FsBuild)(t0:(List Int)):Option (Bool×Unit) :=
 F.f143 t0 0
def EO(F:FsBuild)(t0:(List Int))(t3:Int):Option (Bool×Unit) :=
 if(decide (t3<(List.length t0:Int)))=true then
  if(0:Int)≤t3∧t3<(List.length t0:Int) then
   if(decide ((List.getD t0 t3.toNat 0)=92))=true then
    if(decide ((w64 (t3+1))=(List.length t0:Int)))=true then
     some (false,())
    else
     if(0:Int)≤(w64 (t3+1))∧(w64 (t3+1))<(List.length t0:Int) then
      if(decide ((List.getD t0 (w64 (t3+1)).toNat 0)=47))=true then
       some (false,())
      else
       F.f143 t0 (w64 ((w64 (t3+1))+1))
     else none
   else
    F.f143 t0 (w64 (t3+1))
  else none
 else
  (F.f23 t0).bind fun(r0:Bool×Unit) =>
  some (r0.1,())
def C3(F:FsBuild)(s0:bT)(t1:Int):Option (bH×bT×Unit) :=
 if s0.bad=true then
  some ((bH.mk 0 0 [] false []),(bT.mk s0.s s0.at_ true),())
 else
  if(decide (s0.at_≥(List.length s0.s:Int)))=true then
   some ((bH.mk 0 0 [] false []),(bT.mk s0.s s0.at_ true),())
  else
   if(decide (t1>40))=true then
    some ((bH.mk 0 0 [] false []),(bT.mk s0.s s0.at_ true),())
   else
    if(0:Int)≤s0.at_∧s0.at_<(List.length s0.s:Int) then
     if(decide ((List.getD s0.s s0.at_.toNat 0)=40))=true then
      (F.f54 (bT.mk s0.s (w64 (s0.at_+1)) s0.bad) (w64 (t1+1))).bind fun(r0:bH×bT×Unit) =>
      (F.f88 r0.2.1 41).bind fun(r1:Bool×bT×Unit) =>
      if(!r1.1)=true then
       some (r0.1,(bT.mk r1.2.1.s (w64 (r1.2.1.at_+1)) true),())
      else
       some (r0.1,(bT.mk r1.2.1.s (w64 (r1.2.1.at_+1)) r1.2.1.bad),())
     else
      if(decide ((List.getD s0.s s0.at_.toNat 0)=46))=true then
       some ((bH.mk 2 0 [] false []),(bT.mk s0.s (w64 (s0.at_+1)) s0.bad),())
      else
       if(decide ((List.getD s0.s s0.at_.toNat 0)=94))=true then
        some ((bH.mk 4 0 [] false []),(bT.mk s0.s (w64 (s0.at_+1)) s0.bad),())
       else
        if(decide ((List.getD s0.s s0.at_.toNat 0)=36))=true then
         some ((bH.mk 5 0 [] false []),(bT.mk s0.s (w64 (s0.at_+1)) s0.bad),())
        else
         if(decide ((List.getD s0.s s0.at_.toNat 0)=91))=true then
          (F.f153 (bT.mk s0.s (w64 (s0.at_+1)) s0.bad)).bind fun(r2:bH×bT×Unit) =>
          some (r2.1,r2.2.1,())
         else
          if(decide ((List.getD s0.s s0.at_.toNat 0)=92))=true then
           if(decide ((w64 (s0.at_+1))≥(List.length s0.s:Int)))=true then
            some ((bH.mk 0 0 [] false []),(bT.mk s0.s (w64 (s0.at_+1)) true),())
           else
            if(0:Int)≤(w64 (s0.at_+1))∧(w64 (s0.at_+1))<(List.length s0.s:Int) then
             some ((bH.mk 1 (w64 (List.getD s0.s (w64 (s0.at_+1)).toNat 0)) [] false []),(bT.mk s0.s (w64 ((w64 (s0.at_+1))+1)) s0.bad),())
            else none
          else
           if(decide ((List.getD s0.s s0.at_.toNat 0)=42))=true then
            if(decide ((List.getD s0.s s0.at_.toNat 0)=42))=true then
             F.f145 (List.getD s0.s s0.at_.toNat 0) (bT.mk s0.s (w64 (s0.at_+1)) true) ch
            else
             F.f145 (List.getD s0.s s0.at_.toNat 0) (bT.mk s0.s (w64 (s0.at_+1)) s0.bad) ch
           else
            if(decide ((List.getD s0.s s0.at_.toNat 0)=43))=true then
             if(decide ((List.getD s0.s s0.at_.toNat 0)=43))=true then
              F.f145 (List.getD s0.s s0.at_.toNat 0) (bT.mk s0.s (w64 (s0.at_+1)) true) ch
             else
              F.f145 (List.getD s0.s s0.at_.toNat 0) (bT.mk s0.s (w64 (s0.at_+1)) s0.bad) ch
            else
             if(decide ((List.getD s0.s s0.at_.toNat 0)=63))=true then
              F.f145 (List.getD s0.s s0.at_.toNat 0) (bT.mk s0.s (w64 (s0.at_+1)) true) ch
             else
              F.f145 (List.getD s0.s s0.at_.toNat 0) (bT.mk s0.s (w64 (s0.at_+1)) s0.bad) ch
    else none
def C4(_F:FsBuild)(t5:Int)(s0:bT)(s64:bH):Option (bH×bT×Unit) :=
 some ((bH.mk 1 (w64 t5) [] false []),s0,())
def DX(F:FsBuild)(s0:bU):Option (Bool×bU×Unit) :=
 (F.f37 s0).bind fun(r0:bK×bU×Unit) =>
 if(decide (r0.2.1.bad≥0))=true then
  some (false,r0.2.1,())
 else
  if(decide (r0.1.Kind=2))=true then
   F.f147 r0.1.Kind (decide (r0.1.Kind=2)) r0.2.1 r0.1
  else
   if(decide (r0.1.Kind=3))=true then
    F.f147 r0.1.Kind (decide (r0.1.Kind=3)) r0.2.1 r0.1
   else
    F.f147 r0.1.Kind (decide (r0.1.Kind=4)) r0.2.1 r0.1
def DY(F:FsBuild)(t12:Int)(t13:Bool)(s0:bU)(s48:bK):Option (Bool×bU×Unit) :=
 if t13=true then
  some (true,s0,())
 else
  if(decide (t12=1))=true then
   (F.f12 s48.Text).bind fun(r0:Bool×Unit) =>
   if(!r0.1)=true then
    some (true,s0,())
   else
    if(decide (s48.Text=[78,82]))=true then
     some (true,s0,())
    else
     if(decide (s48.Text=[78,70]))=true then
      some (true,s0,())
     else
      (F.f26 ).bind fun(r1:(List (List Int))×Unit) =>
      (F.f6 r1.1 s48.Text).bind fun(r2:Bool×Unit) =>
      some (r2.1,s0,())
  else
   if(decide (s48.Kind=5))=true then
    if(decide (s48.Text=[36]))=true then
     some (true,s0,())
    else
     some ((decide (s48.Text=[40])),s0,())
   else
    some (false,s0,())
def DU(F:FsBuild)(s0:bU):Option (bD×bU×Unit) :=
 if s0.has=true then
  some (s0.kept,(bU.mk s0.list s0.at_ s0.bad false s0.kept),())
 else
  (F.f37 s0).bind fun(r0:bK×bU×Unit) =>
  if(decide (r0.2.1.bad≥0))=true then
   some ((bD.mk 0 0 [] []),r0.2.1,())
  else
   if(decide (r0.1.Kind=2))=true then
    (F.f62 r0.2.1).bind fun(r1:bU×Unit) =>
    some ((bD.mk 1 r0.1.N [] []),r1.1,())
   else
    if(decide (r0.1.Kind=3))=true then
     (F.f62 r0.2.1).bind fun(r2:bU×Unit) =>
     some ((bD.mk 2 0 r0.1.Text []),r2.1,())
    else
     if(decide (r0.1.Kind=4))=true then
      (F.f62 r0.2.1).bind fun(r3:bU×Unit) =>
      some ((bD.mk 3 0 r0.1.Text []),r3.1,())
     else
      if(decide (r0.1.Kind=1))=true then
       (F.f102 r0.2.1).bind fun(r4:bD×bU×Unit) =>
       some (r4.1,r4.2.1,())
      else
       (F.f65 r0.2.1 [36]).bind fun(r5:Bool×bU×Unit) =>
       if r5.1=true then
        (F.f62 r5.2.1).bind fun(r6:bU×Unit) =>
        (F.f148 r6.1).bind fun(r7:bD×bU×Unit) =>
        (F.f68 6 [r7.1]).bind fun(r8:(Int×(Int×((List Int)×((List bD)×Unit))))×Unit) =>
        some ((bD.mk r8.1.1 r8.1.2.1 r8.1.2.2.1 r8.1.2.2.2.1),r7.2.1,())
       else
        (F.f100 r5.2.1 [40]).bind fun(r9:bU×Unit) =>
        (F.f66 r9.1).bind fun(r10:bD×bU×Unit) =>
        (F.f100 r10.2.1 [41]).bind fun(r11:bU×Unit) =>
        some (r10.1,r11.1,())
def Ey(F:FsBuild)(t0:bD)(t1:Int)(t2:Int):Option (Bool×Unit) :=
 F.f150 t2 t1 t0
def Ez(F:FsBuild)(t2:Int)(t7:Int)(s48:bD):Option (Bool×Unit) :=
 if(decide (t7<t2))=true then
  if(0:Int)≤t7∧t7<(List.length s48.Kids:Int) then
   (F.f106 ((List.getD s48.Kids t7.toNat cS).Op)).bind fun(r0:Bool×Unit) =>
   if(!r0.1)=true then
    some (false,())
   else
    if(0:Int)≤t7∧t7<(List.length s48.Kids:Int) then
     (F.f104 (List.getD s48.Kids t7.toNat cS)).bind fun(r1:Bool×Unit) =>
     if(!r1.1)=true then
      some (false,())
     else
      F.f150 t2 (w64 (t7+1)) s48
    else none
  else none
 else
  some (true,())
def Ew(F:FsBuild)(t0:bD)(t1:Int):Option (Bool×Unit) :=
 F.f152 t1 t0
def Ex(F:FsBuild)(t5:Int)(s32:bD):Option (Bool×Unit) :=
 if(decide (t5<(List.length s32.Kids:Int)))=true then
  if(0:Int)≤t5∧t5<(List.length s32.Kids:Int) then
   if(!(decide (((List.getD s32.Kids t5.toNat cS).Op)=29)))=true then
    some (false,())
   else
    if(0:Int)≤t5∧t5<(List.length s32.Kids:Int) then
     (F.f104 (List.getD s32.Kids t5.toNat cS)).bind fun(r0:Bool×Unit) =>
     if(!r0.1)=true then
      some (false,())
     else
      F.f152 (w64 (t5+1)) s32
    else none
  else none
 else
  some (true,())
def Dk(F:FsBuild)(s0:bT):Option (bH×bT×Unit) :=
 (F.f88 s0 94).bind fun(r0:Bool×bT×Unit) =>
 if r0.1=true then
  F.f154 (bT.mk r0.2.1.s (w64 (r0.2.1.at_+1)) r0.2.1.bad) ch (bH.mk 3 0 [] true [])
 else
  F.f154 r0.2.1 ch (bH.mk 3 0 [] false [])
def Dl(F:FsBuild)(s0:bT)(s32:bH)(s48:bH):Option (bH×bT×Unit) :=
 F.f155 (List.replicate 256 false) 0 s0 s32 s48
def Dm(F:FsBuild)(t4:(List Bool))(t5:Int)(s0:bT)(s32:bH)(s48:bH):Option (bH×bT×Unit) :=
 if(decide (s0.at_<(List.length s0.s:Int)))=true then
  if(0:Int)≤s0.at_∧s0.at_<(List.length s0.s:Int) then
   if(!(decide ((List.getD s0.s s0.at_.toNat 0)=93)))=true then
    if(0:Int)≤s0.at_∧s0.at_<(List.length s0.s:Int) then
     if(decide ((w64 ((w64 (s0.at_+1))+1))<(List.length s0.s:Int)))=true then
      if(0:Int)≤(w64 (s0.at_+1))∧(w64 (s0.at_+1))<(List.length s0.s:Int) then
       if(decide ((List.getD s0.s (w64 (s0.at_+1)).toNat 0)=45))=true then
        if(0:Int)≤(w64 ((w64 (s0.at_+1))+1))∧(w64 ((w64 (s0.at_+1))+1))<(List.length s0.s:Int) then
         if(!(decide ((List.getD s0.s (w64 ((w64 (s0.at_+1))+1)).toNat 0)=93)))=true then
          if(0:Int)≤(w64 ((w64 (s0.at_+1))+1))∧(w64 ((w64 (s0.at_+1))+1))<(List.length s0.s:Int) then
           F.f156 t4 t5 (w64 (List.getD s0.s s0.at_.toNat 0)) (w64 (List.getD s0.s (w64 ((w64 (s0.at_+1))+1)).toNat 0)) (bT.mk s0.s (w64 ((w64 (s0.at_+1))+2)) s0.bad) s32 s48
          else none
         else
          F.f156 t4 t5 (w64 (List.getD s0.s s0.at_.toNat 0)) (w64 (List.getD s0.s s0.at_.toNat 0)) (bT.mk s0.s (w64 (s0.at_+1)) s0.bad) s32 s48
        else none
       else
        F.f156 t4 t5 (w64 (List.getD s0.s s0.at_.toNat 0)) (w64 (List.getD s0.s s0.at_.toNat 0)) (bT.mk s0.s (w64 (s0.at_+1)) s0.bad) s32 s48
      else none
     else
      F.f156 t4 t5 (w64 (List.getD s0.s s0.at_.toNat 0)) (w64 (List.getD s0.s s0.at_.toNat 0)) (bT.mk s0.s (w64 (s0.at_+1)) s0.bad) s32 s48
    else none
   else
    if(decide (s0.at_≥(List.length s0.s:Int)))=true then
     F.f157 t4 (bT.mk s0.s s0.at_ true) s32 s48
    else
     if(decide (t5=0))=true then
      F.f157 t4 (bT.mk s0.s s0.at_ true) s32 s48
     else
      F.f157 t4 s0 s32 s48
  else none
 else
  if(decide (s0.at_≥(List.length s0.s:Int)))=true then
   F.f157 t4 (bT.mk s0.s s0.at_ true) s32 s48
  else
   if(decide (t5=0))=true then
    F.f157 t4 (bT.mk s0.s s0.at_ true) s32 s48
   else
    F.f157 t4 s0 s32 s48
def Dn(F:FsBuild)(t4:(List Bool))(t5:Int)(t6:Int)(t7:Int)(s0:bT)(s32:bH)(s48:bH):Option (bH×bT×Unit) :=
 if(decide (t7<t6))=true then
  F.f158 t4 t5 t6 t7 (bT.mk s0.s s0.at_ true) s32 s48
 else
  F.f158 t4 t5 t6 t7 s0 s32 s48
def Dp(F:FsBuild)(t4:(List Bool))(s0:bT)(s32:bH)(s48:bH):Option (bH×bT×Unit) :=
 F.f159 t4 [] 0 (bT.mk s0.s (w64 (s0.at_+1)) s0.bad) s32 s48
def Dq(F:FsBuild)(t4:(List Bool))(t5:Int)(t6:Int)(t7:Int)(s0:bT)(s32:bH)(s48:bH):Option (bH×bT×Unit) :=
 F.f160 t4 t5 t7 t6 s0 s32 s48
def Dr(F:FsBuild)(t4:(List Bool))(t9:(List Int))(t10:Int)(s0:bT)(s32:bH)(s48:bH):Option (bH×bT×Unit) :=
 if(decide (t10<256))=true then
  if(0:Int)≤t10∧t10<(List.length t4:Int) then
   if(List.getD t4 t10.toNat false)=true then
    if List.length t9+1≤room then
     F.f159 t4 (List.append t9 [(w8 t10)]) (w64 (t10+1)) s0 s32 s48
    else none
   else
    F.f159 t4 t9 (w64 (t10+1)) s0 s32 s48
  else none
 else
  some ((bH.mk s48.Op s48.C t9 s48.Not s48.Kids),s0,())
def Ds(F:FsBuild)(t4:(List Bool))(t5:Int)(t7:Int)(t8:Int)(s0:bT)(s32:bH)(s48:bH):Option (bH×bT×Unit) :=
 if(decide (t8≤t7))=true then
  if(0:Int)≤t8∧t8<(List.length t4:Int) then
   F.f160 (List.set t4 t8.toNat true) t5 t7 (w64 (t8+1)) s0 s32 s48
  else none
 else
  F.f155 t4 (w64 (t5+1)) s0 s32 s48
def B9(F:FsBuild)(t0:bH):Option ((List bF)×Unit) :=
 (F.f162 t0).bind fun(r0:Bool×Unit) =>
 if(!r0.1)=true then
  some ([],())
 else
  (F.f163 [] t0).bind fun(r1:(List bF)×Unit) =>
  (F.f166 r1.1 8).bind fun(r2:(List bF)×Unit) =>
  some (r2.1,())
def Ch(F:FsBuild)(t0:bH):Option (Bool×Unit) :=
 (F.f56 t0).bind fun(r0:Int×Unit) =>
 if(decide (r0.1≤12))=true then
  (F.f167 t0).bind fun(r1:Bool×Unit) =>
  some (r1.1,())
 else
  some (false,())
def Dv(F:FsBuild)(t0:(List bF))(t1:bH):Option ((List bF)×Unit) :=
 if(decide (t1.Op=1))=true then
  if List.length t0+1≤room then
   some ((List.append t0 [(bF.mk 1 t1.C [] false 0 0)]),())
  else none
 else
  if(decide (t1.Op=2))=true then
   (F.f166 t0 2).bind fun(r0:(List bF)×Unit) =>
   some (r0.1,())
  else
   if(decide (t1.Op=3))=true then
    if List.length t0+1≤room then
     some ((List.append t0 [(bF.mk 3 0 t1.Set t1.Not 0 0)]),())
    else none
   else
    if(decide (t1.Op=4))=true then
     (F.f166 t0 4).bind fun(r1:(List bF)×Unit) =>
     some (r1.1,())
    else
     if(decide (t1.Op=5))=true then
      (F.f166 t0 5).bind fun(r2:(List bF)×Unit) =>
      some (r2.1,())
     else
      if(decide (t1.Op=6))=true then
       F.f164 t0 0 t1
      else
       if(decide (t1.Op=7))=true then
        (F.f171 t0 t1.Kids).bind fun(r3:(List bF)×Unit) =>
        some (r3.1,())
       else
        if(decide (t1.Op=8))=true then
         (F.f166 t0 7).bind fun(r4:(List bF)×Unit) =>
         if(0:Int)≤0∧(0:Int)<(List.length t1.Kids:Int) then
          (F.f163 r4.1 (List.getD t1.Kids 0 ch)).bind fun(r5:(List bF)×Unit) =>
          if List.length r5.1+1≤room then
           if(0:Int)≤(List.length t0:Int)∧(List.length t0:Int)<(List.length (List.append r5.1 [(bF.mk 6 0 [] false (List.length t0:Int) 0)]):Int) then
            let v0:(List bF):=(List.set (List.append r5.1 [(bF.mk 6 0 [] false (List.length t0:Int) 0)]) (List.length t0:Int).toNat (bF.mk ((List.getD (List.append r5.1 [(bF.mk 6 0 [] false (List.length t0:Int) 0)]) (List.length t0:Int).toNat cN).Op) ((List.getD (List.append r5.1 [(bF.mk 6 0 [] false (List.length t0:Int) 0)]) (List.length t0:Int).toNat cN).C) ((List.getD (List.append r5.1 [(bF.mk 6 0 [] false (List.length t0:Int) 0)]) (List.length t0:Int).toNat cN).Set) ((List.getD (List.append r5.1 [(bF.mk 6 0 [] false (List.length t0:Int) 0)]) (List.length t0:Int).toNat cN).Not) (w64 ((List.length t0:Int)+1)) ((List.getD (List.append r5.1 [(bF.mk 6 0 [] false (List.length t0:Int) 0)]) (List.length t0:Int).toNat cN).B)))
            if(0:Int)≤(List.length t0:Int)∧(List.length t0:Int)<(List.length v0:Int) then
             let v1:(List bF):=(List.set v0 (List.length t0:Int).toNat (bF.mk ((List.getD v0 (List.length t0:Int).toNat cN).Op) ((List.getD v0 (List.length t0:Int).toNat cN).C) ((List.getD v0 (List.length t0:Int).toNat cN).Set) ((List.getD v0 (List.length t0:Int).toNat cN).Not) ((List.getD v0 (List.length t0:Int).toNat cN).A) (List.length v0:Int)))
             F.f165 v1
            else none
           else none
          else none
         else none
        else
         if(decide (t1.Op=9))=true then
          if(0:Int)≤0∧(0:Int)<(List.length t1.Kids:Int) then
           (F.f163 t0 (List.getD t1.Kids 0 ch)).bind fun(r6:(List bF)×Unit) =>
           if List.length r6.1+1≤room then
            F.f165 (List.append r6.1 [(bF.mk 7 0 [] false (List.length t0:Int) (w64 ((List.length r6.1:Int)+1)))])
           else none
          else none
         else
          if(decide (t1.Op=10))=true then
           (F.f166 t0 7).bind fun(r7:(List bF)×Unit) =>
           if(0:Int)≤0∧(0:Int)<(List.length t1.Kids:Int) then
            (F.f163 r7.1 (List.getD t1.Kids 0 ch)).bind fun(r8:(List bF)×Unit) =>
            if(0:Int)≤(List.length t0:Int)∧(List.length t0:Int)<(List.length r8.1:Int) then
             let v2:(List bF):=(List.set r8.1 (List.length t0:Int).toNat (bF.mk ((List.getD r8.1 (List.length t0:Int).toNat cN).Op) ((List.getD r8.1 (List.length t0:Int).toNat cN).C) ((List.getD r8.1 (List.length t0:Int).toNat cN).Set) ((List.getD r8.1 (List.length t0:Int).toNat cN).Not) (w64 ((List.length t0:Int)+1)) ((List.getD r8.1 (List.length t0:Int).toNat cN).B)))
             if(0:Int)≤(List.length t0:Int)∧(List.length t0:Int)<(List.length v2:Int) then
              let v3:(List bF):=(List.set v2 (List.length t0:Int).toNat (bF.mk ((List.getD v2 (List.length t0:Int).toNat cN).Op) ((List.getD v2 (List.length t0:Int).toNat cN).C) ((List.getD v2 (List.length t0:Int).toNat cN).Set) ((List.getD v2 (List.length t0:Int).toNat cN).Not) ((List.getD v2 (List.length t0:Int).toNat cN).A) (List.length v2:Int)))
              F.f165 v3
             else none
            else none
           else none
          else
           F.f165 t0
def Dw(F:FsBuild)(t0:(List bF))(t6:Int)(s48:bH):Option ((List bF)×Unit) :=
 if(decide (t6<(List.length s48.Kids:Int)))=true then
  if(0:Int)≤t6∧t6<(List.length s48.Kids:Int) then
   (F.f163 t0 (List.getD s48.Kids t6.toNat ch)).bind fun(r0:(List bF)×Unit) =>
   F.f164 r0.1 (w64 (t6+1)) s48
  else none
 else
  F.f165 t0
def Dx(_F:FsBuild)(t0:(List bF)):Option ((List bF)×Unit) :=
 some (t0,())
def DB(_F:FsBuild)(t0:(List bF))(t1:Int):Option ((List bF)×Unit) :=
 if List.length t0+1≤room then
  some ((List.append t0 [(bF.mk t1 0 [] false 0 0)]),())
 else none
def Dg(F:FsBuild)(t0:bH):Option (Bool×Unit) :=
 F.f168 0 t0
def Dh(F:FsBuild)(t3:Int)(s16:bH):Option (Bool×Unit) :=
 if(decide (t3<(List.length s16.Kids:Int)))=true then
  if(0:Int)≤t3∧t3<(List.length s16.Kids:Int) then
   (F.f167 (List.getD s16.Kids t3.toNat ch)).bind fun(r0:Bool×Unit) =>
   if(!r0.1)=true then
    some (false,())
   else
    F.f168 (w64 (t3+1)) s16
  else none
 else
  if(decide (s16.Op=1))=true then
   (F.f0 s16.C 0 255).bind fun(r1:Bool×Unit) =>
   if r1.1=true then
    if(decide (s16.Set=[]))=true then
     if(!s16.Not)=true then
      some ((decide ((List.length s16.Kids:Int)=0)),())
     else
      some (false,())
    else
     some (false,())
   else
    some (false,())
  else
   if(decide (s16.Op=3))=true then
    if(decide (s16.C=0))=true then
     if(!(decide (s16.Set=[])))=true then
      (F.f174 s16.Set).bind fun(r2:Bool×Unit) =>
      if r2.1=true then
       some ((decide ((List.length s16.Kids:Int)=0)),())
      else
       some (false,())
     else
      some (false,())
    else
     some (false,())
   else
    if(decide (s16.Op=6))=true then
     F.f169 (List.length s16.Kids:Int) s16.Op (decide (s16.Op=6)) s16
    else
     F.f169 (List.length s16.Kids:Int) s16.Op (decide (s16.Op=7)) s16
def Di(F:FsBuild)(t4:Int)(t23:Int)(t62:Bool)(s16:bH):Option (Bool×Unit) :=
 if t62=true then
  if(decide (s16.C=0))=true then
   if(decide (s16.Set=[]))=true then
    if(!s16.Not)=true then
     some ((decide (t4≥2)),())
    else
     some (false,())
   else
    some (false,())
  else
   some (false,())
 else
  if(decide (t23=8))=true then
   F.f170 t4 (decide (t23=8)) s16
  else
   if(decide (t23=9))=true then
    F.f170 t4 (decide (t23=9)) s16
   else
    F.f170 t4 (decide (t23=10)) s16
def Dj(F:FsBuild)(t4:Int)(t82:Bool)(s16:bH):Option (Bool×Unit) :=
 if t82=true then
  if(decide (s16.C=0))=true then
   if(decide (s16.Set=[]))=true then
    if(!s16.Not)=true then
     some ((decide (t4=1)),())
    else
     some (false,())
   else
    some (false,())
  else
   some (false,())
 else
  (F.f0 s16.Op 2 11).bind fun(r0:Bool×Unit) =>
  if r0.1=true then
   if(decide (s16.C=0))=true then
    if(decide (s16.Set=[]))=true then
     if(!s16.Not)=true then
      some ((decide (t4=0)),())
     else
      some (false,())
    else
     some (false,())
   else
    some (false,())
  else
   some (false,())
def Dy(F:FsBuild)(t0:(List bF))(t1:(List bH)):Option ((List bF)×Unit) :=
 F.f172 t0 t1 [] 0
def Dz(F:FsBuild)(t0:(List bF))(t1:(List bH))(t5:(List Int))(t6:Int):Option ((List bF)×Unit) :=
 if(decide (t6<(w64 ((List.length t1:Int)-1))))=true then
  (F.f166 t0 7).bind fun(r0:(List bF)×Unit) =>
  if(0:Int)≤t6∧t6<(List.length t1:Int) then
   (F.f163 r0.1 (List.getD t1 t6.toNat ch)).bind fun(r1:(List bF)×Unit) =>
   if List.length t5+1≤room then
    (F.f166 r1.1 6).bind fun(r2:(List bF)×Unit) =>
    if(0:Int)≤(List.length t0:Int)∧(List.length t0:Int)<(List.length r2.1:Int) then
     let v0:(List bF):=(List.set r2.1 (List.length t0:Int).toNat (bF.mk ((List.getD r2.1 (List.length t0:Int).toNat cN).Op) ((List.getD r2.1 (List.length t0:Int).toNat cN).C) ((List.getD r2.1 (List.length t0:Int).toNat cN).Set) ((List.getD r2.1 (List.length t0:Int).toNat cN).Not) (w64 ((List.length t0:Int)+1)) ((List.getD r2.1 (List.length t0:Int).toNat cN).B)))
     if(0:Int)≤(List.length t0:Int)∧(List.length t0:Int)<(List.length v0:Int) then
      let v1:(List bF):=(List.set v0 (List.length t0:Int).toNat (bF.mk ((List.getD v0 (List.length t0:Int).toNat cN).Op) ((List.getD v0 (List.length t0:Int).toNat cN).C) ((List.getD v0 (List.length t0:Int).toNat cN).Set) ((List.getD v0 (List.length t0:Int).toNat cN).Not) ((List.getD v0 (List.length t0:Int).toNat cN).A) (List.length v0:Int)))
      F.f172 v1 t1 (List.append t5 [(List.length r1.1:Int)]) (w64 (t6+1))
     else none
    else none
   else none
  else none
 else
  if(0:Int)≤(w64 ((List.length t1:Int)-1))∧(w64 ((List.length t1:Int)-1))<(List.length t1:Int) then
   (F.f163 t0 (List.getD t1 (w64 ((List.length t1:Int)-1)).toNat ch)).bind fun(r3:(List bF)×Unit) =>
   F.f173 r3.1 t5 0
  else none
def DA(F:FsBuild)(t0:(List bF))(t5:(List Int))(t8:Int):Option ((List bF)×Unit) :=
 if(decide (t8<(List.length t5:Int)))=true then
  if(0:Int)≤t8∧t8<(List.length t5:Int) then
   if(0:Int)≤(List.getD t5 t8.toNat 0)∧(List.getD t5 t8.toNat 0)<(List.length t0:Int) then
    let v2:(List bF):=(List.set t0 (List.getD t5 t8.toNat 0).toNat (bF.mk ((List.getD t0 (List.getD t5 t8.toNat 0).toNat cN).Op) ((List.getD t0 (List.getD t5 t8.toNat 0).toNat cN).C) ((List.getD t0 (List.getD t5 t8.toNat 0).toNat cN).Set) ((List.getD t0 (List.getD t5 t8.toNat 0).toNat cN).Not) (List.length t0:Int) ((List.getD t0 (List.getD t5 t8.toNat 0).toNat cN).B)))
    F.f173 v2 t5 (w64 (t8+1))
   else none
  else none
 else
  some (t0,())
def Dt(F:FsBuild)(t0:(List Int)):Option (Bool×Unit) :=
 F.f175 t0 1
def Du(F:FsBuild)(t0:(List Int))(t3:Int):Option (Bool×Unit) :=
 if(decide (t3<(List.length t0:Int)))=true then
  if(0:Int)≤(w64 (t3-1))∧(w64 (t3-1))<(List.length t0:Int) then
   if(0:Int)≤t3∧t3<(List.length t0:Int) then
    if(decide ((List.getD t0 (w64 (t3-1)).toNat 0)≥(List.getD t0 t3.toNat 0)))=true then
     some (false,())
    else
     F.f175 t0 (w64 (t3+1))
   else none
  else none
 else
  some (true,())
noncomputable def b6:FsBuild:=⟨dB,s_ProgOk,i7,iB,mO,j2,jh,j1,mA,jT,s_Build,oA,nV,om,mC,kZ,oo,mD,eU,nZ,yN,my,yn,oB,mN,jc,mM,s_RexParse,jQ,kW,em,jR,i5,eT,yU,yV,yW,A9,Bc,yv,yw,yg,yh,yi,yj,yk,yK,yL,zt,zu,zw,zx,zy,zF,jf,lk,mG,mH,jd,AB,AC,AZ,A8,AP,AQ,Bd,AV,AW,A0,yS,yT,y6,y7,yX,yY,yZ,zd,ze,y8,y9,za,zH,zG,zr,zB,zA,lh,lj,ge,Ax,Ay,Az,AA,AJ,AK,Av,AE,AF,AG,AH,Bh,Bg,A7,A5,Bx,Bz,Bo,zb,zc,zC,zD,zE,zz,zI,zn,zo,jb,mI,ll,j0,AM,Bj,Be,Bf,AX,AY,A6,AR,AU,Ba,Bb,Bi,A1,A2,A3,A4,Bp,Bq,Br,Bu,Bv,Bw,BA,BB,mF,je,AN,AO,AL,Bm,Bn,Bk,Bl,ox,mJ,iD,jg,gf,mK,lm,lp,s_NfaOf,yQ,Aj,Ak,Al,Aq,Ab,Ac,Ad,Ae,Am,An,Ao,Af,Ag⟩
theorem RL{F:FsBuild}(_H:LeFsBuild F):cJ (C0 F) dB:=fun t0 t1 t2=>leh (b:=C0 b6 t0 t1 t2) (leq (by kernel_rfl)) (li lr lr)
theorem QZ{F:FsBuild}(H:LeFsBuild F):cf (Ce F) s_ProgOk:=fun t0=>leh (b:=Ce b6 t0) (leq (by kernel_rfl)) (H.f2 _ _)
theorem Q0{F:FsBuild}(H:LeFsBuild F):cg (Cf F) i7:=fun t3 s16=>leh (b:=Cf b6 t3 s16) (leq (by kernel_rfl)) (li (li (lb (H.f4 _) fun _=>(li lr (li (lb (H.f6 _ _) fun _=>(li lr (li (li (li (li lr (H.f2 _ _)) lr) lr) (H.f2 _ _)))) lr))) lr) (H.f3 _ _))
theorem Q3{F:FsBuild}(H:LeFsBuild F):cg (Cg F) iB:=fun t4 s16=>leh (b:=Cg b6 t4 s16) (leq (by kernel_rfl)) (li (li (lb (H.f4 _) fun _=>(li lr (li (li (li (li lr (H.f3 _ _)) lr) lr) (H.f3 _ _)))) lr) (li (li (lb (H.f8 _ _ _) fun _=>(li (lb (H.f8 _ _ _) fun _=>lr) lr)) lr) lr))
theorem Tv{F:FsBuild}(H:LeFsBuild F):cf (EJ F) mO:=fun t0=>leh (b:=EJ b6 t0) (leq (by kernel_rfl)) (H.f5 _ _)
theorem Tw{F:FsBuild}(H:LeFsBuild F):cg (EK F) j2:=fun t0 t3=>leh (b:=EK b6 t0 t3) (leq (by kernel_rfl)) (li (li (lb (H.f11 _) fun _=>(li lr (H.f5 _ _))) lr) (lb (H.f0 _ _ _) fun _=>(li (lb (H.f12 _) fun _=>lr) lr)))
theorem SE{F:FsBuild}(H:LeFsBuild F):cg (DS F) jh:=fun t0 t1=>leh (b:=DS b6 t0 t1) (leq (by kernel_rfl)) (H.f7 _ _ _)
theorem SF{F:FsBuild}(H:LeFsBuild F):cJ (DT F) j1:=fun t0 t1 t5=>leh (b:=DT b6 t0 t1 t5) (leq (by kernel_rfl)) (li (li (li lr (H.f7 _ _ _)) lr) lr)
theorem QV{F:FsBuild}(H:LeFsBuild F):cJ (Ca F) mA:=fun t0 t1 t2=>leh (b:=Ca b6 t0 t1 t2) (leq (by kernel_rfl)) (lb (H.f0 _ _ _) fun _=>(li lr (li (li lr (H.f9 _ _ _ _ _)) lr)))
theorem QW{F:FsBuild}(H:LeFsBuild F):fP (Cb F) jT:=fun t0 t1 t2 t7 t8=>leh (b:=Cb b6 t0 t1 t2 t7 t8) (leq (by kernel_rfl)) (li (li (lb (H.f13 _ _ _ _) fun _=>(li lr (H.f9 _ _ _ _ _))) lr) lr)
theorem QA{F:FsBuild}(H:LeFsBuild F):cf (BM F) s_Build:=fun t0=>leh (b:=BM b6 t0) (leq (by kernel_rfl)) (lb (H.f19 _) fun _=>(li lr (lb (H.f21 _) fun _=>lr)))
theorem Sq{F:FsBuild}(_H:LeFsBuild F):cf (DE F) oA:=fun t0=>leh (b:=DE b6 t0) (leq (by kernel_rfl)) (li (li lr (li lr lr)) (li lr lr))
theorem QR{F:FsBuild}(H:LeFsBuild F):cf (B6 F) nV:=fun t0=>leh (b:=B6 b6 t0) (leq (by kernel_rfl)) (lb (H.f6 _ _) fun _=>(li lr (lb H.f26 fun _=>(lb (H.f6 _ _) fun _=>lr))))
theorem Rp{F:FsBuild}(H:LeFsBuild F):cB (CE F) om:=fun t0 t1 t2 t3=>leh (b:=CE b6 t0 t1 t2 t3) (leq (by kernel_rfl)) (li (lb (H.f18 _) fun _=>(li lr lr)) (li lr (li (H.f14 _ _ _ _ _ _) (li (H.f14 _ _ _ _ _ _) (H.f14 _ _ _ _ _ _)))))
theorem Rq{F:FsBuild}(H:LeFsBuild F):fQ (CF F) mC:=fun t1 t2 t3 t12 t28 s64=>leh (b:=CF b6 t1 t2 t3 t12 t28 s64) (leq (by kernel_rfl)) (li (li (li lr lr) lr) (li (H.f15 _ _ _ _ _) (li (H.f15 _ _ _ _ _) (li (H.f15 _ _ _ _ _) (H.f15 _ _ _ _ _)))))
theorem Rr{F:FsBuild}(H:LeFsBuild F):fP (CG F) kZ:=fun t1 t3 t12 t46 s64=>leh (b:=CG b6 t1 t3 t12 t46 s64) (leq (by kernel_rfl)) (li (li (li lr lr) lr) (li (H.f16 _ _ _ _) (H.f16 _ _ _ _)))
theorem Rs{F:FsBuild}(H:LeFsBuild F):cB (CH F) oo:=fun t1 t12 t65 s64=>leh (b:=CH b6 t1 t12 t65 s64) (leq (by kernel_rfl)) (li (lb (H.s_RexParse _) fun _=>(li lr lr)) (li (lb (H.f0 _ _ _) fun _=>(li (lb H.f26 fun _=>(lb (H.f6 _ _) fun _=>lr)) lr)) (li (H.f17 _ _ _ _) (H.f17 _ _ _ _))))
theorem Rt{F:FsBuild}(H:LeFsBuild F):cB (CI F) mD:=fun t1 t12 t91 s64=>leh (b:=CI b6 t1 t12 t91 s64) (leq (by kernel_rfl)) (li (lb (H.f0 _ _ _) fun _=>(li lr lr)) (li (lb (H.f0 _ _ _) fun _=>(li lr lr)) (lb (H.f0 _ _ _) fun _=>(li (li lr lr) lr))))
theorem QO{F:FsBuild}(H:LeFsBuild F):cf (B3 F) eU:=fun t0=>leh (b:=B3 b6 t0) (leq (by kernel_rfl)) (lb (H.f0 _ _ _) fun _=>lr)
theorem QX{F:FsBuild}(H:LeFsBuild F):cf (Cc F) nZ:=fun t0=>leh (b:=Cc b6 t0) (leq (by kernel_rfl)) (lb (H.f34 _) fun _=>(li lr (H.f20 _ _ _ _ _ _ _ _)))
theorem QY{F:FsBuild}(H:LeFsBuild F):qZ (Cd F) yN:=fun t4 t8 t9 s368_0 s368_1 s368_2 s368_3 s368_4=>leh (b:=Cd b6 t4 t8 t9 s368_0 s368_1 s368_2 s368_3 s368_4) (leq (by kernel_rfl)) (li (lb (H.f37 _) fun _=>(li (lb (H.f38 _) fun _=>(li (lb (H.f39 _) fun _=>(lb (H.f39 _) fun _=>(lb (H.f25 _ _) fun _=>(lb (H.f25 _ _) fun _=>(H.f20 _ _ _ _ _ _ _ _))))) lr)) (li lr (li lr lr)))) (li lr (li lr lr)))
theorem QG{F:FsBuild}(H:LeFsBuild F):cf (BS F) my:=fun t0=>leh (b:=BS b6 t0) (leq (by kernel_rfl)) (lb (H.f41 _) fun _=>(li lr (lb (H.f46 _) fun _=>(H.f22 _ _ _ _ _ _ _ _ _ _ _))))
theorem QH{F:FsBuild}(H:LeFsBuild F):Fz (BU F) yn:=fun t5 t6 t0 t9 s32 s432_0 s432_1 s432_2 s496_0 s496_1 s496_2=>leh (b:=BU b6 t5 t6 t0 t9 s32 s432_0 s432_1 s432_2 s496_0 s496_1 s496_2) (leq (by kernel_rfl)) (li (li (li (lb (H.f48 _ _ _ _) fun _=>(H.f22 _ _ _ _ _ _ _ _ _ _ _)) (li (lb (H.f48 _ _ _ _) fun _=>(H.f22 _ _ _ _ _ _ _ _ _ _ _)) (lb (H.f50 _ _ _ _) fun _=>(lb (H.f53 _ _ _ _ _ _) fun _=>(lb (H.f48 _ _ _ _) fun _=>(li (H.f22 _ _ _ _ _ _ _ _ _ _ _) lr)))))) lr) (lb (H.f53 _ _ _ _ _ _) fun _=>(lb (H.f53 _ _ _ _ _ _) fun _=>(lb (H.s_ProgOk _) fun _=>(li lr lr)))))
theorem Tt{F:FsBuild}(H:LeFsBuild F):cf (EH F) oB:=fun t0=>leh (b:=EH b6 t0) (leq (by kernel_rfl)) (H.f24 _ _)
theorem Tu{F:FsBuild}(H:LeFsBuild F):cg (EI F) mN:=fun t0 t3=>leh (b:=EI b6 t0 t3) (leq (by kernel_rfl)) (li (li (li lr (H.f24 _ _)) lr) lr)
theorem RM{F:FsBuild}(_H:LeFsBuild F):cg (C1 F) jc:=fun t0 t1=>leh (b:=C1 b6 t0 t1) (leq (by kernel_rfl)) (li lr lr)
theorem Sp{F:FsBuild}(_H:LeFsBuild F):Fw (DD F) mM:=leh (b:=DD b6 ) (leq (by kernel_rfl)) lr
theorem Q5{F:FsBuild}(H:LeFsBuild F):cf (Ci F) s_RexParse:=fun t0=>leh (b:=Ci b6 t0) (leq (by kernel_rfl)) (li lr (lb (H.f54 _ _) fun _=>(li lr (li lr (lb (H.f56 _) fun _=>(li lr lr))))))
theorem QI{F:FsBuild}(H:LeFsBuild F):cf (BV F) jQ:=fun t0=>leh (b:=BV b6 t0) (leq (by kernel_rfl)) (H.f29 _ _)
theorem QJ{F:FsBuild}(H:LeFsBuild F):cg (BW F) kW:=fun t0 t4=>leh (b:=BW b6 t0 t4) (leq (by kernel_rfl)) (li (li (li (H.f29 _ _) (li (li (li (li (li (H.f30 _ _ _) (li (li (H.f30 _ _ _) (H.f30 _ _ _)) lr)) lr) (H.f30 _ _ _)) lr) (li (li (li (H.f30 _ _ _) (li (li (H.f30 _ _ _) (H.f30 _ _ _)) lr)) lr) (H.f30 _ _ _)))) lr) (li (li (li (li (li (H.f30 _ _ _) (li (li (H.f30 _ _ _) (H.f30 _ _ _)) lr)) lr) (H.f30 _ _ _)) lr) (li (li (li (H.f30 _ _ _) (li (li (H.f30 _ _ _) (H.f30 _ _ _)) lr)) lr) (H.f30 _ _ _))))
theorem QK{F:FsBuild}(H:LeFsBuild F):cJ (BX F) em:=fun t0 t4 t5=>leh (b:=BX b6 t0 t4 t5) (leq (by kernel_rfl)) (H.f31 _ _ _ _ _)
theorem QL{F:FsBuild}(H:LeFsBuild F):fP (BZ F) jR:=fun t0 t4 t5 t6 t7=>leh (b:=BZ b6 t0 t4 t5 t6 t7) (leq (by kernel_rfl)) (li (li (lb (H.f58 _) fun _=>(li (li (li (H.f31 _ _ _ _ _) lr) (H.f31 _ _ _ _ _)) (li (li (li (li (lb (H.f58 _) fun _=>(li (H.f32 _ _ _ _ _ _) (H.f33 _ _ _ _))) lr) (H.f33 _ _ _ _)) lr) (H.f33 _ _ _ _)))) lr) (li (li (li (li (lb (H.f58 _) fun _=>(li (H.f32 _ _ _ _ _ _) (H.f33 _ _ _ _))) lr) (H.f33 _ _ _ _)) lr) (H.f33 _ _ _ _)))
theorem QM{F:FsBuild}(H:LeFsBuild F):fQ (B0 F) i5:=fun t0 t4 t5 t6 t7 t8=>leh (b:=B0 b6 t0 t4 t5 t6 t7 t8) (leq (by kernel_rfl)) (li (li (lb (H.f58 _) fun _=>(li (li (H.f32 _ _ _ _ _ _) lr) (H.f33 _ _ _ _))) lr) (H.f33 _ _ _ _))
theorem QN{F:FsBuild}(_H:LeFsBuild F):cB (B1 F) eT:=fun t4 t5 t6 t7=>leh (b:=B1 b6 t4 t5 t6 t7) (leq (by kernel_rfl)) (li lr (li lr (li lr lr)))
theorem Q8{F:FsBuild}(H:LeFsBuild F):cf (Cl F) yU:=fun t0=>leh (b:=Cl b6 t0) (leq (by kernel_rfl)) (li lr (H.f35 _ _ _))
theorem Q9{F:FsBuild}(H:LeFsBuild F):cJ (Cm F) yV:=fun t0 t4 t5=>leh (b:=Cm b6 t0 t4 t5) (leq (by kernel_rfl)) (li (li (li (H.f35 _ _ _) (li (li (H.f35 _ _ _) (li (li (H.f36 _ _ _) (lb (H.f59 _ _ _) fun _=>(li lr (li (H.f35 _ _ _) lr)))) lr)) lr)) lr) (li lr lr))
theorem Ra{F:FsBuild}(H:LeFsBuild F):cJ (Cn F) yW:=fun t0 t4 t5=>leh (b:=Cn b6 t0 t4 t5) (leq (by kernel_rfl)) (li (li (li (H.f36 _ _ _) (H.f35 _ _ _)) lr) (H.f35 _ _ _))
theorem S7{F:FsBuild}(_H:LeFsBuild F):cf (Ej F) A9:=fun s0=>leh (b:=Ej b6 s0) (leq (by kernel_rfl)) (li lr lr)
theorem Ta{F:FsBuild}(H:LeFsBuild F):cf (Em F) Bc:=fun s0=>leh (b:=Em b6 s0) (leq (by kernel_rfl)) (lb (H.f61 _ _) fun _=>(li (lb (H.f62 _) fun _=>(lb (H.f63 _) fun _=>lr)) (lb (H.f65 _ _) fun _=>(li (lb (H.f63 _) fun _=>lr) (lb (H.f66 _) fun _=>(lb (H.f65 _ _) fun _=>(li (lb (H.f63 _) fun _=>lr) (lb (H.f68 _ _) fun _=>lr))))))))
theorem QP{F:FsBuild}(H:LeFsBuild F):cf (B4 F) yv:=fun t0=>leh (b:=B4 b6 t0) (leq (by kernel_rfl)) (H.f40 _ _ _)
theorem QQ{F:FsBuild}(H:LeFsBuild F):cJ (B5 F) yw:=fun t3 t4 s16=>leh (b:=B5 b6 t3 t4 s16) (leq (by kernel_rfl)) (li (li (lb (H.f39 _) fun _=>(lb (H.f25 _ _) fun _=>(H.f40 _ _ _))) lr) lr)
theorem QB{F:FsBuild}(H:LeFsBuild F):cf (BN F) yg:=fun t0=>leh (b:=BN b6 t0) (leq (by kernel_rfl)) (lb (H.f69 _) fun _=>(li lr (H.f42 _ _)))
theorem QC{F:FsBuild}(H:LeFsBuild F):cg (BO F) yh:=fun t0 t3=>leh (b:=BO b6 t0 t3) (leq (by kernel_rfl)) (li (li (li (li lr (li (lb (H.f71 _) fun _=>(li lr (H.f42 _ _))) lr)) (H.f42 _ _)) lr) (lb (H.f46 _) fun _=>(li lr (li lr (H.f43 _ _ _ _)))))
theorem QD{F:FsBuild}(H:LeFsBuild F):cB (BP F) yi:=fun t0 t4 t5 t6=>leh (b:=BP b6 t0 t4 t5 t6) (leq (by kernel_rfl)) (li (li (lb (H.f6 _ _) fun _=>(li lr (H.f43 _ _ _ _))) lr) (H.f44 _ _))
theorem QE{F:FsBuild}(H:LeFsBuild F):cg (BQ F) yj:=fun t0 t7=>leh (b:=BQ b6 t0 t7) (leq (by kernel_rfl)) (li (li (lb (H.f73 _) fun _=>(li lr (li (lb (H.f73 _) fun _=>(li lr (H.f44 _ _))) lr))) lr) (H.f45 _ _))
theorem QF{F:FsBuild}(H:LeFsBuild F):cg (BR F) yk:=fun t0 t8=>leh (b:=BR b6 t0 t8) (leq (by kernel_rfl)) (li (li (lb (H.f76 _) fun _=>(li lr (li (lb (H.f76 _) fun _=>(li lr (H.f45 _ _))) lr))) lr) lr)
theorem QS{F:FsBuild}(H:LeFsBuild F):cf (B7 F) yK:=fun t0=>leh (b:=B7 b6 t0) (leq (by kernel_rfl)) (H.f47 _ _ _ _)
theorem QT{F:FsBuild}(H:LeFsBuild F):cB (B8 F) yL:=fun t0 t4 t5 t6=>leh (b:=B8 b6 t0 t4 t5 t6) (leq (by kernel_rfl)) (li (li (lb (H.f78 _ _ _) fun _=>(li (lb (H.f78 _ _ _) fun _=>(H.f47 _ _ _ _)) lr)) lr) lr)
theorem Rv{F:FsBuild}(H:LeFsBuild F):cB (CK F) zt:=fun s0_0 s0_1 s0_2 t1=>leh (b:=CK b6 s0_0 s0_1 s0_2 t1) (leq (by kernel_rfl)) (H.f49 _ _ _ _ _)
theorem Rw{F:FsBuild}(H:LeFsBuild F):fP (CL F) zu:=fun t4 s0_0 s0_1 s0_2 s48=>leh (b:=CL b6 t4 s0_0 s0_1 s0_2 s48) (leq (by kernel_rfl)) (li (li (lb (H.f81 _ _ _ _) fun _=>(H.f49 _ _ _ _ _)) lr) lr)
theorem Rx{F:FsBuild}(H:LeFsBuild F):cB (CM F) zw:=fun s0_0 s0_1 s0_2 t1=>leh (b:=CM b6 s0_0 s0_1 s0_2 t1) (leq (by kernel_rfl)) (li (H.f51 _ _ _ _ _ _) (H.f51 _ _ _ _ _ _))
theorem Ry{F:FsBuild}(H:LeFsBuild F):fQ (CN F) zx:=fun t6 t24 s0_0 s0_1 s0_2 s48=>leh (b:=CN b6 t6 t24 s0_0 s0_1 s0_2 s48) (leq (by kernel_rfl)) (li (lb (H.f82 _ _ _ _) fun _=>lr) (li (lb (H.f83 _ _ _ _) fun _=>lr) (li (lb (H.f84 _ _ _ _) fun _=>lr) (li (li (lb (H.f50 _ _ _ _) fun _=>(li (lb (H.f53 _ _ _ _ _ _) fun _=>lr) lr)) lr) (H.f52 _ _ _ _ _)))))
theorem Rz{F:FsBuild}(H:LeFsBuild F):fP (CO F) zy:=fun t4 s0_0 s0_1 s0_2 s48=>leh (b:=CO b6 t4 s0_0 s0_1 s0_2 s48) (leq (by kernel_rfl)) (li (li (lb (H.f50 _ _ _ _) fun _=>(H.f52 _ _ _ _ _)) lr) (lb (H.f85 _ _ _ _) fun _=>lr))
theorem RG{F:FsBuild}(_H:LeFsBuild F):fQ (CV F) zF:=fun s0_0 s0_1 s0_2 t1 t2 t3=>leh (b:=CV b6 s0_0 s0_1 s0_2 t1 t2 t3) (leq (by kernel_rfl)) (li lr lr)
theorem RV{F:FsBuild}(H:LeFsBuild F):cg (Da F) jf:=fun s0 t1=>leh (b:=Da b6 s0 t1) (leq (by kernel_rfl)) (lb (H.f86 _ _) fun _=>(H.f55 _ _ _ _))
theorem RW{F:FsBuild}(H:LeFsBuild F):cB (Db F) lk:=fun t1 t5 s0 s64=>leh (b:=Db b6 t1 t5 s0 s64) (leq (by kernel_rfl)) (lb (H.f88 _ _) fun _=>(li (lb (H.f86 _ _) fun _=>(li (H.f55 _ _ _ _) lr)) (li (li lr lr) lr)))
theorem RQ{F:FsBuild}(H:LeFsBuild F):cf (C5 F) mG:=fun t0=>leh (b:=C5 b6 t0) (leq (by kernel_rfl)) (H.f57 _ _ _)
theorem RR{F:FsBuild}(H:LeFsBuild F):cJ (C6 F) mH:=fun t3 t4 s16=>leh (b:=C6 b6 t3 t4 s16) (leq (by kernel_rfl)) (li (li (lb (H.f56 _) fun _=>(lb (H.f25 _ _) fun _=>(H.f57 _ _ _))) lr) lr)
theorem RN{F:FsBuild}(_H:LeFsBuild F):cf (C2 F) jd:=fun t0=>leh (b:=C2 b6 t0) (leq (by kernel_rfl)) (li lr lr)
theorem Sw{F:FsBuild}(H:LeFsBuild F):cJ (DJ F) AB:=fun t0 t1 t2=>leh (b:=DJ b6 t0 t1 t2) (leq (by kernel_rfl)) (li (lb (H.f11 _) fun _=>(li (H.f60 _ _ _ _) (lb (H.f58 _) fun _=>(li (lb (H.f89 _ _) fun _=>lr) (li (lb (H.f93 _ _) fun _=>lr) (li (lb (H.f95 _) fun _=>(li (lb (H.f96 _ _) fun _=>lr) (lb (H.f98 _ _) fun _=>lr))) (lb (H.f98 _ _) fun _=>lr))))))) lr)
theorem Sx{F:FsBuild}(H:LeFsBuild F):cB (DK F) AC:=fun t0 t1 t10 s96=>leh (b:=DK b6 t0 t1 t10 s96) (leq (by kernel_rfl)) (li (li (lb (H.f11 _) fun _=>(li (H.f60 _ _ _ _) (li lr lr))) lr) (li lr lr))
theorem SS{F:FsBuild}(H:LeFsBuild F):cg (D9 F) AZ:=fun s0 t1=>leh (b:=D9 b6 s0 t1) (leq (by kernel_rfl)) (lb (H.f37 _) fun _=>(li (li lr lr) lr))
theorem S6{F:FsBuild}(_H:LeFsBuild F):cf (Ei F) A8:=fun s0=>leh (b:=Ei b6 s0) (leq (by kernel_rfl)) (li lr lr)
theorem SK{F:FsBuild}(H:LeFsBuild F):cf (DZ F) AP:=fun s0=>leh (b:=DZ b6 s0) (leq (by kernel_rfl)) (lb (H.f100 _ _) fun _=>(H.f64 _ _ _ _ _ _ _ _ _))
theorem SL{F:FsBuild}(H:LeFsBuild F):q8 (D0 F) AQ:=fun s0 s32_0 s32_1 s32_2 s32_3 s48_0 s48_1 s48_2 s48_3=>leh (b:=D0 b6 s0 s32_0 s32_1 s32_2 s32_3 s48_0 s48_1 s48_2 s48_3) (leq (by kernel_rfl)) (li (lb (H.f65 _ _) fun _=>(li (lb (H.f65 _ _) fun _=>(li (lb (H.f62 _) fun _=>(H.f64 _ _ _ _ _ _ _ _ _)) (lb (H.f101 _) fun _=>(li (H.f64 _ _ _ _ _ _ _ _ _) lr)))) (lb (H.f100 _ _) fun _=>lr))) (lb (H.f100 _ _) fun _=>lr))
theorem Tb{F:FsBuild}(H:LeFsBuild F):cg (En F) Bd:=fun s0 t1=>leh (b:=En b6 s0 t1) (leq (by kernel_rfl)) (lb (H.f37 _) fun _=>(li (li lr lr) lr))
theorem SO{F:FsBuild}(H:LeFsBuild F):cf (D5 F) AV:=fun s0=>leh (b:=D5 b6 s0) (leq (by kernel_rfl)) (lb (H.f37 _) fun _=>(li (li (lb (H.f12 _) fun _=>(li (lb (H.f102 _) fun _=>(lb (H.f65 _ _) fun _=>(li (H.f67 _ _ _ _ _ _ _) (lb (H.f65 _ _) fun _=>(li (H.f67 _ _ _ _ _ _ _) (H.f67 _ _ _ _ _ _ _)))))) (lb (H.f103 _ _) fun _=>lr))) (lb (H.f103 _ _) fun _=>lr)) (lb (H.f103 _ _) fun _=>lr)))
theorem SP{F:FsBuild}(H:LeFsBuild F):gG (D6 F) AW:=fun t5 s0 s32_0 s32_1 s32_2 s32_3 s64=>leh (b:=D6 b6 t5 s0 s32_0 s32_1 s32_2 s32_3 s64) (leq (by kernel_rfl)) (li (lb (H.f62 _) fun _=>(lb (H.f66 _) fun _=>(lb (H.f68 _ _) fun _=>lr))) (lb (H.f103 _ _) fun _=>lr))
theorem ST{F:FsBuild}(_H:LeFsBuild F):cg (Ea F) A0:=fun t0 t1=>leh (b:=Ea b6 t0 t1) (leq (by kernel_rfl)) (li lr lr)
theorem Q6{F:FsBuild}(H:LeFsBuild F):cf (Cj F) yS:=fun t0=>leh (b:=Cj b6 t0) (leq (by kernel_rfl)) (H.f70 _ _)
theorem Q7{F:FsBuild}(H:LeFsBuild F):cg (Ck F) yT:=fun t0 t3=>leh (b:=Ck b6 t0 t3) (leq (by kernel_rfl)) (li (li (li (li (li (lb (H.f0 _ _ _) fun _=>(li (li (li lr (lb (H.f39 _) fun _=>(li lr (lb (H.f104 _) fun _=>(li lr (H.f70 _ _)))))) (li (lb (H.f106 _) fun _=>(li (lb (H.f104 _) fun _=>(li (lb (H.f39 _) fun _=>(li lr (li lr (lb (H.f39 _) fun _=>(li lr (lb (H.f104 _) fun _=>(li lr (H.f70 _ _)))))))) lr)) lr)) lr)) (li (lb (H.f106 _) fun _=>(li (lb (H.f104 _) fun _=>(li (lb (H.f39 _) fun _=>(li lr (li lr (lb (H.f39 _) fun _=>(li lr (lb (H.f104 _) fun _=>(li lr (H.f70 _ _)))))))) lr)) lr)) lr))) (lb (H.f0 _ _ _) fun _=>(li (li (lb (H.f106 _) fun _=>(li (lb (H.f104 _) fun _=>(li (lb (H.f39 _) fun _=>(li lr (li lr (lb (H.f39 _) fun _=>(li lr (lb (H.f104 _) fun _=>(li lr (H.f70 _ _)))))))) lr)) lr)) lr) (li (lb (H.f106 _) fun _=>(li (lb (H.f104 _) fun _=>(li (lb (H.f39 _) fun _=>(li lr (li lr (lb (H.f39 _) fun _=>(li lr (lb (H.f104 _) fun _=>(li lr (H.f70 _ _)))))))) lr)) lr)) lr)))) (lb (H.f0 _ _ _) fun _=>(li (li (lb (H.f106 _) fun _=>(li (lb (H.f104 _) fun _=>(li (lb (H.f39 _) fun _=>(li lr (li lr (lb (H.f39 _) fun _=>(li lr (lb (H.f104 _) fun _=>(li lr (H.f70 _ _)))))))) lr)) lr)) lr) (li (lb (H.f106 _) fun _=>(li (lb (H.f104 _) fun _=>(li (lb (H.f39 _) fun _=>(li lr (li lr (lb (H.f39 _) fun _=>(li lr (lb (H.f104 _) fun _=>(li lr (H.f70 _ _)))))))) lr)) lr)) lr)))) (lb (H.f0 _ _ _) fun _=>(li (li (lb (H.f106 _) fun _=>(li (lb (H.f104 _) fun _=>(li (lb (H.f39 _) fun _=>(li lr (li lr (lb (H.f39 _) fun _=>(li lr (lb (H.f104 _) fun _=>(li lr (H.f70 _ _)))))))) lr)) lr)) lr) (li (lb (H.f106 _) fun _=>(li (lb (H.f104 _) fun _=>(li (lb (H.f39 _) fun _=>(li lr (li lr (lb (H.f39 _) fun _=>(li lr (lb (H.f104 _) fun _=>(li lr (H.f70 _ _)))))))) lr)) lr)) lr)))) lr) lr)
theorem Re{F:FsBuild}(H:LeFsBuild F):cf (Cs F) y6:=fun t0=>leh (b:=Cs b6 t0) (leq (by kernel_rfl)) (li lr (li lr (li lr (li lr (li lr (H.f72 _ _))))))
theorem Rf{F:FsBuild}(H:LeFsBuild F):cg (Ct F) y7:=fun t3 s16=>leh (b:=Ct b6 t3 s16) (leq (by kernel_rfl)) (li (li (li (li (li (H.f72 _ _) (li (lb (H.f71 _) fun _=>(li lr (H.f72 _ _))) lr)) lr) (li (lb (H.f71 _) fun _=>(li lr (H.f72 _ _))) lr)) (li (lb (H.f71 _) fun _=>(li lr (H.f72 _ _))) lr)) lr)
theorem Rb{F:FsBuild}(H:LeFsBuild F):cf (Cp F) yX:=fun t0=>leh (b:=Cp b6 t0) (leq (by kernel_rfl)) (li (li (li lr (H.f74 _ _)) (li (li (li lr (H.f74 _ _)) (H.f74 _ _)) (li lr (H.f74 _ _)))) (H.f74 _ _))
theorem Rc{F:FsBuild}(H:LeFsBuild F):cg (Cq F) yY:=fun t3 s16=>leh (b:=Cq b6 t3 s16) (leq (by kernel_rfl)) (H.f75 _ _ _)
theorem Rd{F:FsBuild}(H:LeFsBuild F):cJ (Cr F) yZ:=fun t3 t4 s16=>leh (b:=Cr b6 t3 t4 s16) (leq (by kernel_rfl)) (li (li (lb (H.f73 _) fun _=>(li lr (H.f75 _ _ _))) lr) lr)
theorem Rl{F:FsBuild}(H:LeFsBuild F):cf (CA F) zd:=fun t0=>leh (b:=CA b6 t0) (leq (by kernel_rfl)) (li (lb (H.s_RexParse _) fun _=>lr) (li (li (li lr (H.f77 _ _)) lr) (H.f77 _ _)))
theorem Rm{F:FsBuild}(H:LeFsBuild F):cg (CB F) ze:=fun t5 s16=>leh (b:=CB b6 t5 s16) (leq (by kernel_rfl)) (li (li (lb (H.f76 _) fun _=>(li lr (H.f77 _ _))) lr) lr)
theorem Rg{F:FsBuild}(H:LeFsBuild F):cJ (Cu F) y8:=fun t0 t1 t2=>leh (b:=Cu b6 t0 t1 t2) (leq (by kernel_rfl)) (li (lb (H.f107 _ _) fun _=>(H.f79 _ _ _)) (li (li (lb (H.f107 _ _) fun _=>(H.f79 _ _ _)) (H.f79 _ _ _)) (li (lb (H.f107 _ _) fun _=>(H.f79 _ _ _)) (H.f79 _ _ _))))
theorem Rh{F:FsBuild}(H:LeFsBuild F):cJ (Cv F) y9:=fun t1 t2 s48=>leh (b:=Cv b6 t1 t2 s48) (leq (by kernel_rfl)) (H.f80 _ _ _ _)
theorem Ri{F:FsBuild}(H:LeFsBuild F):cB (Cw F) za:=fun t1 t2 t8 s48=>leh (b:=Cw b6 t1 t2 t8 s48) (leq (by kernel_rfl)) (li (li (lb (H.f78 _ _ _) fun _=>(H.f80 _ _ _ _)) lr) lr)
theorem RI{F:FsBuild}(H:LeFsBuild F):cB (CX F) zH:=fun s0_0 s0_1 s0_2 t1=>leh (b:=CX b6 s0_0 s0_1 s0_2 t1) (leq (by kernel_rfl)) (li (lb (H.f48 _ _ _ _) fun _=>lr) (li (lb (H.f109 _ _ _ _) fun _=>lr) (li (lb (H.f112 _ _ _ _) fun _=>lr) (li (lb (H.f113 _ _ _ _) fun _=>lr) (li (lb (H.f53 _ _ _ _ _ _) fun _=>lr) (li (li (lb (H.f50 _ _ _ _) fun _=>(lb (H.f114 _ _) fun _=>(lb (H.f53 _ _ _ _ _ _) fun _=>lr))) lr) (li (lb (H.f50 _ _ _ _) fun _=>(lb (H.f53 _ _ _ _ _ _) fun _=>lr)) lr)))))))
theorem RH{F:FsBuild}(H:LeFsBuild F):cB (CW F) zG:=fun s0_0 s0_1 s0_2 t1=>leh (b:=CW b6 s0_0 s0_1 s0_2 t1) (leq (by kernel_rfl)) (li (lb (H.f116 _) fun _=>(li (li (lb (H.f50 _ _ _ _) fun _=>(lb (H.f114 _ _) fun _=>(lb (H.f53 _ _ _ _ _ _) fun _=>lr))) lr) (li (lb (H.f50 _ _ _ _) fun _=>(li (lb (H.f50 _ _ _ _) fun _=>(lb (H.f114 _ _) fun _=>(lb (H.f53 _ _ _ _ _ _) fun _=>lr))) lr)) lr))) lr)
theorem Ru{F:FsBuild}(H:LeFsBuild F):cB (CJ F) zr:=fun s0_0 s0_1 s0_2 t1=>leh (b:=CJ b6 s0_0 s0_1 s0_2 t1) (leq (by kernel_rfl)) (li (lb (H.f50 _ _ _ _) fun _=>(lb (H.f53 _ _ _ _ _ _) fun _=>(li (lb (H.f50 _ _ _ _) fun _=>(lb (H.f53 _ _ _ _ _ _) fun _=>(lb (H.f53 _ _ _ _ _ _) fun _=>(li (lb (H.f53 _ _ _ _ _ _) fun _=>(li lr lr)) lr)))) lr))) lr)
theorem RC{F:FsBuild}(H:LeFsBuild F):cB (CR F) zB:=fun s0_0 s0_1 s0_2 t1=>leh (b:=CR b6 s0_0 s0_1 s0_2 t1) (leq (by kernel_rfl)) (li (lb (H.f50 _ _ _ _) fun _=>(lb (H.f53 _ _ _ _ _ _) fun _=>(lb (H.f53 _ _ _ _ _ _) fun _=>(lb (H.f53 _ _ _ _ _ _) fun _=>(li (li (lb (H.f50 _ _ _ _) fun _=>(lb (H.f53 _ _ _ _ _ _) fun _=>(li lr lr))) lr) lr))))) lr)
theorem RB{F:FsBuild}(H:LeFsBuild F):cB (CQ F) zA:=fun s0_0 s0_1 s0_2 t1=>leh (b:=CQ b6 s0_0 s0_1 s0_2 t1) (leq (by kernel_rfl)) (li (lb (H.f53 _ _ _ _ _ _) fun _=>lr) (li (lb (H.f53 _ _ _ _ _ _) fun _=>lr) (li (lb (H.f53 _ _ _ _ _ _) fun _=>lr) (li (lb (H.f114 _ _) fun _=>(lb (H.f53 _ _ _ _ _ _) fun _=>lr)) (li (lb (H.f114 _ _) fun _=>(lb (H.f53 _ _ _ _ _ _) fun _=>lr)) (li (lb (H.f53 _ _ _ _ _ _) fun _=>lr) (li (lb (H.f53 _ _ _ _ _ _) fun _=>lr) (li (lb (H.f53 _ _ _ _ _ _) fun _=>lr) (li (lb (H.f53 _ _ _ _ _ _) fun _=>lr) (li (lb (H.f53 _ _ _ _ _ _) fun _=>lr) (li (lb (H.f53 _ _ _ _ _ _) fun _=>lr) (lb (H.f53 _ _ _ _ _ _) fun _=>lr))))))))))))
theorem RT{F:FsBuild}(H:LeFsBuild F):cg (C8 F) lh:=fun s0 t1=>leh (b:=C8 b6 s0 t1) (leq (by kernel_rfl)) (H.f87 _ _ _ _)
theorem RU{F:FsBuild}(H:LeFsBuild F):cB (C9 F) lj:=fun t1 t5 s0 s64=>leh (b:=C9 b6 t1 t5 s0 s64) (leq (by kernel_rfl)) (li (li (li (li (li (li (lb (H.f117 _ _) fun _=>(li (H.f87 _ _ _ _) lr)) (li lr (li (li lr lr) lr))) lr) (li lr (li (li lr lr) lr))) lr) (li lr (li (li lr lr) lr))) (li lr (li (li lr lr) lr)))
theorem RS{F:FsBuild}(_H:LeFsBuild F):cg (C7 F) ge:=fun s0 t1=>leh (b:=C7 b6 s0 t1) (leq (by kernel_rfl)) (li (li (li lr lr) lr) lr)
theorem Sr{F:FsBuild}(H:LeFsBuild F):cg (DF F) Ax:=fun t0 t1=>leh (b:=DF b6 t0 t1) (leq (by kernel_rfl)) (H.f90 _ _ _)
theorem Ss{F:FsBuild}(H:LeFsBuild F):cJ (DG F) Ay:=fun t0 t1 t7=>leh (b:=DG b6 t0 t1 t7) (leq (by kernel_rfl)) (li (li (lb (H.f58 _) fun _=>(li (H.f90 _ _ _) (li (li (li (li (lb (H.f58 _) fun _=>(li (H.f91 _ _ _ _) (H.f92 _ _ _))) lr) (H.f92 _ _ _)) lr) (H.f92 _ _ _)))) lr) (li (li (li (li (lb (H.f58 _) fun _=>(li (H.f91 _ _ _ _) (H.f92 _ _ _))) lr) (H.f92 _ _ _)) lr) (H.f92 _ _ _)))
theorem Su{F:FsBuild}(H:LeFsBuild F):cB (DH F) Az:=fun t0 t1 t7 t8=>leh (b:=DH b6 t0 t1 t7 t8) (leq (by kernel_rfl)) (li (li (lb (H.f58 _) fun _=>(li (H.f91 _ _ _ _) (li lr (H.f92 _ _ _)))) lr) (li lr (H.f92 _ _ _)))
theorem Sv{F:FsBuild}(H:LeFsBuild F):cJ (DI F) AA:=fun t0 t1 t7=>leh (b:=DI b6 t0 t1 t7) (leq (by kernel_rfl)) (li (lb (H.f28 _) fun _=>lr) lr)
theorem SC{F:FsBuild}(H:LeFsBuild F):cg (DQ F) AJ:=fun t0 t1=>leh (b:=DQ b6 t0 t1) (leq (by kernel_rfl)) (H.f94 _ _ _)
theorem SD{F:FsBuild}(H:LeFsBuild F):cJ (DR F) AK:=fun t0 t7 t8=>leh (b:=DR b6 t0 t7 t8) (leq (by kernel_rfl)) (li (li (li lr (li lr (li (li lr (li (li lr (li (li (H.f94 _ _ _) lr) lr)) lr)) (li (li (H.f94 _ _ _) lr) lr)))) lr) lr)
theorem So{F:FsBuild}(H:LeFsBuild F):cf (DC F) Av:=fun t0=>leh (b:=DC b6 t0) (leq (by kernel_rfl)) (li lr (li (li (li lr (li lr (lb (H.f0 _ _ _) fun _=>lr))) (lb (H.f0 _ _ _) fun _=>lr)) lr))
theorem Sy{F:FsBuild}(H:LeFsBuild F):cg (DL F) AE:=fun t0 t1=>leh (b:=DL b6 t0 t1) (leq (by kernel_rfl)) (H.f97 _ _ _)
theorem Sz{F:FsBuild}(H:LeFsBuild F):cJ (DM F) AF:=fun t0 t7 t8=>leh (b:=DM b6 t0 t7 t8) (leq (by kernel_rfl)) (li (li (li lr (li lr (li (li lr (li (li lr (li (li (li (li (li (li (H.f97 _ _ _) lr) lr) lr) lr) (li (li (H.f97 _ _ _) lr) lr)) lr)) lr)) (li (li (H.f97 _ _ _) lr) lr)))) lr) lr)
theorem SA{F:FsBuild}(H:LeFsBuild F):cg (DN F) AG:=fun t0 t1=>leh (b:=DN b6 t0 t1) (leq (by kernel_rfl)) (H.f99 _ _ _ _)
theorem SB{F:FsBuild}(H:LeFsBuild F):cB (DP F) AH:=fun t0 t1 t5 t6=>leh (b:=DP b6 t0 t1 t5 t6) (leq (by kernel_rfl)) (li (li (li (li (li (li (li lr lr) (H.f99 _ _ _ _)) lr) lr) (H.f99 _ _ _ _)) lr) lr)
theorem Tf{F:FsBuild}(H:LeFsBuild F):cg (Es F) Bh:=fun s0 t1=>leh (b:=Es b6 s0 t1) (leq (by kernel_rfl)) (lb (H.f65 _ _) fun _=>(li (lb (H.f120 _) fun _=>lr) (lb (H.f62 _) fun _=>lr)))
theorem Te{F:FsBuild}(H:LeFsBuild F):cf (Er F) Bg:=fun s0=>leh (b:=Er b6 s0) (leq (by kernel_rfl)) (lb (H.f61 _ _) fun _=>(li (lb (H.f121 _ _) fun _=>lr) (lb (H.f61 _ _) fun _=>(li (lb (H.f121 _ _) fun _=>lr) (lb (H.f65 _ _) fun _=>(li (lb (H.f63 _) fun _=>lr) (lb (H.f122 _) fun _=>(lb (H.f65 _ _) fun _=>(li (lb (H.f100 _ _) fun _=>lr) lr)))))))))
theorem S5{F:FsBuild}(H:LeFsBuild F):cf (Eh F) A7:=fun s0=>leh (b:=Eh b6 s0) (leq (by kernel_rfl)) (lb (H.f37 _) fun _=>(lb (H.f61 _ _) fun _=>(li (lb (H.f62 _) fun _=>lr) (lb (H.f61 _ _) fun _=>(li (lb (H.f62 _) fun _=>lr) (li (lb H.f26 fun _=>(lb (H.f6 _ _) fun _=>(li (lb (H.f62 _) fun _=>(lb (H.f100 _ _) fun _=>(lb (H.f124 _ _) fun _=>(lb (H.f100 _ _) fun _=>lr)))) (lb (H.f126 _) fun _=>(lb (H.f65 _ _) fun _=>(li lr (lb (H.f62 _) fun _=>(lb (H.f66 _) fun _=>(lb (H.f100 _ _) fun _=>lr))))))))) (lb (H.f126 _) fun _=>(lb (H.f65 _ _) fun _=>(li lr (lb (H.f62 _) fun _=>(lb (H.f66 _) fun _=>(lb (H.f100 _ _) fun _=>lr))))))))))))
theorem SZ{F:FsBuild}(H:LeFsBuild F):cg (Ef F) A5:=fun s0 t1=>leh (b:=Ef b6 s0 t1) (leq (by kernel_rfl)) (li (lb (H.f127 _) fun _=>lr) (li (lb (H.f129 _) fun _=>lr) (li (lb (H.f131 _) fun _=>lr) (lb (H.f132 _ _) fun _=>lr))))
theorem Tx{F:FsBuild}(H:LeFsBuild F):cf (EL F) Bx:=fun t0=>leh (b:=EL b6 t0) (leq (by kernel_rfl)) (lb (H.f136 _) fun _=>(li lr (lb (H.f0 _ _ _) fun _=>(li lr (li (li lr (li (li (lb (H.f0 _ _ _) fun _=>lr) lr) (li (lb (H.f23 _) fun _=>lr) (li (lb (H.f142 _) fun _=>lr) (li (H.f105 _ _ _) (li (H.f105 _ _ _) (H.f105 _ _ _))))))) (li (li (lb (H.f0 _ _ _) fun _=>lr) lr) (li (lb (H.f23 _) fun _=>lr) (li (lb (H.f142 _) fun _=>lr) (li (H.f105 _ _ _) (li (H.f105 _ _ _) (H.f105 _ _ _)))))))))))
theorem Ty{F:FsBuild}(H:LeFsBuild F):cJ (EM F) Bz:=fun t23 t44 s16=>leh (b:=EM b6 t23 t44 s16) (leq (by kernel_rfl)) (li (lb (H.f4 _) fun _=>lr) (li (lb H.f26 fun _=>(lb (H.f6 _ _) fun _=>lr)) lr))
theorem Tm{F:FsBuild}(H:LeFsBuild F):cf (EA F) Bo:=fun t0=>leh (b:=EA b6 t0) (leq (by kernel_rfl)) (lb (H.f0 _ _ _) fun _=>lr)
theorem Rj{F:FsBuild}(H:LeFsBuild F):cg (Cy F) zb:=fun t0 t1=>leh (b:=Cy b6 t0 t1) (leq (by kernel_rfl)) (lb (H.f6 _ _) fun _=>(li lr (H.f108 _ _ _)))
theorem Rk{F:FsBuild}(H:LeFsBuild F):cJ (Cz F) zc:=fun t0 t1 t5=>leh (b:=Cz b6 t0 t1 t5) (leq (by kernel_rfl)) (li (li (li (H.f108 _ _ _) (li (li (li (li (li lr lr) lr) lr) lr) lr)) lr) (li (li (li (li (li lr lr) lr) lr) lr) lr))
theorem RD{F:FsBuild}(H:LeFsBuild F):cB (CS F) zC:=fun s0_0 s0_1 s0_2 t1=>leh (b:=CS b6 s0_0 s0_1 s0_2 t1) (leq (by kernel_rfl)) (li (lb (H.f53 _ _ _ _ _ _) fun _=>(lb (H.f53 _ _ _ _ _ _) fun _=>(lb (H.f53 _ _ _ _ _ _) fun _=>(H.f110 _ _ _ _)))) (H.f110 _ _ _ _))
theorem RE{F:FsBuild}(H:LeFsBuild F):cB (CT F) zD:=fun s0_0 s0_1 s0_2 s48=>leh (b:=CT b6 s0_0 s0_1 s0_2 s48) (leq (by kernel_rfl)) (H.f111 _ _ _ _ _)
theorem RF{F:FsBuild}(H:LeFsBuild F):fP (CU F) zE:=fun t4 s0_0 s0_1 s0_2 s48=>leh (b:=CU b6 t4 s0_0 s0_1 s0_2 s48) (leq (by kernel_rfl)) (li (li (lb (H.f50 _ _ _ _) fun _=>(lb (H.f116 _) fun _=>(lb (H.f53 _ _ _ _ _ _) fun _=>(H.f111 _ _ _ _ _)))) lr) (lb (H.f53 _ _ _ _ _ _) fun _=>lr))
theorem RA{F:FsBuild}(H:LeFsBuild F):cB (CP F) zz:=fun s0_0 s0_1 s0_2 t1=>leh (b:=CP b6 s0_0 s0_1 s0_2 t1) (leq (by kernel_rfl)) (li (lb (H.f50 _ _ _ _) fun _=>(lb (H.f53 _ _ _ _ _ _) fun _=>(li (lb (H.f48 _ _ _ _) fun _=>(li (lb (H.f53 _ _ _ _ _ _) fun _=>(li (li (lb (H.f48 _ _ _ _) fun _=>(li lr lr)) lr) lr)) (li lr lr))) lr))) lr)
theorem RJ{F:FsBuild}(H:LeFsBuild F):cB (CY F) zI:=fun s0_0 s0_1 s0_2 t1=>leh (b:=CY b6 s0_0 s0_1 s0_2 t1) (leq (by kernel_rfl)) (li (lb (H.f50 _ _ _ _) fun _=>(lb (H.f53 _ _ _ _ _ _) fun _=>(li (lb (H.f48 _ _ _ _) fun _=>(lb (H.f53 _ _ _ _ _ _) fun _=>(li lr lr))) lr))) lr)
theorem Rn{F:FsBuild}(H:LeFsBuild F):cg (CC F) zn:=fun t0 t1=>leh (b:=CC b6 t0 t1) (leq (by kernel_rfl)) (H.f115 _ _ _)
theorem Ro{F:FsBuild}(H:LeFsBuild F):cJ (CD F) zo:=fun t0 t1 t5=>leh (b:=CD b6 t0 t1 t5) (leq (by kernel_rfl)) (li (li (li lr (H.f115 _ _ _)) lr) lr)
theorem RK{F:FsBuild}(_H:LeFsBuild F):cf (CZ F) jb:=fun t0=>leh (b:=CZ b6 t0) (leq (by kernel_rfl)) (li lr lr)
theorem RX{F:FsBuild}(H:LeFsBuild F):cg (Dd F) mI:=fun s0 t1=>leh (b:=Dd b6 s0 t1) (leq (by kernel_rfl)) (lb (H.f144 _ _) fun _=>(H.f118 _ _ _))
theorem RY{F:FsBuild}(H:LeFsBuild F):cJ (De F) ll:=fun s0 s64 s80=>leh (b:=De b6 s0 s64 s80) (leq (by kernel_rfl)) (li (lb (H.f88 _ _) fun _=>(li (H.f119 _ _ _ _) (lb (H.f88 _ _) fun _=>(li (H.f119 _ _ _ _) (lb (H.f88 _ _) fun _=>(li (H.f119 _ _ _ _) (H.f119 _ _ _ _))))))) lr)
theorem RZ{F:FsBuild}(H:LeFsBuild F):cB (Df F) j0:=fun t6 s0 s64 s80=>leh (b:=Df b6 t6 s0 s64 s80) (leq (by kernel_rfl)) (li lr (H.f118 _ _ _))
theorem SH{F:FsBuild}(H:LeFsBuild F):cf (DW F) AM:=fun s0=>leh (b:=DW b6 s0) (leq (by kernel_rfl)) (li (lb (H.f37 _) fun _=>lr) lr)
theorem Th{F:FsBuild}(H:LeFsBuild F):cg (Ev F) Bj:=fun s0 t1=>leh (b:=Ev b6 s0 t1) (leq (by kernel_rfl)) (lb (H.f62 _) fun _=>(lb (H.f100 _ _) fun _=>(lb (H.f66 _) fun _=>(lb (H.f100 _ _) fun _=>(lb (H.f63 _) fun _=>(lb (H.f68 _ _) fun _=>(li (lb (H.f61 _ _) fun _=>(li (lb (H.f62 _) fun _=>(lb (H.f63 _) fun _=>(li lr lr))) lr)) lr)))))))
theorem Tc{F:FsBuild}(H:LeFsBuild F):cf (Eo F) Be:=fun s0=>leh (b:=Eo b6 s0) (leq (by kernel_rfl)) (lb (H.f61 _ _) fun _=>(li (lb (H.f62 _) fun _=>(H.f123 _ _ _ _ _ _ _ _ _)) (lb (H.f61 _ _) fun _=>(li (lb (H.f62 _) fun _=>lr) (lb (H.f61 _ _) fun _=>(li (lb (H.f62 _) fun _=>(lb (H.f126 _) fun _=>(lb (H.f100 _ _) fun _=>(lb (H.f66 _) fun _=>(lb (H.f100 _ _) fun _=>lr))))) (lb (H.f66 _) fun _=>(lb (H.f68 _ _) fun _=>lr))))))))
theorem Td{F:FsBuild}(H:LeFsBuild F):q8 (Ep F) Bf:=fun s0 s32_0 s32_1 s32_2 s32_3 s48_0 s48_1 s48_2 s48_3=>leh (b:=Ep b6 s0 s32_0 s32_1 s32_2 s32_3 s48_0 s48_1 s48_2 s48_3) (leq (by kernel_rfl)) (li (lb (H.f65 _ _) fun _=>(li (lb (H.f65 _ _) fun _=>(li (li (lb (H.f100 _ _) fun _=>(lb (H.f66 _) fun _=>(li (H.f123 _ _ _ _ _ _ _ _ _) lr))) (lb (H.f66 _) fun _=>(li (H.f123 _ _ _ _ _ _ _ _ _) lr))) lr)) lr)) lr)
theorem SQ{F:FsBuild}(H:LeFsBuild F):cg (D7 F) AX:=fun s0 t1=>leh (b:=D7 b6 s0 t1) (leq (by kernel_rfl)) (H.f125 _ _ _)
theorem SR{F:FsBuild}(H:LeFsBuild F):cJ (D8 F) AY:=fun t1 t5 s0=>leh (b:=D8 b6 t1 t5 s0) (leq (by kernel_rfl)) (li (lb (H.f65 _ _) fun _=>(li (li (lb (H.f100 _ _) fun _=>(lb (H.f66 _) fun _=>(li (H.f125 _ _ _) lr))) (lb (H.f66 _) fun _=>(li (H.f125 _ _ _) lr))) lr)) lr)
theorem S4{F:FsBuild}(H:LeFsBuild F):cf (Eg F) A6:=fun s0=>leh (b:=Eg b6 s0) (leq (by kernel_rfl)) (lb (H.f37 _) fun _=>(li (lb (H.f120 _) fun _=>lr) (li (lb (H.f120 _) fun _=>lr) (lb (H.f12 _) fun _=>(li (lb (H.f120 _) fun _=>lr) (lb (H.f62 _) fun _=>lr))))))
theorem SM{F:FsBuild}(H:LeFsBuild F):cf (D3 F) AR:=fun s0=>leh (b:=D3 b6 s0) (leq (by kernel_rfl)) (lb (H.f103 _ _) fun _=>(H.f128 _ _ _ _ _ _ _ _))
theorem SN{F:FsBuild}(H:LeFsBuild F):qZ (D4 F) AU:=fun t3 t5 s0 s32_0 s32_1 s32_2 s32_3 s64=>leh (b:=D4 b6 t3 t5 s0 s32_0 s32_1 s32_2 s32_3 s64) (leq (by kernel_rfl)) (li (li (lb (H.f65 _ _) fun _=>(li (lb (H.f62 _) fun _=>(lb (H.f103 _ _) fun _=>(lb (H.f68 _ _) fun _=>lr))) (H.f128 _ _ _ _ _ _ _ _))) lr) lr)
theorem S8{F:FsBuild}(H:LeFsBuild F):cf (Ek F) Ba:=fun s0=>leh (b:=Ek b6 s0) (leq (by kernel_rfl)) (lb (H.f103 _ _) fun _=>(H.f130 _ _ _ _ _ _))
theorem S9{F:FsBuild}(H:LeFsBuild F):fQ (El F) Bb:=fun s0 s32_0 s32_1 s32_2 s32_3 s48=>leh (b:=El b6 s0 s32_0 s32_1 s32_2 s32_3 s48) (leq (by kernel_rfl)) (lb (H.f146 _) fun _=>(li (lb (H.f103 _ _) fun _=>(lb (H.f68 _ _) fun _=>(H.f130 _ _ _ _ _ _))) lr))
theorem Tg{F:FsBuild}(H:LeFsBuild F):cf (Et F) Bi:=fun s0=>leh (b:=Et b6 s0) (leq (by kernel_rfl)) (li (lb (H.f148 _) fun _=>lr) (lb (H.f65 _ _) fun _=>(li (lb (H.f62 _) fun _=>(lb (H.f131 _) fun _=>(lb (H.f68 _ _) fun _=>lr))) (lb (H.f65 _ _) fun _=>(li (lb (H.f62 _) fun _=>(lb (H.f131 _) fun _=>(lb (H.f68 _ _) fun _=>lr))) (lb (H.f148 _) fun _=>lr))))))
theorem SU{F:FsBuild}(H:LeFsBuild F):cg (Eb F) A1:=fun s0 t1=>leh (b:=Eb b6 s0 t1) (leq (by kernel_rfl)) (lb (H.f103 _ _) fun _=>(H.f133 _ _ _ _ _ _))
theorem SV{F:FsBuild}(H:LeFsBuild F):fQ (Ec F) A2:=fun t1 t5 t6 s0 s64 s112=>leh (b:=Ec b6 t1 t5 t6 s0 s64 s112) (leq (by kernel_rfl)) (li (H.f134 _ _ _ _ _ _ _) lr)
theorem SX{F:FsBuild}(H:LeFsBuild F):gG (Ed F) A3:=fun t1 t5 t6 t8 s0 s64 s112=>leh (b:=Ed b6 t1 t5 t6 t8 s0 s64 s112) (leq (by kernel_rfl)) (li (li (li (li (lb (H.f65 _ _) fun _=>(li (H.f134 _ _ _ _ _ _ _) (li (li lr (lb (H.f62 _) fun _=>(lb (H.f103 _ _) fun _=>(li (li (lb (H.f68 _ _) fun _=>(H.f135 _ _ _ _ _ _ _)) lr) lr)))) lr))) lr) lr) (li (li lr (lb (H.f62 _) fun _=>(lb (H.f103 _ _) fun _=>(li (li (lb (H.f68 _ _) fun _=>(H.f135 _ _ _ _ _ _ _)) lr) lr)))) lr)) lr)
theorem SY{F:FsBuild}(H:LeFsBuild F):gG (Ee F) A4:=fun t1 t5 t6 t8 s0 s64 s112=>leh (b:=Ee b6 t1 t5 t6 t8 s0 s64 s112) (leq (by kernel_rfl)) (li (li (lb (H.f68 _ _) fun _=>(H.f133 _ _ _ _ _ _)) (H.f133 _ _ _ _ _ _)) (H.f133 _ _ _ _ _ _))
theorem Tn{F:FsBuild}(H:LeFsBuild F):cf (EB F) Bp:=fun t0=>leh (b:=EB b6 t0) (leq (by kernel_rfl)) (li (H.f137 _ _ _ _) (li (H.f137 _ _ _ _) (li (H.f137 _ _ _ _) (li (H.f137 _ _ _ _) (li (H.f137 _ _ _ _) (H.f137 _ _ _ _))))))
theorem To{F:FsBuild}(H:LeFsBuild F):cB (EC F) Bq:=fun t3 t9 t10 s16=>leh (b:=EC b6 t3 t9 t10 s16) (leq (by kernel_rfl)) (li (li (lb (H.f149 _ _ _) fun _=>lr) lr) (li (H.f138 _ _ _ _) (li (H.f138 _ _ _ _) (li (H.f138 _ _ _ _) (li (H.f138 _ _ _ _) (li (H.f138 _ _ _ _) (li (H.f138 _ _ _ _) (li (H.f138 _ _ _ _) (li (H.f138 _ _ _ _) (li (H.f138 _ _ _ _) (li (H.f138 _ _ _ _) (li (H.f138 _ _ _ _) (li (H.f138 _ _ _ _) (li (H.f138 _ _ _ _) (li (H.f138 _ _ _ _) (H.f138 _ _ _ _))))))))))))))))
theorem Tp{F:FsBuild}(H:LeFsBuild F):cB (ED F) Br:=fun t3 t9 t23 s16=>leh (b:=ED b6 t3 t9 t23 s16) (leq (by kernel_rfl)) (li (li (lb (H.f149 _ _ _) fun _=>lr) lr) (li (H.f139 _ _ _ _) (H.f139 _ _ _ _)))
theorem Tq{F:FsBuild}(H:LeFsBuild F):cB (EE F) Bu:=fun t3 t9 t45 s16=>leh (b:=EE b6 t3 t9 t45 s16) (leq (by kernel_rfl)) (li (li (li (li (lb (H.f149 _ _ _) fun _=>lr) (li (li (lb (H.f149 _ _ _) fun _=>lr) lr) lr)) lr) lr) (li (H.f140 _ _ _ _) (H.f140 _ _ _ _)))
theorem Tr{F:FsBuild}(H:LeFsBuild F):cB (EF F) Bv:=fun t3 t9 t70 s16=>leh (b:=EF b6 t3 t9 t70 s16) (leq (by kernel_rfl)) (li (lb (H.f149 _ _ _) fun _=>lr) (li (lb (H.f0 _ _ _) fun _=>(li (lb (H.f149 _ _ _) fun _=>(li (lb (H.f151 _ _) fun _=>lr) lr)) lr)) (li (li (lb (H.f149 _ _ _) fun _=>(li (lb (H.f151 _ _) fun _=>lr) lr)) lr) (li (H.f141 _ _ _) lr))))
theorem Ts{F:FsBuild}(H:LeFsBuild F):cJ (EG F) Bw:=fun t3 t4 s16=>leh (b:=EG b6 t3 t4 s16) (leq (by kernel_rfl)) (li (li (lb (H.f0 _ _ _) fun _=>(li lr (li (lb (H.f104 _) fun _=>(li lr (H.f141 _ _ _))) lr))) lr) lr)
theorem Tz{F:FsBuild}(H:LeFsBuild F):cf (EN F) BA:=fun t0=>leh (b:=EN b6 t0) (leq (by kernel_rfl)) (H.f143 _ _)
theorem TA{F:FsBuild}(H:LeFsBuild F):cg (EO F) BB:=fun t0 t3=>leh (b:=EO b6 t0 t3) (leq (by kernel_rfl)) (li (li (li (li lr (li (li lr (H.f143 _ _)) lr)) (H.f143 _ _)) lr) (lb (H.f23 _) fun _=>lr))
theorem RO{F:FsBuild}(H:LeFsBuild F):cg (C3 F) mF:=fun s0 t1=>leh (b:=C3 b6 s0 t1) (leq (by kernel_rfl)) (li lr (li lr (li lr (li (li (lb (H.f54 _ _) fun _=>(lb (H.f88 _ _) fun _=>(li lr lr))) (li lr (li lr (li lr (li (lb (H.f153 _) fun _=>lr) (li (li lr (li lr lr)) (li (li (H.f145 _ _ _) (H.f145 _ _ _)) (li (li (H.f145 _ _ _) (H.f145 _ _ _)) (li (H.f145 _ _ _) (H.f145 _ _ _)))))))))) lr))))
theorem RP{F:FsBuild}(_H:LeFsBuild F):cJ (C4 F) je:=fun t5 s0 s64=>leh (b:=C4 b6 t5 s0 s64) (leq (by kernel_rfl)) lr
theorem SI{F:FsBuild}(H:LeFsBuild F):cf (DX F) AN:=fun s0=>leh (b:=DX b6 s0) (leq (by kernel_rfl)) (lb (H.f37 _) fun _=>(li lr (li (H.f147 _ _ _ _) (li (H.f147 _ _ _ _) (H.f147 _ _ _ _)))))
theorem SJ{F:FsBuild}(H:LeFsBuild F):cB (DY F) AO:=fun t12 t13 s0 s48=>leh (b:=DY b6 t12 t13 s0 s48) (leq (by kernel_rfl)) (li lr (li (lb (H.f12 _) fun _=>(li lr (li lr (li lr (lb H.f26 fun _=>(lb (H.f6 _ _) fun _=>lr)))))) (li (li lr lr) lr)))
theorem SG{F:FsBuild}(H:LeFsBuild F):cf (DU F) AL:=fun s0=>leh (b:=DU b6 s0) (leq (by kernel_rfl)) (li lr (lb (H.f37 _) fun _=>(li lr (li (lb (H.f62 _) fun _=>lr) (li (lb (H.f62 _) fun _=>lr) (li (lb (H.f62 _) fun _=>lr) (li (lb (H.f102 _) fun _=>lr) (lb (H.f65 _ _) fun _=>(li (lb (H.f62 _) fun _=>(lb (H.f148 _) fun _=>(lb (H.f68 _ _) fun _=>lr))) (lb (H.f100 _ _) fun _=>(lb (H.f66 _) fun _=>(lb (H.f100 _ _) fun _=>lr))))))))))))
theorem Tk{F:FsBuild}(H:LeFsBuild F):cJ (Ey F) Bm:=fun t0 t1 t2=>leh (b:=Ey b6 t0 t1 t2) (leq (by kernel_rfl)) (H.f150 _ _ _)
theorem Tl{F:FsBuild}(H:LeFsBuild F):cJ (Ez F) Bn:=fun t2 t7 s48=>leh (b:=Ez b6 t2 t7 s48) (leq (by kernel_rfl)) (li (li (lb (H.f106 _) fun _=>(li lr (li (lb (H.f104 _) fun _=>(li lr (H.f150 _ _ _))) lr))) lr) lr)
theorem Ti{F:FsBuild}(H:LeFsBuild F):cg (Ew F) Bk:=fun t0 t1=>leh (b:=Ew b6 t0 t1) (leq (by kernel_rfl)) (H.f152 _ _)
theorem Tj{F:FsBuild}(H:LeFsBuild F):cg (Ex F) Bl:=fun t5 s32=>leh (b:=Ex b6 t5 s32) (leq (by kernel_rfl)) (li (li (li lr (li (lb (H.f104 _) fun _=>(li lr (H.f152 _ _))) lr)) lr) lr)
theorem R6{F:FsBuild}(H:LeFsBuild F):cf (Dk F) ox:=fun s0=>leh (b:=Dk b6 s0) (leq (by kernel_rfl)) (lb (H.f88 _ _) fun _=>(li (H.f154 _ _ _) (H.f154 _ _ _)))
theorem R7{F:FsBuild}(H:LeFsBuild F):cJ (Dl F) mJ:=fun s0 s32 s48=>leh (b:=Dl b6 s0 s32 s48) (leq (by kernel_rfl)) (H.f155 _ _ _ _ _)
theorem R8{F:FsBuild}(H:LeFsBuild F):fP (Dm F) iD:=fun t4 t5 s0 s32 s48=>leh (b:=Dm b6 t4 t5 s0 s32 s48) (leq (by kernel_rfl)) (li (li (li (li (li (li (li (li (li (li (H.f156 _ _ _ _ _ _ _) lr) (H.f156 _ _ _ _ _ _ _)) lr) (H.f156 _ _ _ _ _ _ _)) lr) (H.f156 _ _ _ _ _ _ _)) lr) (li (H.f157 _ _ _ _) (li (H.f157 _ _ _ _) (H.f157 _ _ _ _)))) lr) (li (H.f157 _ _ _ _) (li (H.f157 _ _ _ _) (H.f157 _ _ _ _))))
theorem R9{F:FsBuild}(H:LeFsBuild F):gG (Dn F) jg:=fun t4 t5 t6 t7 s0 s32 s48=>leh (b:=Dn b6 t4 t5 t6 t7 s0 s32 s48) (leq (by kernel_rfl)) (li (H.f158 _ _ _ _ _ _ _) (H.f158 _ _ _ _ _ _ _))
theorem Sa{F:FsBuild}(H:LeFsBuild F):cB (Dp F) gf:=fun t4 s0 s32 s48=>leh (b:=Dp b6 t4 s0 s32 s48) (leq (by kernel_rfl)) (H.f159 _ _ _ _ _ _)
theorem Sb{F:FsBuild}(H:LeFsBuild F):gG (Dq F) mK:=fun t4 t5 t6 t7 s0 s32 s48=>leh (b:=Dq b6 t4 t5 t6 t7 s0 s32 s48) (leq (by kernel_rfl)) (H.f160 _ _ _ _ _ _ _)
theorem Sc{F:FsBuild}(H:LeFsBuild F):fQ (Dr F) lm:=fun t4 t9 t10 s0 s32 s48=>leh (b:=Dr b6 t4 t9 t10 s0 s32 s48) (leq (by kernel_rfl)) (li (li (li (li (H.f159 _ _ _ _ _ _) lr) (H.f159 _ _ _ _ _ _)) lr) lr)
theorem Sd{F:FsBuild}(H:LeFsBuild F):gG (Ds F) lp:=fun t4 t5 t7 t8 s0 s32 s48=>leh (b:=Ds b6 t4 t5 t7 t8 s0 s32 s48) (leq (by kernel_rfl)) (li (li (H.f160 _ _ _ _ _ _ _) lr) (H.f155 _ _ _ _ _))
theorem QU{F:FsBuild}(H:LeFsBuild F):cf (B9 F) s_NfaOf:=fun t0=>leh (b:=B9 b6 t0) (leq (by kernel_rfl)) (lb (H.f162 _) fun _=>(li lr (lb (H.f163 _ _) fun _=>(lb (H.f166 _ _) fun _=>lr))))
theorem Q4{F:FsBuild}(H:LeFsBuild F):cf (Ch F) yQ:=fun t0=>leh (b:=Ch b6 t0) (leq (by kernel_rfl)) (lb (H.f56 _) fun _=>(li (lb (H.f167 _) fun _=>lr) lr))
theorem Sg{F:FsBuild}(H:LeFsBuild F):cg (Dv F) Aj:=fun t0 t1=>leh (b:=Dv b6 t0 t1) (leq (by kernel_rfl)) (li (li lr lr) (li (lb (H.f166 _ _) fun _=>lr) (li (li lr lr) (li (lb (H.f166 _ _) fun _=>lr) (li (lb (H.f166 _ _) fun _=>lr) (li (H.f164 _ _ _) (li (lb (H.f171 _ _) fun _=>lr) (li (lb (H.f166 _ _) fun _=>(li (lb (H.f163 _ _) fun _=>(li (li (li (H.f165 _) lr) lr) lr)) lr)) (li (li (lb (H.f163 _ _) fun _=>(li (H.f165 _) lr)) lr) (li (lb (H.f166 _ _) fun _=>(li (lb (H.f163 _ _) fun _=>(li (li (H.f165 _) lr) lr)) lr)) (H.f165 _)))))))))))
theorem Sh{F:FsBuild}(H:LeFsBuild F):cJ (Dw F) Ak:=fun t0 t6 s48=>leh (b:=Dw b6 t0 t6 s48) (leq (by kernel_rfl)) (li (li (lb (H.f163 _ _) fun _=>(H.f164 _ _ _)) lr) (H.f165 _))
theorem Si{F:FsBuild}(_H:LeFsBuild F):cf (Dx F) Al:=fun t0=>leh (b:=Dx b6 t0) (leq (by kernel_rfl)) lr
theorem Sm{F:FsBuild}(_H:LeFsBuild F):cg (DB F) Aq:=fun t0 t1=>leh (b:=DB b6 t0 t1) (leq (by kernel_rfl)) (li lr lr)
theorem R0{F:FsBuild}(H:LeFsBuild F):cf (Dg F) Ab:=fun t0=>leh (b:=Dg b6 t0) (leq (by kernel_rfl)) (H.f168 _ _)
theorem R3{F:FsBuild}(H:LeFsBuild F):cg (Dh F) Ac:=fun t3 s16=>leh (b:=Dh b6 t3 s16) (leq (by kernel_rfl)) (li (li (lb (H.f167 _) fun _=>(li lr (H.f168 _ _))) lr) (li (lb (H.f0 _ _ _) fun _=>(li (li (li lr lr) lr) lr)) (li (li (li (lb (H.f174 _) fun _=>(li lr lr)) lr) lr) (li (H.f169 _ _ _ _) (H.f169 _ _ _ _)))))
theorem R4{F:FsBuild}(H:LeFsBuild F):cB (Di F) Ad:=fun t4 t23 t62 s16=>leh (b:=Di b6 t4 t23 t62 s16) (leq (by kernel_rfl)) (li (li (li (li lr lr) lr) lr) (li (H.f170 _ _ _) (li (H.f170 _ _ _) (H.f170 _ _ _))))
theorem R5{F:FsBuild}(H:LeFsBuild F):cJ (Dj F) Ae:=fun t4 t82 s16=>leh (b:=Dj b6 t4 t82 s16) (leq (by kernel_rfl)) (li (li (li (li lr lr) lr) lr) (lb (H.f0 _ _ _) fun _=>(li (li (li (li lr lr) lr) lr) lr)))
theorem Sj{F:FsBuild}(H:LeFsBuild F):cg (Dy F) Am:=fun t0 t1=>leh (b:=Dy b6 t0 t1) (leq (by kernel_rfl)) (H.f172 _ _ _ _)
theorem Sk{F:FsBuild}(H:LeFsBuild F):cB (Dz F) An:=fun t0 t1 t5 t6=>leh (b:=Dz b6 t0 t1 t5 t6) (leq (by kernel_rfl)) (li (lb (H.f166 _ _) fun _=>(li (lb (H.f163 _ _) fun _=>(li (lb (H.f166 _ _) fun _=>(li (li (H.f172 _ _ _ _) lr) lr)) lr)) lr)) (li (lb (H.f163 _ _) fun _=>(H.f173 _ _ _)) lr))
theorem Sl{F:FsBuild}(H:LeFsBuild F):cJ (DA F) Ao:=fun t0 t5 t8=>leh (b:=DA b6 t0 t5 t8) (leq (by kernel_rfl)) (li (li (li (H.f173 _ _ _) lr) lr) lr)
theorem Se{F:FsBuild}(H:LeFsBuild F):cf (Dt F) Af:=fun t0=>leh (b:=Dt b6 t0) (leq (by kernel_rfl)) (H.f175 _ _)
theorem Sf{F:FsBuild}(H:LeFsBuild F):cg (Du F) Ag:=fun t0 t3=>leh (b:=Du b6 t0 t3) (leq (by kernel_rfl)) (li (li (li (li lr (H.f175 _ _)) lr) lr) lr)
def nl(n:Nat):FsBuild:=Nat.rec ⟨fun _ _ _=>none,fun _=>none,fun _ _=>none,fun _ _=>none,fun _=>none,fun _ _=>none,fun _ _=>none,fun _ _ _=>none,fun _ _ _=>none,fun _ _ _ _ _=>none,fun _=>none,fun _=>none,fun _=>none,fun _ _ _ _=>none,fun _ _ _ _ _ _=>none,fun _ _ _ _ _=>none,fun _ _ _ _=>none,fun _ _ _ _=>none,fun _=>none,fun _=>none,fun _ _ _ _ _ _ _ _=>none,fun _=>none,fun _ _ _ _ _ _ _ _ _ _ _=>none,fun _=>none,fun _ _=>none,fun _ _=>none,none,fun _=>none,fun _=>none,fun _ _=>none,fun _ _ _=>none,fun _ _ _ _ _=>none,fun _ _ _ _ _ _=>none,fun _ _ _ _=>none,fun _=>none,fun _ _ _=>none,fun _ _ _=>none,fun _=>none,fun _=>none,fun _=>none,fun _ _ _=>none,fun _=>none,fun _ _=>none,fun _ _ _ _=>none,fun _ _=>none,fun _ _=>none,fun _=>none,fun _ _ _ _=>none,fun _ _ _ _=>none,fun _ _ _ _ _=>none,fun _ _ _ _=>none,fun _ _ _ _ _ _=>none,fun _ _ _ _ _=>none,fun _ _ _ _ _ _=>none,fun _ _=>none,fun _ _ _ _=>none,fun _=>none,fun _ _ _=>none,fun _=>none,fun _ _ _=>none,fun _ _ _ _=>none,fun _ _=>none,fun _=>none,fun _=>none,fun _ _ _ _ _ _ _ _ _=>none,fun _ _=>none,fun _=>none,fun _ _ _ _ _ _ _=>none,fun _ _=>none,fun _=>none,fun _ _=>none,fun _=>none,fun _ _=>none,fun _=>none,fun _ _=>none,fun _ _ _=>none,fun _=>none,fun _ _=>none,fun _ _ _=>none,fun _ _ _=>none,fun _ _ _ _=>none,fun _ _ _ _=>none,fun _ _ _ _=>none,fun _ _ _ _=>none,fun _ _ _ _=>none,fun _ _ _ _=>none,fun _ _=>none,fun _ _ _ _=>none,fun _ _=>none,fun _ _=>none,fun _ _ _=>none,fun _ _ _ _=>none,fun _ _ _=>none,fun _ _=>none,fun _ _ _=>none,fun _=>none,fun _ _=>none,fun _ _ _=>none,fun _ _=>none,fun _ _ _ _=>none,fun _ _=>none,fun _=>none,fun _=>none,fun _ _=>none,fun _=>none,fun _ _ _=>none,fun _=>none,fun _ _=>none,fun _ _ _=>none,fun _ _ _ _=>none,fun _ _ _ _=>none,fun _ _ _ _ _=>none,fun _ _ _ _=>none,fun _ _ _ _=>none,fun _ _=>none,fun _ _ _=>none,fun _=>none,fun _ _=>none,fun _ _ _=>none,fun _ _ _ _=>none,fun _=>none,fun _ _=>none,fun _=>none,fun _ _ _ _ _ _ _ _ _=>none,fun _ _=>none,fun _ _ _=>none,fun _=>none,fun _=>none,fun _ _ _ _ _ _ _ _=>none,fun _=>none,fun _ _ _ _ _ _=>none,fun _=>none,fun _ _=>none,fun _ _ _ _ _ _=>none,fun _ _ _ _ _ _ _=>none,fun _ _ _ _ _ _ _=>none,fun _=>none,fun _ _ _ _=>none,fun _ _ _ _=>none,fun _ _ _ _=>none,fun _ _ _ _=>none,fun _ _ _=>none,fun _=>none,fun _ _=>none,fun _ _=>none,fun _ _ _=>none,fun _=>none,fun _ _ _ _=>none,fun _=>none,fun _ _ _=>none,fun _ _ _=>none,fun _ _=>none,fun _ _=>none,fun _=>none,fun _ _ _=>none,fun _ _ _ _ _=>none,fun _ _ _ _ _ _ _=>none,fun _ _ _ _=>none,fun _ _ _ _ _ _ _=>none,fun _ _ _ _ _ _=>none,fun _ _ _ _ _ _ _=>none,fun _=>none,fun _=>none,fun _ _=>none,fun _ _ _=>none,fun _=>none,fun _ _=>none,fun _=>none,fun _ _=>none,fun _ _ _ _=>none,fun _ _ _=>none,fun _ _=>none,fun _ _ _ _=>none,fun _ _ _=>none,fun _=>none,fun _ _=>none⟩ (fun _ F=>⟨C0 F,Ce F,Cf F,Cg F,EJ F,EK F,DS F,DT F,Ca F,Cb F,BM F,DE F,B6 F,CE F,CF F,CG F,CH F,CI F,B3 F,Cc F,Cd F,BS F,BU F,EH F,EI F,C1 F,DD F,Ci F,BV F,BW F,BX F,BZ F,B0 F,B1 F,Cl F,Cm F,Cn F,Ej F,Em F,B4 F,B5 F,BN F,BO F,BP F,BQ F,BR F,B7 F,B8 F,CK F,CL F,CM F,CN F,CO F,CV F,Da F,Db F,C5 F,C6 F,C2 F,DJ F,DK F,D9 F,Ei F,DZ F,D0 F,En F,D5 F,D6 F,Ea F,Cj F,Ck F,Cs F,Ct F,Cp F,Cq F,Cr F,CA F,CB F,Cu F,Cv F,Cw F,CX F,CW F,CJ F,CR F,CQ F,C8 F,C9 F,C7 F,DF F,DG F,DH F,DI F,DQ F,DR F,DC F,DL F,DM F,DN F,DP F,Es F,Er F,Eh F,Ef F,EL F,EM F,EA F,Cy F,Cz F,CS F,CT F,CU F,CP F,CY F,CC F,CD F,CZ F,Dd F,De F,Df F,DW F,Ev F,Eo F,Ep F,D7 F,D8 F,Eg F,D3 F,D4 F,Ek F,El F,Et F,Eb F,Ec F,Ed F,Ee F,EB F,EC F,ED F,EE F,EF F,EG F,EN F,EO F,C3 F,C4 F,DX F,DY F,DU F,Ey F,Ez F,Ew F,Ex F,Dk F,Dl F,Dm F,Dn F,Dp F,Dq F,Dr F,Ds F,B9 F,Ch F,Dv F,Dw F,Dx F,DB F,Dg F,Dh F,Di F,Dj F,Dy F,Dz F,DA F,Dt F,Du F⟩) n
theorem bZ:∀ n,LeFsBuild (nl n)
 | 0=>⟨fun _ _ _=>ln,fun _=>ln,fun _ _=>ln,fun _ _=>ln,fun _=>ln,fun _ _=>ln,fun _ _=>ln,fun _ _ _=>ln,fun _ _ _=>ln,fun _ _ _ _ _=>ln,fun _=>ln,fun _=>ln,fun _=>ln,fun _ _ _ _=>ln,fun _ _ _ _ _ _=>ln,fun _ _ _ _ _=>ln,fun _ _ _ _=>ln,fun _ _ _ _=>ln,fun _=>ln,fun _=>ln,fun _ _ _ _ _ _ _ _=>ln,fun _=>ln,fun _ _ _ _ _ _ _ _ _ _ _=>ln,fun _=>ln,fun _ _=>ln,fun _ _=>ln,ln,fun _=>ln,fun _=>ln,fun _ _=>ln,fun _ _ _=>ln,fun _ _ _ _ _=>ln,fun _ _ _ _ _ _=>ln,fun _ _ _ _=>ln,fun _=>ln,fun _ _ _=>ln,fun _ _ _=>ln,fun _=>ln,fun _=>ln,fun _=>ln,fun _ _ _=>ln,fun _=>ln,fun _ _=>ln,fun _ _ _ _=>ln,fun _ _=>ln,fun _ _=>ln,fun _=>ln,fun _ _ _ _=>ln,fun _ _ _ _=>ln,fun _ _ _ _ _=>ln,fun _ _ _ _=>ln,fun _ _ _ _ _ _=>ln,fun _ _ _ _ _=>ln,fun _ _ _ _ _ _=>ln,fun _ _=>ln,fun _ _ _ _=>ln,fun _=>ln,fun _ _ _=>ln,fun _=>ln,fun _ _ _=>ln,fun _ _ _ _=>ln,fun _ _=>ln,fun _=>ln,fun _=>ln,fun _ _ _ _ _ _ _ _ _=>ln,fun _ _=>ln,fun _=>ln,fun _ _ _ _ _ _ _=>ln,fun _ _=>ln,fun _=>ln,fun _ _=>ln,fun _=>ln,fun _ _=>ln,fun _=>ln,fun _ _=>ln,fun _ _ _=>ln,fun _=>ln,fun _ _=>ln,fun _ _ _=>ln,fun _ _ _=>ln,fun _ _ _ _=>ln,fun _ _ _ _=>ln,fun _ _ _ _=>ln,fun _ _ _ _=>ln,fun _ _ _ _=>ln,fun _ _ _ _=>ln,fun _ _=>ln,fun _ _ _ _=>ln,fun _ _=>ln,fun _ _=>ln,fun _ _ _=>ln,fun _ _ _ _=>ln,fun _ _ _=>ln,fun _ _=>ln,fun _ _ _=>ln,fun _=>ln,fun _ _=>ln,fun _ _ _=>ln,fun _ _=>ln,fun _ _ _ _=>ln,fun _ _=>ln,fun _=>ln,fun _=>ln,fun _ _=>ln,fun _=>ln,fun _ _ _=>ln,fun _=>ln,fun _ _=>ln,fun _ _ _=>ln,fun _ _ _ _=>ln,fun _ _ _ _=>ln,fun _ _ _ _ _=>ln,fun _ _ _ _=>ln,fun _ _ _ _=>ln,fun _ _=>ln,fun _ _ _=>ln,fun _=>ln,fun _ _=>ln,fun _ _ _=>ln,fun _ _ _ _=>ln,fun _=>ln,fun _ _=>ln,fun _=>ln,fun _ _ _ _ _ _ _ _ _=>ln,fun _ _=>ln,fun _ _ _=>ln,fun _=>ln,fun _=>ln,fun _ _ _ _ _ _ _ _=>ln,fun _=>ln,fun _ _ _ _ _ _=>ln,fun _=>ln,fun _ _=>ln,fun _ _ _ _ _ _=>ln,fun _ _ _ _ _ _ _=>ln,fun _ _ _ _ _ _ _=>ln,fun _=>ln,fun _ _ _ _=>ln,fun _ _ _ _=>ln,fun _ _ _ _=>ln,fun _ _ _ _=>ln,fun _ _ _=>ln,fun _=>ln,fun _ _=>ln,fun _ _=>ln,fun _ _ _=>ln,fun _=>ln,fun _ _ _ _=>ln,fun _=>ln,fun _ _ _=>ln,fun _ _ _=>ln,fun _ _=>ln,fun _ _=>ln,fun _=>ln,fun _ _ _=>ln,fun _ _ _ _ _=>ln,fun _ _ _ _ _ _ _=>ln,fun _ _ _ _=>ln,fun _ _ _ _ _ _ _=>ln,fun _ _ _ _ _ _=>ln,fun _ _ _ _ _ _ _=>ln,fun _=>ln,fun _=>ln,fun _ _=>ln,fun _ _ _=>ln,fun _=>ln,fun _ _=>ln,fun _=>ln,fun _ _=>ln,fun _ _ _ _=>ln,fun _ _ _=>ln,fun _ _=>ln,fun _ _ _ _=>ln,fun _ _ _=>ln,fun _=>ln,fun _ _=>ln⟩
 | n+1=>⟨RL (bZ n),QZ (bZ n),Q0 (bZ n),Q3 (bZ n),Tv (bZ n),Tw (bZ n),SE (bZ n),SF (bZ n),QV (bZ n),QW (bZ n),QA (bZ n),Sq (bZ n),QR (bZ n),Rp (bZ n),Rq (bZ n),Rr (bZ n),Rs (bZ n),Rt (bZ n),QO (bZ n),QX (bZ n),QY (bZ n),QG (bZ n),QH (bZ n),Tt (bZ n),Tu (bZ n),RM (bZ n),Sp (bZ n),Q5 (bZ n),QI (bZ n),QJ (bZ n),QK (bZ n),QL (bZ n),QM (bZ n),QN (bZ n),Q8 (bZ n),Q9 (bZ n),Ra (bZ n),S7 (bZ n),Ta (bZ n),QP (bZ n),QQ (bZ n),QB (bZ n),QC (bZ n),QD (bZ n),QE (bZ n),QF (bZ n),QS (bZ n),QT (bZ n),Rv (bZ n),Rw (bZ n),Rx (bZ n),Ry (bZ n),Rz (bZ n),RG (bZ n),RV (bZ n),RW (bZ n),RQ (bZ n),RR (bZ n),RN (bZ n),Sw (bZ n),Sx (bZ n),SS (bZ n),S6 (bZ n),SK (bZ n),SL (bZ n),Tb (bZ n),SO (bZ n),SP (bZ n),ST (bZ n),Q6 (bZ n),Q7 (bZ n),Re (bZ n),Rf (bZ n),Rb (bZ n),Rc (bZ n),Rd (bZ n),Rl (bZ n),Rm (bZ n),Rg (bZ n),Rh (bZ n),Ri (bZ n),RI (bZ n),RH (bZ n),Ru (bZ n),RC (bZ n),RB (bZ n),RT (bZ n),RU (bZ n),RS (bZ n),Sr (bZ n),Ss (bZ n),Su (bZ n),Sv (bZ n),SC (bZ n),SD (bZ n),So (bZ n),Sy (bZ n),Sz (bZ n),SA (bZ n),SB (bZ n),Tf (bZ n),Te (bZ n),S5 (bZ n),SZ (bZ n),Tx (bZ n),Ty (bZ n),Tm (bZ n),Rj (bZ n),Rk (bZ n),RD (bZ n),RE (bZ n),RF (bZ n),RA (bZ n),RJ (bZ n),Rn (bZ n),Ro (bZ n),RK (bZ n),RX (bZ n),RY (bZ n),RZ (bZ n),SH (bZ n),Th (bZ n),Tc (bZ n),Td (bZ n),SQ (bZ n),SR (bZ n),S4 (bZ n),SM (bZ n),SN (bZ n),S8 (bZ n),S9 (bZ n),Tg (bZ n),SU (bZ n),SV (bZ n),SX (bZ n),SY (bZ n),Tn (bZ n),To (bZ n),Tp (bZ n),Tq (bZ n),Tr (bZ n),Ts (bZ n),Tz (bZ n),TA (bZ n),RO (bZ n),RP (bZ n),SI (bZ n),SJ (bZ n),SG (bZ n),Tk (bZ n),Tl (bZ n),Ti (bZ n),Tj (bZ n),R6 (bZ n),R7 (bZ n),R8 (bZ n),R9 (bZ n),Sa (bZ n),Sb (bZ n),Sc (bZ n),Sd (bZ n),QU (bZ n),Q4 (bZ n),Sg (bZ n),Sh (bZ n),Si (bZ n),Sm (bZ n),R0 (bZ n),R3 (bZ n),R4 (bZ n),R5 (bZ n),Sj (bZ n),Sk (bZ n),Sl (bZ n),Se (bZ n),Sf (bZ n)⟩
theorem fT(a b c:Int):eY a b c=some (decide (b≤a∧a≤c),()):=by
 rw[PC]
 by_cases h:a≥b
 ·rw[bw (by simp[h])];simp[show b≤a from h]
 ·rw[bz (by simp[h])];simp[show ¬ b≤a from h]
def isD(x:Int):Bool:=decide (48≤x)&&decide (x≤57)
theorem nF(x:Int):isD x=true↔48≤x∧x≤57:=by unfold isD;rw[aD,ab,ab]
def cK(l:List Int):List Int:=l.takeWhile isD
theorem N2{x:Int}{l:List Int}(h:isD x=true):cK (x::l)=x::cK l:=List.takeWhile_cons_of_pos h
theorem N1{x:Int}{l:List Int}(h:isD x=false):cK (x::l)=[]:=List.takeWhile_cons_of_neg (by rw[h];decide)
theorem rB{s:List Int}{i:Nat}(hi:i<s.length)(h:isD s[i]=true):cK (s.drop i)=s[i]::cK (s.drop (i+1)):=by rw[aj hi,N2 h]
theorem o9{s:List Int}{i:Nat}(hi:i<s.length)(h:isD s[i]=false):cK (s.drop i)=[]:=by rw[aj hi,N1 h]
theorem nj{s:List Int}{i:Nat}(hi:s.length≤i):cK (s.drop i)=[]:=by rw[a7 hi];rfl
def AllD(l:List Int):Prop:=∀ x∈l,48≤x∧x≤57
theorem lL(l:List Int):AllD (cK l):=fun x hx=>(nF x).1 (List.all_eq_true.1 (List.all_takeWhile ..) x hx)
theorem AllD.tail{c:Int}{l:List Int}(h:AllD (c::l)):AllD l:=fun x hx=>h x (aI _ hx)
theorem AllD.head{c:Int}{l:List Int}(h:AllD (c::l)):48≤c∧c≤57:=h c (aH ..)
theorem rC(l:List Int):(cK l).length≤l.length:=(List.takeWhile_sublist _).length_le
theorem GP(l:List Int):l.take (cK l).length=cK l:=by
 unfold cK
 have h:=List.takeWhile_append_dropWhile (p:=isD) (l:=l)
 have:l.take (l.takeWhile isD).length=(l.takeWhile isD++l.dropWhile isD).take (l.takeWhile isD).length:=by rw[h]
 rw[this,List.take_left]
def dv(a:Int)(l:List Int):Int:=l.foldl (fun n c=>10*n+(c-48)) a
theorem iR(a c:Int)(l:List Int):dv a (c::l)=dv (10*a+(c-48)) l:=rfl
theorem vQ(a:Int)(l m:List Int):dv a (l++m)=dv (dv a l) m:=List.foldl_append ..
theorem kv:∀ (l:List Int) (a:Int),dv a l=a*10 ^ l.length+dv 0 l
 | [],a=>by simp[dv]
 | c::l,a=>by
  rw[iR,iR,kv l (10*a+(c-48)),kv l (10*0+(c-48)),aW,Int.pow_succ,Int.add_mul,Int.mul_zero,Int.zero_add,← Int.add_assoc]
  congr 2
  rw[Int.mul_comm 10 a,Int.mul_assoc,Int.mul_comm 10]
theorem ku:∀ (l:List Int) (a:Int),AllD l→0≤a→0≤dv a l
 | [],a,_,h=>h
 | c::l,a,hd,h=>ku l (10*a+(c-48)) hd.tail (by have:=hd.head;omega)
theorem GT:∀ (l:List Int),dv 0 (l.dropWhile (fun x=>decide (x=48)))=dv 0 l
 | []=>rfl
 | c::l=>by
  by_cases h:c=48
  ·rw[List.dropWhile_cons_of_pos (by simp[h]),GT l,iR,h];rfl
  ·rw[List.dropWhile_cons_of_neg (by simp[h])]
theorem vR:∀ (l:List Int),AllD l→dv 0 l<10 ^ l.length
 | [],_=>by simp[dv]
 | c::l,hd=>by
  have h1:=vR l hd.tail
  have h2:=hd.head
  rw[iR,kv,aW,Int.pow_succ]
  have:(10*0+(c-48))*10 ^ l.length≤9*10 ^ l.length:=Int.mul_le_mul_of_nonneg_right (by omega) (Int.le_of_lt (Int.pow_pos (by omega)))
  omega
theorem N8{l:List Int}(hd:AllD l)(h0:∀ c r,l=c::r→c≠48)(h:7<l.length):10000000≤dv 0 l:=by
 cases l with
 | nil=>cases h
 | cons c r =>
  have h1:=hd.head
  have h2:=h0 c r rfl
  have h3:=ku r 0 hd.tail (Int.le_refl 0)
  rw[iR,kv]
  simp only[aW]at h
  have h4:(10:Int) ^ 7≤10 ^ r.length:=by
   have:(10:Nat) ^ 7≤10 ^ r.length:=Nat.pow_le_pow_right (by omega) (by omega)
   exact_mod_cast this
  have h5:1*(10:Int) ^ r.length≤(10*0+(c-48))*10 ^ r.length:=Int.mul_le_mul_of_nonneg_right (by omega) (Int.le_of_lt (Int.pow_pos (by omega)))
  omega
def fr:List Int→Int→Int
 | [],_=>0
 | c::l,u=>(c-48)*u+fr l (u/10)
theorem Hk:∀ l:List Int,fr l 0=0
 | []=>rfl
 | c::l=>by show(c-48)*0+fr l (0/10)=0;rw[Int.mul_zero,show(0:Int)/10=0 from rfl,Hk l];rfl
def uA:Nat→Int
 | 0=>0
 | k+1=>10 ^ k
theorem Y6(k:Nat):uA (k+1)/10=uA k:=by
 cases k with
 | zero=>rfl
 | succ k=>show(10:Int) ^ (k+1)/10=10 ^ k;rw[Int.pow_succ];omega
theorem vT:∀ k:Nat,dv 0 (List.replicate k 48)=0
 | 0=>rfl
 | k+1=>by rw[List.replicate_succ,iR];exact vT k
theorem wc:∀ (l:List Int) (k m:Nat),k≤m→fr l (uA k)=dv 0 ((l++List.replicate m 48).take k)
 | [],k,m,h=>by rw[bl,List.take_replicate,Nat.min_eq_left h,vT];rfl
 | c::l,0,m,h=>by rw[List.take_zero];exact Hk _
 | c::l,k+1,m,h=>by
  rw[List.cons_append,List.take_succ_cons,iR,kv,aU,ah,bf,Nat.min_eq_left (by omega),← wc l k m (by omega)]
  show(c-48)*10 ^ k+fr l (uA (k+1)/10)=_
  rw[Y6,Int.mul_zero,Int.zero_add]
theorem pj(l:List Int)(hd:AllD l):0≤fr l 100000∧fr l 100000<1000000:=by
 have e:fr l 100000=dv 0 ((l++List.replicate 6 48).take 6):=wc l 6 6 (aK 6)
 have hd':AllD ((l++List.replicate 6 48).take 6):=fun x hx=>by
  rcases aE.1 (List.mem_of_mem_take hx)with h | h
  ·exact hd x h
  ·rw[(List.mem_replicate.1 h).2];omega
 have h1:=vR _ hd'
 have h2:((l++List.replicate 6 48).take 6).length=6:=by rw[aU,ah,bf];omega
 rw[h2]at h1
 rw[e]
 exact⟨ku _ _ hd' (Int.le_refl 0),h1⟩
def sat:Int→List Int→Int
 | n,[]=>n
 | n,c::l=>if n≤9000000000000 then sat (10*n+(c-48)*1000000) l else sat n l
theorem KY:∀ (l:List Int) (n:Int),9000000000000<n→sat n l=n
 | [],n,_=>rfl
 | c::l,n,h=>by unfold sat;rw[aq];exact KY l n h
theorem KZ:∀ (l:List Int) (a:Int),AllD l→0≤a→(sat (a*1000000) l=dv a l*1000000)∨(9000000000000<sat (a*1000000) l∧9000000000000<dv a l*1000000)
 | [],a,_,_=>.inl rfl
 | c::l,a,hd,h=>by
  have hc:=hd.head
  unfold sat
  rw[iR]
  by_cases hn:a*1000000≤9000000000000
  ·rw[bw hn,show 10*(a*1000000)+(c-48)*1000000=(10*a+(c-48))*1000000 by omega]
   exact KZ l _ hd.tail (by omega)
  ·rw[bz hn,KY _ _ (by omega)]
   refine .inr ⟨by omega,?_⟩
   have h1:=ku l 0 hd.tail (Int.le_refl 0)
   have h2:a*1≤(10*a+(c-48))*10 ^ l.length:=Int.mul_le_mul (by omega) (by have:(0:Int)<10 ^ l.length:=Int.pow_pos (by omega);omega) (by omega) (by omega)
   rw[kv]
   omega
theorem ER(c:Int):∀ l:List Int,l.length≤4294967296→oJ l c=some (l.dropWhile (fun x=>decide (x=c)),())
 | [],h=>by rw[Ma,bz (by simp)];rfl
 | x::l,h=>by
  simp only[aW]at h
  rw[Ma,am ((by simp only[aW];omega)),bw (by simp only[aW];omega)]
  by_cases hx:x=c
  ·rw[bw (by simp[hx]),bw (by simp only[aW];omega),List.dropWhile_cons_of_pos (by simp[hx])]
   have:List.take ((x::l).length-1) (List.drop 1 (x::l))=l:=by simp
   rw[this]
   exact ER c l (by omega)
  ·rw[bz (by simpa using hx),List.dropWhile_cons_of_neg (by simpa using hx)]
theorem FE(l:List Int)(c:Int)(hc:c<128)(h:l.length≤4294967296):uN l [c]=some (l.dropWhile (fun x=>decide (x=c)),()):=by
 rw[ZB]
 by_cases h0:l=[]
 ·rw[am h0,h0];rfl
 ·rw[al h0,bz (by simp),bw (by simp),bw (by simp),bw (by simpa using hc),bw (by simp),Mb]
  show Option.bind (oJ l c) _=_
  rw[ER c l h];rfl
theorem Y0(c:Int):∀ (n:Nat) (l:List Int),l.length=n→l.length≤4294967296→∃ r,qP l c=some (r,())∧r.length≤l.length∧((∀ x∈r,x=c) ↔ ∀ x∈l,x=c):=by
 intro n
 induction n with
 | zero =>
  intro l hl h
  have:l=[]:=List.eq_nil_of_length_eq_zero hl
  subst this
  exact⟨[],by rw[Md,bz (by simp)],aK _,Iff.rfl⟩
 | succ n ih =>
  intro l hl h
  rw[Md,au,aw,ap,show((l.length:Int)-1).toNat=l.length-1 by omega,dj (by omega)]
  by_cases hx:l[l.length-1]=c
  ·rw[am hx,ap]
   have e:List.take (l.length-1-0) (List.drop 0 l)=l.take (l.length-1):=rfl
   rw[e]
   obtain⟨r,r1,r2,r3⟩:=ih (l.take (l.length-1)) (by rw[aU];omega) (by rw[aU];omega)
   have hs:l=l.take (l.length-1)++[c]:=by
    have h1:=List.take_append_drop (l.length-1) l
    have h2:l.drop (l.length-1)=[l[l.length-1]]:=by
     rw[aj (by omega),a7 (by omega)]
    rw[h2,hx]at h1
    exact h1.symm
   rw[aU]at r2
   refine⟨r,r1,by omega,r3.trans ?_⟩
   constructor
   ·intro h5 x hx5
    rw[hs]at hx5
    rcases aE.1 hx5 with h6 | h6
    ·exact h5 x h6
    ·exact aN.1 h6
   ·intro h5 x hx5
    exact h5 x (List.mem_of_mem_take hx5)
  ·rw[al hx]
   exact⟨l,rfl,aK _,Iff.rfl⟩
theorem GS(c:Int):∀ l:List Int,l.dropWhile (fun x=>decide (x=c))=[] ↔ ∀ x∈l,x=c
 | []=>by simp
 | a::l=>by
  by_cases h:a=c
  ·rw[List.dropWhile_cons_of_pos (by simp[h]),GS c l]
   simp[h]
  ·rw[List.dropWhile_cons_of_neg (by simp[h])]
   simp[h]
theorem Mr(l:List Int)(h:l.length≤4294967296):∃ r,E9 l [32]=some (r,())∧(r=[] ↔ ∀ x∈l,x=32):=by
 rw[ZC]
 by_cases h0:l=[]
 ·rw[am h0];exact⟨l,rfl,by simp[h0]⟩
 ·obtain⟨r,r1,r2,r3⟩:=Y0 32 l.length l rfl h
  rw[al h0,bz (by simp),bw (by simp),bw (by simp),bw (by simp),bw (by simp),ZD]
  show ∃ x,(Option.bind (qP l 32) _)=some (x,())∧_
  rw[r1,aa,bw (by simp),Mb]
  show ∃ x,(Option.bind (oJ r 32) _)=some (x,())∧_
  rw[ER 32 r (by omega)]
  exact⟨_,rfl,(GS 32 r).trans r3⟩
theorem MN(t:List Int)(ht:t.length≤18)(hd:AllD t)(h0:∀ c r,t=c::r→c≠45)(hne:t≠[]):∀ (d i:Nat) (n:Int),i+d=t.length→0≤n→n<10 ^ i→uM t n t (t.length:Int) (i:Int)=some (dv n (t.drop i),(),()):=by
 intro d
 induction d with
 | zero =>
  intro i n hi n0 n1
  rw[LT,av,bw (by have:=List.length_pos_iff.2 hne;omega),a7 (by omega)]
  cases t with
  | nil=>exact absurd rfl hne
  | cons c r=>rw[bz (by have:=h0 c r rfl;simpa using this)];rfl
 | succ d ih =>
  intro i n hi n0 n1
  have hlt:i<t.length:=by omega
  have hx:=hd _ (aZ hlt)
  have hp:(10:Int) ^ i≤10 ^ 17:=by
   have:(10:Nat) ^ i≤10 ^ 17:=Nat.pow_le_pow_right (by omega) (by omega)
   exact_mod_cast this
  have hp1:(10:Int) ^ (i+1)=10 ^ i*10:=Int.pow_succ ..
  have e8:w8 (t[i]-48)=t[i]-48:=uD (by omega) (by omega)
  rw[LT,au,ap,cX hlt,e8,av,aw (n:=n*10),aw (n:=t[i]-48),aw,cF hlt (by omega),ih (i+1) _ (by omega) (by omega) (by omega),aj hlt,iR,Int.mul_comm n 10]
theorem MO(t:List Int)(ht:t.length≤18)(hd:AllD t)(hne:t≠[]):E7 t=some (dv 0 t,(),()):=by
 have hp:=List.length_pos_iff.2 hne
 have h0:∀ c r,t=c::r→c≠45∧c≠43:=fun c r h=>by
  subst h;have:=hd.head;omega
 have hg:∀ z,t.getD 0 z≠45∧t.getD 0 z≠43:=fun z=>by
  cases t with
  | nil=>exact absurd rfl hne
  | cons c r=>exact h0 c r rfl
 rw[Zy,Zm,au,au,ap,al (by exact(hg 0).1),ap,al (by exact(hg 0).2),Zl,bw (by rw[ce];omega)]
 have:=MN t ht hd (fun c r h=>(h0 c r h).1) hne t.length 0 0 (by omega) (by omega) (by simp)
 rw[show(((0:Nat)):Int)=0 from rfl,aQ]at this
 rw[this];rfl
theorem OZ(n:Int):fh n=some (decide (-9000000000000≤n∧n≤9000000000000),()):=by rw[Hw,fT];rfl
theorem P5(n:Int):wQ n=some (if -9000000000000≤n∧n≤9000000000000 then(n,true,()) else(0,false,())):=by
 rw[P4,OZ,aa]
 by_cases h:-9000000000000≤n∧n≤9000000000000
 ·rw[ac h,bz (by simp),bw h]
 ·rw[af h,bw (by simp),bz h]
theorem T2(w r:List Int)(hw:AllD w)(hr:AllD r)(lw:w.length≤1000000)(lr:r.length≤1000000):pA w r=some (if dv 0 w*1000000+fr r 100000≤9000000000000 then(dv 0 w*1000000+fr r 100000,true,()) else(0,false,())):=by
 rw[PJ,FE _ _ (by omega) (by omega),aa]
 have hb:=pj r hr
 have hz:=GT w
 have hT:AllD (w.dropWhile (fun x=>decide (x=48))):=fun x hx=>hw x ((List.dropWhile_sublist _).subset hx)
 have hTl:(w.dropWhile (fun x=>decide (x=48))).length≤w.length:=(List.dropWhile_sublist _).length_le
 have hT0:∀ c r,w.dropWhile (fun x=>decide (x=48))=c::r→c≠48:=fun c r h=>by
  have:=List.head?_dropWhile_not (fun x=>decide (x=48)) w
  rw[h]at this
  simpa using this
 generalize w.dropWhile (fun x=>decide (x=48))=T at *
 rw[bw (by simp only[aW,List.length_nil];omega),bw (by rw[ah];simp only[aW,List.length_nil];omega)]
 by_cases h7:(T.length:Int)>7
 ·have:=N8 hT hT0 (by omega)
  rw[am h7,aq]
 ·have e6:List.take (6-0) (List.drop 0 (r++[48,48,48,48,48,48]))=(r++List.replicate 6 48).take 6:=rfl
  have hR:AllD ((r++List.replicate 6 48).take 6):=fun x hx=>by
   rcases aE.1 (List.mem_of_mem_take hx)with h | h
   ·exact hr x h
   ·rw[(List.mem_replicate.1 h).2];omega
  have hRl:((r++List.replicate 6 48).take 6).length=6:=by rw[aU,ah,bf];omega
  have hRv:dv 0 ((r++List.replicate 6 48).take 6)=fr r 100000:=(wc r 6 6 (aK 6)).symm
  rw[e6,al h7]
  generalize (r++List.replicate 6 48).take 6=R at *
  rw[bw (by simp only[aW,List.length_nil];omega),bw (by simp only[ah,aW,List.length_nil];omega)]
  have hall:AllD (([48]++T)++R):=fun x hx=>by
   rcases aE.1 hx with h | h
   ·rcases aE.1 h with h | h
    ·rw[aN.1 h];omega
    ·exact hT x h
   ·exact hR x h
  rw[MO _ (by simp only[ah,aW,List.length_nil];omega) hall (by simp),aa]
  have ev:dv 0 (([48]++T)++R)=dv 0 w*1000000+fr r 100000:=by
   rw[vQ,vQ,kv,hRl,hRv,show dv 0 [48]=0 from rfl,hz];rfl
  have hn:=ku w 0 hw (Int.le_refl 0)
  rw[ev,P5,aa]
  by_cases hm:dv 0 w*1000000+fr r 100000≤9000000000000
  ·rw[bw hm,bw ⟨by omega,hm⟩]
  ·rw[bz hm,bz (fun x=>hm x.2)]
def Bt(b:List Int):Prop:=∀ x∈b,0≤x∧x≤255
theorem nJ(x:Int):jd x=some (isD x,()):=by
 rw[XQ]
 unfold isD
 by_cases h:x≥48
 ·rw[am h,show decide (48≤x)=true from ac h,Bool.true_and]
 ·rw[al h,show decide (48≤x)=false from af h,Bool.false_and]
def fin(p:Int)(b:Bool)(n m:Int):Option (Int×Int×Unit):=if m=0 then some (0,0,())else if n>9000000000000 then some (0,0,())else some (if b=true then 0-n else n,p,())
theorem Ft(p:Int)(b:Bool)(n m:Int)(h0:0≤n):eT p b n m=fin p b n m:=by
 rw[JQ]
 unfold fin
 by_cases h1:m=0
 ·rw[am h1,bw h1]
 ·rw[al h1,bz h1]
  by_cases h2:n>9000000000000
  ·rw[am h2,bw h2]
  ·rw[al h2,bz h2,aw]
   cases b <;> rfl
theorem Mp(s:List Int)(hs:s.length≤1000000)(b:Bool):∀ (d i:Nat) (n m u:Int),i+d=s.length→0≤n→0≤u→u≤100000→n≤200000000000000+1000000*i→0≤m→m≤2000000+i →
  ∃ n',i5 s (i:Int) b n m u=eT ((i+(cK (s.drop i)).length:Nat):Int) b n' (m+(cK (s.drop i)).length)∧n'=n+fr (cK (s.drop i)) u:=by
 intro d
 induction d with
 | zero =>
  intro i n m u hd h0 hu hu2 hn hm hm2
  rw[nj (show s.length≤i by omega)]
  refine⟨n,?_,by show n=n+0;omega⟩
  rw[s7,av]
  simp
 | succ d ih =>
  intro i n m u hd h0 hu hu2 hn hm hm2
  have hi:i<s.length:=by omega
  rw[s7,au,ap,cX hi,nJ,aa]
  cases hx:isD s[i] with
  | true =>
   have hxb:=(nF _).1 hx
   have hmul:0≤(s[i]-48)*u∧(s[i]-48)*u≤900000:=by
    have h1:(s[i]-48)*u≤9*u:=Int.mul_le_mul_of_nonneg_right (by omega) hu
    exact⟨Int.mul_nonneg (by omega) hu,by omega⟩
   rw[bw rfl,ap,bh hu,aw (n:=s[i]),aw (n:=s[i]-48),aw (n:=(s[i]-48)*u),aw (n:=n+(s[i]-48)*u),aw (n:=m+1),aw (n:=u/10),cF hi (by omega)]
   obtain⟨n',e1,e2⟩:=ih (i+1) (n+(s[i]-48)*u) (m+1) (u/10) (by omega) (by omega) (by omega) (by omega) (by omega) (by omega) (by omega)
   rw[rB hi hx,aW]
   refine⟨n',?_,?_⟩
   ·rw[e1]
    congr 1
    ·omega
    ·omega
   ·rw[e2]
    show _=n+((s[i]-48)*u+fr _ (u/10))
    omega
  | false =>
   rw[bz (by simp),o9 hi hx]
   exact⟨n,by simp,by show n=n+0;omega⟩
def dy(s:List Int)(p:Nat):List Int:=if s[p]? = some 46 then cK (s.drop (p+1))else []
def gN(s:List Int)(p:Nat):Nat:=if dy s p=[]then p else p+1+(dy s p).length
theorem Fq(s:List Int)(hs:s.length≤1000000)(b:Bool)(p:Nat)(hp:p≤s.length)(n m:Int)(h0:0≤n)(hn:n≤100000000000000)(hm:0≤m)(hm2:m≤1000000) :
  (if(decide ((w64 ((p:Int)+1))<(List.length s:Int)))=true then
   if(0:Int)≤(p:Int)∧(p:Int)<(List.length s:Int) then
    if(decide ((List.getD s (p:Int).toNat 0)=46))=true then
     if(0:Int)≤(w64 ((p:Int)+1))∧(w64 ((p:Int)+1))<(List.length s:Int) then
      (jd (List.getD s (w64 ((p:Int)+1)).toNat 0)).bind fun(r2:Bool×Unit) =>
      if r2.1=true then
       i5 s (w64 ((p:Int)+1)) b n m 100000
      else
       eT (p:Int) b n m
     else none
    else
     eT (p:Int) b n m
   else none
  else
   eT (p:Int) b n m)=fin (gN s p) b (n+fr (dy s p) 100000) (m+(dy s p).length):=by
 have hw:w64 ((p:Int)+1)=((p+1:Nat):Int):=cF (n:=1000001) (by omega) (by omega)
 rw[hw]
 have none:dy s p=[]→eT (p:Int) b n m=fin (gN s p) b (n+fr (dy s p) 100000) (m+(dy s p).length):=by
  intro h
  unfold gN
  rw[h,bw rfl,Ft _ _ _ _ h0]
  show fin p b n m=fin p b (n+0) (m+(0:Nat))
  congr 1
  ·omega
  ·omega
 by_cases h1:((p+1:Nat):Int)<(s.length:Int)
 ·have hp1:p<s.length:=by omega
  have hp2:p+1<s.length:=by omega
  rw[am h1,ap,cX hp1]
  by_cases h2:s[p]=46
  ·rw[am h2,ap,cX hp2,nJ,aa]
   have hf:dy s p=cK (s.drop (p+1)):=by unfold dy;rw[List.getElem?_eq_getElem hp1,h2,bw rfl]
   cases hx:isD s[p+1] with
   | true =>
    rw[bw rfl]
    obtain⟨n',e1,e2⟩:=Mp s hs b (s.length-(p+1)) (p+1) n m 100000 (by omega) h0 (by omega) (by omega) (by omega) hm (by omega)
    have hb:=pj _ (lL (s.drop (p+1)))
    have hne:dy s p≠[]:=by
     rw[hf,rB hp2 hx]
     exact List.cons_ne_nil _ _
    rw[e1,e2,Ft _ _ _ _ (by omega),hf]
    unfold gN
    rw[bz hne,hf]
   | false =>
    rw[bz (by simp)]
    refine none ?_
    rw[hf,o9 hp2 hx]
  ·rw[al h2]
   refine none ?_
   unfold dy
   rw[List.getElem?_eq_getElem hp1,bz (by simpa using h2)]
 ·rw[al h1]
  refine none ?_
  unfold dy
  split
  ·exact nj (by omega)
  ·rfl
theorem Mo(s:List Int)(hs:s.length≤1000000)(hb:Bt s)(b:Bool):∀ (d i:Nat) (n m:Int),i+d=s.length→0≤n→n≤100000000000000→0≤m→m≤i →
  jR s (i:Int) b n m=fin (gN s (i+(cK (s.drop i)).length)) b (sat n (cK (s.drop i))+fr (dy s (i+(cK (s.drop i)).length)) 100000) (m+(cK (s.drop i)).length+(dy s (i+(cK (s.drop i)).length)).length):=by
 intro d
 induction d with
 | zero =>
  intro i n m hd h0 hn hm hm2
  rw[sZ,av,Fq s hs b i (by omega) n m h0 hn hm (by omega),nj (show s.length≤i by omega)]
  simp[sat]
 | succ d ih =>
  intro i n m hd h0 hn hm hm2
  have hi:i<s.length:=by omega
  have hx0:=hb _ (aZ hi)
  rw[sZ,au,ap]
  have hg:List.getD s (i:Int).toNat 0=s[i]:=cX hi 0
  rw[hg,nJ,aa]
  cases hx:isD s[i] with
  | true =>
   have hxb:=(nF _).1 hx
   have hdg:cK (s.drop i)=s[i]::cK (s.drop (i+1)):=rB hi hx
   rw[bw rfl,hdg]
   simp only[aW,sat]
   have el:i+((cK (s.drop (i+1))).length+1)=i+1+(cK (s.drop (i+1))).length:=by omega
   rw[el,cF hi (by omega),aw (n:=m+1)]
   by_cases hmx:n≤9000000000000
   ·rw[am hmx,ap,bw hmx,aw (n:=10*n),aw (n:=s[i]),aw (n:=s[i]-48),aw (n:=(s[i]-48)*1000000),aw (n:=10*n+(s[i]-48)*1000000),
     ih (i+1) _ (m+1) (by omega) (by omega) (by omega) (by omega) (by omega)]
    congr 1
    omega
   ·rw[al hmx,bz hmx,ih (i+1) n (m+1) (by omega) h0 hn (by omega) (by omega)]
    congr 1
    omega
  | false =>
   have hdg:cK (s.drop i)=[]:=o9 hi hx
   rw[bz (by simp),hdg]
   have he:=Fq s hs b i (by omega) n m h0 hn hm (by omega)
   rw[hg]at he
   simp only[List.length_nil,Nat.add_zero,sat]
   rw[he]
   congr 1
   omega
theorem GO(s:List Int)(hs:s.length≤1000000):∀ (d p j:Nat),p+j+d=s.length+1→rW s (p:Int) (j:Int)=some (((j+(cK (s.drop (p+j))).length:Nat):Int),()):=by
 intro d
 induction d with
 | zero =>
  intro p j hd
  rw[HR,aw,av,nj (by omega)]
  simp
 | succ d ih =>
  intro p j hd
  rw[HR,aw (n:=(p:Int)+j)]
  by_cases hlt:(p:Int)+j<(s.length:Int)
  ·have hi:p+j<s.length:=by omega
   have hg:List.getD s ((p:Int)+j).toNat 0=s[p+j]:=by
    rw[show((p:Int)+j).toNat=p+j by omega];exact dj hi 0
   rw[am hlt,ap,hg,cF (n:=1000001) (by omega) (by omega)]
   by_cases h1:s[p+j]≥48
   ·rw[am h1,ap]
    by_cases h2:s[p+j]≤57
    ·have hx:isD s[p+j]=true:=(nF _).2 ⟨h1,h2⟩
     rw[am h2,ih p (j+1) (by omega),rB hi hx,aW,show p+(j+1)=p+j+1 by omega]
     congr 3
     omega
    ·have hx:isD s[p+j]=false:=by
      cases h:isD s[p+j] with
      | false=>rfl
      | true=>exact absurd ((nF _).1 h).2 h2
     rw[al h2,o9 hi hx]
     simp
   ·have hx:isD s[p+j]=false:=by
     cases h:isD s[p+j] with
     | false=>rfl
     | true=>exact absurd ((nF _).1 h).1 h1
    rw[al h1,o9 hi hx]
    simp
  ·rw[al hlt,nj (by omega)]
   simp
theorem HB(p:Int)(b:Bool)(w r:List Int)(hw:AllD w)(hr:AllD r)(lw:w.length≤1000000)(lr:r.length≤1000000):lT p b w r=fin p b (dv 0 w*1000000+fr r 100000) ((w.length:Int)+r.length):=by
 have hb:=pj r hr
 have hn:=ku w 0 hw (Int.le_refl 0)
 have tail:0<w.length+r.length→((pA w r).bind fun(r1:Int×Bool×Unit)=>if(!r1.2.1)=true then some ((0:Int),(0:Int),())else if b=true then some ((w64 (0-r1.1)),p,())else some (r1.1,p,()))=fin p b (dv 0 w*1000000+fr r 100000) ((w.length:Int)+r.length):=by
  intro hl
  rw[T2 w r hw hr lw lr,aa]
  unfold fin
  rw[bz (show ¬ (w.length:Int)+r.length=0 by omega)]
  by_cases h:dv 0 w*1000000+fr r 100000≤9000000000000
  ·rw[bw h]
   dsimp only
   rw[bz (show ¬ (!true)=true by decide),bz (show ¬ dv 0 w*1000000+fr r 100000>9000000000000 by omega),aw]
   cases b <;> rfl
  ·rw[bz h]
   dsimp only
   rw[bw (show(!false)=true by decide),ap]
 rw[OV]
 by_cases h1:w=[]
 ·rw[am h1]
  by_cases h2:r=[]
  ·rw[am h2,h1,h2];rfl
  ·rw[al h2]
   exact tail (by have:=List.length_pos_iff.2 h2;omega)
 ·rw[al h1]
  exact tail (by have:=List.length_pos_iff.2 h1;omega)
theorem Hz(s:List Int)(hs:s.length≤1000000)(b:Bool)(i:Nat)(hi:i≤s.length) :
  ip s (i:Int) b=fin (gN s (i+(cK (s.drop i)).length)) b (dv 0 (cK (s.drop i))*1000000+fr (dy s (i+(cK (s.drop i)).length)) 100000) ((cK (s.drop i)).length+(dy s (i+(cK (s.drop i)).length)).length):=by
 have hdl:=rC (s.drop i)
 rw[aV]at hdl
 have hD:=lL (s.drop i)
 rw[OU,HS,show(0:Int)=((0:Nat):Int)from rfl,GO s hs (s.length+1-i) i 0 (by omega),aa,Nat.zero_add,Nat.add_zero]
 dsimp only
 rw[aw]
 have hcut:List.take (((i:Int)+((cK (s.drop i)).length:Nat)).toNat-(i:Int).toNat) (List.drop (i:Int).toNat s)=cK (s.drop i):=by
  rw[show((i:Int)+((cK (s.drop i)).length:Nat)).toNat-(i:Int).toNat=(cK (s.drop i)).length by omega,ag]
  exact GP _
 rw[hcut]
 generalize hDD:cK (s.drop i)=D at *
 have hz:(((0:Nat)):Int)=0:=rfl
 rw[hz,ap]
 have hp:(i:Int)+(D.length:Nat)=((i+D.length:Nat):Int):=by omega
 rw[hp]
 generalize hP:i+D.length=P at *
 have none:dy s P=[]→lT (P:Int) b D []=fin (gN s P) b (dv 0 D*1000000+fr (dy s P) 100000) (D.length+(dy s P).length):=by
  intro h
  rw[HB _ _ _ _ hD (fun x hx=>by cases hx) (by omega) (by simp)]
  unfold gN
  rw[h,bw rfl]
 by_cases h1:(P:Int)<(s.length:Int)
 ·have hP1:P<s.length:=by omega
  rw[am h1,ap,cX hP1]
  by_cases h2:s[P]=46
  ·have hw:w64 ((P:Int)+1)=((P+1:Nat):Int):=cF hP1 (by omega)
   have hf:dy s P=cK (s.drop (P+1)):=by unfold dy;rw[List.getElem?_eq_getElem hP1,h2,bw rfl]
   have hfl:=rC (s.drop (P+1))
   rw[aV]at hfl
   have hF:=lL (s.drop (P+1))
   rw[am h2,hw,HS,show(0:Int)=((0:Nat):Int)from rfl,GO s hs (s.length-P) (P+1) 0 (by omega),aa,Nat.zero_add,Nat.add_zero]
   dsimp only
   rw[hz,b8 (n:=1+(((cK (s.drop (P+1))).length:Nat):Int)) (by omega) (by omega),b8 (n:=((P+1:Nat):Int)+(((cK (s.drop (P+1))).length:Nat):Int)) (by omega) (by omega),b8 (n:=(P:Int)+(1+(((cK (s.drop (P+1))).length:Nat):Int))) (by omega) (by omega)]
   have hcut2:List.take ((((P+1:Nat):Int)+((cK (s.drop (P+1))).length:Nat)).toNat-((P+1:Nat):Int).toNat) (List.drop ((P+1:Nat):Int).toNat s)=cK (s.drop (P+1)):=by
    rw[show(((P+1:Nat):Int)+((cK (s.drop (P+1))).length:Nat)).toNat-((P+1:Nat):Int).toNat=(cK (s.drop (P+1))).length by omega,ag]
    exact GP _
   rw[hcut2]
   generalize hFF:cK (s.drop (P+1))=F at *
   by_cases h3:(F.length:Int)>0
   ·rw[am h3,ap,HB _ _ _ _ hD hF (by omega) (by omega)]
    unfold gN
    rw[hf,bz (fun h=>by rw[h]at h3;simp at h3)]
    congr 1
    omega
   ·rw[al h3]
    exact none (by rw[hf];exact List.eq_nil_of_length_eq_zero (by omega))
  ·rw[al h2]
   refine none ?_
   unfold dy
   rw[List.getElem?_eq_getElem hP1,bz (by simpa using h2)]
 ·rw[al h1]
  refine none ?_
  unfold dy
  split
  ·exact nj (by omega)
  ·rfl
theorem tz(s:List Int)(hs:s.length≤1000000)(hb:Bt s)(b:Bool)(i:Nat)(hi:i≤s.length):em s (i:Int) b=ip s (i:Int) b:=by
 rw[JP,Mo s hs hb b (s.length-i) i 0 0 (by omega) (by omega) (by omega) (by omega) (by omega),Hz s hs b i hi]
 have hD:=lL (s.drop i)
 have hF:AllD (dy s (i+(cK (s.drop i)).length)):=by
  unfold dy
  split
  ·exact lL _
  ·intro x hx;cases hx
 generalize cK (s.drop i)=D at *
 generalize dy s (i+D.length)=F at *
 have hfb:=pj F hF
 have hsat:=KZ D 0 hD (Int.le_refl 0)
 rw[Int.zero_mul]at hsat
 rcases hsat with h | ⟨h1,h2⟩
 ·rw[h,Int.zero_add]
 ·unfold fin
  rw[Int.zero_add]
  by_cases hm:((D.length:Nat):Int)+(F.length:Nat)=0
  ·rw[bw hm,bw hm]
  ·rw[bz hm,bz hm,ap,ap]
theorem Oq{p:Int}{b:Bool}{n m:Int}(h0:0≤n):∃ v e,fin p b n m=some (v,e,())∧(e=0∨e=p)∧(-9000000000000≤v∧v≤9000000000000):=by
 unfold fin
 split
 ·exact⟨0,0,rfl,.inl rfl,by omega,by omega⟩
 ·split
  ·exact⟨0,0,rfl,.inl rfl,by omega,by omega⟩
  ·refine⟨_,p,rfl,.inr rfl,?_⟩
   split <;> omega
theorem Oa(s:List Int)(p:Nat)(hp:p≤s.length):gN s p≤s.length:=by
 unfold gN
 split
 ·exact hp
 ·rename_i h
  unfold dy at h ⊢
  by_cases h46:s[p]? = some 46
  ·rw[bw h46]at h ⊢
   have:=rC (s.drop (p+1))
   rw[aV]at this
   have hlt:p<s.length:=by
    by_cases h':p<s.length
    ·exact h'
    ·rw[List.getElem?_eq_none (by omega)]at h46;cases h46
   omega
  ·rw[bz h46]at h;exact absurd rfl h
theorem wq(s:List Int)(hs:s.length≤1000000)(b:Bool)(i:Nat)(hi:i≤s.length):∃ v e,ip s (i:Int) b=some (v,e,())∧(0≤e∧e≤(s.length:Int))∧(-9000000000000≤v∧v≤9000000000000):=by
 have hdl:=rC (s.drop i)
 rw[aV]at hdl
 have hF:AllD (dy s (i+(cK (s.drop i)).length)):=by
  unfold dy
  split
  ·exact lL _
  ·intro x hx;cases hx
 rw[Hz s hs b i hi]
 have h1:=ku _ 0 (lL (s.drop i)) (Int.le_refl 0)
 have h2:=pj _ hF
 have h3:=Oa s (i+(cK (s.drop i)).length) (by omega)
 obtain⟨v,e,k1,k2,k3⟩:=Oq (p:=(gN s (i+(cK (s.drop i)).length):Nat)) (b:=b) (n:=dv 0 (cK (s.drop i))*1000000+fr (dy s (i+(cK (s.drop i)).length)) 100000) (m:=((cK (s.drop i)).length+(dy s (i+(cK (s.drop i)).length)).length)) (by omega)
 exact⟨v,e,k1,by rcases k2 with rfl | rfl <;> omega,k3⟩
def dU(l:List Int):Nat:=(l.takeWhile (fun x=>decide (x=32))).length
noncomputable def front(s:List Int)(p:Nat):Option (Int×Int×Unit) :=
 if s[p]? = some 45 then ip s ((p+1:Nat):Int) true else if s[p]? = some 43 then ip s ((p+1:Nat):Int) false else ip s (p:Int) false
theorem WC(s:List Int)(hs:s.length≤1000000)(hb:Bt s):∀ (d i:Nat),i+d=s.length→kW s (i:Int)=front s (i+dU (s.drop i)):=by
 intro d
 induction d with
 | zero =>
  intro i hd
  rw[sY,av,av,av,tz s hs hb false i (by omega),a7 (by omega)]
  rw[show i+dU []=i from rfl]
  unfold front
  rw[List.getElem?_eq_none (by omega),bz (by simp),bz (by simp)]
 | succ d ih =>
  intro i hd
  have hi:i<s.length:=by omega
  have c1:(i:Int)<(s.length:Int):=by omega
  have c2:(0:Int)≤(i:Int)∧(i:Int)<(s.length:Int):=by omega
  have hg:List.getD s (i:Int).toNat 0=s[i]:=cX hi 0
  have hdr:=aj hi
  rw[sY,am c1,bw c2,hg,cF hi (by omega)]
  by_cases h:s[i]=32
  ·rw[am h,ih (i+1) (by omega),hdr]
   unfold dU
   rw[List.takeWhile_cons_of_pos (by simp[h]),aW,show i+1+(List.takeWhile (fun x=>decide (x=32)) (List.drop (i+1) s)).length=i+((List.takeWhile (fun x=>decide (x=32)) (List.drop (i+1) s)).length+1) by omega]
  ·have hl:dU (s.drop i)=0:=by
    unfold dU
    rw[hdr,List.takeWhile_cons_of_neg (by simpa using h)];rfl
   rw[al h,am c1,bw c2,am c1,bw c2,hl,show i+0=i from rfl]
   unfold front
   rw[List.getElem?_eq_getElem hi]
   by_cases h1:s[i]=45
   ·rw[am h1,bw (by rw[h1]),ac h1]
    exact tz s hs hb true (i+1) (by omega)
   ·rw[al h1,bw c2,bz (show ¬ some s[i]=some 45 by simpa using h1),af h1]
    by_cases h2:s[i]=43
    ·rw[am h2,bw (by rw[h2])]
     exact tz s hs hb false (i+1) (by omega)
    ·rw[al h2,bz (by simpa using h2)]
     exact tz s hs hb false i (by omega)
theorem TB(s:List Int):(s.length:Int)-(s.dropWhile (fun x=>decide (x=32))).length=dU s:=by
 have h:=congrArg List.length (List.takeWhile_append_dropWhile (p:=fun x=>decide (x=(32:Int))) (l:=s))
 rw[ah]at h
 unfold dU
 omega
theorem Ip(s:List Int):dU s≤s.length:=(List.takeWhile_sublist _).length_le
theorem PB(s:List Int)(hs:s.length≤1000000):rL s=front s (dU s):=by
 have hL:=TB s
 have hle:=Ip s
 rw[OX,FE _ _ (by omega) (by omega),aa]
 dsimp only
 rw[hL,aw (n:=(dU s:Int))]
 unfold front
 by_cases c1:(dU s:Int)<(s.length:Int)
 ·have hi:dU s<s.length:=by omega
  have c2:(0:Int)≤(dU s:Int)∧(dU s:Int)<(s.length:Int):=by omega
  have hg:List.getD s (dU s:Int).toNat 0=s[dU s]:=cX hi 0
  rw[am c1,bw c2,hg,cF hi (by omega),List.getElem?_eq_getElem hi]
  by_cases h2:s[dU s]=43
  ·rw[am h2,bw c2,bz (by rw[h2];simp),bw (by rw[h2]),af (by rw[h2];decide)]
  ·rw[al h2,bw c2]
   by_cases h1:s[dU s]=45
   ·rw[am h1,bw c2,bw (by rw[h1]),ac h1]
   ·rw[al h1,bz (by simpa using h1),bz (by simpa using h2)]
 ·rw[al c1,List.getElem?_eq_none (by omega),bz (by simp),bz (by simp)]
theorem NU(s:List Int)(hs:s.length≤1000000)(hb:Bt s):∃ v e,jQ s=some (v,e,())∧rL s=some (v,e,())∧(0≤e∧e≤(s.length:Int))∧(-9000000000000≤v∧v≤9000000000000):=by
 have h1:jQ s=front s (dU s):=by
  have:=WC s hs hb s.length 0 (by omega)
  rw[show(((0:Nat)):Int)=0 from rfl,aQ,Nat.zero_add]at this
  rw[JR,this]
 rw[h1,PB s hs]
 have hle:=Ip s
 have hlt:∀ c:Int,s[dU s]? = some c→dU s+1≤s.length:=fun c h=>by
  by_cases h':dU s<s.length
  ·exact h'
  ·rw[List.getElem?_eq_none (by omega)]at h;cases h
 unfold front
 split
 ·rename_i h
  obtain⟨v,e,k1,k2,k3⟩:=wq s hs true (dU s+1) (hlt _ h)
  exact⟨v,e,k1,k1,k2,k3⟩
 ·split
  ·rename_i h
   obtain⟨v,e,k1,k2,k3⟩:=wq s hs false (dU s+1) (hlt _ h)
   exact⟨v,e,k1,k1,k2,k3⟩
  ·obtain⟨v,e,k1,k2,k3⟩:=wq s hs false (dU s) hle
   exact⟨v,e,k1,k1,k2,k3⟩
theorem TN(s:List Int)(hs:s.length≤1000000)(v:Int):∀ (d i:Nat),i+d=s.length→qo s v (i:Int)=some (if ∀ x∈s.drop i,x=32 then(v,true,()) else(0,false,())):=by
 intro d
 induction d with
 | zero =>
  intro i hd
  rw[s8,av,a7 (by omega),bw (by simp)]
 | succ d ih =>
  intro i hd
  have hi:i<s.length:=by omega
  rw[s8,au,ap,cX hi,cF hi (by omega),ih (i+1) (by omega),aj hi]
  by_cases h:s[i]=32
  ·rw[bz (by simp[h])]
   simp[h]
  ·rw[bw (by simp[h]),bz (fun hh=>h (hh _ (aH ..)))]
theorem NV(s:List Int)(hs:s.length≤1000000)(hb:Bt s):∃ v ok,mz s=some (v,ok,())∧rM s=some (v,ok,())∧(-9000000000000≤v∧v≤9000000000000):=by
 obtain⟨v,e,k1,k2,k3,k4⟩:=NU s hs hb
 rw[JT,OY,k1,k2]
 simp only[aa]
 by_cases h:e=0
 ·rw[am h,am h];exact⟨0,false,rfl,rfl,by omega,by omega⟩
 ·obtain⟨n,rfl⟩:=Int.eq_ofNat_of_zero_le k3.1
  rw[al h,al h,bw k3,TN s hs v (s.length-n) n (by omega)]
  have hcut:List.take (s.length-(n:Int).toNat) (List.drop (n:Int).toNat s)=s.drop n:=by
   rw[ag,bg (by rw[aV];omega)]
  rw[hcut]
  obtain⟨r,r1,r2⟩:=Mr (s.drop n) (by rw[aV];omega)
  rw[r1,aa]
  by_cases hr:r=[]
  ·rw[bw (r2.1 hr),bz (by simp[hr])];exact⟨v,true,rfl,rfl,k4⟩
  ·rw[bz (fun hh=>hr (r2.2 hh)),bw (by simp[hr])];exact⟨0,false,rfl,rfl,by omega,by omega⟩
def ff(n:Nat):List Int:=(Lib.decDigits n).map fun b=>(b.toNat:Int)
theorem rA{n:Nat}(h:n<10):ff n=[48+(n:Int)]:=by
 unfold ff
 rw[Lib.decDigits,dif_pos h]
 have:(UInt8.ofNat (48+n)).toNat=48+n:=by rw[UInt8.toNat_ofNat'];omega
 simp only[bj,List.map_nil,this]
 congr 1
theorem vN{n:Nat}(h:¬ n<10):ff n=ff (n/10)++[48+((n%10:Nat):Int)]:=by
 unfold ff
 rw[Lib.decDigits,dif_neg h]
 have:(UInt8.ofNat (48+n%10)).toNat=48+n%10:=by rw[UInt8.toNat_ofNat'];omega
 simp only[List.map_append,bj,List.map_nil,this]
 congr 2
theorem AllD.app{l m:List Int}(h:AllD l)(g:AllD m):AllD (l++m):=fun x hx=>(aE.1 hx).elim (h x) (g x)
theorem GN(n:Nat):AllD (ff n)∧dv 0 (ff n)=n∧ff n≠[]∧(0<n→∃ c r,ff n=c::r∧49≤c):=by
 induction n using Nat.strongRecOn with
 | ind n ih =>
  by_cases h:n<10
  ·rw[rA h]
   refine⟨fun x hx=>?_,?_,by simp,fun h0=>⟨_,_,rfl,by omega⟩⟩
   ·rw[aN.1 hx];omega
   ·simp only[dv,List.foldl_cons,List.foldl_nil];omega
  ·obtain⟨h1,h2,h3,h4⟩:=ih (n/10) (by omega)
   rw[vN h]
   refine⟨h1.app fun x hx=>?_,?_,by simp,fun _=>?_⟩
   ·rw[aN.1 hx];omega
   ·rw[vQ,h2];simp only[dv,List.foldl_cons,List.foldl_nil];omega
   ·obtain⟨c,r,e,hc⟩:=h4 (by omega)
    rw[e]
    exact⟨c,r++_,rfl,hc⟩
theorem vO{n k:Nat}(h:n<10 ^ k)(hk:0<k):(ff n).length≤k:=by
 induction k generalizing n with
 | zero=>omega
 | succ k ih =>
  by_cases h9:n<10
  ·rw[rA h9];simp
  ·rw[vN h9,ah,bo]
   have hk0:0<k:=by
    rcases Nat.eq_zero_or_pos k with h0 | h0
    ·subst h0;omega
    ·exact h0
   have:=ih (n:=n/10) (by rw[Nat.pow_succ]at h;omega) hk0
   omega
theorem GM{r:Nat}(h:r<1000000):∃ l,ff (1000000+r)=49::l∧l.length=6∧AllD l∧dv 0 l=r:=by
 obtain⟨h1,h2,h3,h4⟩:=GN (1000000+r)
 obtain⟨c,l,e,hc⟩:=h4 (by omega)
 have hlen:=vO (n:=1000000+r) (k:=7) (by omega) (by omega)
 rw[e]at h1 h2 hlen
 have hl:=vR l h1.tail
 have hn:=ku l 0 h1.tail (Int.le_refl 0)
 have hc9:=h1.head
 rw[iR,kv]at h2
 simp only[aW]at hlen
 have h6:l.length=6:=by
  by_cases h6:l.length=6
  ·exact h6
  ·exfalso
   have h5:(10:Int) ^ l.length≤10 ^ 5:=by
    have:(10:Nat) ^ l.length≤10 ^ 5:=Nat.pow_le_pow_right (by omega) (by omega)
    exact_mod_cast this
   have:(10*0+(c-48))*10 ^ l.length≤9*10 ^ 5:=Int.mul_le_mul (by omega) h5 (Int.le_of_lt (Int.pow_pos (by omega))) (by omega)
   omega
 rw[h6]at h2 hl
 have hc1:c=49:=by omega
 subst hc1
 exact⟨l,e,h6,h1.tail,by omega⟩
theorem Qr(n:Nat):∀ acc:List Int,acc.length+n≤9223372036854775807→ue (n:Int) acc=some ((if n=0 then []else ff n)++acc,()):=by
 induction n using Nat.strongRecOn with
 | ind n ih =>
  intro acc hb
  rw[XR]
  by_cases h0:n=0
  ·rw[av,bw h0];rfl
  ·have e1:Int.tdiv (n:Int) 10=((n/10:Nat):Int):=rfl
   have e2:Int.tmod (n:Int) 10=((n%10:Nat):Int):=rfl
   have e3:w8 (w64 (48+((n%10:Nat):Int)))=48+((n%10:Nat):Int):=by rw[aw,uD (by omega) (by omega)]
   rw[au,e1,e2,e3,bw (by rw[bo];omega),aw,bz h0,ih (n/10) (by omega) _ (by rw[ah,bo];omega)]
   by_cases h9:n<10
   ·rw[ap,rA h9,Nat.mod_eq_of_lt h9];rfl
   ·rw[aq,vN h9,ai]
theorem xd(n:Nat)(h:n≤9223372036854775807):qB (n:Int)=some (ff n,()):=by
 rw[XS]
 by_cases h0:n=0
 ·subst h0
  rw[au,rA (by omega)];rfl
 ·rw[av,Qr n [] (by simpa using h),bz h0,aL]
def fK(c:Int)(l:List Int):List Int:=(l.reverse.dropWhile (fun x=>decide (x=c))).reverse
theorem LF(c:Int)(l:List Int):fK c (l++[c])=fK c l:=by
 unfold fK
 rw[List.reverse_append,List.reverse_singleton,List.singleton_append,List.dropWhile_cons_of_pos (by simp)]
theorem LE{c x:Int}(h:x≠c)(l:List Int):fK c (l++[x])=l++[x]:=by
 unfold fK
 rw[List.reverse_append,List.reverse_singleton,List.singleton_append,List.dropWhile_cons_of_neg (by simpa using h),List.reverse_cons,List.reverse_reverse]
theorem BH{l:List Int}{n:Nat}(h:l.length=n+1):l=l.take (l.length-1)++[l[l.length-1]]:=by
 have h1:=List.take_append_drop (l.length-1) l
 have h2:l.drop (l.length-1)=[l[l.length-1]]:=by
  rw[aj (by omega),a7 (by omega)]
 rw[h2]at h1
 exact h1.symm
theorem LC(c:Int):∀ (n:Nat) (l:List Int),l.length=n→∃ k,l=fK c l++List.replicate k c∧((∃ x∈l,x≠c)→fK c l≠[])
 | 0,l,h=>by
  have:l=[]:=List.eq_nil_of_length_eq_zero h
  subst this
  exact⟨0,rfl,fun⟨x,hx,_⟩=>by cases hx⟩
 | n+1,l,h=>by
  have hs:=BH h
  generalize hA:l.take (l.length-1)=A at hs
  generalize l[l.length-1]=x at hs
  have hAl:A.length=n:=by rw[← hA,aU];omega
  subst hs
  by_cases hx:x=c
  ·subst hx
   obtain⟨k,e,g⟩:=LC x n A hAl
   rw[LF]
   refine⟨k+1,?_,fun⟨y,hy,hne⟩=>g ⟨y,?_,hne⟩⟩
   ·rw[List.replicate_succ',← ai,← e]
   ·rcases aE.1 hy with hy | hy
    ·exact hy
    ·exact absurd (aN.1 hy) hne
  ·rw[LE hx]
   exact⟨0,by simp,fun _=>by simp⟩
theorem LD(c:Int)(l:List Int):(fK c l).length≤l.length:=by
 obtain⟨k,e,_⟩:=LC c l.length l rfl
 have:=congrArg List.length e
 rw[ah]at this
 omega
theorem KX(t0:Int)(t4:List Int)(h4:t4.length≤1000):∀ (n:Nat) (l:List Int),l.length=n→l.length≤1000→(∃ x∈l,x≠48)→s9 t0 t4 l=qp t0 (t4++[46]++fK 48 l)
 | 0,l,hl,_,⟨x,hx,_⟩=>by
  have:l=[]:=List.eq_nil_of_length_eq_zero hl
  subst this
  cases hx
 | n+1,l,hl,h,hne=>by
  rw[VM,aw,ap,show((l.length:Int)-1).toNat=l.length-1 by omega,dj (by omega)]
  have hs:=BH hl
  have e:List.take (l.length-1-0) (List.drop 0 l)=l.take (l.length-1):=rfl
  by_cases hx:l[l.length-1]=48
  ·rw[am hx,ap,e]
   rw[hx]at hs
   obtain⟨x,hx1,hx2⟩:=hne
   have hx3:x∈l.take (l.length-1):=by
    rw[hs]at hx1
    rcases aE.1 hx1 with h1 | h1
    ·exact h1
    ·exact absurd (aN.1 h1) hx2
   rw[KX t0 t4 h4 n _ (by rw[aU];omega) (by rw[aU];omega) ⟨x,hx3,hx2⟩]
   have:fK 48 l=fK 48 (l.take (l.length-1)):=by
    generalize l.take (l.length-1)=A at *
    rw[hs];exact LF 48 A
   rw[this]
  ·rw[al hx,bw (by simp only[bo];omega),bw (by rw[ah];simp only[bo];omega)]
   have:fK 48 l=l:=by
    generalize hA:l.take (l.length-1)=A at hs
    generalize l[l.length-1]=x at hs hx
    rw[hs];exact LE hx _
   rw[this]
def pl(r:Nat):List Int:=if 0<r then 46::fK 48 ((ff (1000000+r)).drop 1)else []
def o8(n:Nat):List Int:=ff (n/1000000)++pl (n%1000000)
def lK(n:Int):List Int:=if -9000000000000≤n∧n≤9000000000000 then(if n<0 then [45]else [])++o8 n.natAbs else []
theorem OE{r:Nat}(h:r<1000000):(pl r).length≤7:=by
 unfold pl
 obtain⟨l,e,h6,_⟩:=GM h
 split
 ·rw[e,List.drop_one,List.tail_cons,aW]
  have:=LD 48 l
  omega
 ·simp
theorem NW{n:Nat}(h:n≤9000000000000):(o8 n).length≤14:=by
 unfold o8
 have h1:=vO (n:=n/1000000) (k:=7) (by omega) (by omega)
 have h2:=OE (r:=n%1000000) (by omega)
 rw[ah];omega
theorem NY(n:Int):(lK n).length≤15:=by
 unfold lK
 split
 ·rename_i h
  have:=NW (n:=n.natAbs) (by omega)
  rw[ah]
  split
  ·simp only[bo];omega
  ·simp only[List.length_nil];omega
 ·simp
theorem J0(n:Int)(t:List Int)(h:t.length≤1000):qp n t=some ((if n<0 then [45]else [])++t,()):=by
 rw[VN]
 by_cases h0:n<0
 ·rw[am h0,bw h0,bw (by rw[bo];omega)]
 ·rw[al h0,bz h0];rfl
theorem JV(n:Int):eU n=some (decide (-9000000000000≤n∧n≤9000000000000),()):=by
 rw[JU,KH]
 by_cases h:n ≥ -9000000000000
 ·rw[am h]
  simp[show -9000000000000≤n from h]
 ·rw[al h]
  simp[show ¬ -9000000000000≤n from h]
theorem VP(n:Int):yu n=some (lK n,()):=by
 rw[VO,JV,aa]
 dsimp only
 unfold lK
 by_cases h:-9000000000000≤n∧n≤9000000000000
 ·rw[ac h,bz (by decide),bw h]
  have ea:ow n=some (((n.natAbs:Nat):Int),()):=by
   rw[KG]
   by_cases h0:n<0
   ·rw[am h0,aw,show(0:Int)-n=((n.natAbs:Nat):Int) by omega]
   ·rw[al h0,show((n.natAbs:Nat):Int)=n by omega]
  rw[ea,aa]
  dsimp only
  generalize hm:n.natAbs=m
  have e1:Int.tdiv (m:Int) 1000000=((m/1000000:Nat):Int):=rfl
  have e2:Int.tmod (m:Int) 1000000=((m%1000000:Nat):Int):=rfl
  have h1:=vO (n:=m/1000000) (k:=7) (by omega) (by omega)
  rw[e1,e2,aw,xd _ (by omega),aa]
  dsimp only
  unfold o8 pl
  by_cases h0:0<m%1000000
  ·have e3:w64 (1000000+((m%1000000:Nat):Int))=((1000000+m%1000000:Nat):Int):=by rw[aw];omega
   obtain⟨l,e,h6,hd,hv⟩:=GM (r:=m%1000000) (by omega)
   have e4:List.take ((49::l).length-1) (List.drop 1 (49::l))=l:=by simp
   have h7:=LD 48 l
   have hne:∃ x∈l,x≠48:=by
    by_cases hh:∃ x∈l,x≠48
    ·exact hh
    ·exfalso
     have hall:∀ x∈l,x=48:=fun x hx=>by
      by_cases hx48:x=48
      ·exact hx48
      ·exact absurd ⟨x,hx,hx48⟩ hh
     rw[List.eq_replicate_of_mem hall,vT]at hv
     omega
   rw[au,e3,xd _ (by omega),aa,bw h0]
   dsimp only
   rw[e,e4,bw (by rw[aW];omega),KX n _ (by omega) _ l rfl (by omega) hne,J0 _ _ (by simp only[ah,bo];omega),List.drop_one,List.tail_cons,ai (ff _)]
   rfl
  ·rw[av,bz h0,aL,J0 _ _ (by omega)]
 ·rw[af h,bw (by decide),bz h]
end Go.Proofs.YtemajhlhgphhjaaGreatDoor.E.TM
