/- What the pure statement needs (1). No condition. -/
import Derived.Test.YtemajhlhgphhjaaGreatDoorEG4
import Derived.Laws.BitsLemmas
import Derived.Test.YtemajhlhgphhjaaGreatDoorTMe1
import Derived.Test.YtemajhlhgphhjaaGreatDoorTMe2
import Derived.Test.YtemajhlhgphhjaaGreatDoorTMe3
import Derived.Test.YtemajhlhgphhjaaGreatDoorTMe4
namespace Go.Proofs.YtemajhlhgphhjaaGreatDoor.E
set_option linter.unusedVariables false
theorem aa{α β:Type _}(a:α)(f:α→Option β):(some a).bind f=f a:=rfl
theorem ab{p:Prop}[Decidable p]:(decide p=true)=p:=decide_eq_true_eq
theorem ac{p:Prop}[Decidable p](a:p):decide p=true:=decide_eq_true a
theorem af{p:Prop}[Decidable p](a:¬p):decide p=false:=decide_eq_false a
theorem ag(n:Nat):((n:Int)).toNat=n:=Int.toNat_natCast n
theorem ah{α:Type _}{x y:List α}:(x++y).length=x.length+y.length:=List.length_append
theorem ai{α:Type _}(x y z:List α):x++y++z=x++(y++z):=List.append_assoc x y z
theorem aj{α:Type _}{i:Nat}{l:List α}(h:i<l.length):l.drop i=l[i]::l.drop (i+1):=List.drop_eq_getElem_cons h
theorem al{α:Sort _}{p:Prop}[Decidable p]{a b:α}(h:¬p):(if decide p=true then a else b)=b:=if_neg (by rw[decide_eq_true_eq];exact h)
theorem am{α:Sort _}{p:Prop}[Decidable p]{a b:α}(h:p):(if decide p=true then a else b)=a:=if_pos (decide_eq_true h)
theorem ap{α:Sort _}{c:Prop}[Decidable c]{a b:α}(h:c:=by omega):(if c then a else b)=a:=if_pos h
theorem aq{α:Sort _}{c:Prop}[Decidable c]{a b:α}(h:¬c:=by omega):(if c then a else b)=b:=if_neg h
theorem au{α:Sort _}{p:Prop}[Decidable p]{a b:α}(h:p:=by omega):(if decide p=true then a else b)=a:=if_pos (decide_eq_true h)
theorem av{α:Sort _}{p:Prop}[Decidable p]{a b:α}(h:¬p:=by omega):(if decide p=true then a else b)=b:=if_neg (by rw[decide_eq_true_eq];exact h)
theorem b7{n:Int}(h:-9223372036854775808≤n)(h':n≤9223372036854775807):w64 n=n:=by
 show IntKind.i64.wrap n=n
 rw[IntKind.wrap_i64];omega
theorem aw{n:Int}(h:-9223372036854775808≤n:=by omega)(h':n≤9223372036854775807:=by omega):w64 n=n:=b7 h h'
theorem uq{n:Int}(h:0≤n)(h':n≤255):w8 n=n:=by
 show IntKind.u8.wrap n=n
 rw[IntKind.wrap_u8];omega
theorem Lv(n:Int):0≤w8 n∧w8 n≤255:=by
 show 0≤IntKind.u8.wrap n∧IntKind.u8.wrap n≤255
 rw[IntKind.wrap_u8];omega
theorem cE{i:Nat}{n:Nat}(h:i<n)(hn:n≤9223372036854775807):w64 ((i:Int)+1)=((i+1:Nat):Int):=by
 rw[aw];omega
theorem EO(j:Nat)(hj:j≤63)(n:Int)(h₀:0≤n)(h₁:n<2 ^ j):IntKind.i64.wrap n=n:=by
 rw[IntKind.wrap_i64]
 have:(2:Int) ^ j≤2 ^ 63:=by exact_mod_cast Nat.pow_le_pow_right (by omega) hj
 omega
theorem FE{x:Int}(h0:0≤x)(h1:x<9223372036854775808):Go.bits .and .i64 x 127=x%128 :=
 bits_mask .i64 63 (by decide) (EO 63 (by omega)) 7 (by decide) x h0 h1
theorem T7{x:Int}(h0:0≤x)(h1:x<128):Go.bits .or .i64 x 128=x+128:=by
 obtain⟨a,rfl⟩:=Int.eq_ofNat_of_zero_le h0
 have e:=(bits_nat .i64 63 (by decide) (EO 63 (by omega)) a 128 (by omega) (by decide)).2
 have e2:=Nat.two_pow_add_eq_or_of_lt (i:=7) (b:=a) (by omega) 1
 have e3:((128:Nat):Int)=128:=rfl
 rw[e3]at e
 rw[e,Nat.or_comm]
 simp at e2
 omega
theorem ce:room=4294967296:=rfl
theorem di{α:Type}{l:List α}{i:Nat}(h:i<l.length)(z:α):l.getD i z=l[i]:=by
 rw[List.getD_eq_getElem?_getD,List.getElem?_eq_getElem h];rfl
theorem cW{α:Type}{l:List α}{i:Nat}(h:i<l.length)(z:α):l.getD (i:Int).toNat z=l[i]:=by
 rw[ag];exact di h z
theorem Ot{α:Type}{l:List α}{i:Nat}(h:i<l.length)(a z:α):(l.set i a).getD i z=a:=by
 rw[List.getD_eq_getElem?_getD,List.getElem?_set_self h];rfl
end Go.Proofs.YtemajhlhgphhjaaGreatDoor.E
namespace Go.Proofs.YtemajhlhgphhjaaGreatDoor.E.TM
def LeO{α:Type}(a b:Option α):Prop:=∀ y,a=some y→b=some y
theorem lr{α:Type}{a:Option α}:LeO a a:=fun _ h=>h
theorem ln{α:Type}{b:Option α}:LeO none b:=fun _ h=>by cases h
theorem li{α:Type}{c:Prop}[Decidable c]{a b a' b':Option α}(h:LeO a a')(k:LeO b b'):LeO (if c then a else b) (if c then a' else b'):=by
 by_cases hc:c
 ·rw[bw hc,bw hc];exact h
 ·rw[bz hc,bz hc];exact k
theorem lb{α β:Type}{a a':Option α}{k k':α→Option β}(h:LeO a a')(hk:∀ r,LeO (k r) (k' r)):LeO (a.bind k) (a'.bind k'):=by
 intro y hy
 cases a with
 | none=>cases hy
 | some r=>rw[h r rfl];exact hk r y hy
theorem leh{α:Type}{a b c:Option α}(h:c=b)(k:LeO a b):LeO a c:=h ▸ k
def E9{δ:Type}(f g:Option δ):Prop:=LeO f g
def cf{α0 δ:Type}(f g:α0→Option δ):Prop:=∀ x0,LeO (f x0) (g x0)
def cg{α0 α1 δ:Type}(f g:α0→α1→Option δ):Prop:=∀ x0 x1,LeO (f x0 x1) (g x0 x1)
def cI{α0 α1 α2 δ:Type}(f g:α0→α1→α2→Option δ):Prop:=∀ x0 x1 x2,LeO (f x0 x1 x2) (g x0 x1 x2)
def cA{α0 α1 α2 α3 δ:Type}(f g:α0→α1→α2→α3→Option δ):Prop:=∀ x0 x1 x2 x3,LeO (f x0 x1 x2 x3) (g x0 x1 x2 x3)
def fN{α0 α1 α2 α3 α4 δ:Type}(f g:α0→α1→α2→α3→α4→Option δ):Prop:=∀ x0 x1 x2 x3 x4,LeO (f x0 x1 x2 x3 x4) (g x0 x1 x2 x3 x4)
def fO{α0 α1 α2 α3 α4 α5 δ:Type}(f g:α0→α1→α2→α3→α4→α5→Option δ):Prop:=∀ x0 x1 x2 x3 x4 x5,LeO (f x0 x1 x2 x3 x4 x5) (g x0 x1 x2 x3 x4 x5)
def gE{α0 α1 α2 α3 α4 α5 α6 δ:Type}(f g:α0→α1→α2→α3→α4→α5→α6→Option δ):Prop:=∀ x0 x1 x2 x3 x4 x5 x6,LeO (f x0 x1 x2 x3 x4 x5 x6) (g x0 x1 x2 x3 x4 x5 x6)
def qW{α0 α1 α2 α3 α4 α5 α6 α7 δ:Type}(f g:α0→α1→α2→α3→α4→α5→α6→α7→Option δ):Prop:=∀ x0 x1 x2 x3 x4 x5 x6 x7,LeO (f x0 x1 x2 x3 x4 x5 x6 x7) (g x0 x1 x2 x3 x4 x5 x6 x7)
def qX{α0 α1 α2 α3 α4 α5 α6 α7 α8 δ:Type}(f g:α0→α1→α2→α3→α4→α5→α6→α7→α8→Option δ):Prop:=∀ x0 x1 x2 x3 x4 x5 x6 x7 x8,LeO (f x0 x1 x2 x3 x4 x5 x6 x7 x8) (g x0 x1 x2 x3 x4 x5 x6 x7 x8)
def Fe{α0 α1 α2 α3 α4 α5 α6 α7 α8 α9 α10 δ:Type}(f g:α0→α1→α2→α3→α4→α5→α6→α7→α8→α9→α10→Option δ):Prop:=∀ x0 x1 x2 x3 x4 x5 x6 x7 x8 x9 x10,LeO (f x0 x1 x2 x3 x4 x5 x6 x7 x8 x9 x10) (g x0 x1 x2 x3 x4 x5 x6 x7 x8 x9 x10)
set_option maxRecDepth 100000
structure FsBuild where
 f0:Int→Int→Int→Option (Bool×Unit)
 s_ProgOk:bG→Option (Bool×Unit)
 f2:Int→bG→Option (Bool×Unit)
 f3:Int→bG→Option (Bool×Unit)
 f4:(List Int)→Option (Bool×Unit)
 f5:(List Int)→Int→Option (Bool×Unit)
 f6:(List (List Int))→(List Int)→Option (Bool×Unit)
 f7:(List (List Int))→(List Int)→Int→Option (Bool×Unit)
 f8:(List bE)→Int→Int→Option (Bool×Unit)
 f9:(List bE)→Int→Int→Int→Int→Option (Bool×Unit)
 s_Build:(List Int)→Option (bG×Int×Unit)
 f11:Int→Option (Bool×Unit)
 f12:(List Int)→Option (Bool×Unit)
 f13:bE→Int→Int→Int→Option (Bool×Unit)
 f14:Int→Int→Int→Int→Bool→bE→Option (Bool×Unit)
 f15:Int→Int→Int→Bool→bE→Option (Bool×Unit)
 f16:Int→Int→Bool→bE→Option (Bool×Unit)
 f17:Int→Int→Bool→bE→Option (Bool×Unit)
 f18:Int→Option (Bool×Unit)
 f19:(List Int)→Option ((List bI)×Int×Unit)
 f20:(List bI)→(List bI)→Int→(List bK)→Int→Int→Bool→bD→Option ((List bI)×Int×Unit)
 f21:(List bI)→Option (bG×Int×Unit)
 f22:(List (List Int))→(List (List Int))→(List bI)→Int→bG→(List (List Int))→(List (List Int))→(List bE)→(List (List Int))→(List (List Int))→(List bE)→Option (bG×Int×Unit)
 f23:(List Int)→Option (Bool×Unit)
 f24:(List Int)→Int→Option (Bool×Unit)
 f25:Int→Int→Option (Int×Unit)
 f26:Option ((List (List Int))×Unit)
 s_RexParse:(List Int)→Option (bH×Bool×Unit)
 f28:(List Int)→Option (Int×Int×Unit)
 f29:(List Int)→Int→Option (Int×Int×Unit)
 f30:(List Int)→Int→Bool→Option (Int×Int×Unit)
 f31:(List Int)→Int→Bool→Int→Int→Option (Int×Int×Unit)
 f32:(List Int)→Int→Bool→Int→Int→Int→Option (Int×Int×Unit)
 f33:Int→Bool→Int→Int→Option (Int×Int×Unit)
 f34:(List Int)→Option ((List bK)×Int×Unit)
 f35:(List Int)→(List bK)→Int→Option ((List bK)×Int×Unit)
 f36:(List Int)→(List bK)→Int→Option ((List bK)×Int×Unit)
 f37:bU→Option (bK×bU×Unit)
 f38:bU→Option (bI×bU×Unit)
 f39:bD→Option (Int×Unit)
 f40:Int→Int→bD→Option (Int×Unit)
 f41:(List bI)→Option (Int×Unit)
 f42:(List bI)→Int→Option (Int×Unit)
 f43:(List bI)→(List (List Int))→(List (List Int))→Int→Option (Int×Unit)
 f44:(List bI)→Int→Option (Int×Unit)
 f45:(List bI)→Int→Option (Int×Unit)
 f46:(List bI)→Option ((List (List Int))×(List (List Int))×Unit)
 f47:(List bI)→(List (List Int))→(List (List Int))→Int→Option ((List (List Int))×(List (List Int))×Unit)
 f48:(List (List Int))→(List (List Int))→(List bE)→bD→Option (((List (List Int))×((List (List Int))×((List bE)×Unit)))×Unit)
 f49:Int→(List (List Int))→(List (List Int))→(List bE)→bD→Option (((List (List Int))×((List (List Int))×((List bE)×Unit)))×Unit)
 f50:(List (List Int))→(List (List Int))→(List bE)→bD→Option (((List (List Int))×((List (List Int))×((List bE)×Unit)))×Unit)
 f51:Int→Bool→(List (List Int))→(List (List Int))→(List bE)→bD→Option (((List (List Int))×((List (List Int))×((List bE)×Unit)))×Unit)
 f52:Int→(List (List Int))→(List (List Int))→(List bE)→bD→Option (((List (List Int))×((List (List Int))×((List bE)×Unit)))×Unit)
 f53:(List (List Int))→(List (List Int))→(List bE)→Int→Int→(List Int)→Option (Int×((List (List Int))×((List (List Int))×((List bE)×Unit)))×Unit)
 f54:bT→Int→Option (bH×bT×Unit)
 f55:Int→(List bH)→bT→bH→Option (bH×bT×Unit)
 f56:bH→Option (Int×Unit)
 f57:Int→Int→bH→Option (Int×Unit)
 f58:Int→Option (Bool×Unit)
 f59:(List Int)→Int→(List bK)→Option (bK×Int×Bool×Unit)
 f60:(List Int)→Int→Int→bK→Option (bK×Int×Bool×Unit)
 f61:bU→(List Int)→Option (Bool×bU×Unit)
 f62:bU→Option (bU×Unit)
 f63:bU→Option (bD×bU×Unit)
 f64:bU→Int→Int→(List Int)→(List bD)→Int→Int→(List Int)→(List bD)→Option (bD×bU×Unit)
 f65:bU→(List Int)→Option (Bool×bU×Unit)
 f66:bU→Option (bD×bU×Unit)
 f67:Int→bU→Int→Int→(List Int)→(List bD)→bD→Option (bD×bU×Unit)
 f68:Int→(List bD)→Option ((Int×(Int×((List Int)×((List bD)×Unit))))×Unit)
 f69:(List bI)→Option (Bool×Unit)
 f70:(List bI)→Int→Option (Bool×Unit)
 f71:bD→Option (Bool×Unit)
 f72:Int→bD→Option (Bool×Unit)
 f73:bD→Option (Bool×Unit)
 f74:Int→bD→Option (Bool×Unit)
 f75:Int→Int→bD→Option (Bool×Unit)
 f76:bD→Option (Bool×Unit)
 f77:Int→bD→Option (Bool×Unit)
 f78:bD→(List (List Int))→(List (List Int))→Option ((List (List Int))×(List (List Int))×Unit)
 f79:(List (List Int))→(List (List Int))→bD→Option ((List (List Int))×(List (List Int))×Unit)
 f80:(List (List Int))→(List (List Int))→Int→bD→Option ((List (List Int))×(List (List Int))×Unit)
 f81:(List (List Int))→(List (List Int))→(List bE)→bD→Option (((List (List Int))×((List (List Int))×((List bE)×Unit)))×Unit)
 f82:(List (List Int))→(List (List Int))→(List bE)→bD→Option (((List (List Int))×((List (List Int))×((List bE)×Unit)))×Unit)
 f83:(List (List Int))→(List (List Int))→(List bE)→bD→Option (((List (List Int))×((List (List Int))×((List bE)×Unit)))×Unit)
 f84:(List (List Int))→(List (List Int))→(List bE)→bD→Option (((List (List Int))×((List (List Int))×((List bE)×Unit)))×Unit)
 f85:(List (List Int))→(List (List Int))→(List bE)→bD→Option (((List (List Int))×((List (List Int))×((List bE)×Unit)))×Unit)
 f86:bT→Int→Option (bH×bT×Unit)
 f87:Int→(List bH)→bT→bH→Option (bH×bT×Unit)
 f88:bT→Int→Option (Bool×bT×Unit)
 f89:(List Int)→Int→Option (Int×Int×Bool×Unit)
 f90:(List Int)→Int→Int→Option (Int×Int×Bool×Unit)
 f91:(List Int)→Int→Int→Int→Option (Int×Int×Bool×Unit)
 f92:(List Int)→Int→Int→Option (Int×Int×Bool×Unit)
 f93:(List Int)→Int→Option ((List Int)×Int×Bool×Unit)
 f94:(List Int)→(List Int)→Int→Option ((List Int)×Int×Bool×Unit)
 f95:(List bK)→Option (Bool×Unit)
 f96:(List Int)→Int→Option ((List Int)×Int×Bool×Unit)
 f97:(List Int)→(List Int)→Int→Option ((List Int)×Int×Bool×Unit)
 f98:(List Int)→Int→Option ((List Int)×Unit)
 f99:(List Int)→Int→(List (List Int))→Int→Option ((List Int)×Unit)
 f100:bU→(List Int)→Option (bU×Unit)
 f101:bU→Option (bD×bU×Unit)
 f102:bU→Option (bD×bU×Unit)
 f103:bU→Int→Option (bD×bU×Unit)
 f104:bD→Option (Bool×Unit)
 f105:Int→Bool→bD→Option (Bool×Unit)
 f106:Int→Option (Bool×Unit)
 f107:(List (List Int))→(List Int)→Option ((List (List Int))×Unit)
 f108:(List (List Int))→(List Int)→Int→Option ((List (List Int))×Unit)
 f109:(List (List Int))→(List (List Int))→(List bE)→bD→Option (((List (List Int))×((List (List Int))×((List bE)×Unit)))×Unit)
 f110:(List (List Int))→(List (List Int))→(List bE)→bD→Option (((List (List Int))×((List (List Int))×((List bE)×Unit)))×Unit)
 f111:Int→(List (List Int))→(List (List Int))→(List bE)→bD→Option (((List (List Int))×((List (List Int))×((List bE)×Unit)))×Unit)
 f112:(List (List Int))→(List (List Int))→(List bE)→bD→Option (((List (List Int))×((List (List Int))×((List bE)×Unit)))×Unit)
 f113:(List (List Int))→(List (List Int))→(List bE)→bD→Option (((List (List Int))×((List (List Int))×((List bE)×Unit)))×Unit)
 f114:(List (List Int))→(List Int)→Option (Int×Unit)
 f115:(List (List Int))→(List Int)→Int→Option (Int×Unit)
 f116:Bool→Option (Int×Unit)
 f117:bT→Int→Option (bH×bT×Unit)
 f118:bT→bH→bH→Option (bH×bT×Unit)
 f119:Int→bT→bH→bH→Option (bH×bT×Unit)
 f120:bU→Option (bU×Unit)
 f121:bU→Int→Option (bD×bU×Unit)
 f122:bU→Option (bD×bU×Unit)
 f123:bU→Int→Int→(List Int)→(List bD)→Int→Int→(List Int)→(List bD)→Option (bD×bU×Unit)
 f124:bU→(List Int)→Option ((List bD)×bU×Unit)
 f125:(List Int)→(List bD)→bU→Option ((List bD)×bU×Unit)
 f126:bU→Option ((List Int)×bU×Unit)
 f127:bU→Option (bD×bU×Unit)
 f128:(List (List Int))→Int→bU→Int→Int→(List Int)→(List bD)→bD→Option (bD×bU×Unit)
 f129:bU→Option (bD×bU×Unit)
 f130:bU→Int→Int→(List Int)→(List bD)→bD→Option (bD×bU×Unit)
 f131:bU→Option (bD×bU×Unit)
 f132:bU→Int→Option (bD×bU×Unit)
 f133:Int→(List (List (List Int)))→(List (List Int))→bU→bD→bD→Option (bD×bU×Unit)
 f134:Int→(List (List (List Int)))→(List (List Int))→Int→bU→bD→bD→Option (bD×bU×Unit)
 f135:Int→(List (List (List Int)))→(List (List Int))→Int→bU→bD→bD→Option (bD×bU×Unit)
 f136:bD→Option (Bool×Unit)
 f137:Int→Int→Bool→bD→Option (Bool×Unit)
 f138:Int→Int→Bool→bD→Option (Bool×Unit)
 f139:Int→Int→Bool→bD→Option (Bool×Unit)
 f140:Int→Int→Bool→bD→Option (Bool×Unit)
 f141:Int→Int→bD→Option (Bool×Unit)
 f142:(List Int)→Option (Bool×Unit)
 f143:(List Int)→Int→Option (Bool×Unit)
 f144:bT→Int→Option (bH×bT×Unit)
 f145:Int→bT→bH→Option (bH×bT×Unit)
 f146:bU→Option (Bool×bU×Unit)
 f147:Int→Bool→bU→bK→Option (Bool×bU×Unit)
 f148:bU→Option (bD×bU×Unit)
 f149:bD→Int→Int→Option (Bool×Unit)
 f150:Int→Int→bD→Option (Bool×Unit)
 f151:bD→Int→Option (Bool×Unit)
 f152:Int→bD→Option (Bool×Unit)
 f153:bT→Option (bH×bT×Unit)
 f154:bT→bH→bH→Option (bH×bT×Unit)
 f155:(List Bool)→Int→bT→bH→bH→Option (bH×bT×Unit)
 f156:(List Bool)→Int→Int→Int→bT→bH→bH→Option (bH×bT×Unit)
 f157:(List Bool)→bT→bH→bH→Option (bH×bT×Unit)
 f158:(List Bool)→Int→Int→Int→bT→bH→bH→Option (bH×bT×Unit)
 f159:(List Bool)→(List Int)→Int→bT→bH→bH→Option (bH×bT×Unit)
 f160:(List Bool)→Int→Int→Int→bT→bH→bH→Option (bH×bT×Unit)
 s_NfaOf:bH→Option ((List bF)×Unit)
 f162:bH→Option (Bool×Unit)
 f163:(List bF)→bH→Option ((List bF)×Unit)
 f164:(List bF)→Int→bH→Option ((List bF)×Unit)
 f165:(List bF)→Option ((List bF)×Unit)
 f166:(List bF)→Int→Option ((List bF)×Unit)
 f167:bH→Option (Bool×Unit)
 f168:Int→bH→Option (Bool×Unit)
 f169:Int→Int→Bool→bH→Option (Bool×Unit)
 f170:Int→Bool→bH→Option (Bool×Unit)
 f171:(List bF)→(List bH)→Option ((List bF)×Unit)
 f172:(List bF)→(List bH)→(List Int)→Int→Option ((List bF)×Unit)
 f173:(List bF)→(List Int)→Int→Option ((List bF)×Unit)
 f174:(List Int)→Option (Bool×Unit)
 f175:(List Int)→Int→Option (Bool×Unit)
structure LeFsBuild (F:FsBuild):Prop where
 f0:cI F.f0 dA
 s_ProgOk:cf F.s_ProgOk s_ProgOk
 f2:cg F.f2 i5
 f3:cg F.f3 iy
 f4:cf F.f4 mL
 f5:cg F.f5 j0
 f6:cg F.f6 jf
 f7:cI F.f7 jZ
 f8:cI F.f8 mw
 f9:fN F.f9 jR
 s_Build:cf F.s_Build s_Build
 f11:cf F.f11 ow
 f12:cf F.f12 nR
 f13:cA F.f13 oh
 f14:fO F.f14 mz
 f15:fN F.f15 kX
 f16:cA F.f16 oi
 f17:cA F.f17 mA
 f18:cf F.f18 eR
 f19:cf F.f19 nV
 f20:qW F.f20 yD
 f21:cf F.f21 mu
 f22:Fe F.f22 yd
 f23:cf F.f23 ox
 f24:cg F.f24 mK
 f25:cg F.f25 ja
 f26:E9 F.f26 mJ
 s_RexParse:cf F.s_RexParse s_RexParse
 f28:cf F.f28 jO
 f29:cg F.f29 kU
 f30:cI F.f30 ej
 f31:fN F.f31 jP
 f32:fO F.f32 iY
 f33:cA F.f33 eQ
 f34:cf F.f34 yK
 f35:cI F.f35 yL
 f36:cI F.f36 yM
 f37:cf F.f37 AZ
 f38:cf F.f38 A2
 f39:cf F.f39 yj
 f40:cI F.f40 yk
 f41:cf F.f41 xW
 f42:cg F.f42 xX
 f43:cA F.f43 xY
 f44:cg F.f44 xZ
 f45:cg F.f45 ya
 f46:cf F.f46 yA
 f47:cA F.f47 yB
 f48:cA F.f48 zi
 f49:fN F.f49 zj
 f50:cA F.f50 zl
 f51:fO F.f51 zm
 f52:fN F.f52 zn
 f53:fO F.f53 zv
 f54:cg F.f54 jd
 f55:cA F.f55 lh
 f56:cf F.f56 mD
 f57:cI F.f57 mE
 f58:cf F.f58 jb
 f59:cI F.f59 Aq
 f60:cA F.f60 Ar
 f61:cg F.f61 AN
 f62:cf F.f62 AY
 f63:cf F.f63 AE
 f64:qX F.f64 AF
 f65:cg F.f65 A3
 f66:cf F.f66 AJ
 f67:gE F.f67 AK
 f68:cg F.f68 AO
 f69:cf F.f69 yI
 f70:cg F.f70 yJ
 f71:cf F.f71 yQ
 f72:cg F.f72 yR
 f73:cf F.f73 yN
 f74:cg F.f74 yO
 f75:cI F.f75 yP
 f76:cf F.f76 yX
 f77:cg F.f77 yY
 f78:cI F.f78 yS
 f79:cI F.f79 yT
 f80:cA F.f80 yU
 f81:cA F.f81 zx
 f82:cA F.f82 zw
 f83:cA F.f83 zh
 f84:cA F.f84 zq
 f85:cA F.f85 zp
 f86:cg F.f86 lf
 f87:cA F.f87 lg
 f88:cg F.f88 ga
 f89:cg F.f89 Am
 f90:cI F.f90 An
 f91:cA F.f91 Ao
 f92:cI F.f92 Ap
 f93:cg F.f93 Ay
 f94:cI F.f94 Az
 f95:cf F.f95 Ak
 f96:cg F.f96 Au
 f97:cI F.f97 Av
 f98:cg F.f98 Aw
 f99:cA F.f99 Ax
 f100:cg F.f100 A7
 f101:cf F.f101 A6
 f102:cf F.f102 AX
 f103:cg F.f103 AV
 f104:cf F.f104 Bl
 f105:cI F.f105 Bm
 f106:cf F.f106 Be
 f107:cg F.f107 yV
 f108:cI F.f108 yW
 f109:cA F.f109 zr
 f110:cA F.f110 zt
 f111:fN F.f111 zu
 f112:cA F.f112 zo
 f113:cA F.f113 zy
 f114:cg F.f114 zd
 f115:cI F.f115 ze
 f116:cf F.f116 i9
 f117:cg F.f117 mF
 f118:cI F.f118 lj
 f119:cA F.f119 jY
 f120:cf F.f120 AB
 f121:cg F.f121 A9
 f122:cf F.f122 A4
 f123:qX F.f123 A5
 f124:cg F.f124 AL
 f125:cI F.f125 AM
 f126:cf F.f126 AW
 f127:cf F.f127 AG
 f128:qW F.f128 AH
 f129:cf F.f129 A0
 f130:fO F.f130 A1
 f131:cf F.f131 A8
 f132:cg F.f132 AP
 f133:fO F.f133 AQ
 f134:gE F.f134 AR
 f135:gE F.f135 AU
 f136:cf F.f136 Bf
 f137:cA F.f137 Bg
 f138:cA F.f138 Bh
 f139:cA F.f139 Bi
 f140:cA F.f140 Bj
 f141:cI F.f141 Bk
 f142:cf F.f142 Bn
 f143:cg F.f143 Bo
 f144:cg F.f144 mC
 f145:cI F.f145 jc
 f146:cf F.f146 AC
 f147:cA F.f147 AD
 f148:cf F.f148 AA
 f149:cI F.f149 Bc
 f150:cI F.f150 Bd
 f151:cg F.f151 Ba
 f152:cg F.f152 Bb
 f153:cf F.f153 ot
 f154:cI F.f154 mG
 f155:fN F.f155 iA
 f156:gE F.f156 je
 f157:cA F.f157 gd
 f158:gE F.f158 mH
 f159:fO F.f159 lk
 f160:gE F.f160 ll
 s_NfaOf:cf F.s_NfaOf s_NfaOf
 f162:cf F.f162 yG
 f163:cg F.f163 z9
 f164:cI F.f164 Aa
 f165:cf F.f165 Ab
 f166:cg F.f166 Ag
 f167:cf F.f167 zX
 f168:cg F.f168 zY
 f169:cA F.f169 zZ
 f170:cI F.f170 z0
 f171:cg F.f171 Ac
 f172:cA F.f172 Ad
 f173:cI F.f173 Ae
 f174:cf F.f174 z5
 f175:cg F.f175 z6
def CP(F:FsBuild)(t0:Int)(t1:Int)(t2:Int):Option (Bool×Unit) :=
 if(decide (t0≥t1))=true then
  some ((decide (t0≤t2)),())
 else
  some (false,())
def B3(F:FsBuild)(t0:bG):Option (Bool×Unit) :=
 F.f2 0 t0
def B4(F:FsBuild)(t3:Int)(s16:bG):Option (Bool×Unit) :=
 if(decide (t3<(List.length s16.Vars:Int)))=true then
  if(0:Int)≤t3∧t3<(List.length s16.Vars:Int) then
   (F.f4 (List.getD s16.Vars t3.toNat [])).bind fun(r0:Bool×Unit) =>
   if(!r0.1)=true then
    some (false,())
   else
    if(0:Int)≤t3∧t3<(List.length s16.Vars:Int) then
     (F.f6 s16.Cells (List.getD s16.Vars t3.toNat [])).bind fun(r1:Bool×Unit) =>
     if r1.1=true then
      some (false,())
     else
      if(decide (t3>0))=true then
       if(0:Int)≤(w64 (t3-1))∧(w64 (t3-1))<(List.length s16.Vars:Int) then
        if(0:Int)≤t3∧t3<(List.length s16.Vars:Int) then
         if(!(ltS (List.getD s16.Vars (w64 (t3-1)).toNat []) (List.getD s16.Vars t3.toNat [])))=true then
          some (false,())
         else
          F.f2 (w64 (t3+1)) s16
        else none
       else none
      else
       F.f2 (w64 (t3+1)) s16
    else none
  else none
 else
  F.f3 0 s16
def B5(F:FsBuild)(t4:Int)(s16:bG):Option (Bool×Unit) :=
 if(decide (t4<(List.length s16.Cells:Int)))=true then
  if(0:Int)≤t4∧t4<(List.length s16.Cells:Int) then
   (F.f4 (List.getD s16.Cells t4.toNat [])).bind fun(r0:Bool×Unit) =>
   if(!r0.1)=true then
    some (false,())
   else
    if(decide (t4>0))=true then
     if(0:Int)≤(w64 (t4-1))∧(w64 (t4-1))<(List.length s16.Cells:Int) then
      if(0:Int)≤t4∧t4<(List.length s16.Cells:Int) then
       if(!(ltS (List.getD s16.Cells (w64 (t4-1)).toNat []) (List.getD s16.Cells t4.toNat [])))=true then
        some (false,())
       else
        F.f3 (w64 (t4+1)) s16
      else none
     else none
    else
     F.f3 (w64 (t4+1)) s16
  else none
 else
  if(decide ((List.length s16.Vars:Int)≤8))=true then
   if(decide ((List.length s16.Cells:Int)≤8))=true then
    (F.f8 s16.Start (List.length s16.Vars:Int) (List.length s16.Cells:Int)).bind fun(r1:Bool×Unit) =>
    if r1.1=true then
     (F.f8 s16.Main (List.length s16.Vars:Int) (List.length s16.Cells:Int)).bind fun(r2:Bool×Unit) =>
     some (r2.1,())
    else
     some (false,())
   else
    some (false,())
  else
   some (false,())
def Ey(F:FsBuild)(t0:(List Int)):Option (Bool×Unit) :=
 F.f5 t0 0
def Ez(F:FsBuild)(t0:(List Int))(t3:Int):Option (Bool×Unit) :=
 if(decide (t3<(List.length t0:Int)))=true then
  if(0:Int)≤t3∧t3<(List.length t0:Int) then
   (F.f11 (List.getD t0 t3.toNat 0)).bind fun(r0:Bool×Unit) =>
   if(!r0.1)=true then
    some (false,())
   else
    F.f5 t0 (w64 (t3+1))
  else none
 else
  (F.f0 (List.length t0:Int) 1 8).bind fun(r1:Bool×Unit) =>
  if r1.1=true then
   (F.f12 t0).bind fun(r2:Bool×Unit) =>
   some ((!r2.1),())
  else
   some (false,())
def DG(F:FsBuild)(t0:(List (List Int)))(t1:(List Int)):Option (Bool×Unit) :=
 F.f7 t0 t1 0
def DH(F:FsBuild)(t0:(List (List Int)))(t1:(List Int))(t5:Int):Option (Bool×Unit) :=
 if(decide (t5<(List.length t0:Int)))=true then
  if(0:Int)≤t5∧t5<(List.length t0:Int) then
   if(decide ((List.getD t0 t5.toNat [])=t1))=true then
    some (true,())
   else
    F.f7 t0 t1 (w64 (t5+1))
  else none
 else
  some (false,())
def BX(F:FsBuild)(t0:(List bE))(t1:Int)(t2:Int):Option (Bool×Unit) :=
 (F.f0 (List.length t0:Int) 1 1500).bind fun(r0:Bool×Unit) =>
 if(!r0.1)=true then
  some (false,())
 else
  if(0:Int)≤(w64 ((List.length t0:Int)-1))∧(w64 ((List.length t0:Int)-1))<(List.length t0:Int) then
   if(!(decide (((List.getD t0 (w64 ((List.length t0:Int)-1)).toNat dd).Code)=36)))=true then
    some (false,())
   else
    F.f9 t0 t1 t2 (List.length t0:Int) 0
  else none
def BZ(F:FsBuild)(t0:(List bE))(t1:Int)(t2:Int)(t7:Int)(t8:Int):Option (Bool×Unit) :=
 if(decide (t8<t7))=true then
  if(0:Int)≤t8∧t8<(List.length t0:Int) then
   (F.f13 (List.getD t0 t8.toNat dd) t7 t1 t2).bind fun(r0:Bool×Unit) =>
   if(!r0.1)=true then
    some (false,())
   else
    F.f9 t0 t1 t2 t7 (w64 (t8+1))
  else none
 else
  some (true,())
def BB(F:FsBuild)(t0:(List Int)):Option (bG×Int×Unit) :=
 (F.f19 t0).bind fun(r0:(List bI)×Int×Unit) =>
 if(decide (r0.2.1≥0))=true then
  some ((bG.mk [] [] [] []),(-1),())
 else
  (F.f21 r0.1).bind fun(r1:bG×Int×Unit) =>
  some (r1.1,r1.2.1,())
def Dt(F:FsBuild)(t0:Int):Option (Bool×Unit) :=
 if(decide (t0≥97))=true then
  if(decide (t0≤122))=true then
   some (true,())
  else
   if(decide (t0≥65))=true then
    some ((decide (t0≤90)),())
   else
    some (false,())
 else
  if(decide (t0≥65))=true then
   some ((decide (t0≤90)),())
  else
   some (false,())
def BS(F:FsBuild)(t0:(List Int)):Option (Bool×Unit) :=
 (F.f6 [[66,69,71,73,78],[112,114,105,110,116],[105,102],[101,108,115,101],[119,104,105,108,101],[110,101,120,116],[100,101,108,101,116,101],[78,82],[78,70]] t0).bind fun(r0:Bool×Unit) =>
 if r0.1=true then
  some (true,())
 else
  (F.f26 ).bind fun(r1:(List (List Int))×Unit) =>
  (F.f6 r1.1 t0).bind fun(r2:Bool×Unit) =>
  some (r2.1,())
def Cs(F:FsBuild)(t0:bE)(t1:Int)(t2:Int)(t3:Int):Option (Bool×Unit) :=
 if(decide (t0.Code=1))=true then
  (F.f18 t0.N).bind fun(r0:Bool×Unit) =>
  if r0.1=true then
   some ((decide (t0.S=[])),())
  else
   some (false,())
 else
  if(decide (t0.Code=2))=true then
   some ((decide (t0.N=0)),())
  else
   if(decide (t0.Code=3))=true then
    F.f14 t1 t2 t3 t0.Code (decide (t0.Code=3)) t0
   else
    if(decide (t0.Code=4))=true then
     F.f14 t1 t2 t3 t0.Code (decide (t0.Code=4)) t0
    else
     F.f14 t1 t2 t3 t0.Code (decide (t0.Code=5)) t0
def Ct(F:FsBuild)(t1:Int)(t2:Int)(t3:Int)(t12:Int)(t28:Bool)(s64:bE):Option (Bool×Unit) :=
 if t28=true then
  if(decide (s64.N≥0))=true then
   if(decide (s64.N<t2))=true then
    some ((decide (s64.S=[])),())
   else
    some (false,())
  else
   some (false,())
 else
  if(decide (t12=6))=true then
   F.f15 t1 t3 t12 (decide (t12=6)) s64
  else
   if(decide (t12=7))=true then
    F.f15 t1 t3 t12 (decide (t12=7)) s64
   else
    if(decide (t12=8))=true then
     F.f15 t1 t3 t12 (decide (t12=8)) s64
    else
     F.f15 t1 t3 t12 (decide (t12=35)) s64
def Cu(F:FsBuild)(t1:Int)(t3:Int)(t12:Int)(t46:Bool)(s64:bE):Option (Bool×Unit) :=
 if t46=true then
  if(decide (s64.N≥0))=true then
   if(decide (s64.N<t3))=true then
    some ((decide (s64.S=[])),())
   else
    some (false,())
  else
   some (false,())
 else
  if(decide (t12=24))=true then
   F.f16 t1 t12 (decide (t12=24)) s64
  else
   F.f16 t1 t12 (decide (t12=25)) s64
def Cv(F:FsBuild)(t1:Int)(t12:Int)(t65:Bool)(s64:bE):Option (Bool×Unit) :=
 if t65=true then
  (F.s_RexParse s64.S).bind fun(r0:bH×Bool×Unit) =>
  if r0.2.1=true then
   some ((decide (s64.N=0)),())
  else
   some (false,())
 else
  if(decide (t12=29))=true then
   (F.f0 s64.N 1 3).bind fun(r1:Bool×Unit) =>
   if r1.1=true then
    (F.f26 ).bind fun(r2:(List (List Int))×Unit) =>
    (F.f6 r2.1 s64.S).bind fun(r3:Bool×Unit) =>
    some (r3.1,())
   else
    some (false,())
  else
   if(decide (t12=30))=true then
    F.f17 t1 t12 (decide (t12=30)) s64
   else
    F.f17 t1 t12 (decide (t12=31)) s64
def Cw(F:FsBuild)(t1:Int)(t12:Int)(t91:Bool)(s64:bE):Option (Bool×Unit) :=
 if t91=true then
  (F.f0 s64.N 0 (w64 (t1-1))).bind fun(r0:Bool×Unit) =>
  if r0.1=true then
   some ((decide (s64.S=[])),())
  else
   some (false,())
 else
  if(decide (t12=33))=true then
   (F.f0 s64.N 0 1).bind fun(r1:Bool×Unit) =>
   if r1.1=true then
    some ((decide (s64.S=[])),())
   else
    some (false,())
  else
   (F.f0 s64.Code 1 36).bind fun(r2:Bool×Unit) =>
   if r2.1=true then
    if(decide (s64.N=0))=true then
     some ((decide (s64.S=[])),())
    else
     some (false,())
   else
    some (false,())
def BP(F:FsBuild)(t0:Int):Option (Bool×Unit) :=
 (F.f0 t0 (-9000000000000) 9000000000000).bind fun(r0:Bool×Unit) =>
 some (r0.1,())
def B0(F:FsBuild)(t0:(List Int)):Option ((List bI)×Int×Unit) :=
 (F.f34 t0).bind fun(r0:(List bK)×Int×Unit) =>
 if(decide (r0.2.1≥0))=true then
  some ([],r0.2.1,())
 else
  F.f20 [] [] 0 r0.1 0 (-1) false cR
def B1(F:FsBuild)(t4:(List bI))(t8:(List bI))(t9:Int)(s368_0:(List bK))(s368_1:Int)(s368_2:Int)(s368_3:Bool)(s368_4:bD):Option ((List bI)×Int×Unit) :=
 if(decide (s368_2<0))=true then
  (F.f37 (bU.mk s368_0 s368_1 s368_2 s368_3 s368_4)).bind fun(r0:bK×bU×Unit) =>
  if(!(decide (r0.1.Kind=0)))=true then
   (F.f38 r0.2.1).bind fun(r1:bI×bU×Unit) =>
   if List.length t8+1≤room then
    (F.f39 r1.1.Pat).bind fun(r2:Int×Unit) =>
    (F.f39 r1.1.Body).bind fun(r3:Int×Unit) =>
    (F.f25 r2.1 r3.1).bind fun(r4:Int×Unit) =>
    (F.f25 t9 r4.1).bind fun(r5:Int×Unit) =>
    F.f20 t4 (List.append t8 [r1.1]) r5.1 r1.2.1.list r1.2.1.at_ r1.2.1.bad r1.2.1.has r1.2.1.kept
   else none
  else
   if(decide (r0.2.1.bad≥0))=true then
    some (t4,r0.2.1.bad,())
   else
    if(decide (t9>16))=true then
     some (t4,0,())
    else
     some (t8,(-1),())
 else
  if(decide (s368_2≥0))=true then
   some (t4,s368_2,())
  else
   if(decide (t9>16))=true then
    some (t4,0,())
   else
    some (t8,(-1),())
def BH(F:FsBuild)(t0:(List bI)):Option (bG×Int×Unit) :=
 (F.f41 t0).bind fun(r0:Int×Unit) =>
 if(!(decide (r0.1=0)))=true then
  some ((bG.mk [] [] [] []),r0.1,())
 else
  (F.f46 t0).bind fun(r1:(List (List Int))×(List (List Int))×Unit) =>
  F.f22 r1.1 r1.2.1 t0 0 gf r1.1 r1.2.1 [] r1.1 r1.2.1 []
def BI(F:FsBuild)(t5:(List (List Int)))(t6:(List (List Int)))(t0:(List bI))(t9:Int)(s32:bG)(s432_0:(List (List Int)))(s432_1:(List (List Int)))(s432_2:(List bE))(s496_0:(List (List Int)))(s496_1:(List (List Int)))(s496_2:(List bE)):Option (bG×Int×Unit) :=
 if(decide (t9<(List.length t0:Int)))=true then
  if(0:Int)≤t9∧t9<(List.length t0:Int) then
   if(decide (((List.getD t0 t9.toNat ci).Kind)=1))=true then
    (F.f48 s432_0 s432_1 s432_2 ((List.getD t0 t9.toNat ci).Body)).bind fun(r0:((List (List Int))×((List (List Int))×((List bE)×Unit)))×Unit) =>
    F.f22 t5 t6 t0 (w64 (t9+1)) s32 r0.1.1 r0.1.2.1 r0.1.2.2.1 s496_0 s496_1 s496_2
   else
    if(decide (((List.getD t0 t9.toNat ci).Kind)=2))=true then
     (F.f48 s496_0 s496_1 s496_2 ((List.getD t0 t9.toNat ci).Body)).bind fun(r1:((List (List Int))×((List (List Int))×((List bE)×Unit)))×Unit) =>
     F.f22 t5 t6 t0 (w64 (t9+1)) s32 s432_0 s432_1 s432_2 r1.1.1 r1.1.2.1 r1.1.2.2.1
    else
     (F.f50 s496_0 s496_1 s496_2 ((List.getD t0 t9.toNat ci).Pat)).bind fun(r2:((List (List Int))×((List (List Int))×((List bE)×Unit)))×Unit) =>
     (F.f53 r2.1.1 r2.1.2.1 r2.1.2.2.1 31 0 []).bind fun(r3:Int×((List (List Int))×((List (List Int))×((List bE)×Unit)))×Unit) =>
     (F.f48 r3.2.1.1 r3.2.1.2.1 r3.2.1.2.2.1 ((List.getD t0 t9.toNat ci).Body)).bind fun(r4:((List (List Int))×((List (List Int))×((List bE)×Unit)))×Unit) =>
     if(0:Int)≤r3.1∧r3.1<(List.length r4.1.2.2.1:Int) then
      let v0:(List bE):=(List.set r4.1.2.2.1 r3.1.toNat (bE.mk ((List.getD r4.1.2.2.1 r3.1.toNat dd).Code) (List.length r4.1.2.2.1:Int) ((List.getD r4.1.2.2.1 r3.1.toNat dd).S)))
      F.f22 t5 t6 t0 (w64 (t9+1)) s32 s432_0 s432_1 s432_2 r4.1.1 r4.1.2.1 v0
     else none
  else none
 else
  (F.f53 s432_0 s432_1 s432_2 36 0 []).bind fun(r5:Int×((List (List Int))×((List (List Int))×((List bE)×Unit)))×Unit) =>
  (F.f53 s496_0 s496_1 s496_2 36 0 []).bind fun(r6:Int×((List (List Int))×((List (List Int))×((List bE)×Unit)))×Unit) =>
  (F.s_ProgOk (bG.mk t5 t6 r5.2.1.2.2.1 r6.2.1.2.2.1)).bind fun(r7:Bool×Unit) =>
  if(!r7.1)=true then
   some ((bG.mk [] [] [] []),3,())
  else
   some ((bG.mk t5 t6 r5.2.1.2.2.1 r6.2.1.2.2.1),0,())
def Ew(F:FsBuild)(t0:(List Int)):Option (Bool×Unit) :=
 F.f24 t0 0
def Ex(F:FsBuild)(t0:(List Int))(t3:Int):Option (Bool×Unit) :=
 if(decide (t3<(List.length t0:Int)))=true then
  if(0:Int)≤t3∧t3<(List.length t0:Int) then
   if(decide ((List.getD t0 t3.toNat 0)=10))=true then
    some (false,())
   else
    F.f24 t0 (w64 (t3+1))
  else none
 else
  some (true,())
def CQ(F:FsBuild)(t0:Int)(t1:Int):Option (Int×Unit) :=
 if(decide (t0>t1))=true then
  some (t0,())
 else
  some (t1,())
def Ds(F:FsBuild) :Option ((List (List Int))×Unit) :=
 some ([[108,101,110,103,116,104],[115,117,98,115,116,114],[105,110,100,101,120],[105,110,116],[117,112,112,101,114],[108,111,119,101,114]],())
def B7(F:FsBuild)(t0:(List Int)):Option (bH×Bool×Unit) :=
 if(decide ((List.length t0:Int)>60))=true then
  some ((bH.mk 0 0 [] false []),false,())
 else
  (F.f54 (bT.mk t0 0 false) 0).bind fun(r0:bH×bT×Unit) =>
  if r0.2.1.bad=true then
   some ((bH.mk 0 0 [] false []),false,())
  else
   if(!(decide (r0.2.1.at_=(List.length t0:Int))))=true then
    some ((bH.mk 0 0 [] false []),false,())
   else
    (F.f56 r0.1).bind fun(r1:Int×Unit) =>
    if(decide (r1.1>12))=true then
     some ((bH.mk 0 0 [] false []),false,())
    else
     some (r0.1,true,())
def BJ(F:FsBuild)(t0:(List Int)):Option (Int×Int×Unit) :=
 F.f29 t0 0
def BK(F:FsBuild)(t0:(List Int))(t4:Int):Option (Int×Int×Unit) :=
 if(decide (t4<(List.length t0:Int)))=true then
  if(0:Int)≤t4∧t4<(List.length t0:Int) then
   if(decide ((List.getD t0 t4.toNat 0)=32))=true then
    F.f29 t0 (w64 (t4+1))
   else
    if(decide (t4<(List.length t0:Int)))=true then
     if(0:Int)≤t4∧t4<(List.length t0:Int) then
      if(decide (t4<(List.length t0:Int)))=true then
       if(0:Int)≤t4∧t4<(List.length t0:Int) then
        if(decide ((List.getD t0 t4.toNat 0)=45))=true then
         F.f30 t0 (w64 (t4+1)) (decide ((List.getD t0 t4.toNat 0)=45))
        else
         if(0:Int)≤t4∧t4<(List.length t0:Int) then
          if(decide ((List.getD t0 t4.toNat 0)=43))=true then
           F.f30 t0 (w64 (t4+1)) (decide ((List.getD t0 t4.toNat 0)=45))
          else
           F.f30 t0 t4 (decide ((List.getD t0 t4.toNat 0)=45))
         else none
       else none
      else
       F.f30 t0 t4 (decide ((List.getD t0 t4.toNat 0)=45))
     else none
    else
     if(decide (t4<(List.length t0:Int)))=true then
      if(0:Int)≤t4∧t4<(List.length t0:Int) then
       if(decide ((List.getD t0 t4.toNat 0)=45))=true then
        F.f30 t0 (w64 (t4+1)) false
       else
        if(0:Int)≤t4∧t4<(List.length t0:Int) then
         if(decide ((List.getD t0 t4.toNat 0)=43))=true then
          F.f30 t0 (w64 (t4+1)) false
         else
          F.f30 t0 t4 false
        else none
      else none
     else
      F.f30 t0 t4 false
  else none
 else
  if(decide (t4<(List.length t0:Int)))=true then
   if(0:Int)≤t4∧t4<(List.length t0:Int) then
    if(decide (t4<(List.length t0:Int)))=true then
     if(0:Int)≤t4∧t4<(List.length t0:Int) then
      if(decide ((List.getD t0 t4.toNat 0)=45))=true then
       F.f30 t0 (w64 (t4+1)) (decide ((List.getD t0 t4.toNat 0)=45))
      else
       if(0:Int)≤t4∧t4<(List.length t0:Int) then
        if(decide ((List.getD t0 t4.toNat 0)=43))=true then
         F.f30 t0 (w64 (t4+1)) (decide ((List.getD t0 t4.toNat 0)=45))
        else
         F.f30 t0 t4 (decide ((List.getD t0 t4.toNat 0)=45))
       else none
     else none
    else
     F.f30 t0 t4 (decide ((List.getD t0 t4.toNat 0)=45))
   else none
  else
   if(decide (t4<(List.length t0:Int)))=true then
    if(0:Int)≤t4∧t4<(List.length t0:Int) then
     if(decide ((List.getD t0 t4.toNat 0)=45))=true then
      F.f30 t0 (w64 (t4+1)) false
     else
      if(0:Int)≤t4∧t4<(List.length t0:Int) then
       if(decide ((List.getD t0 t4.toNat 0)=43))=true then
        F.f30 t0 (w64 (t4+1)) false
       else
        F.f30 t0 t4 false
      else none
    else none
   else
    F.f30 t0 t4 false
def BL(F:FsBuild)(t0:(List Int))(t4:Int)(t5:Bool):Option (Int×Int×Unit) :=
 F.f31 t0 t4 t5 0 0
def BM(F:FsBuild)(t0:(List Int))(t4:Int)(t5:Bool)(t6:Int)(t7:Int):Option (Int×Int×Unit) :=
 if(decide (t4<(List.length t0:Int)))=true then
  if(0:Int)≤t4∧t4<(List.length t0:Int) then
   (F.f58 (List.getD t0 t4.toNat 0)).bind fun(r0:Bool×Unit) =>
   if r0.1=true then
    if(decide (t6≤9000000000000))=true then
     if(0:Int)≤t4∧t4<(List.length t0:Int) then
      F.f31 t0 (w64 (t4+1)) t5 (w64 ((w64 (10*t6))+(w64 ((w64 ((w64 (List.getD t0 t4.toNat 0))-48))*1000000)))) (w64 (t7+1))
     else none
    else
     F.f31 t0 (w64 (t4+1)) t5 t6 (w64 (t7+1))
   else
    if(decide ((w64 (t4+1))<(List.length t0:Int)))=true then
     if(0:Int)≤t4∧t4<(List.length t0:Int) then
      if(decide ((List.getD t0 t4.toNat 0)=46))=true then
       if(0:Int)≤(w64 (t4+1))∧(w64 (t4+1))<(List.length t0:Int) then
        (F.f58 (List.getD t0 (w64 (t4+1)).toNat 0)).bind fun(r1:Bool×Unit) =>
        if r1.1=true then
         F.f32 t0 (w64 (t4+1)) t5 t6 t7 100000
        else
         F.f33 t4 t5 t6 t7
       else none
      else
       F.f33 t4 t5 t6 t7
     else none
    else
     F.f33 t4 t5 t6 t7
  else none
 else
  if(decide ((w64 (t4+1))<(List.length t0:Int)))=true then
   if(0:Int)≤t4∧t4<(List.length t0:Int) then
    if(decide ((List.getD t0 t4.toNat 0)=46))=true then
     if(0:Int)≤(w64 (t4+1))∧(w64 (t4+1))<(List.length t0:Int) then
      (F.f58 (List.getD t0 (w64 (t4+1)).toNat 0)).bind fun(r2:Bool×Unit) =>
      if r2.1=true then
       F.f32 t0 (w64 (t4+1)) t5 t6 t7 100000
      else
       F.f33 t4 t5 t6 t7
     else none
    else
     F.f33 t4 t5 t6 t7
   else none
  else
   F.f33 t4 t5 t6 t7
def BN(F:FsBuild)(t0:(List Int))(t4:Int)(t5:Bool)(t6:Int)(t7:Int)(t8:Int):Option (Int×Int×Unit) :=
 if(decide (t4<(List.length t0:Int)))=true then
  if(0:Int)≤t4∧t4<(List.length t0:Int) then
   (F.f58 (List.getD t0 t4.toNat 0)).bind fun(r0:Bool×Unit) =>
   if r0.1=true then
    if(0:Int)≤t4∧t4<(List.length t0:Int) then
     F.f32 t0 (w64 (t4+1)) t5 (w64 (t6+(w64 ((w64 ((w64 (List.getD t0 t4.toNat 0))-48))*t8)))) (w64 (t7+1)) (w64 (Int.tdiv t8 10))
    else none
   else
    F.f33 t4 t5 t6 t7
  else none
 else
  F.f33 t4 t5 t6 t7
def BO(F:FsBuild)(t4:Int)(t5:Bool)(t6:Int)(t7:Int):Option (Int×Int×Unit) :=
 if(decide (t7=0))=true then
  some (0,0,())
 else
  if(decide (t6>9000000000000))=true then
   some (0,0,())
  else
   if t5=true then
    some ((w64 (0-t6)),t4,())
   else
    some (t6,t4,())
def Ca(F:FsBuild)(t0:(List Int)):Option ((List bK)×Int×Unit) :=
 if(decide ((List.length t0:Int)>2000))=true then
  some ([],0,())
 else
  F.f35 t0 [] 0
def Cb(F:FsBuild)(t0:(List Int))(t4:(List bK))(t5:Int):Option ((List bK)×Int×Unit) :=
 if(decide (t5<(List.length t0:Int)))=true then
  if(0:Int)≤t5∧t5<(List.length t0:Int) then
   if(decide ((List.getD t0 t5.toNat 0)=32))=true then
    F.f35 t0 t4 (w64 (t5+1))
   else
    if(0:Int)≤t5∧t5<(List.length t0:Int) then
     if(decide ((List.getD t0 t5.toNat 0)=10))=true then
      F.f35 t0 t4 (w64 (t5+1))
     else
      if(0:Int)≤t5∧t5<(List.length t0:Int) then
       if(decide ((List.getD t0 t5.toNat 0)=35))=true then
        F.f36 t0 t4 t5
       else
        (F.f59 t0 t5 t4).bind fun(r0:bK×Int×Bool×Unit) =>
        if(!r0.2.2.1)=true then
         some ([],t5,())
        else
         if List.length t4+1≤room then
          F.f35 t0 (List.append t4 [r0.1]) r0.2.1
         else none
      else none
    else none
  else none
 else
  if List.length t4+1≤room then
   some ((List.append t4 [(bK.mk 0 [] 0 (List.length t0:Int))]),(-1),())
  else none
def Cc(F:FsBuild)(t0:(List Int))(t4:(List bK))(t5:Int):Option ((List bK)×Int×Unit) :=
 if(decide (t5<(List.length t0:Int)))=true then
  if(0:Int)≤t5∧t5<(List.length t0:Int) then
   if(!(decide ((List.getD t0 t5.toNat 0)=10)))=true then
    F.f36 t0 t4 (w64 (t5+1))
   else
    F.f35 t0 t4 t5
  else none
 else
  F.f35 t0 t4 t5
def D8(F:FsBuild)(s0:bU):Option (bK×bU×Unit) :=
 if(0:Int)≤s0.at_∧s0.at_<(List.length s0.list:Int) then
  some ((List.getD s0.list s0.at_.toNat lv),s0,())
 else none
def Eb(F:FsBuild)(s0:bU):Option (bI×bU×Unit) :=
 (F.f61 s0 [66,69,71,73,78]).bind fun(r0:Bool×bU×Unit) =>
 if r0.1=true then
  (F.f62 r0.2.1).bind fun(r1:bU×Unit) =>
  (F.f63 r1.1).bind fun(r2:bD×bU×Unit) =>
  some ((bI.mk 1 cR r2.1),r2.2.1,())
 else
  (F.f65 r0.2.1 [123]).bind fun(r3:Bool×bU×Unit) =>
  if r3.1=true then
   (F.f63 r3.2.1).bind fun(r4:bD×bU×Unit) =>
   some ((bI.mk 2 cR r4.1),r4.2.1,())
  else
   (F.f66 r3.2.1).bind fun(r5:bD×bU×Unit) =>
   (F.f65 r5.2.1 [123]).bind fun(r6:Bool×bU×Unit) =>
   if r6.1=true then
    (F.f63 r6.2.1).bind fun(r7:bD×bU×Unit) =>
    some ((bI.mk 3 r5.1 r7.1),r7.2.1,())
   else
    (F.f68 29 [(bD.mk 30 0 [] [])]).bind fun(r8:(Int×(Int×((List Int)×((List bD)×Unit))))×Unit) =>
    some ((bI.mk 3 r5.1 (bD.mk r8.1.1 r8.1.2.1 r8.1.2.2.1 r8.1.2.2.2.1)),r6.2.1,())
def BQ(F:FsBuild)(t0:bD):Option (Int×Unit) :=
 F.f40 0 0 t0
def BR(F:FsBuild)(t3:Int)(t4:Int)(s16:bD):Option (Int×Unit) :=
 if(decide (t4<(List.length s16.Kids:Int)))=true then
  if(0:Int)≤t4∧t4<(List.length s16.Kids:Int) then
   (F.f39 (List.getD s16.Kids t4.toNat cR)).bind fun(r0:Int×Unit) =>
   (F.f25 t3 r0.1).bind fun(r1:Int×Unit) =>
   F.f40 r1.1 (w64 (t4+1)) s16
  else none
 else
  some ((w64 (t3+1)),())
def BC(F:FsBuild)(t0:(List bI)):Option (Int×Unit) :=
 (F.f69 t0).bind fun(r0:Bool×Unit) =>
 if(!r0.1)=true then
  some (1,())
 else
  F.f42 t0 0
def BD(F:FsBuild)(t0:(List bI))(t3:Int):Option (Int×Unit) :=
 if(decide (t3<(List.length t0:Int)))=true then
  if(0:Int)≤t3∧t3<(List.length t0:Int) then
   if(decide (((List.getD t0 t3.toNat ci).Kind)=1))=true then
    if(decide (t3>0))=true then
     some (2,())
    else
     if(0:Int)≤t3∧t3<(List.length t0:Int) then
      (F.f71 ((List.getD t0 t3.toNat ci).Body)).bind fun(r0:Bool×Unit) =>
      if r0.1=true then
       some (2,())
      else
       F.f42 t0 (w64 (t3+1))
     else none
   else
    F.f42 t0 (w64 (t3+1))
  else none
 else
  (F.f46 t0).bind fun(r1:(List (List Int))×(List (List Int))×Unit) =>
  if(decide ((List.length r1.1:Int)>8))=true then
   some (3,())
  else
   if(decide ((List.length r1.2.1:Int)>8))=true then
    some (3,())
   else
    F.f43 t0 r1.1 r1.2.1 0
def BE(F:FsBuild)(t0:(List bI))(t4:(List (List Int)))(t5:(List (List Int)))(t6:Int):Option (Int×Unit) :=
 if(decide (t6<(List.length t4:Int)))=true then
  if(0:Int)≤t6∧t6<(List.length t4:Int) then
   (F.f6 t5 (List.getD t4 t6.toNat [])).bind fun(r0:Bool×Unit) =>
   if r0.1=true then
    some (4,())
   else
    F.f43 t0 t4 t5 (w64 (t6+1))
  else none
 else
  F.f44 t0 0
def BF(F:FsBuild)(t0:(List bI))(t7:Int):Option (Int×Unit) :=
 if(decide (t7<(List.length t0:Int)))=true then
  if(0:Int)≤t7∧t7<(List.length t0:Int) then
   (F.f73 ((List.getD t0 t7.toNat ci).Pat)).bind fun(r0:Bool×Unit) =>
   if(!r0.1)=true then
    some (5,())
   else
    if(0:Int)≤t7∧t7<(List.length t0:Int) then
     (F.f73 ((List.getD t0 t7.toNat ci).Body)).bind fun(r1:Bool×Unit) =>
     if(!r1.1)=true then
      some (5,())
     else
      F.f44 t0 (w64 (t7+1))
    else none
  else none
 else
  F.f45 t0 0
def BG(F:FsBuild)(t0:(List bI))(t8:Int):Option (Int×Unit) :=
 if(decide (t8<(List.length t0:Int)))=true then
  if(0:Int)≤t8∧t8<(List.length t0:Int) then
   (F.f76 ((List.getD t0 t8.toNat ci).Pat)).bind fun(r0:Bool×Unit) =>
   if(!r0.1)=true then
    some (6,())
   else
    if(0:Int)≤t8∧t8<(List.length t0:Int) then
     (F.f76 ((List.getD t0 t8.toNat ci).Body)).bind fun(r1:Bool×Unit) =>
     if(!r1.1)=true then
      some (6,())
     else
      F.f45 t0 (w64 (t8+1))
    else none
  else none
 else
  some (0,())
def BU(F:FsBuild)(t0:(List bI)):Option ((List (List Int))×(List (List Int))×Unit) :=
 F.f47 t0 [] [] 0
def BV(F:FsBuild)(t0:(List bI))(t4:(List (List Int)))(t5:(List (List Int)))(t6:Int):Option ((List (List Int))×(List (List Int))×Unit) :=
 if(decide (t6<(List.length t0:Int)))=true then
  if(0:Int)≤t6∧t6<(List.length t0:Int) then
   (F.f78 ((List.getD t0 t6.toNat ci).Pat) t4 t5).bind fun(r0:(List (List Int))×(List (List Int))×Unit) =>
   if(0:Int)≤t6∧t6<(List.length t0:Int) then
    (F.f78 ((List.getD t0 t6.toNat ci).Body) r0.1 r0.2.1).bind fun(r1:(List (List Int))×(List (List Int))×Unit) =>
    F.f47 t0 r1.1 r1.2.1 (w64 (t6+1))
   else none
  else none
 else
  some (t4,t5,())
def Cz(F:FsBuild)(s0_0:(List (List Int)))(s0_1:(List (List Int)))(s0_2:(List bE))(t1:bD):Option (((List (List Int))×((List (List Int))×((List bE)×Unit)))×Unit) :=
 F.f49 0 s0_0 s0_1 s0_2 t1
def CA(F:FsBuild)(t4:Int)(s0_0:(List (List Int)))(s0_1:(List (List Int)))(s0_2:(List bE))(s48:bD):Option (((List (List Int))×((List (List Int))×((List bE)×Unit)))×Unit) :=
 if(decide (t4<(List.length s48.Kids:Int)))=true then
  if(0:Int)≤t4∧t4<(List.length s48.Kids:Int) then
   (F.f81 s0_0 s0_1 s0_2 (List.getD s48.Kids t4.toNat cR)).bind fun(r0:((List (List Int))×((List (List Int))×((List bE)×Unit)))×Unit) =>
   F.f49 (w64 (t4+1)) r0.1.1 r0.1.2.1 r0.1.2.2.1 s48
  else none
 else
  some ((s0_0,(s0_1,(s0_2,()))),())
def CB(F:FsBuild)(s0_0:(List (List Int)))(s0_1:(List (List Int)))(s0_2:(List bE))(t1:bD):Option (((List (List Int))×((List (List Int))×((List bE)×Unit)))×Unit) :=
 if(decide (t1.Op=26))=true then
  F.f51 t1.Op (decide (t1.Op=26)) s0_0 s0_1 s0_2 t1
 else
  F.f51 t1.Op (decide (t1.Op=27)) s0_0 s0_1 s0_2 t1
def CC(F:FsBuild)(t6:Int)(t24:Bool)(s0_0:(List (List Int)))(s0_1:(List (List Int)))(s0_2:(List bE))(s48:bD):Option (((List (List Int))×((List (List Int))×((List bE)×Unit)))×Unit) :=
 if t24=true then
  (F.f82 s0_0 s0_1 s0_2 s48).bind fun(r0:((List (List Int))×((List (List Int))×((List bE)×Unit)))×Unit) =>
  some ((r0.1.1,(r0.1.2.1,(r0.1.2.2.1,()))),())
 else
  if(decide (t6=24))=true then
   (F.f83 s0_0 s0_1 s0_2 s48).bind fun(r1:((List (List Int))×((List (List Int))×((List bE)×Unit)))×Unit) =>
   some ((r1.1.1,(r1.1.2.1,(r1.1.2.2.1,()))),())
  else
   if(decide (t6=25))=true then
    (F.f84 s0_0 s0_1 s0_2 s48).bind fun(r2:((List (List Int))×((List (List Int))×((List bE)×Unit)))×Unit) =>
    some ((r2.1.1,(r2.1.2.1,(r2.1.2.2.1,()))),())
   else
    if(decide (t6=21))=true then
     if(0:Int)≤0∧(0:Int)<(List.length s48.Kids:Int) then
      (F.f50 s0_0 s0_1 s0_2 (List.getD s48.Kids 0 cR)).bind fun(r3:((List (List Int))×((List (List Int))×((List bE)×Unit)))×Unit) =>
      if(0:Int)≤1∧(1:Int)<(List.length s48.Kids:Int) then
       (F.f53 r3.1.1 r3.1.2.1 r3.1.2.2.1 24 0 ((List.getD s48.Kids 1 cR).S)).bind fun(r4:Int×((List (List Int))×((List (List Int))×((List bE)×Unit)))×Unit) =>
       some ((r4.2.1.1,(r4.2.1.2.1,(r4.2.1.2.2.1,()))),())
      else none
     else none
    else
     F.f52 0 s0_0 s0_1 s0_2 s48
def CD(F:FsBuild)(t4:Int)(s0_0:(List (List Int)))(s0_1:(List (List Int)))(s0_2:(List bE))(s48:bD):Option (((List (List Int))×((List (List Int))×((List bE)×Unit)))×Unit) :=
 if(decide (t4<(List.length s48.Kids:Int)))=true then
  if(0:Int)≤t4∧t4<(List.length s48.Kids:Int) then
   (F.f50 s0_0 s0_1 s0_2 (List.getD s48.Kids t4.toNat cR)).bind fun(r0:((List (List Int))×((List (List Int))×((List bE)×Unit)))×Unit) =>
   F.f52 (w64 (t4+1)) r0.1.1 r0.1.2.1 r0.1.2.2.1 s48
  else none
 else
  (F.f85 s0_0 s0_1 s0_2 s48).bind fun(r1:((List (List Int))×((List (List Int))×((List bE)×Unit)))×Unit) =>
  some ((r1.1.1,(r1.1.2.1,(r1.1.2.2.1,()))),())
def CK(F:FsBuild)(s0_0:(List (List Int)))(s0_1:(List (List Int)))(s0_2:(List bE))(t1:Int)(t2:Int)(t3:(List Int)):Option (Int×((List (List Int))×((List (List Int))×((List bE)×Unit)))×Unit) :=
 if List.length s0_2+1≤room then
  some ((w64 ((List.length (List.append s0_2 [(bE.mk t1 t2 t3)]):Int)-1)),(s0_0,(s0_1,((List.append s0_2 [(bE.mk t1 t2 t3)]),()))),())
 else none
def CZ(F:FsBuild)(s0:bT)(t1:Int):Option (bH×bT×Unit) :=
 (F.f86 s0 t1).bind fun(r0:bH×bT×Unit) =>
 F.f55 t1 [r0.1] r0.2.1 ch
def C0(F:FsBuild)(t1:Int)(t5:(List bH))(s0:bT)(s64:bH):Option (bH×bT×Unit) :=
 (F.f88 s0 124).bind fun(r0:Bool×bT×Unit) =>
 if r0.1=true then
  (F.f86 (bT.mk r0.2.1.s (w64 (r0.2.1.at_+1)) r0.2.1.bad) t1).bind fun(r1:bH×bT×Unit) =>
  if List.length t5+1≤room then
   F.f55 t1 (List.append t5 [r1.1]) r1.2.1 s64
  else none
 else
  if(decide ((List.length t5:Int)=1))=true then
   if(0:Int)≤0∧(0:Int)<(List.length t5:Int) then
    some ((List.getD t5 0 ch),r0.2.1,())
   else none
  else
   some ((bH.mk 7 0 [] false t5),r0.2.1,())
def CU(F:FsBuild)(t0:bH):Option (Int×Unit) :=
 F.f57 0 0 t0
def CV(F:FsBuild)(t3:Int)(t4:Int)(s16:bH):Option (Int×Unit) :=
 if(decide (t4<(List.length s16.Kids:Int)))=true then
  if(0:Int)≤t4∧t4<(List.length s16.Kids:Int) then
   (F.f56 (List.getD s16.Kids t4.toNat ch)).bind fun(r0:Int×Unit) =>
   (F.f25 t3 r0.1).bind fun(r1:Int×Unit) =>
   F.f57 r1.1 (w64 (t4+1)) s16
  else none
 else
  some ((w64 (t3+1)),())
def CR(F:FsBuild)(t0:Int):Option (Bool×Unit) :=
 if(decide (t0≥48))=true then
  some ((decide (t0≤57)),())
 else
  some (false,())
def Dy(F:FsBuild)(t0:(List Int))(t1:Int)(t2:(List bK)):Option (bK×Int×Bool×Unit) :=
 if(0:Int)≤t1∧t1<(List.length t0:Int) then
  (F.f11 (List.getD t0 t1.toNat 0)).bind fun(r0:Bool×Unit) =>
  if r0.1=true then
   F.f60 t0 t1 t1 lv
  else
   (F.f58 (List.getD t0 t1.toNat 0)).bind fun(r1:Bool×Unit) =>
   if r1.1=true then
    (F.f89 t0 t1).bind fun(r2:Int×Int×Bool×Unit) =>
    some ((bK.mk 2 [] r2.1 t1),r2.2.1,r2.2.2.1,())
   else
    if(decide ((List.getD t0 t1.toNat 0)=34))=true then
     (F.f93 t0 t1).bind fun(r3:(List Int)×Int×Bool×Unit) =>
     some ((bK.mk 3 r3.1 0 t1),r3.2.1,r3.2.2.1,())
    else
     if(decide ((List.getD t0 t1.toNat 0)=47))=true then
      (F.f95 t2).bind fun(r4:Bool×Unit) =>
      if(!r4.1)=true then
       (F.f96 t0 t1).bind fun(r5:(List Int)×Int×Bool×Unit) =>
       some ((bK.mk 4 r5.1 0 t1),r5.2.1,r5.2.2.1,())
      else
       (F.f98 t0 t1).bind fun(r6:(List Int)×Unit) =>
       some ((bK.mk 5 r6.1 0 t1),(w64 (t1+(List.length r6.1:Int))),(!(decide (r6.1=[]))),())
     else
      (F.f98 t0 t1).bind fun(r7:(List Int)×Unit) =>
      some ((bK.mk 5 r7.1 0 t1),(w64 (t1+(List.length r7.1:Int))),(!(decide (r7.1=[]))),())
 else none
def Dz(F:FsBuild)(t0:(List Int))(t1:Int)(t10:Int)(s96:bK):Option (bK×Int×Bool×Unit) :=
 if(decide (t10<(List.length t0:Int)))=true then
  if(0:Int)≤t10∧t10<(List.length t0:Int) then
   (F.f11 (List.getD t0 t10.toNat 0)).bind fun(r0:Bool×Unit) =>
   if r0.1=true then
    F.f60 t0 t1 (w64 (t10+1)) s96
   else
    if(0:Int)≤t1∧t1≤t10∧t10≤(List.length t0:Int) then
     some ((bK.mk 1 (List.take (t10.toNat-t1.toNat) (List.drop t1.toNat t0)) 0 t1),t10,(decide ((w64 (t10-t1))≤8)),())
    else none
  else none
 else
  if(0:Int)≤t1∧t1≤t10∧t10≤(List.length t0:Int) then
   some ((bK.mk 1 (List.take (t10.toNat-t1.toNat) (List.drop t1.toNat t0)) 0 t1),t10,(decide ((w64 (t10-t1))≤8)),())
  else none
def DW(F:FsBuild)(s0:bU)(t1:(List Int)):Option (Bool×bU×Unit) :=
 (F.f37 s0).bind fun(r0:bK×bU×Unit) =>
 if(decide (r0.2.1.bad<0))=true then
  if(decide (r0.1.Kind=1))=true then
   some ((decide (r0.1.Text=t1)),r0.2.1,())
  else
   some (false,r0.2.1,())
 else
  some (false,r0.2.1,())
def D7(F:FsBuild)(s0:bU):Option (bU×Unit) :=
 if(decide (s0.at_<(w64 ((List.length s0.list:Int)-1))))=true then
  some ((bU.mk s0.list (w64 (s0.at_+1)) s0.bad s0.has s0.kept),())
 else
  some (s0,())
def DM(F:FsBuild)(s0:bU):Option (bD×bU×Unit) :=
 (F.f100 s0 [123]).bind fun(r0:bU×Unit) =>
 F.f64 r0.1 0 0 [] [] 29 0 [] []
def DN(F:FsBuild)(s0:bU)(s32_0:Int)(s32_1:Int)(s32_2:(List Int))(s32_3:(List bD))(s48_0:Int)(s48_1:Int)(s48_2:(List Int))(s48_3:(List bD)):Option (bD×bU×Unit) :=
 if(decide (s0.bad<0))=true then
  (F.f65 s0 [125]).bind fun(r0:Bool×bU×Unit) =>
  if(!r0.1)=true then
   (F.f65 r0.2.1 [59]).bind fun(r1:Bool×bU×Unit) =>
   if r1.1=true then
    (F.f62 r1.2.1).bind fun(r2:bU×Unit) =>
    F.f64 r2.1 s32_0 s32_1 s32_2 s32_3 s48_0 s48_1 s48_2 s48_3
   else
    (F.f101 r1.2.1).bind fun(r3:bD×bU×Unit) =>
    if List.length s48_3+1≤room then
     F.f64 r3.2.1 s32_0 s32_1 s32_2 s32_3 s48_0 s48_1 s48_2 (List.append s48_3 [r3.1])
    else none
  else
   (F.f100 r0.2.1 [125]).bind fun(r4:bU×Unit) =>
   some ((bD.mk s48_0 s48_1 s48_2 s48_3),r4.1,())
 else
  (F.f100 s0 [125]).bind fun(r5:bU×Unit) =>
  some ((bD.mk s48_0 s48_1 s48_2 s48_3),r5.1,())
def Ec(F:FsBuild)(s0:bU)(t1:(List Int)):Option (Bool×bU×Unit) :=
 (F.f37 s0).bind fun(r0:bK×bU×Unit) =>
 if(decide (r0.2.1.bad<0))=true then
  if(decide (r0.1.Kind=5))=true then
   some ((decide (r0.1.Text=t1)),r0.2.1,())
  else
   some (false,r0.2.1,())
 else
  some (false,r0.2.1,())
def DR(F:FsBuild)(s0:bU):Option (bD×bU×Unit) :=
 (F.f37 s0).bind fun(r0:bK×bU×Unit) =>
 if(decide (r0.2.1.bad<0))=true then
  if(decide (r0.1.Kind=1))=true then
   (F.f12 r0.1.Text).bind fun(r1:Bool×Unit) =>
   if(!r1.1)=true then
    (F.f102 r0.2.1).bind fun(r2:bD×bU×Unit) =>
    (F.f65 r2.2.1 [61]).bind fun(r3:Bool×bU×Unit) =>
    if r3.1=true then
     F.f67 26 r3.2.1 0 0 [] [] r2.1
    else
     (F.f65 r3.2.1 [43,61]).bind fun(r4:Bool×bU×Unit) =>
     if r4.1=true then
      F.f67 27 r4.2.1 0 0 [] [] r2.1
     else
      F.f67 0 r4.2.1 0 0 [] [] r2.1
   else
    (F.f103 r0.2.1 0).bind fun(r5:bD×bU×Unit) =>
    some (r5.1,r5.2.1,())
  else
   (F.f103 r0.2.1 0).bind fun(r6:bD×bU×Unit) =>
   some (r6.1,r6.2.1,())
 else
  (F.f103 r0.2.1 0).bind fun(r7:bD×bU×Unit) =>
  some (r7.1,r7.2.1,())
def DS(F:FsBuild)(t5:Int)(s0:bU)(s32_0:Int)(s32_1:Int)(s32_2:(List Int))(s32_3:(List bD))(s64:bD):Option (bD×bU×Unit) :=
 if(decide (t5>0))=true then
  (F.f62 s0).bind fun(r0:bU×Unit) =>
  (F.f66 r0.1).bind fun(r1:bD×bU×Unit) =>
  (F.f68 t5 [s64,r1.1]).bind fun(r2:(Int×(Int×((List Int)×((List bD)×Unit))))×Unit) =>
  some ((bD.mk r2.1.1 r2.1.2.1 r2.1.2.2.1 r2.1.2.2.2.1),r1.2.1,())
 else
  (F.f103 (bU.mk s0.list s0.at_ s0.bad true s64) 0).bind fun(r3:bD×bU×Unit) =>
  some (r3.1,r3.2.1,())
def DX(F:FsBuild)(t0:Int)(t1:(List bD)):Option ((Int×(Int×((List Int)×((List bD)×Unit))))×Unit) :=
 if 0+List.length t1≤room then
  some ((t0,(0,([],((List.append [] t1),())))),())
 else none
def B8(F:FsBuild)(t0:(List bI)):Option (Bool×Unit) :=
 F.f70 t0 0
def B9(F:FsBuild)(t0:(List bI))(t3:Int):Option (Bool×Unit) :=
 if(decide (t3<(List.length t0:Int)))=true then
  if(0:Int)≤t3∧t3<(List.length t0:Int) then
   if(decide ((((List.getD t0 t3.toNat ci).Pat).Op)=0))=true then
    if(decide ((((List.getD t0 t3.toNat ci).Pat).N)=0))=true then
     if(decide ((((List.getD t0 t3.toNat ci).Pat).S)=[]))=true then
      (F.f0 ((List.getD t0 t3.toNat ci).Kind) 1 2).bind fun(r0:Bool×Unit) =>
      if r0.1=true then
       if(decide ((List.length (((List.getD t0 t3.toNat ci).Pat).Kids):Int)=0))=true then
        if(!(decide ((((List.getD t0 t3.toNat ci).Body).Op)=29)))=true then
         some (false,())
        else
         (F.f39 ((List.getD t0 t3.toNat ci).Body)).bind fun(r1:Int×Unit) =>
         if(decide (r1.1>16))=true then
          some (false,())
         else
          (F.f104 ((List.getD t0 t3.toNat ci).Body)).bind fun(r2:Bool×Unit) =>
          if(!r2.1)=true then
           some (false,())
          else
           F.f70 t0 (w64 (t3+1))
       else
        if(decide (((List.getD t0 t3.toNat ci).Kind)=3))=true then
         (F.f106 (((List.getD t0 t3.toNat ci).Pat).Op)).bind fun(r3:Bool×Unit) =>
         if r3.1=true then
          (F.f104 ((List.getD t0 t3.toNat ci).Pat)).bind fun(r4:Bool×Unit) =>
          if r4.1=true then
           (F.f39 ((List.getD t0 t3.toNat ci).Pat)).bind fun(r5:Int×Unit) =>
           if(!(decide (r5.1≤16)))=true then
            some (false,())
           else
            if(!(decide ((((List.getD t0 t3.toNat ci).Body).Op)=29)))=true then
             some (false,())
            else
             (F.f39 ((List.getD t0 t3.toNat ci).Body)).bind fun(r6:Int×Unit) =>
             if(decide (r6.1>16))=true then
              some (false,())
             else
              (F.f104 ((List.getD t0 t3.toNat ci).Body)).bind fun(r7:Bool×Unit) =>
              if(!r7.1)=true then
               some (false,())
              else
               F.f70 t0 (w64 (t3+1))
          else
           some (false,())
         else
          some (false,())
        else
         some (false,())
      else
       if(decide (((List.getD t0 t3.toNat ci).Kind)=3))=true then
        (F.f106 (((List.getD t0 t3.toNat ci).Pat).Op)).bind fun(r8:Bool×Unit) =>
        if r8.1=true then
         (F.f104 ((List.getD t0 t3.toNat ci).Pat)).bind fun(r9:Bool×Unit) =>
         if r9.1=true then
          (F.f39 ((List.getD t0 t3.toNat ci).Pat)).bind fun(r10:Int×Unit) =>
          if(!(decide (r10.1≤16)))=true then
           some (false,())
          else
           if(!(decide ((((List.getD t0 t3.toNat ci).Body).Op)=29)))=true then
            some (false,())
           else
            (F.f39 ((List.getD t0 t3.toNat ci).Body)).bind fun(r11:Int×Unit) =>
            if(decide (r11.1>16))=true then
             some (false,())
            else
             (F.f104 ((List.getD t0 t3.toNat ci).Body)).bind fun(r12:Bool×Unit) =>
             if(!r12.1)=true then
              some (false,())
             else
              F.f70 t0 (w64 (t3+1))
         else
          some (false,())
        else
         some (false,())
       else
        some (false,())
     else
      (F.f0 ((List.getD t0 t3.toNat ci).Kind) 1 2).bind fun(r13:Bool×Unit) =>
      if r13.1=true then
       if(decide (((List.getD t0 t3.toNat ci).Kind)=3))=true then
        (F.f106 (((List.getD t0 t3.toNat ci).Pat).Op)).bind fun(r14:Bool×Unit) =>
        if r14.1=true then
         (F.f104 ((List.getD t0 t3.toNat ci).Pat)).bind fun(r15:Bool×Unit) =>
         if r15.1=true then
          (F.f39 ((List.getD t0 t3.toNat ci).Pat)).bind fun(r16:Int×Unit) =>
          if(!(decide (r16.1≤16)))=true then
           some (false,())
          else
           if(!(decide ((((List.getD t0 t3.toNat ci).Body).Op)=29)))=true then
            some (false,())
           else
            (F.f39 ((List.getD t0 t3.toNat ci).Body)).bind fun(r17:Int×Unit) =>
            if(decide (r17.1>16))=true then
             some (false,())
            else
             (F.f104 ((List.getD t0 t3.toNat ci).Body)).bind fun(r18:Bool×Unit) =>
             if(!r18.1)=true then
              some (false,())
             else
              F.f70 t0 (w64 (t3+1))
         else
          some (false,())
        else
         some (false,())
       else
        some (false,())
      else
       if(decide (((List.getD t0 t3.toNat ci).Kind)=3))=true then
        (F.f106 (((List.getD t0 t3.toNat ci).Pat).Op)).bind fun(r19:Bool×Unit) =>
        if r19.1=true then
         (F.f104 ((List.getD t0 t3.toNat ci).Pat)).bind fun(r20:Bool×Unit) =>
         if r20.1=true then
          (F.f39 ((List.getD t0 t3.toNat ci).Pat)).bind fun(r21:Int×Unit) =>
          if(!(decide (r21.1≤16)))=true then
           some (false,())
          else
           if(!(decide ((((List.getD t0 t3.toNat ci).Body).Op)=29)))=true then
            some (false,())
           else
            (F.f39 ((List.getD t0 t3.toNat ci).Body)).bind fun(r22:Int×Unit) =>
            if(decide (r22.1>16))=true then
             some (false,())
            else
             (F.f104 ((List.getD t0 t3.toNat ci).Body)).bind fun(r23:Bool×Unit) =>
             if(!r23.1)=true then
              some (false,())
             else
              F.f70 t0 (w64 (t3+1))
         else
          some (false,())
        else
         some (false,())
       else
        some (false,())
    else
     (F.f0 ((List.getD t0 t3.toNat ci).Kind) 1 2).bind fun(r24:Bool×Unit) =>
     if r24.1=true then
      if(decide (((List.getD t0 t3.toNat ci).Kind)=3))=true then
       (F.f106 (((List.getD t0 t3.toNat ci).Pat).Op)).bind fun(r25:Bool×Unit) =>
       if r25.1=true then
        (F.f104 ((List.getD t0 t3.toNat ci).Pat)).bind fun(r26:Bool×Unit) =>
        if r26.1=true then
         (F.f39 ((List.getD t0 t3.toNat ci).Pat)).bind fun(r27:Int×Unit) =>
         if(!(decide (r27.1≤16)))=true then
          some (false,())
         else
          if(!(decide ((((List.getD t0 t3.toNat ci).Body).Op)=29)))=true then
           some (false,())
          else
           (F.f39 ((List.getD t0 t3.toNat ci).Body)).bind fun(r28:Int×Unit) =>
           if(decide (r28.1>16))=true then
            some (false,())
           else
            (F.f104 ((List.getD t0 t3.toNat ci).Body)).bind fun(r29:Bool×Unit) =>
            if(!r29.1)=true then
             some (false,())
            else
             F.f70 t0 (w64 (t3+1))
        else
         some (false,())
       else
        some (false,())
      else
       some (false,())
     else
      if(decide (((List.getD t0 t3.toNat ci).Kind)=3))=true then
       (F.f106 (((List.getD t0 t3.toNat ci).Pat).Op)).bind fun(r30:Bool×Unit) =>
       if r30.1=true then
        (F.f104 ((List.getD t0 t3.toNat ci).Pat)).bind fun(r31:Bool×Unit) =>
        if r31.1=true then
         (F.f39 ((List.getD t0 t3.toNat ci).Pat)).bind fun(r32:Int×Unit) =>
         if(!(decide (r32.1≤16)))=true then
          some (false,())
         else
          if(!(decide ((((List.getD t0 t3.toNat ci).Body).Op)=29)))=true then
           some (false,())
          else
           (F.f39 ((List.getD t0 t3.toNat ci).Body)).bind fun(r33:Int×Unit) =>
           if(decide (r33.1>16))=true then
            some (false,())
           else
            (F.f104 ((List.getD t0 t3.toNat ci).Body)).bind fun(r34:Bool×Unit) =>
            if(!r34.1)=true then
             some (false,())
            else
             F.f70 t0 (w64 (t3+1))
        else
         some (false,())
       else
        some (false,())
      else
       some (false,())
   else
    (F.f0 ((List.getD t0 t3.toNat ci).Kind) 1 2).bind fun(r35:Bool×Unit) =>
    if r35.1=true then
     if(decide (((List.getD t0 t3.toNat ci).Kind)=3))=true then
      (F.f106 (((List.getD t0 t3.toNat ci).Pat).Op)).bind fun(r36:Bool×Unit) =>
      if r36.1=true then
       (F.f104 ((List.getD t0 t3.toNat ci).Pat)).bind fun(r37:Bool×Unit) =>
       if r37.1=true then
        (F.f39 ((List.getD t0 t3.toNat ci).Pat)).bind fun(r38:Int×Unit) =>
        if(!(decide (r38.1≤16)))=true then
         some (false,())
        else
         if(!(decide ((((List.getD t0 t3.toNat ci).Body).Op)=29)))=true then
          some (false,())
         else
          (F.f39 ((List.getD t0 t3.toNat ci).Body)).bind fun(r39:Int×Unit) =>
          if(decide (r39.1>16))=true then
           some (false,())
          else
           (F.f104 ((List.getD t0 t3.toNat ci).Body)).bind fun(r40:Bool×Unit) =>
           if(!r40.1)=true then
            some (false,())
           else
            F.f70 t0 (w64 (t3+1))
       else
        some (false,())
      else
       some (false,())
     else
      some (false,())
    else
     if(decide (((List.getD t0 t3.toNat ci).Kind)=3))=true then
      (F.f106 (((List.getD t0 t3.toNat ci).Pat).Op)).bind fun(r41:Bool×Unit) =>
      if r41.1=true then
       (F.f104 ((List.getD t0 t3.toNat ci).Pat)).bind fun(r42:Bool×Unit) =>
       if r42.1=true then
        (F.f39 ((List.getD t0 t3.toNat ci).Pat)).bind fun(r43:Int×Unit) =>
        if(!(decide (r43.1≤16)))=true then
         some (false,())
        else
         if(!(decide ((((List.getD t0 t3.toNat ci).Body).Op)=29)))=true then
          some (false,())
         else
          (F.f39 ((List.getD t0 t3.toNat ci).Body)).bind fun(r44:Int×Unit) =>
          if(decide (r44.1>16))=true then
           some (false,())
          else
           (F.f104 ((List.getD t0 t3.toNat ci).Body)).bind fun(r45:Bool×Unit) =>
           if(!r45.1)=true then
            some (false,())
           else
            F.f70 t0 (w64 (t3+1))
       else
        some (false,())
      else
       some (false,())
     else
      some (false,())
  else none
 else
  some (true,())
def Cg(F:FsBuild)(t0:bD):Option (Bool×Unit) :=
 if(decide (t0.Op=6))=true then
  some (true,())
 else
  if(decide (t0.Op=7))=true then
   some (true,())
  else
   if(decide (t0.Op=8))=true then
    some (true,())
   else
    if(decide (t0.Op=33))=true then
     some (true,())
    else
     if(decide (t0.Op=3))=true then
      some (true,())
     else
      F.f72 0 t0
def Ch(F:FsBuild)(t3:Int)(s16:bD):Option (Bool×Unit) :=
 if(decide (t3<(List.length s16.Kids:Int)))=true then
  if(decide (s16.Op=21))=true then
   if(decide (t3=1))=true then
    if(0:Int)≤t3∧t3<(List.length s16.Kids:Int) then
     if(decide (((List.getD s16.Kids t3.toNat cR).Op)=3))=true then
      F.f72 (w64 (t3+1)) s16
     else
      if(0:Int)≤t3∧t3<(List.length s16.Kids:Int) then
       (F.f71 (List.getD s16.Kids t3.toNat cR)).bind fun(r0:Bool×Unit) =>
       if r0.1=true then
        some (true,())
       else
        F.f72 (w64 (t3+1)) s16
      else none
    else none
   else
    if(0:Int)≤t3∧t3<(List.length s16.Kids:Int) then
     (F.f71 (List.getD s16.Kids t3.toNat cR)).bind fun(r1:Bool×Unit) =>
     if r1.1=true then
      some (true,())
     else
      F.f72 (w64 (t3+1)) s16
    else none
  else
   if(0:Int)≤t3∧t3<(List.length s16.Kids:Int) then
    (F.f71 (List.getD s16.Kids t3.toNat cR)).bind fun(r2:Bool×Unit) =>
    if r2.1=true then
     some (true,())
    else
     F.f72 (w64 (t3+1)) s16
   else none
 else
  some (false,())
def Cd(F:FsBuild)(t0:bD):Option (Bool×Unit) :=
 if(decide (t0.Op=28))=true then
  if(decide (t0.S=[105,110,100,101,120]))=true then
   if(!(decide ((List.length t0.Kids:Int)=2)))=true then
    some (false,())
   else
    F.f74 (List.length t0.Kids:Int) t0
  else
   if(decide (t0.S=[115,117,98,115,116,114]))=true then
    if(!(decide ((List.length t0.Kids:Int)=2)))=true then
     if(!(decide ((List.length t0.Kids:Int)=3)))=true then
      some (false,())
     else
      F.f74 (List.length t0.Kids:Int) t0
    else
     F.f74 (List.length t0.Kids:Int) t0
   else
    if(!(decide ((List.length t0.Kids:Int)=1)))=true then
     some (false,())
    else
     F.f74 (List.length t0.Kids:Int) t0
 else
  F.f74 (List.length t0.Kids:Int) t0
def Ce(F:FsBuild)(t3:Int)(s16:bD):Option (Bool×Unit) :=
 F.f75 t3 0 s16
def Cf(F:FsBuild)(t3:Int)(t4:Int)(s16:bD):Option (Bool×Unit) :=
 if(decide (t4<t3))=true then
  if(0:Int)≤t4∧t4<(List.length s16.Kids:Int) then
   (F.f73 (List.getD s16.Kids t4.toNat cR)).bind fun(r0:Bool×Unit) =>
   if(!r0.1)=true then
    some (false,())
   else
    F.f75 t3 (w64 (t4+1)) s16
  else none
 else
  some (true,())
def Cn(F:FsBuild)(t0:bD):Option (Bool×Unit) :=
 if(decide (t0.Op=3))=true then
  (F.s_RexParse t0.S).bind fun(r0:bH×Bool×Unit) =>
  some (r0.2.1,())
 else
  if(decide (t0.Op=21))=true then
   if(0:Int)≤1∧(1:Int)<(List.length t0.Kids:Int) then
    if(!(decide (((List.getD t0.Kids 1 cR).Op)=3)))=true then
     some (false,())
    else
     F.f77 0 t0
   else none
  else
   F.f77 0 t0
def Cp(F:FsBuild)(t5:Int)(s16:bD):Option (Bool×Unit) :=
 if(decide (t5<(List.length s16.Kids:Int)))=true then
  if(0:Int)≤t5∧t5<(List.length s16.Kids:Int) then
   (F.f76 (List.getD s16.Kids t5.toNat cR)).bind fun(r0:Bool×Unit) =>
   if(!r0.1)=true then
    some (false,())
   else
    F.f77 (w64 (t5+1)) s16
  else none
 else
  some (true,())
def Ci(F:FsBuild)(t0:bD)(t1:(List (List Int)))(t2:(List (List Int))):Option ((List (List Int))×(List (List Int))×Unit) :=
 if(decide (t0.Op=4))=true then
  (F.f107 t1 t0.S).bind fun(r0:(List (List Int))×Unit) =>
  F.f79 r0.1 t2 t0
 else
  if(decide (t0.Op=5))=true then
   if(decide (t0.Op=5))=true then
    (F.f107 t2 t0.S).bind fun(r1:(List (List Int))×Unit) =>
    F.f79 t1 r1.1 t0
   else
    F.f79 t1 t2 t0
  else
   if(decide (t0.Op=34))=true then
    (F.f107 t2 t0.S).bind fun(r2:(List (List Int))×Unit) =>
    F.f79 t1 r2.1 t0
   else
    F.f79 t1 t2 t0
def Cj(F:FsBuild)(t1:(List (List Int)))(t2:(List (List Int)))(s48:bD):Option ((List (List Int))×(List (List Int))×Unit) :=
 F.f80 t1 t2 0 s48
def Ck(F:FsBuild)(t1:(List (List Int)))(t2:(List (List Int)))(t8:Int)(s48:bD):Option ((List (List Int))×(List (List Int))×Unit) :=
 if(decide (t8<(List.length s48.Kids:Int)))=true then
  if(0:Int)≤t8∧t8<(List.length s48.Kids:Int) then
   (F.f78 (List.getD s48.Kids t8.toNat cR) t1 t2).bind fun(r0:(List (List Int))×(List (List Int))×Unit) =>
   F.f80 r0.1 r0.2.1 (w64 (t8+1)) s48
  else none
 else
  some (t1,t2,())
def CM(F:FsBuild)(s0_0:(List (List Int)))(s0_1:(List (List Int)))(s0_2:(List bE))(t1:bD):Option (((List (List Int))×((List (List Int))×((List bE)×Unit)))×Unit) :=
 if(decide (t1.Op=29))=true then
  (F.f48 s0_0 s0_1 s0_2 t1).bind fun(r0:((List (List Int))×((List (List Int))×((List bE)×Unit)))×Unit) =>
  some ((r0.1.1,(r0.1.2.1,(r0.1.2.2.1,()))),())
 else
  if(decide (t1.Op=30))=true then
   (F.f109 s0_0 s0_1 s0_2 t1).bind fun(r1:((List (List Int))×((List (List Int))×((List bE)×Unit)))×Unit) =>
   some ((r1.1.1,(r1.1.2.1,(r1.1.2.2.1,()))),())
  else
   if(decide (t1.Op=31))=true then
    (F.f112 s0_0 s0_1 s0_2 t1).bind fun(r2:((List (List Int))×((List (List Int))×((List bE)×Unit)))×Unit) =>
    some ((r2.1.1,(r2.1.2.1,(r2.1.2.2.1,()))),())
   else
    if(decide (t1.Op=32))=true then
     (F.f113 s0_0 s0_1 s0_2 t1).bind fun(r3:((List (List Int))×((List (List Int))×((List bE)×Unit)))×Unit) =>
     some ((r3.1.1,(r3.1.2.1,(r3.1.2.2.1,()))),())
    else
     if(decide (t1.Op=33))=true then
      (F.f53 s0_0 s0_1 s0_2 36 0 []).bind fun(r4:Int×((List (List Int))×((List (List Int))×((List bE)×Unit)))×Unit) =>
      some ((r4.2.1.1,(r4.2.1.2.1,(r4.2.1.2.2.1,()))),())
     else
      if(decide (t1.Op=34))=true then
       if(0:Int)≤0∧(0:Int)<(List.length t1.Kids:Int) then
        (F.f50 s0_0 s0_1 s0_2 (List.getD t1.Kids 0 cR)).bind fun(r5:((List (List Int))×((List (List Int))×((List bE)×Unit)))×Unit) =>
        (F.f114 r5.1.2.1 t1.S).bind fun(r6:Int×Unit) =>
        (F.f53 r5.1.1 r5.1.2.1 r5.1.2.2.1 35 r6.1 []).bind fun(r7:Int×((List (List Int))×((List (List Int))×((List bE)×Unit)))×Unit) =>
        some ((r7.2.1.1,(r7.2.1.2.1,(r7.2.1.2.2.1,()))),())
       else none
      else
       if(0:Int)≤0∧(0:Int)<(List.length t1.Kids:Int) then
        (F.f50 s0_0 s0_1 s0_2 (List.getD t1.Kids 0 cR)).bind fun(r8:((List (List Int))×((List (List Int))×((List bE)×Unit)))×Unit) =>
        (F.f53 r8.1.1 r8.1.2.1 r8.1.2.2.1 32 0 []).bind fun(r9:Int×((List (List Int))×((List (List Int))×((List bE)×Unit)))×Unit) =>
        some ((r9.2.1.1,(r9.2.1.2.1,(r9.2.1.2.2.1,()))),())
       else none
def CL(F:FsBuild)(s0_0:(List (List Int)))(s0_1:(List (List Int)))(s0_2:(List bE))(t1:bD):Option (((List (List Int))×((List (List Int))×((List bE)×Unit)))×Unit) :=
 if(0:Int)≤0∧(0:Int)<(List.length t1.Kids:Int) then
  (F.f116 (decide (t1.Op=27))).bind fun(r0:Int×Unit) =>
  if(decide (((List.getD t1.Kids 0 cR).Op)=4))=true then
   if(0:Int)≤1∧(1:Int)<(List.length t1.Kids:Int) then
    (F.f50 s0_0 s0_1 s0_2 (List.getD t1.Kids 1 cR)).bind fun(r1:((List (List Int))×((List (List Int))×((List bE)×Unit)))×Unit) =>
    (F.f114 r1.1.1 ((List.getD t1.Kids 0 cR).S)).bind fun(r2:Int×Unit) =>
    (F.f53 r1.1.1 r1.1.2.1 r1.1.2.2.1 (w64 (4+r0.1)) r2.1 []).bind fun(r3:Int×((List (List Int))×((List (List Int))×((List bE)×Unit)))×Unit) =>
    some ((r3.2.1.1,(r3.2.1.2.1,(r3.2.1.2.2.1,()))),())
   else none
  else
   if(0:Int)≤0∧(0:Int)<(List.length ((List.getD t1.Kids 0 cR).Kids):Int) then
    (F.f50 s0_0 s0_1 s0_2 (List.getD ((List.getD t1.Kids 0 cR).Kids) 0 cR)).bind fun(r4:((List (List Int))×((List (List Int))×((List bE)×Unit)))×Unit) =>
    if(0:Int)≤1∧(1:Int)<(List.length t1.Kids:Int) then
     (F.f50 r4.1.1 r4.1.2.1 r4.1.2.2.1 (List.getD t1.Kids 1 cR)).bind fun(r5:((List (List Int))×((List (List Int))×((List bE)×Unit)))×Unit) =>
     (F.f114 r5.1.2.1 ((List.getD t1.Kids 0 cR).S)).bind fun(r6:Int×Unit) =>
     (F.f53 r5.1.1 r5.1.2.1 r5.1.2.2.1 (w64 (7+r0.1)) r6.1 []).bind fun(r7:Int×((List (List Int))×((List (List Int))×((List bE)×Unit)))×Unit) =>
     some ((r7.2.1.1,(r7.2.1.2.1,(r7.2.1.2.2.1,()))),())
    else none
   else none
 else none
def Cy(F:FsBuild)(s0_0:(List (List Int)))(s0_1:(List (List Int)))(s0_2:(List bE))(t1:bD):Option (((List (List Int))×((List (List Int))×((List bE)×Unit)))×Unit) :=
 if(0:Int)≤0∧(0:Int)<(List.length t1.Kids:Int) then
  (F.f50 s0_0 s0_1 s0_2 (List.getD t1.Kids 0 cR)).bind fun(r0:((List (List Int))×((List (List Int))×((List bE)×Unit)))×Unit) =>
  (F.f53 r0.1.1 r0.1.2.1 r0.1.2.2.1 31 0 []).bind fun(r1:Int×((List (List Int))×((List (List Int))×((List bE)×Unit)))×Unit) =>
  if(0:Int)≤1∧(1:Int)<(List.length t1.Kids:Int) then
   (F.f50 r1.2.1.1 r1.2.1.2.1 r1.2.1.2.2.1 (List.getD t1.Kids 1 cR)).bind fun(r2:((List (List Int))×((List (List Int))×((List bE)×Unit)))×Unit) =>
   (F.f53 r2.1.1 r2.1.2.1 r2.1.2.2.1 28 0 []).bind fun(r3:Int×((List (List Int))×((List (List Int))×((List bE)×Unit)))×Unit) =>
   (F.f53 r3.2.1.1 r3.2.1.2.1 r3.2.1.2.2.1 30 0 []).bind fun(r4:Int×((List (List Int))×((List (List Int))×((List bE)×Unit)))×Unit) =>
   if(0:Int)≤r1.1∧r1.1<(List.length r4.2.1.2.2.1:Int) then
    let v0:(List bE):=(List.set r4.2.1.2.2.1 r1.1.toNat (bE.mk ((List.getD r4.2.1.2.2.1 r1.1.toNat dd).Code) (List.length r4.2.1.2.2.1:Int) ((List.getD r4.2.1.2.2.1 r1.1.toNat dd).S)))
    (F.f53 r4.2.1.1 r4.2.1.2.1 v0 1 0 []).bind fun(r5:Int×((List (List Int))×((List (List Int))×((List bE)×Unit)))×Unit) =>
    if(0:Int)≤r4.1∧r4.1<(List.length r5.2.1.2.2.1:Int) then
     let v1:(List bE):=(List.set r5.2.1.2.2.1 r4.1.toNat (bE.mk ((List.getD r5.2.1.2.2.1 r4.1.toNat dd).Code) (List.length r5.2.1.2.2.1:Int) ((List.getD r5.2.1.2.2.1 r4.1.toNat dd).S)))
     some ((r5.2.1.1,(r5.2.1.2.1,(v1,()))),())
    else none
   else none
  else none
 else none
def CG(F:FsBuild)(s0_0:(List (List Int)))(s0_1:(List (List Int)))(s0_2:(List bE))(t1:bD):Option (((List (List Int))×((List (List Int))×((List bE)×Unit)))×Unit) :=
 if(0:Int)≤0∧(0:Int)<(List.length t1.Kids:Int) then
  (F.f50 s0_0 s0_1 s0_2 (List.getD t1.Kids 0 cR)).bind fun(r0:((List (List Int))×((List (List Int))×((List bE)×Unit)))×Unit) =>
  (F.f53 r0.1.1 r0.1.2.1 r0.1.2.2.1 31 0 []).bind fun(r1:Int×((List (List Int))×((List (List Int))×((List bE)×Unit)))×Unit) =>
  (F.f53 r1.2.1.1 r1.2.1.2.1 r1.2.1.2.2.1 1 1000000 []).bind fun(r2:Int×((List (List Int))×((List (List Int))×((List bE)×Unit)))×Unit) =>
  (F.f53 r2.2.1.1 r2.2.1.2.1 r2.2.1.2.2.1 30 0 []).bind fun(r3:Int×((List (List Int))×((List (List Int))×((List bE)×Unit)))×Unit) =>
  if(0:Int)≤r1.1∧r1.1<(List.length r3.2.1.2.2.1:Int) then
   let v0:(List bE):=(List.set r3.2.1.2.2.1 r1.1.toNat (bE.mk ((List.getD r3.2.1.2.2.1 r1.1.toNat dd).Code) (List.length r3.2.1.2.2.1:Int) ((List.getD r3.2.1.2.2.1 r1.1.toNat dd).S)))
   if(0:Int)≤1∧(1:Int)<(List.length t1.Kids:Int) then
    (F.f50 r3.2.1.1 r3.2.1.2.1 v0 (List.getD t1.Kids 1 cR)).bind fun(r4:((List (List Int))×((List (List Int))×((List bE)×Unit)))×Unit) =>
    (F.f53 r4.1.1 r4.1.2.1 r4.1.2.2.1 28 0 []).bind fun(r5:Int×((List (List Int))×((List (List Int))×((List bE)×Unit)))×Unit) =>
    if(0:Int)≤r3.1∧r3.1<(List.length r5.2.1.2.2.1:Int) then
     let v1:(List bE):=(List.set r5.2.1.2.2.1 r3.1.toNat (bE.mk ((List.getD r5.2.1.2.2.1 r3.1.toNat dd).Code) (List.length r5.2.1.2.2.1:Int) ((List.getD r5.2.1.2.2.1 r3.1.toNat dd).S)))
     some ((r5.2.1.1,(r5.2.1.2.1,(v1,()))),())
    else none
   else none
  else none
 else none
def CF(F:FsBuild)(s0_0:(List (List Int)))(s0_1:(List (List Int)))(s0_2:(List bE))(t1:bD):Option (((List (List Int))×((List (List Int))×((List bE)×Unit)))×Unit) :=
 if(decide (t1.Op=1))=true then
  (F.f53 s0_0 s0_1 s0_2 1 t1.N []).bind fun(r0:Int×((List (List Int))×((List (List Int))×((List bE)×Unit)))×Unit) =>
  some ((r0.2.1.1,(r0.2.1.2.1,(r0.2.1.2.2.1,()))),())
 else
  if(decide (t1.Op=2))=true then
   (F.f53 s0_0 s0_1 s0_2 2 0 t1.S).bind fun(r1:Int×((List (List Int))×((List (List Int))×((List bE)×Unit)))×Unit) =>
   some ((r1.2.1.1,(r1.2.1.2.1,(r1.2.1.2.2.1,()))),())
  else
   if(decide (t1.Op=3))=true then
    (F.f53 s0_0 s0_1 s0_2 25 0 t1.S).bind fun(r2:Int×((List (List Int))×((List (List Int))×((List bE)×Unit)))×Unit) =>
    some ((r2.2.1.1,(r2.2.1.2.1,(r2.2.1.2.2.1,()))),())
   else
    if(decide (t1.Op=4))=true then
     (F.f114 s0_0 t1.S).bind fun(r3:Int×Unit) =>
     (F.f53 s0_0 s0_1 s0_2 3 r3.1 []).bind fun(r4:Int×((List (List Int))×((List (List Int))×((List bE)×Unit)))×Unit) =>
     some ((r4.2.1.1,(r4.2.1.2.1,(r4.2.1.2.2.1,()))),())
    else
     if(decide (t1.Op=5))=true then
      (F.f114 s0_1 t1.S).bind fun(r5:Int×Unit) =>
      (F.f53 s0_0 s0_1 s0_2 6 r5.1 []).bind fun(r6:Int×((List (List Int))×((List (List Int))×((List bE)×Unit)))×Unit) =>
      some ((r6.2.1.1,(r6.2.1.2.1,(r6.2.1.2.2.1,()))),())
     else
      if(decide (t1.Op=6))=true then
       (F.f53 s0_0 s0_1 s0_2 9 0 []).bind fun(r7:Int×((List (List Int))×((List (List Int))×((List bE)×Unit)))×Unit) =>
       some ((r7.2.1.1,(r7.2.1.2.1,(r7.2.1.2.2.1,()))),())
      else
       if(decide (t1.Op=7))=true then
        (F.f53 s0_0 s0_1 s0_2 10 0 []).bind fun(r8:Int×((List (List Int))×((List (List Int))×((List bE)×Unit)))×Unit) =>
        some ((r8.2.1.1,(r8.2.1.2.1,(r8.2.1.2.2.1,()))),())
       else
        if(decide (t1.Op=8))=true then
         (F.f53 s0_0 s0_1 s0_2 11 0 []).bind fun(r9:Int×((List (List Int))×((List (List Int))×((List bE)×Unit)))×Unit) =>
         some ((r9.2.1.1,(r9.2.1.2.1,(r9.2.1.2.2.1,()))),())
        else
         if(decide (t1.Op=22))=true then
          (F.f53 s0_0 s0_1 s0_2 26 0 []).bind fun(r10:Int×((List (List Int))×((List (List Int))×((List bE)×Unit)))×Unit) =>
          some ((r10.2.1.1,(r10.2.1.2.1,(r10.2.1.2.2.1,()))),())
         else
          if(decide (t1.Op=23))=true then
           (F.f53 s0_0 s0_1 s0_2 27 0 []).bind fun(r11:Int×((List (List Int))×((List (List Int))×((List bE)×Unit)))×Unit) =>
           some ((r11.2.1.1,(r11.2.1.2.1,(r11.2.1.2.2.1,()))),())
          else
           if(decide (t1.Op=28))=true then
            (F.f53 s0_0 s0_1 s0_2 29 (List.length t1.Kids:Int) t1.S).bind fun(r12:Int×((List (List Int))×((List (List Int))×((List bE)×Unit)))×Unit) =>
            some ((r12.2.1.1,(r12.2.1.2.1,(r12.2.1.2.2.1,()))),())
           else
            (F.f53 s0_0 s0_1 s0_2 (w64 ((w64 (12+t1.Op))-9)) 0 []).bind fun(r13:Int×((List (List Int))×((List (List Int))×((List bE)×Unit)))×Unit) =>
            some ((r13.2.1.1,(r13.2.1.2.1,(r13.2.1.2.2.1,()))),())
def CX(F:FsBuild)(s0:bT)(t1:Int):Option (bH×bT×Unit) :=
 F.f87 t1 [] s0 ch
def CY(F:FsBuild)(t1:Int)(t5:(List bH))(s0:bT)(s64:bH):Option (bH×bT×Unit) :=
 if(!s0.bad)=true then
  if(decide (s0.at_<(List.length s0.s:Int)))=true then
   if(0:Int)≤s0.at_∧s0.at_<(List.length s0.s:Int) then
    if(!(decide ((List.getD s0.s s0.at_.toNat 0)=124)))=true then
     if(0:Int)≤s0.at_∧s0.at_<(List.length s0.s:Int) then
      if(!(decide ((List.getD s0.s s0.at_.toNat 0)=41)))=true then
       (F.f117 s0 t1).bind fun(r0:bH×bT×Unit) =>
       if List.length t5+1≤room then
        F.f87 t1 (List.append t5 [r0.1]) r0.2.1 s64
       else none
      else
       if(decide ((List.length t5:Int)=0))=true then
        some ((bH.mk 11 0 [] false []),s0,())
       else
        if(decide ((List.length t5:Int)=1))=true then
         if(0:Int)≤0∧(0:Int)<(List.length t5:Int) then
          some ((List.getD t5 0 ch),s0,())
         else none
        else
         some ((bH.mk 6 0 [] false t5),s0,())
     else none
    else
     if(decide ((List.length t5:Int)=0))=true then
      some ((bH.mk 11 0 [] false []),s0,())
     else
      if(decide ((List.length t5:Int)=1))=true then
       if(0:Int)≤0∧(0:Int)<(List.length t5:Int) then
        some ((List.getD t5 0 ch),s0,())
       else none
      else
       some ((bH.mk 6 0 [] false t5),s0,())
   else none
  else
   if(decide ((List.length t5:Int)=0))=true then
    some ((bH.mk 11 0 [] false []),s0,())
   else
    if(decide ((List.length t5:Int)=1))=true then
     if(0:Int)≤0∧(0:Int)<(List.length t5:Int) then
      some ((List.getD t5 0 ch),s0,())
     else none
    else
     some ((bH.mk 6 0 [] false t5),s0,())
 else
  if(decide ((List.length t5:Int)=0))=true then
   some ((bH.mk 11 0 [] false []),s0,())
  else
   if(decide ((List.length t5:Int)=1))=true then
    if(0:Int)≤0∧(0:Int)<(List.length t5:Int) then
     some ((List.getD t5 0 ch),s0,())
    else none
   else
    some ((bH.mk 6 0 [] false t5),s0,())
def CW(F:FsBuild)(s0:bT)(t1:Int):Option (Bool×bT×Unit) :=
 if(!s0.bad)=true then
  if(decide (s0.at_<(List.length s0.s:Int)))=true then
   if(0:Int)≤s0.at_∧s0.at_<(List.length s0.s:Int) then
    some ((decide ((List.getD s0.s s0.at_.toNat 0)=t1)),s0,())
   else none
  else
   some (false,s0,())
 else
  some (false,s0,())
def Du(F:FsBuild)(t0:(List Int))(t1:Int):Option (Int×Int×Bool×Unit) :=
 F.f90 t0 t1 t1
def Dv(F:FsBuild)(t0:(List Int))(t1:Int)(t7:Int):Option (Int×Int×Bool×Unit) :=
 if(decide (t7<(List.length t0:Int)))=true then
  if(0:Int)≤t7∧t7<(List.length t0:Int) then
   (F.f58 (List.getD t0 t7.toNat 0)).bind fun(r0:Bool×Unit) =>
   if r0.1=true then
    F.f90 t0 t1 (w64 (t7+1))
   else
    if(decide ((w64 (t7+1))<(List.length t0:Int)))=true then
     if(0:Int)≤t7∧t7<(List.length t0:Int) then
      if(decide ((List.getD t0 t7.toNat 0)=46))=true then
       if(0:Int)≤(w64 (t7+1))∧(w64 (t7+1))<(List.length t0:Int) then
        (F.f58 (List.getD t0 (w64 (t7+1)).toNat 0)).bind fun(r1:Bool×Unit) =>
        if r1.1=true then
         F.f91 t0 t1 (w64 (t7+1)) t7
        else
         F.f92 t0 t1 t7
       else none
      else
       F.f92 t0 t1 t7
     else none
    else
     F.f92 t0 t1 t7
  else none
 else
  if(decide ((w64 (t7+1))<(List.length t0:Int)))=true then
   if(0:Int)≤t7∧t7<(List.length t0:Int) then
    if(decide ((List.getD t0 t7.toNat 0)=46))=true then
     if(0:Int)≤(w64 (t7+1))∧(w64 (t7+1))<(List.length t0:Int) then
      (F.f58 (List.getD t0 (w64 (t7+1)).toNat 0)).bind fun(r2:Bool×Unit) =>
      if r2.1=true then
       F.f91 t0 t1 (w64 (t7+1)) t7
      else
       F.f92 t0 t1 t7
     else none
    else
     F.f92 t0 t1 t7
   else none
  else
   F.f92 t0 t1 t7
def Dw(F:FsBuild)(t0:(List Int))(t1:Int)(t7:Int)(t8:Int):Option (Int×Int×Bool×Unit) :=
 if(decide (t7<(List.length t0:Int)))=true then
  if(0:Int)≤t7∧t7<(List.length t0:Int) then
   (F.f58 (List.getD t0 t7.toNat 0)).bind fun(r0:Bool×Unit) =>
   if r0.1=true then
    F.f91 t0 t1 (w64 (t7+1)) t8
   else
    if(decide ((w64 (t7-t8))>7))=true then
     some (0,t7,false,())
    else
     F.f92 t0 t1 t7
  else none
 else
  if(decide ((w64 (t7-t8))>7))=true then
   some (0,t7,false,())
  else
   F.f92 t0 t1 t7
def Dx(F:FsBuild)(t0:(List Int))(t1:Int)(t7:Int):Option (Int×Int×Bool×Unit) :=
 if(0:Int)≤t1∧t1≤t7∧t7≤(List.length t0:Int) then
  (F.f28 (List.take (t7.toNat-t1.toNat) (List.drop t1.toNat t0))).bind fun(r0:Int×Int×Unit) =>
  some (r0.1,t7,(decide (r0.2.1=(w64 (t7-t1)))),())
 else none
def DE(F:FsBuild)(t0:(List Int))(t1:Int):Option ((List Int)×Int×Bool×Unit) :=
 F.f94 t0 [] (w64 (t1+1))
def DF(F:FsBuild)(t0:(List Int))(t7:(List Int))(t8:Int):Option ((List Int)×Int×Bool×Unit) :=
 if(decide (t8<(List.length t0:Int)))=true then
  if(0:Int)≤t8∧t8<(List.length t0:Int) then
   if(decide ((List.getD t0 t8.toNat 0)=34))=true then
    some (t7,(w64 (t8+1)),true,())
   else
    if(decide ((List.getD t0 t8.toNat 0)=10))=true then
     some ([],0,false,())
    else
     if(decide ((List.getD t0 t8.toNat 0)=92))=true then
      if(decide ((w64 (t8+1))≥(List.length t0:Int)))=true then
       some ([],0,false,())
      else
       if(0:Int)≤(w64 (t8+1))∧(w64 (t8+1))<(List.length t0:Int) then
        if(decide ((List.getD t0 (w64 (t8+1)).toNat 0)=10))=true then
         some ([],0,false,())
        else
         if(0:Int)≤(w64 (t8+1))∧(w64 (t8+1))<(List.length t0:Int) then
          if List.length t7+1≤room then
           F.f94 t0 (List.append t7 [(List.getD t0 (w64 (t8+1)).toNat 0)]) (w64 ((w64 (t8+1))+1))
          else none
         else none
       else none
     else
      if(0:Int)≤t8∧t8<(List.length t0:Int) then
       if List.length t7+1≤room then
        F.f94 t0 (List.append t7 [(List.getD t0 t8.toNat 0)]) (w64 (t8+1))
       else none
      else none
  else none
 else
  some ([],0,false,())
def Dr(F:FsBuild)(t0:(List bK)):Option (Bool×Unit) :=
 if(decide ((List.length t0:Int)=0))=true then
  some (false,())
 else
  if(0:Int)≤(w64 ((List.length t0:Int)-1))∧(w64 ((List.length t0:Int)-1))<(List.length t0:Int) then
   if(decide (((List.getD t0 (w64 ((List.length t0:Int)-1)).toNat lv).Kind)=5))=true then
    if(decide (((List.getD t0 (w64 ((List.length t0:Int)-1)).toNat lv).Text)=[41]))=true then
     some (true,())
    else
     if(decide (((List.getD t0 (w64 ((List.length t0:Int)-1)).toNat lv).Text)=[93]))=true then
      some (true,())
     else
      (F.f0 ((List.getD t0 (w64 ((List.length t0:Int)-1)).toNat lv).Kind) 1 4).bind fun(r0:Bool×Unit) =>
      some (r0.1,())
   else
    (F.f0 ((List.getD t0 (w64 ((List.length t0:Int)-1)).toNat lv).Kind) 1 4).bind fun(r1:Bool×Unit) =>
    some (r1.1,())
  else none
def DA(F:FsBuild)(t0:(List Int))(t1:Int):Option ((List Int)×Int×Bool×Unit) :=
 F.f97 t0 [] (w64 (t1+1))
def DB(F:FsBuild)(t0:(List Int))(t7:(List Int))(t8:Int):Option ((List Int)×Int×Bool×Unit) :=
 if(decide (t8<(List.length t0:Int)))=true then
  if(0:Int)≤t8∧t8<(List.length t0:Int) then
   if(decide ((List.getD t0 t8.toNat 0)=47))=true then
    some (t7,(w64 (t8+1)),true,())
   else
    if(decide ((List.getD t0 t8.toNat 0)=10))=true then
     some ([],0,false,())
    else
     if(decide ((List.getD t0 t8.toNat 0)=92))=true then
      if(decide ((w64 (t8+1))≥(List.length t0:Int)))=true then
       some ([],0,false,())
      else
       if(0:Int)≤(w64 (t8+1))∧(w64 (t8+1))<(List.length t0:Int) then
        if(decide ((List.getD t0 (w64 (t8+1)).toNat 0)=10))=true then
         some ([],0,false,())
        else
         if(0:Int)≤(w64 (t8+1))∧(w64 (t8+1))<(List.length t0:Int) then
          if(!(decide ((List.getD t0 (w64 (t8+1)).toNat 0)=47)))=true then
           if(0:Int)≤t8∧t8<(List.length t0:Int) then
            if List.length t7+1≤room then
             if(0:Int)≤(w64 (t8+1))∧(w64 (t8+1))<(List.length t0:Int) then
              if List.length (List.append t7 [(List.getD t0 t8.toNat 0)])+1≤room then
               F.f97 t0 (List.append (List.append t7 [(List.getD t0 t8.toNat 0)]) [(List.getD t0 (w64 (t8+1)).toNat 0)]) (w64 ((w64 (t8+1))+1))
              else none
             else none
            else none
           else none
          else
           if(0:Int)≤(w64 (t8+1))∧(w64 (t8+1))<(List.length t0:Int) then
            if List.length t7+1≤room then
             F.f97 t0 (List.append t7 [(List.getD t0 (w64 (t8+1)).toNat 0)]) (w64 ((w64 (t8+1))+1))
            else none
           else none
         else none
       else none
     else
      if(0:Int)≤t8∧t8<(List.length t0:Int) then
       if List.length t7+1≤room then
        F.f97 t0 (List.append t7 [(List.getD t0 t8.toNat 0)]) (w64 (t8+1))
       else none
      else none
  else none
 else
  some ([],0,false,())
def DC(F:FsBuild)(t0:(List Int))(t1:Int):Option ((List Int)×Unit) :=
 F.f99 t0 t1 [[61,61],[33,61],[60,61],[62,61],[38,38],[124,124],[43,61],[33,126],[40],[41],[123],[125],[91],[93],[44],[59],[61],[60],[62],[33],[126],[43],[45],[42],[47],[37],[36]] 0
def DD(F:FsBuild)(t0:(List Int))(t1:Int)(t5:(List (List Int)))(t6:Int):Option ((List Int)×Unit) :=
 if(decide (t6<(List.length t5:Int)))=true then
  if(0:Int)≤t6∧t6<(List.length t5:Int) then
   if(decide ((w64 (t1+(List.length (List.getD t5 t6.toNat []):Int)))≤(List.length t0:Int)))=true then
    if(0:Int)≤t1∧t1≤(w64 (t1+(List.length (List.getD t5 t6.toNat []):Int)))∧(w64 (t1+(List.length (List.getD t5 t6.toNat []):Int)))≤(List.length t0:Int) then
     if(0:Int)≤t6∧t6<(List.length t5:Int) then
      if(decide ((List.take ((w64 (t1+(List.length (List.getD t5 t6.toNat []):Int))).toNat-t1.toNat) (List.drop t1.toNat t0))=(List.getD t5 t6.toNat [])))=true then
       if(0:Int)≤t6∧t6<(List.length t5:Int) then
        some ((List.getD t5 t6.toNat []),())
       else none
      else
       F.f99 t0 t1 t5 (w64 (t6+1))
     else none
    else none
   else
    F.f99 t0 t1 t5 (w64 (t6+1))
  else none
 else
  some ([],())
def Eg(F:FsBuild)(s0:bU)(t1:(List Int)):Option (bU×Unit) :=
 (F.f65 s0 t1).bind fun(r0:Bool×bU×Unit) =>
 if(!r0.1)=true then
  (F.f120 r0.2.1).bind fun(r1:bU×Unit) =>
  some (r1.1,())
 else
  (F.f62 r0.2.1).bind fun(r2:bU×Unit) =>
  some (r2.1,())
def Ef(F:FsBuild)(s0:bU):Option (bD×bU×Unit) :=
 (F.f61 s0 [105,102]).bind fun(r0:Bool×bU×Unit) =>
 if r0.1=true then
  (F.f121 r0.2.1 31).bind fun(r1:bD×bU×Unit) =>
  some (r1.1,r1.2.1,())
 else
  (F.f61 r0.2.1 [119,104,105,108,101]).bind fun(r2:Bool×bU×Unit) =>
  if r2.1=true then
   (F.f121 r2.2.1 32).bind fun(r3:bD×bU×Unit) =>
   some (r3.1,r3.2.1,())
  else
   (F.f65 r2.2.1 [123]).bind fun(r4:Bool×bU×Unit) =>
   if r4.1=true then
    (F.f63 r4.2.1).bind fun(r5:bD×bU×Unit) =>
    some (r5.1,r5.2.1,())
   else
    (F.f122 r4.2.1).bind fun(r6:bD×bU×Unit) =>
    (F.f65 r6.2.1 [125]).bind fun(r7:Bool×bU×Unit) =>
    if(!r7.1)=true then
     (F.f100 r7.2.1 [59]).bind fun(r8:bU×Unit) =>
     some (r6.1,r8.1,())
    else
     some (r6.1,r7.2.1,())
def D6(F:FsBuild)(s0:bU):Option (bD×bU×Unit) :=
 (F.f37 s0).bind fun(r0:bK×bU×Unit) =>
 (F.f61 r0.2.1 [78,82]).bind fun(r1:Bool×bU×Unit) =>
 if r1.1=true then
  (F.f62 r1.2.1).bind fun(r2:bU×Unit) =>
  some ((bD.mk 7 0 [] []),r2.1,())
 else
  (F.f61 r1.2.1 [78,70]).bind fun(r3:Bool×bU×Unit) =>
  if r3.1=true then
   (F.f62 r3.2.1).bind fun(r4:bU×Unit) =>
   some ((bD.mk 8 0 [] []),r4.1,())
  else
   if(decide (r3.2.1.bad<0))=true then
    (F.f26 ).bind fun(r5:(List (List Int))×Unit) =>
    (F.f6 r5.1 r0.1.Text).bind fun(r6:Bool×Unit) =>
    if r6.1=true then
     (F.f62 r3.2.1).bind fun(r7:bU×Unit) =>
     (F.f100 r7.1 [40]).bind fun(r8:bU×Unit) =>
     (F.f124 r8.1 [41]).bind fun(r9:(List bD)×bU×Unit) =>
     (F.f100 r9.2.1 [41]).bind fun(r10:bU×Unit) =>
     some ((bD.mk 28 0 r0.1.Text r9.1),r10.1,())
    else
     (F.f126 r3.2.1).bind fun(r11:(List Int)×bU×Unit) =>
     (F.f65 r11.2.1 [91]).bind fun(r12:Bool×bU×Unit) =>
     if(!r12.1)=true then
      some ((bD.mk 4 0 r11.1 []),r12.2.1,())
     else
      (F.f62 r12.2.1).bind fun(r13:bU×Unit) =>
      (F.f66 r13.1).bind fun(r14:bD×bU×Unit) =>
      (F.f100 r14.2.1 [93]).bind fun(r15:bU×Unit) =>
      some ((bD.mk 5 0 r11.1 [r14.1]),r15.1,())
   else
    (F.f126 r3.2.1).bind fun(r16:(List Int)×bU×Unit) =>
    (F.f65 r16.2.1 [91]).bind fun(r17:Bool×bU×Unit) =>
    if(!r17.1)=true then
     some ((bD.mk 4 0 r16.1 []),r17.2.1,())
    else
     (F.f62 r17.2.1).bind fun(r18:bU×Unit) =>
     (F.f66 r18.1).bind fun(r19:bD×bU×Unit) =>
     (F.f100 r19.2.1 [93]).bind fun(r20:bU×Unit) =>
     some ((bD.mk 5 0 r16.1 [r19.1]),r20.1,())
def D4(F:FsBuild)(s0:bU)(t1:Int):Option (bD×bU×Unit) :=
 if(decide (t1=3))=true then
  (F.f127 s0).bind fun(r0:bD×bU×Unit) =>
  some (r0.1,r0.2.1,())
 else
  if(decide (t1=4))=true then
   (F.f129 s0).bind fun(r1:bD×bU×Unit) =>
   some (r1.1,r1.2.1,())
  else
   if(decide (t1=7))=true then
    (F.f131 s0).bind fun(r2:bD×bU×Unit) =>
    some (r2.1,r2.2.1,())
   else
    (F.f132 s0 t1).bind fun(r3:bD×bU×Unit) =>
    some (r3.1,r3.2.1,())
def EA(F:FsBuild)(t0:bD):Option (Bool×Unit) :=
 (F.f136 t0).bind fun(r0:Bool×Unit) =>
 if(!r0.1)=true then
  some (false,())
 else
  (F.f0 t0.Op 1 35).bind fun(r1:Bool×Unit) =>
  if(!r1.1)=true then
   some (false,())
  else
   if(!(decide (t0.N=0)))=true then
    if(!(decide (t0.Op=1)))=true then
     some (false,())
    else
     if(decide (t0.Op=1))=true then
      if(decide (t0.S=[]))=true then
       (F.f0 t0.N 0 9000000000000).bind fun(r2:Bool×Unit) =>
       some (r2.1,())
      else
       some (false,())
     else
      if(decide (t0.Op=2))=true then
       (F.f23 t0.S).bind fun(r3:Bool×Unit) =>
       some (r3.1,())
      else
       if(decide (t0.Op=3))=true then
        (F.f142 t0.S).bind fun(r4:Bool×Unit) =>
        some (r4.1,())
       else
        if(decide (t0.Op=4))=true then
         F.f105 t0.Op (decide (t0.Op=4)) t0
        else
         if(decide (t0.Op=5))=true then
          F.f105 t0.Op (decide (t0.Op=5)) t0
         else
          F.f105 t0.Op (decide (t0.Op=34)) t0
   else
    if(decide (t0.Op=1))=true then
     if(decide (t0.S=[]))=true then
      (F.f0 t0.N 0 9000000000000).bind fun(r5:Bool×Unit) =>
      some (r5.1,())
     else
      some (false,())
    else
     if(decide (t0.Op=2))=true then
      (F.f23 t0.S).bind fun(r6:Bool×Unit) =>
      some (r6.1,())
     else
      if(decide (t0.Op=3))=true then
       (F.f142 t0.S).bind fun(r7:Bool×Unit) =>
       some (r7.1,())
      else
       if(decide (t0.Op=4))=true then
        F.f105 t0.Op (decide (t0.Op=4)) t0
       else
        if(decide (t0.Op=5))=true then
         F.f105 t0.Op (decide (t0.Op=5)) t0
        else
         F.f105 t0.Op (decide (t0.Op=34)) t0
def EB(F:FsBuild)(t23:Int)(t44:Bool)(s16:bD):Option (Bool×Unit) :=
 if t44=true then
  (F.f4 s16.S).bind fun(r0:Bool×Unit) =>
  some (r0.1,())
 else
  if(decide (t23=28))=true then
   (F.f26 ).bind fun(r1:(List (List Int))×Unit) =>
   (F.f6 r1.1 s16.S).bind fun(r2:Bool×Unit) =>
   some (r2.1,())
  else
   some ((decide (s16.S=[])),())
def En(F:FsBuild)(t0:Int):Option (Bool×Unit) :=
 (F.f0 t0 1 28).bind fun(r0:Bool×Unit) =>
 some (r0.1,())
def Cl(F:FsBuild)(t0:(List (List Int)))(t1:(List Int)):Option ((List (List Int))×Unit) :=
 (F.f6 t0 t1).bind fun(r0:Bool×Unit) =>
 if r0.1=true then
  some (t0,())
 else
  F.f108 t0 t1 0
def Cm(F:FsBuild)(t0:(List (List Int)))(t1:(List Int))(t5:Int):Option ((List (List Int))×Unit) :=
 if(decide (t5<(List.length t0:Int)))=true then
  if(0:Int)≤t5∧t5<(List.length t0:Int) then
   if(ltS (List.getD t0 t5.toNat []) t1)=true then
    F.f108 t0 t1 (w64 (t5+1))
   else
    if(0:Int)≤t5∧t5≤(List.length t0:Int) then
     if 0+List.length (List.take (t5.toNat-0) (List.drop 0 t0))≤room then
      if List.length (List.append [] (List.take (t5.toNat-0) (List.drop 0 t0)))+1≤room then
       if(0:Int)≤t5∧t5≤(List.length t0:Int) then
        if List.length (List.append (List.append [] (List.take (t5.toNat-0) (List.drop 0 t0))) [t1])+List.length (List.take ((List.length t0)-t5.toNat) (List.drop t5.toNat t0))≤room then
         some ((List.append (List.append (List.append [] (List.take (t5.toNat-0) (List.drop 0 t0))) [t1]) (List.take ((List.length t0)-t5.toNat) (List.drop t5.toNat t0))),())
        else none
       else none
      else none
     else none
    else none
  else none
 else
  if(0:Int)≤t5∧t5≤(List.length t0:Int) then
   if 0+List.length (List.take (t5.toNat-0) (List.drop 0 t0))≤room then
    if List.length (List.append [] (List.take (t5.toNat-0) (List.drop 0 t0)))+1≤room then
     if(0:Int)≤t5∧t5≤(List.length t0:Int) then
      if List.length (List.append (List.append [] (List.take (t5.toNat-0) (List.drop 0 t0))) [t1])+List.length (List.take ((List.length t0)-t5.toNat) (List.drop t5.toNat t0))≤room then
       some ((List.append (List.append (List.append [] (List.take (t5.toNat-0) (List.drop 0 t0))) [t1]) (List.take ((List.length t0)-t5.toNat) (List.drop t5.toNat t0))),())
      else none
     else none
    else none
   else none
  else none
def CH(F:FsBuild)(s0_0:(List (List Int)))(s0_1:(List (List Int)))(s0_2:(List bE))(t1:bD):Option (((List (List Int))×((List (List Int))×((List bE)×Unit)))×Unit) :=
 if(decide ((List.length t1.Kids:Int)=0))=true then
  (F.f53 s0_0 s0_1 s0_2 1 0 []).bind fun(r0:Int×((List (List Int))×((List (List Int))×((List bE)×Unit)))×Unit) =>
  (F.f53 r0.2.1.1 r0.2.1.2.1 r0.2.1.2.2.1 9 0 []).bind fun(r1:Int×((List (List Int))×((List (List Int))×((List bE)×Unit)))×Unit) =>
  (F.f53 r1.2.1.1 r1.2.1.2.1 r1.2.1.2.2.1 33 0 []).bind fun(r2:Int×((List (List Int))×((List (List Int))×((List bE)×Unit)))×Unit) =>
  F.f110 r2.2.1.1 r2.2.1.2.1 r2.2.1.2.2.1 t1
 else
  F.f110 s0_0 s0_1 s0_2 t1
def CI(F:FsBuild)(s0_0:(List (List Int)))(s0_1:(List (List Int)))(s0_2:(List bE))(s48:bD):Option (((List (List Int))×((List (List Int))×((List bE)×Unit)))×Unit) :=
 F.f111 0 s0_0 s0_1 s0_2 s48
def CJ(F:FsBuild)(t4:Int)(s0_0:(List (List Int)))(s0_1:(List (List Int)))(s0_2:(List bE))(s48:bD):Option (((List (List Int))×((List (List Int))×((List bE)×Unit)))×Unit) :=
 if(decide (t4<(List.length s48.Kids:Int)))=true then
  if(0:Int)≤t4∧t4<(List.length s48.Kids:Int) then
   (F.f50 s0_0 s0_1 s0_2 (List.getD s48.Kids t4.toNat cR)).bind fun(r0:((List (List Int))×((List (List Int))×((List bE)×Unit)))×Unit) =>
   (F.f116 (decide (t4>0))).bind fun(r1:Int×Unit) =>
   (F.f53 r0.1.1 r0.1.2.1 r0.1.2.2.1 33 r1.1 []).bind fun(r2:Int×((List (List Int))×((List (List Int))×((List bE)×Unit)))×Unit) =>
   F.f111 (w64 (t4+1)) r2.2.1.1 r2.2.1.2.1 r2.2.1.2.2.1 s48
  else none
 else
  (F.f53 s0_0 s0_1 s0_2 34 0 []).bind fun(r3:Int×((List (List Int))×((List (List Int))×((List bE)×Unit)))×Unit) =>
  some ((r3.2.1.1,(r3.2.1.2.1,(r3.2.1.2.2.1,()))),())
def CE(F:FsBuild)(s0_0:(List (List Int)))(s0_1:(List (List Int)))(s0_2:(List bE))(t1:bD):Option (((List (List Int))×((List (List Int))×((List bE)×Unit)))×Unit) :=
 if(0:Int)≤0∧(0:Int)<(List.length t1.Kids:Int) then
  (F.f50 s0_0 s0_1 s0_2 (List.getD t1.Kids 0 cR)).bind fun(r0:((List (List Int))×((List (List Int))×((List bE)×Unit)))×Unit) =>
  (F.f53 r0.1.1 r0.1.2.1 r0.1.2.2.1 31 0 []).bind fun(r1:Int×((List (List Int))×((List (List Int))×((List bE)×Unit)))×Unit) =>
  if(0:Int)≤1∧(1:Int)<(List.length t1.Kids:Int) then
   (F.f48 r1.2.1.1 r1.2.1.2.1 r1.2.1.2.2.1 (List.getD t1.Kids 1 cR)).bind fun(r2:((List (List Int))×((List (List Int))×((List bE)×Unit)))×Unit) =>
   if(decide ((List.length t1.Kids:Int)=3))=true then
    (F.f53 r2.1.1 r2.1.2.1 r2.1.2.2.1 30 0 []).bind fun(r3:Int×((List (List Int))×((List (List Int))×((List bE)×Unit)))×Unit) =>
    if(0:Int)≤r1.1∧r1.1<(List.length r3.2.1.2.2.1:Int) then
     let v0:(List bE):=(List.set r3.2.1.2.2.1 r1.1.toNat (bE.mk ((List.getD r3.2.1.2.2.1 r1.1.toNat dd).Code) (List.length r3.2.1.2.2.1:Int) ((List.getD r3.2.1.2.2.1 r1.1.toNat dd).S)))
     if(0:Int)≤2∧(2:Int)<(List.length t1.Kids:Int) then
      (F.f48 r3.2.1.1 r3.2.1.2.1 v0 (List.getD t1.Kids 2 cR)).bind fun(r4:((List (List Int))×((List (List Int))×((List bE)×Unit)))×Unit) =>
      if(0:Int)≤r3.1∧r3.1<(List.length r4.1.2.2.1:Int) then
       let v1:(List bE):=(List.set r4.1.2.2.1 r3.1.toNat (bE.mk ((List.getD r4.1.2.2.1 r3.1.toNat dd).Code) (List.length r4.1.2.2.1:Int) ((List.getD r4.1.2.2.1 r3.1.toNat dd).S)))
       some ((r4.1.1,(r4.1.2.1,(v1,()))),())
      else none
     else none
    else none
   else
    if(0:Int)≤r1.1∧r1.1<(List.length r2.1.2.2.1:Int) then
     let v2:(List bE):=(List.set r2.1.2.2.1 r1.1.toNat (bE.mk ((List.getD r2.1.2.2.1 r1.1.toNat dd).Code) (List.length r2.1.2.2.1:Int) ((List.getD r2.1.2.2.1 r1.1.toNat dd).S)))
     some ((r2.1.1,(r2.1.2.1,(v2,()))),())
    else none
  else none
 else none
def CN(F:FsBuild)(s0_0:(List (List Int)))(s0_1:(List (List Int)))(s0_2:(List bE))(t1:bD):Option (((List (List Int))×((List (List Int))×((List bE)×Unit)))×Unit) :=
 if(0:Int)≤0∧(0:Int)<(List.length t1.Kids:Int) then
  (F.f50 s0_0 s0_1 s0_2 (List.getD t1.Kids 0 cR)).bind fun(r0:((List (List Int))×((List (List Int))×((List bE)×Unit)))×Unit) =>
  (F.f53 r0.1.1 r0.1.2.1 r0.1.2.2.1 31 0 []).bind fun(r1:Int×((List (List Int))×((List (List Int))×((List bE)×Unit)))×Unit) =>
  if(0:Int)≤1∧(1:Int)<(List.length t1.Kids:Int) then
   (F.f48 r1.2.1.1 r1.2.1.2.1 r1.2.1.2.2.1 (List.getD t1.Kids 1 cR)).bind fun(r2:((List (List Int))×((List (List Int))×((List bE)×Unit)))×Unit) =>
   (F.f53 r2.1.1 r2.1.2.1 r2.1.2.2.1 30 (List.length s0_2:Int) []).bind fun(r3:Int×((List (List Int))×((List (List Int))×((List bE)×Unit)))×Unit) =>
   if(0:Int)≤r1.1∧r1.1<(List.length r3.2.1.2.2.1:Int) then
    let v0:(List bE):=(List.set r3.2.1.2.2.1 r1.1.toNat (bE.mk ((List.getD r3.2.1.2.2.1 r1.1.toNat dd).Code) (List.length r3.2.1.2.2.1:Int) ((List.getD r3.2.1.2.2.1 r1.1.toNat dd).S)))
    some ((r3.2.1.1,(r3.2.1.2.1,(v0,()))),())
   else none
  else none
 else none
def Cq(F:FsBuild)(t0:(List (List Int)))(t1:(List Int)):Option (Int×Unit) :=
 F.f115 t0 t1 0
def Cr(F:FsBuild)(t0:(List (List Int)))(t1:(List Int))(t5:Int):Option (Int×Unit) :=
 if(decide (t5<(List.length t0:Int)))=true then
  if(0:Int)≤t5∧t5<(List.length t0:Int) then
   if(decide ((List.getD t0 t5.toNat [])=t1))=true then
    some (t5,())
   else
    F.f115 t0 t1 (w64 (t5+1))
  else none
 else
  some (0,())
def CO(F:FsBuild)(t0:Bool):Option (Int×Unit) :=
 if t0=true then
  some (1,())
 else
  some (0,())
def C1(F:FsBuild)(s0:bT)(t1:Int):Option (bH×bT×Unit) :=
 (F.f144 s0 t1).bind fun(r0:bH×bT×Unit) =>
 F.f118 r0.2.1 ch r0.1
def C2(F:FsBuild)(s0:bT)(s64:bH)(s80:bH):Option (bH×bT×Unit) :=
 if(!s0.bad)=true then
  (F.f88 s0 42).bind fun(r0:Bool×bT×Unit) =>
  if r0.1=true then
   F.f119 8 r0.2.1 s64 s80
  else
   (F.f88 r0.2.1 43).bind fun(r1:Bool×bT×Unit) =>
   if r1.1=true then
    F.f119 9 r1.2.1 s64 s80
   else
    (F.f88 r1.2.1 63).bind fun(r2:Bool×bT×Unit) =>
    if r2.1=true then
     F.f119 10 r2.2.1 s64 s80
    else
     F.f119 0 r2.2.1 s64 s80
 else
  some (s80,s0,())
def C3(F:FsBuild)(t6:Int)(s0:bT)(s64:bH)(s80:bH):Option (bH×bT×Unit) :=
 if(decide (t6=0))=true then
  some (s80,s0,())
 else
  F.f118 (bT.mk s0.s (w64 (s0.at_+1)) s0.bad) s64 (bH.mk t6 0 [] false [s80])
def DJ(F:FsBuild)(s0:bU):Option (bU×Unit) :=
 if(decide (s0.bad<0))=true then
  (F.f37 s0).bind fun(r0:bK×bU×Unit) =>
  some ((bU.mk r0.2.1.list r0.2.1.at_ r0.1.At r0.2.1.has r0.2.1.kept),())
 else
  some (s0,())
def Ei(F:FsBuild)(s0:bU)(t1:Int):Option (bD×bU×Unit) :=
 (F.f62 s0).bind fun(r0:bU×Unit) =>
 (F.f100 r0.1 [40]).bind fun(r1:bU×Unit) =>
 (F.f66 r1.1).bind fun(r2:bD×bU×Unit) =>
 (F.f100 r2.2.1 [41]).bind fun(r3:bU×Unit) =>
 (F.f63 r3.1).bind fun(r4:bD×bU×Unit) =>
 (F.f68 t1 [r2.1,r4.1]).bind fun(r5:(Int×(Int×((List Int)×((List bD)×Unit))))×Unit) =>
 if(decide (t1=31))=true then
  (F.f61 r4.2.1 [101,108,115,101]).bind fun(r6:Bool×bU×Unit) =>
  if r6.1=true then
   (F.f62 r6.2.1).bind fun(r7:bU×Unit) =>
   (F.f63 r7.1).bind fun(r8:bD×bU×Unit) =>
   if List.length r5.1.2.2.2.1+1≤room then
    some ((bD.mk r5.1.1 r5.1.2.1 r5.1.2.2.1 (List.append r5.1.2.2.2.1 [r8.1])),r8.2.1,())
   else none
  else
   some ((bD.mk r5.1.1 r5.1.2.1 r5.1.2.2.1 r5.1.2.2.2.1),r6.2.1,())
 else
  some ((bD.mk r5.1.1 r5.1.2.1 r5.1.2.2.1 r5.1.2.2.2.1),r4.2.1,())
def Ed(F:FsBuild)(s0:bU):Option (bD×bU×Unit) :=
 (F.f61 s0 [112,114,105,110,116]).bind fun(r0:Bool×bU×Unit) =>
 if r0.1=true then
  (F.f62 r0.2.1).bind fun(r1:bU×Unit) =>
  F.f123 r1.1 0 0 [] [] 30 0 [] []
 else
  (F.f61 r0.2.1 [110,101,120,116]).bind fun(r2:Bool×bU×Unit) =>
  if r2.1=true then
   (F.f62 r2.2.1).bind fun(r3:bU×Unit) =>
   some ((bD.mk 33 0 [] []),r3.1,())
  else
   (F.f61 r2.2.1 [100,101,108,101,116,101]).bind fun(r4:Bool×bU×Unit) =>
   if r4.1=true then
    (F.f62 r4.2.1).bind fun(r5:bU×Unit) =>
    (F.f126 r5.1).bind fun(r6:(List Int)×bU×Unit) =>
    (F.f100 r6.2.1 [91]).bind fun(r7:bU×Unit) =>
    (F.f66 r7.1).bind fun(r8:bD×bU×Unit) =>
    (F.f100 r8.2.1 [93]).bind fun(r9:bU×Unit) =>
    some ((bD.mk 34 0 r6.1 [r8.1]),r9.1,())
   else
    (F.f66 r4.2.1).bind fun(r10:bD×bU×Unit) =>
    (F.f68 35 [r10.1]).bind fun(r11:(Int×(Int×((List Int)×((List bD)×Unit))))×Unit) =>
    some ((bD.mk r11.1.1 r11.1.2.1 r11.1.2.2.1 r11.1.2.2.2.1),r10.2.1,())
def Ee(F:FsBuild)(s0:bU)(s32_0:Int)(s32_1:Int)(s32_2:(List Int))(s32_3:(List bD))(s48_0:Int)(s48_1:Int)(s48_2:(List Int))(s48_3:(List bD)):Option (bD×bU×Unit) :=
 if(decide (s0.bad<0))=true then
  (F.f65 s0 [59]).bind fun(r0:Bool×bU×Unit) =>
  if(!r0.1)=true then
   (F.f65 r0.2.1 [125]).bind fun(r1:Bool×bU×Unit) =>
   if(!r1.1)=true then
    if(decide ((List.length s48_3:Int)>0))=true then
     (F.f100 r1.2.1 [44]).bind fun(r2:bU×Unit) =>
     (F.f66 r2.1).bind fun(r3:bD×bU×Unit) =>
     if List.length s48_3+1≤room then
      F.f123 r3.2.1 s32_0 s32_1 s32_2 s32_3 s48_0 s48_1 s48_2 (List.append s48_3 [r3.1])
     else none
    else
     (F.f66 r1.2.1).bind fun(r4:bD×bU×Unit) =>
     if List.length s48_3+1≤room then
      F.f123 r4.2.1 s32_0 s32_1 s32_2 s32_3 s48_0 s48_1 s48_2 (List.append s48_3 [r4.1])
     else none
   else
    some ((bD.mk s48_0 s48_1 s48_2 s48_3),r1.2.1,())
  else
   some ((bD.mk s48_0 s48_1 s48_2 s48_3),r0.2.1,())
 else
  some ((bD.mk s48_0 s48_1 s48_2 s48_3),s0,())
def DT(F:FsBuild)(s0:bU)(t1:(List Int)):Option ((List bD)×bU×Unit) :=
 F.f125 t1 [] s0
def DU(F:FsBuild)(t1:(List Int))(t5:(List bD))(s0:bU):Option ((List bD)×bU×Unit) :=
 if(decide (s0.bad<0))=true then
  (F.f65 s0 t1).bind fun(r0:Bool×bU×Unit) =>
  if(!r0.1)=true then
   if(decide ((List.length t5:Int)>0))=true then
    (F.f100 r0.2.1 [44]).bind fun(r1:bU×Unit) =>
    (F.f66 r1.1).bind fun(r2:bD×bU×Unit) =>
    if List.length t5+1≤room then
     F.f125 t1 (List.append t5 [r2.1]) r2.2.1
    else none
   else
    (F.f66 r0.2.1).bind fun(r3:bD×bU×Unit) =>
    if List.length t5+1≤room then
     F.f125 t1 (List.append t5 [r3.1]) r3.2.1
    else none
  else
   some (t5,r0.2.1,())
 else
  some (t5,s0,())
def D5(F:FsBuild)(s0:bU):Option ((List Int)×bU×Unit) :=
 (F.f37 s0).bind fun(r0:bK×bU×Unit) =>
 if(decide (r0.2.1.bad≥0))=true then
  (F.f120 r0.2.1).bind fun(r1:bU×Unit) =>
  some ([],r1.1,())
 else
  if(!(decide (r0.1.Kind=1)))=true then
   (F.f120 r0.2.1).bind fun(r2:bU×Unit) =>
   some ([],r2.1,())
  else
   (F.f12 r0.1.Text).bind fun(r3:Bool×Unit) =>
   if r3.1=true then
    (F.f120 r0.2.1).bind fun(r4:bU×Unit) =>
    some ([],r4.1,())
   else
    (F.f62 r0.2.1).bind fun(r5:bU×Unit) =>
    some (r0.1.Text,r5.1,())
def DP(F:FsBuild)(s0:bU):Option (bD×bU×Unit) :=
 (F.f103 s0 4).bind fun(r0:bD×bU×Unit) =>
 F.f128 [[60],[60,61],[62],[62,61],[61,61],[33,61]] 0 r0.2.1 0 0 [] [] r0.1
def DQ(F:FsBuild)(t3:(List (List Int)))(t5:Int)(s0:bU)(s32_0:Int)(s32_1:Int)(s32_2:(List Int))(s32_3:(List bD))(s64:bD):Option (bD×bU×Unit) :=
 if(decide (t5<(List.length t3:Int)))=true then
  if(0:Int)≤t5∧t5<(List.length t3:Int) then
   (F.f65 s0 (List.getD t3 t5.toNat [])).bind fun(r0:Bool×bU×Unit) =>
   if r0.1=true then
    (F.f62 r0.2.1).bind fun(r1:bU×Unit) =>
    (F.f103 r1.1 4).bind fun(r2:bD×bU×Unit) =>
    (F.f68 (w64 (15+t5)) [s64,r2.1]).bind fun(r3:(Int×(Int×((List Int)×((List bD)×Unit))))×Unit) =>
    some ((bD.mk r3.1.1 r3.1.2.1 r3.1.2.2.1 r3.1.2.2.2.1),r2.2.1,())
   else
    F.f128 t3 (w64 (t5+1)) r0.2.1 s32_0 s32_1 s32_2 s32_3 s64
  else none
 else
  some (s64,s0,())
def D9(F:FsBuild)(s0:bU):Option (bD×bU×Unit) :=
 (F.f103 s0 5).bind fun(r0:bD×bU×Unit) =>
 F.f130 r0.2.1 0 0 [] [] r0.1
def Ea(F:FsBuild)(s0:bU)(s32_0:Int)(s32_1:Int)(s32_2:(List Int))(s32_3:(List bD))(s48:bD):Option (bD×bU×Unit) :=
 (F.f146 s0).bind fun(r0:Bool×bU×Unit) =>
 if r0.1=true then
  (F.f103 r0.2.1 5).bind fun(r1:bD×bU×Unit) =>
  (F.f68 14 [s48,r1.1]).bind fun(r2:(Int×(Int×((List Int)×((List bD)×Unit))))×Unit) =>
  F.f130 r1.2.1 s32_0 s32_1 s32_2 s32_3 (bD.mk r2.1.1 r2.1.2.1 r2.1.2.2.1 r2.1.2.2.2.1)
 else
  some (s48,r0.2.1,())
def Eh(F:FsBuild)(s0:bU):Option (bD×bU×Unit) :=
 if s0.has=true then
  (F.f148 s0).bind fun(r0:bD×bU×Unit) =>
  some (r0.1,r0.2.1,())
 else
  (F.f65 s0 [33]).bind fun(r1:Bool×bU×Unit) =>
  if r1.1=true then
   (F.f62 r1.2.1).bind fun(r2:bU×Unit) =>
   (F.f131 r2.1).bind fun(r3:bD×bU×Unit) =>
   (F.f68 22 [r3.1]).bind fun(r4:(Int×(Int×((List Int)×((List bD)×Unit))))×Unit) =>
   some ((bD.mk r4.1.1 r4.1.2.1 r4.1.2.2.1 r4.1.2.2.2.1),r3.2.1,())
  else
   (F.f65 r1.2.1 [45]).bind fun(r5:Bool×bU×Unit) =>
   if r5.1=true then
    (F.f62 r5.2.1).bind fun(r6:bU×Unit) =>
    (F.f131 r6.1).bind fun(r7:bD×bU×Unit) =>
    (F.f68 23 [r7.1]).bind fun(r8:(Int×(Int×((List Int)×((List bD)×Unit))))×Unit) =>
    some ((bD.mk r8.1.1 r8.1.2.1 r8.1.2.2.1 r8.1.2.2.2.1),r7.2.1,())
   else
    (F.f148 r5.2.1).bind fun(r9:bD×bU×Unit) =>
    some (r9.1,r9.2.1,())
def DY(F:FsBuild)(s0:bU)(t1:Int):Option (bD×bU×Unit) :=
 (F.f103 s0 (w64 (t1+1))).bind fun(r0:bD×bU×Unit) =>
 F.f133 t1 [[[124,124]],[[38,38]],[[126],[33,126]],[],[],[[43],[45]],[[42],[47],[37]]] [[25],[24],[21,21],[],[],[9,10],[11,12,13]] r0.2.1 (bD.mk 0 0 [] []) r0.1
def DZ(F:FsBuild)(t1:Int)(t5:(List (List (List Int))))(t6:(List (List Int)))(s0:bU)(s64:bD)(s112:bD):Option (bD×bU×Unit) :=
 if(decide (s0.bad<0))=true then
  F.f134 t1 t5 t6 0 s0 s64 s112
 else
  some (s112,s0,())
def D0(F:FsBuild)(t1:Int)(t5:(List (List (List Int))))(t6:(List (List Int)))(t8:Int)(s0:bU)(s64:bD)(s112:bD):Option (bD×bU×Unit) :=
 if(0:Int)≤t1∧t1<(List.length t5:Int) then
  if(decide (t8<(List.length (List.getD t5 t1.toNat []):Int)))=true then
   if(0:Int)≤t1∧t1<(List.length t5:Int) then
    if(0:Int)≤t8∧t8<(List.length (List.getD t5 t1.toNat []):Int) then
     (F.f65 s0 (List.getD (List.getD t5 t1.toNat []) t8.toNat [])).bind fun(r0:Bool×bU×Unit) =>
     if(!r0.1)=true then
      F.f134 t1 t5 t6 (w64 (t8+1)) r0.2.1 s64 s112
     else
      if(0:Int)≤t1∧t1<(List.length t5:Int) then
       if(decide (t8=(List.length (List.getD t5 t1.toNat []):Int)))=true then
        some (s112,r0.2.1,())
       else
        (F.f62 r0.2.1).bind fun(r1:bU×Unit) =>
        (F.f103 r1.1 (w64 (t1+1))).bind fun(r2:bD×bU×Unit) =>
        if(0:Int)≤t1∧t1<(List.length t6:Int) then
         if(0:Int)≤t8∧t8<(List.length (List.getD t6 t1.toNat []):Int) then
          (F.f68 (List.getD (List.getD t6 t1.toNat []) t8.toNat 0) [s112,r2.1]).bind fun(r3:(Int×(Int×((List Int)×((List bD)×Unit))))×Unit) =>
          F.f135 t1 t5 t6 t8 r2.2.1 s64 (bD.mk r3.1.1 r3.1.2.1 r3.1.2.2.1 r3.1.2.2.2.1)
         else none
        else none
      else none
    else none
   else none
  else
   if(0:Int)≤t1∧t1<(List.length t5:Int) then
    if(decide (t8=(List.length (List.getD t5 t1.toNat []):Int)))=true then
     some (s112,s0,())
    else
     (F.f62 s0).bind fun(r4:bU×Unit) =>
     (F.f103 r4.1 (w64 (t1+1))).bind fun(r5:bD×bU×Unit) =>
     if(0:Int)≤t1∧t1<(List.length t6:Int) then
      if(0:Int)≤t8∧t8<(List.length (List.getD t6 t1.toNat []):Int) then
       (F.f68 (List.getD (List.getD t6 t1.toNat []) t8.toNat 0) [s112,r5.1]).bind fun(r6:(Int×(Int×((List Int)×((List bD)×Unit))))×Unit) =>
       F.f135 t1 t5 t6 t8 r5.2.1 s64 (bD.mk r6.1.1 r6.1.2.1 r6.1.2.2.1 r6.1.2.2.2.1)
      else none
     else none
   else none
 else none
def D3(F:FsBuild)(t1:Int)(t5:(List (List (List Int))))(t6:(List (List Int)))(t8:Int)(s0:bU)(s64:bD)(s112:bD):Option (bD×bU×Unit) :=
 if(decide (t1=2))=true then
  if(decide (t8=1))=true then
   (F.f68 22 [s112]).bind fun(r0:(Int×(Int×((List Int)×((List bD)×Unit))))×Unit) =>
   F.f133 t1 t5 t6 s0 s64 (bD.mk r0.1.1 r0.1.2.1 r0.1.2.2.1 r0.1.2.2.2.1)
  else
   F.f133 t1 t5 t6 s0 s64 s112
 else
  F.f133 t1 t5 t6 s0 s64 s112
def Eo(F:FsBuild)(t0:bD):Option (Bool×Unit) :=
 if(decide (t0.Op=5))=true then
  F.f137 (List.length t0.Kids:Int) t0.Op (decide (t0.Op=5)) t0
 else
  if(decide (t0.Op=6))=true then
   F.f137 (List.length t0.Kids:Int) t0.Op (decide (t0.Op=6)) t0
  else
   if(decide (t0.Op=22))=true then
    F.f137 (List.length t0.Kids:Int) t0.Op (decide (t0.Op=22)) t0
   else
    if(decide (t0.Op=23))=true then
     F.f137 (List.length t0.Kids:Int) t0.Op (decide (t0.Op=23)) t0
    else
     if(decide (t0.Op=34))=true then
      F.f137 (List.length t0.Kids:Int) t0.Op (decide (t0.Op=34)) t0
     else
      F.f137 (List.length t0.Kids:Int) t0.Op (decide (t0.Op=35)) t0
def Ep(F:FsBuild)(t3:Int)(t9:Int)(t10:Bool)(s16:bD):Option (Bool×Unit) :=
 if t10=true then
  if(decide (t3=1))=true then
   (F.f149 s16 0 1).bind fun(r0:Bool×Unit) =>
   some (r0.1,())
  else
   some (false,())
 else
  if(decide (t9=9))=true then
   F.f138 t3 t9 (decide (t9=9)) s16
  else
   if(decide (t9=10))=true then
    F.f138 t3 t9 (decide (t9=10)) s16
   else
    if(decide (t9=11))=true then
     F.f138 t3 t9 (decide (t9=11)) s16
    else
     if(decide (t9=12))=true then
      F.f138 t3 t9 (decide (t9=12)) s16
     else
      if(decide (t9=13))=true then
       F.f138 t3 t9 (decide (t9=13)) s16
      else
       if(decide (t9=14))=true then
        F.f138 t3 t9 (decide (t9=14)) s16
       else
        if(decide (t9=15))=true then
         F.f138 t3 t9 (decide (t9=15)) s16
        else
         if(decide (t9=16))=true then
          F.f138 t3 t9 (decide (t9=16)) s16
         else
          if(decide (t9=17))=true then
           F.f138 t3 t9 (decide (t9=17)) s16
          else
           if(decide (t9=18))=true then
            F.f138 t3 t9 (decide (t9=18)) s16
           else
            if(decide (t9=19))=true then
             F.f138 t3 t9 (decide (t9=19)) s16
            else
             if(decide (t9=20))=true then
              F.f138 t3 t9 (decide (t9=20)) s16
             else
              if(decide (t9=21))=true then
               F.f138 t3 t9 (decide (t9=21)) s16
              else
               if(decide (t9=24))=true then
                F.f138 t3 t9 (decide (t9=24)) s16
               else
                F.f138 t3 t9 (decide (t9=25)) s16
def Er(F:FsBuild)(t3:Int)(t9:Int)(t23:Bool)(s16:bD):Option (Bool×Unit) :=
 if t23=true then
  if(decide (t3=2))=true then
   (F.f149 s16 0 2).bind fun(r0:Bool×Unit) =>
   some (r0.1,())
  else
   some (false,())
 else
  if(decide (t9=26))=true then
   F.f139 t3 t9 (decide (t9=26)) s16
  else
   F.f139 t3 t9 (decide (t9=27)) s16
def Es(F:FsBuild)(t3:Int)(t9:Int)(t45:Bool)(s16:bD):Option (Bool×Unit) :=
 if t45=true then
  if(decide (t3=2))=true then
   if(0:Int)≤0∧(0:Int)<(List.length s16.Kids:Int) then
    if(decide (((List.getD s16.Kids 0 cR).Op)=4))=true then
     (F.f149 s16 0 2).bind fun(r0:Bool×Unit) =>
     some (r0.1,())
    else
     if(0:Int)≤0∧(0:Int)<(List.length s16.Kids:Int) then
      if(decide (((List.getD s16.Kids 0 cR).Op)=5))=true then
       (F.f149 s16 0 2).bind fun(r1:Bool×Unit) =>
       some (r1.1,())
      else
       some (false,())
     else none
   else none
  else
   some (false,())
 else
  if(decide (t9=28))=true then
   F.f140 t3 t9 (decide (t9=28)) s16
  else
   F.f140 t3 t9 (decide (t9=30)) s16
def Et(F:FsBuild)(t3:Int)(t9:Int)(t70:Bool)(s16:bD):Option (Bool×Unit) :=
 if t70=true then
  (F.f149 s16 0 t3).bind fun(r0:Bool×Unit) =>
  some (r0.1,())
 else
  if(decide (t9=31))=true then
   (F.f0 t3 2 3).bind fun(r1:Bool×Unit) =>
   if r1.1=true then
    (F.f149 s16 0 1).bind fun(r2:Bool×Unit) =>
    if r2.1=true then
     (F.f151 s16 1).bind fun(r3:Bool×Unit) =>
     some (r3.1,())
    else
     some (false,())
   else
    some (false,())
  else
   if(decide (t9=32))=true then
    if(decide (t3=2))=true then
     (F.f149 s16 0 1).bind fun(r4:Bool×Unit) =>
     if r4.1=true then
      (F.f151 s16 1).bind fun(r5:Bool×Unit) =>
      some (r5.1,())
     else
      some (false,())
    else
     some (false,())
   else
    if(decide (t9=29))=true then
     F.f141 t3 0 s16
    else
     some ((decide (t3=0)),())
def Ev(F:FsBuild)(t3:Int)(t4:Int)(s16:bD):Option (Bool×Unit) :=
 if(decide (t4<t3))=true then
  if(0:Int)≤t4∧t4<(List.length s16.Kids:Int) then
   (F.f0 ((List.getD s16.Kids t4.toNat cR).Op) 29 35).bind fun(r0:Bool×Unit) =>
   if(!r0.1)=true then
    some (false,())
   else
    if(0:Int)≤t4∧t4<(List.length s16.Kids:Int) then
     (F.f104 (List.getD s16.Kids t4.toNat cR)).bind fun(r1:Bool×Unit) =>
     if(!r1.1)=true then
      some (false,())
     else
      F.f141 t3 (w64 (t4+1)) s16
    else none
  else none
 else
  some (true,())
def EC(F:FsBuild)(t0:(List Int)):Option (Bool×Unit) :=
 F.f143 t0 0
def ED(F:FsBuild)(t0:(List Int))(t3:Int):Option (Bool×Unit) :=
 if(decide (t3<(List.length t0:Int)))=true then
  if(0:Int)≤t3∧t3<(List.length t0:Int) then
   if(decide ((List.getD t0 t3.toNat 0)=92))=true then
    if(decide ((w64 (t3+1))=(List.length t0:Int)))=true then
     some (false,())
    else
     if(0:Int)≤(w64 (t3+1))∧(w64 (t3+1))<(List.length t0:Int) then
      if(decide ((List.getD t0 (w64 (t3+1)).toNat 0)=47))=true then
       some (false,())
      else
       F.f143 t0 (w64 ((w64 (t3+1))+1))
     else none
   else
    F.f143 t0 (w64 (t3+1))
  else none
 else
  (F.f23 t0).bind fun(r0:Bool×Unit) =>
  some (r0.1,())
def CS(F:FsBuild)(s0:bT)(t1:Int):Option (bH×bT×Unit) :=
 if s0.bad=true then
  some ((bH.mk 0 0 [] false []),(bT.mk s0.s s0.at_ true),())
 else
  if(decide (s0.at_≥(List.length s0.s:Int)))=true then
   some ((bH.mk 0 0 [] false []),(bT.mk s0.s s0.at_ true),())
  else
   if(decide (t1>40))=true then
    some ((bH.mk 0 0 [] false []),(bT.mk s0.s s0.at_ true),())
   else
    if(0:Int)≤s0.at_∧s0.at_<(List.length s0.s:Int) then
     if(decide ((List.getD s0.s s0.at_.toNat 0)=40))=true then
      (F.f54 (bT.mk s0.s (w64 (s0.at_+1)) s0.bad) (w64 (t1+1))).bind fun(r0:bH×bT×Unit) =>
      (F.f88 r0.2.1 41).bind fun(r1:Bool×bT×Unit) =>
      if(!r1.1)=true then
       some (r0.1,(bT.mk r1.2.1.s (w64 (r1.2.1.at_+1)) true),())
      else
       some (r0.1,(bT.mk r1.2.1.s (w64 (r1.2.1.at_+1)) r1.2.1.bad),())
     else
      if(decide ((List.getD s0.s s0.at_.toNat 0)=46))=true then
       some ((bH.mk 2 0 [] false []),(bT.mk s0.s (w64 (s0.at_+1)) s0.bad),())
      else
       if(decide ((List.getD s0.s s0.at_.toNat 0)=94))=true then
        some ((bH.mk 4 0 [] false []),(bT.mk s0.s (w64 (s0.at_+1)) s0.bad),())
       else
        if(decide ((List.getD s0.s s0.at_.toNat 0)=36))=true then
         some ((bH.mk 5 0 [] false []),(bT.mk s0.s (w64 (s0.at_+1)) s0.bad),())
        else
         if(decide ((List.getD s0.s s0.at_.toNat 0)=91))=true then
          (F.f153 (bT.mk s0.s (w64 (s0.at_+1)) s0.bad)).bind fun(r2:bH×bT×Unit) =>
          some (r2.1,r2.2.1,())
         else
          if(decide ((List.getD s0.s s0.at_.toNat 0)=92))=true then
           if(decide ((w64 (s0.at_+1))≥(List.length s0.s:Int)))=true then
            some ((bH.mk 0 0 [] false []),(bT.mk s0.s (w64 (s0.at_+1)) true),())
           else
            if(0:Int)≤(w64 (s0.at_+1))∧(w64 (s0.at_+1))<(List.length s0.s:Int) then
             some ((bH.mk 1 (w64 (List.getD s0.s (w64 (s0.at_+1)).toNat 0)) [] false []),(bT.mk s0.s (w64 ((w64 (s0.at_+1))+1)) s0.bad),())
            else none
          else
           if(decide ((List.getD s0.s s0.at_.toNat 0)=42))=true then
            if(decide ((List.getD s0.s s0.at_.toNat 0)=42))=true then
             F.f145 (List.getD s0.s s0.at_.toNat 0) (bT.mk s0.s (w64 (s0.at_+1)) true) ch
            else
             F.f145 (List.getD s0.s s0.at_.toNat 0) (bT.mk s0.s (w64 (s0.at_+1)) s0.bad) ch
           else
            if(decide ((List.getD s0.s s0.at_.toNat 0)=43))=true then
             if(decide ((List.getD s0.s s0.at_.toNat 0)=43))=true then
              F.f145 (List.getD s0.s s0.at_.toNat 0) (bT.mk s0.s (w64 (s0.at_+1)) true) ch
             else
              F.f145 (List.getD s0.s s0.at_.toNat 0) (bT.mk s0.s (w64 (s0.at_+1)) s0.bad) ch
            else
             if(decide ((List.getD s0.s s0.at_.toNat 0)=63))=true then
              F.f145 (List.getD s0.s s0.at_.toNat 0) (bT.mk s0.s (w64 (s0.at_+1)) true) ch
             else
              F.f145 (List.getD s0.s s0.at_.toNat 0) (bT.mk s0.s (w64 (s0.at_+1)) s0.bad) ch
    else none
def CT(F:FsBuild)(t5:Int)(s0:bT)(s64:bH):Option (bH×bT×Unit) :=
 some ((bH.mk 1 (w64 t5) [] false []),s0,())
def DK(F:FsBuild)(s0:bU):Option (Bool×bU×Unit) :=
 (F.f37 s0).bind fun(r0:bK×bU×Unit) =>
 if(decide (r0.2.1.bad≥0))=true then
  some (false,r0.2.1,())
 else
  if(decide (r0.1.Kind=2))=true then
   F.f147 r0.1.Kind (decide (r0.1.Kind=2)) r0.2.1 r0.1
  else
   if(decide (r0.1.Kind=3))=true then
    F.f147 r0.1.Kind (decide (r0.1.Kind=3)) r0.2.1 r0.1
   else
    F.f147 r0.1.Kind (decide (r0.1.Kind=4)) r0.2.1 r0.1
def DL(F:FsBuild)(t12:Int)(t13:Bool)(s0:bU)(s48:bK):Option (Bool×bU×Unit) :=
 if t13=true then
  some (true,s0,())
 else
  if(decide (t12=1))=true then
   (F.f12 s48.Text).bind fun(r0:Bool×Unit) =>
   if(!r0.1)=true then
    some (true,s0,())
   else
    if(decide (s48.Text=[78,82]))=true then
     some (true,s0,())
    else
     if(decide (s48.Text=[78,70]))=true then
      some (true,s0,())
     else
      (F.f26 ).bind fun(r1:(List (List Int))×Unit) =>
      (F.f6 r1.1 s48.Text).bind fun(r2:Bool×Unit) =>
      some (r2.1,s0,())
  else
   if(decide (s48.Kind=5))=true then
    if(decide (s48.Text=[36]))=true then
     some (true,s0,())
    else
     some ((decide (s48.Text=[40])),s0,())
   else
    some (false,s0,())
def DI(F:FsBuild)(s0:bU):Option (bD×bU×Unit) :=
 if s0.has=true then
  some (s0.kept,(bU.mk s0.list s0.at_ s0.bad false s0.kept),())
 else
  (F.f37 s0).bind fun(r0:bK×bU×Unit) =>
  if(decide (r0.2.1.bad≥0))=true then
   some ((bD.mk 0 0 [] []),r0.2.1,())
  else
   if(decide (r0.1.Kind=2))=true then
    (F.f62 r0.2.1).bind fun(r1:bU×Unit) =>
    some ((bD.mk 1 r0.1.N [] []),r1.1,())
   else
    if(decide (r0.1.Kind=3))=true then
     (F.f62 r0.2.1).bind fun(r2:bU×Unit) =>
     some ((bD.mk 2 0 r0.1.Text []),r2.1,())
    else
     if(decide (r0.1.Kind=4))=true then
      (F.f62 r0.2.1).bind fun(r3:bU×Unit) =>
      some ((bD.mk 3 0 r0.1.Text []),r3.1,())
     else
      if(decide (r0.1.Kind=1))=true then
       (F.f102 r0.2.1).bind fun(r4:bD×bU×Unit) =>
       some (r4.1,r4.2.1,())
      else
       (F.f65 r0.2.1 [36]).bind fun(r5:Bool×bU×Unit) =>
       if r5.1=true then
        (F.f62 r5.2.1).bind fun(r6:bU×Unit) =>
        (F.f148 r6.1).bind fun(r7:bD×bU×Unit) =>
        (F.f68 6 [r7.1]).bind fun(r8:(Int×(Int×((List Int)×((List bD)×Unit))))×Unit) =>
        some ((bD.mk r8.1.1 r8.1.2.1 r8.1.2.2.1 r8.1.2.2.2.1),r7.2.1,())
       else
        (F.f100 r5.2.1 [40]).bind fun(r9:bU×Unit) =>
        (F.f66 r9.1).bind fun(r10:bD×bU×Unit) =>
        (F.f100 r10.2.1 [41]).bind fun(r11:bU×Unit) =>
        some (r10.1,r11.1,())
def El(F:FsBuild)(t0:bD)(t1:Int)(t2:Int):Option (Bool×Unit) :=
 F.f150 t2 t1 t0
def Em(F:FsBuild)(t2:Int)(t7:Int)(s48:bD):Option (Bool×Unit) :=
 if(decide (t7<t2))=true then
  if(0:Int)≤t7∧t7<(List.length s48.Kids:Int) then
   (F.f106 ((List.getD s48.Kids t7.toNat cR).Op)).bind fun(r0:Bool×Unit) =>
   if(!r0.1)=true then
    some (false,())
   else
    if(0:Int)≤t7∧t7<(List.length s48.Kids:Int) then
     (F.f104 (List.getD s48.Kids t7.toNat cR)).bind fun(r1:Bool×Unit) =>
     if(!r1.1)=true then
      some (false,())
     else
      F.f150 t2 (w64 (t7+1)) s48
    else none
  else none
 else
  some (true,())
def Ej(F:FsBuild)(t0:bD)(t1:Int):Option (Bool×Unit) :=
 F.f152 t1 t0
def Ek(F:FsBuild)(t5:Int)(s32:bD):Option (Bool×Unit) :=
 if(decide (t5<(List.length s32.Kids:Int)))=true then
  if(0:Int)≤t5∧t5<(List.length s32.Kids:Int) then
   if(!(decide (((List.getD s32.Kids t5.toNat cR).Op)=29)))=true then
    some (false,())
   else
    if(0:Int)≤t5∧t5<(List.length s32.Kids:Int) then
     (F.f104 (List.getD s32.Kids t5.toNat cR)).bind fun(r0:Bool×Unit) =>
     if(!r0.1)=true then
      some (false,())
     else
      F.f152 (w64 (t5+1)) s32
    else none
  else none
 else
  some (true,())
def C8(F:FsBuild)(s0:bT):Option (bH×bT×Unit) :=
 (F.f88 s0 94).bind fun(r0:Bool×bT×Unit) =>
 if r0.1=true then
  F.f154 (bT.mk r0.2.1.s (w64 (r0.2.1.at_+1)) r0.2.1.bad) ch (bH.mk 3 0 [] true [])
 else
  F.f154 r0.2.1 ch (bH.mk 3 0 [] false [])
def C9(F:FsBuild)(s0:bT)(s32:bH)(s48:bH):Option (bH×bT×Unit) :=
 F.f155 (List.replicate 256 false) 0 s0 s32 s48
def Da(F:FsBuild)(t4:(List Bool))(t5:Int)(s0:bT)(s32:bH)(s48:bH):Option (bH×bT×Unit) :=
 if(decide (s0.at_<(List.length s0.s:Int)))=true then
  if(0:Int)≤s0.at_∧s0.at_<(List.length s0.s:Int) then
   if(!(decide ((List.getD s0.s s0.at_.toNat 0)=93)))=true then
    if(0:Int)≤s0.at_∧s0.at_<(List.length s0.s:Int) then
     if(decide ((w64 ((w64 (s0.at_+1))+1))<(List.length s0.s:Int)))=true then
      if(0:Int)≤(w64 (s0.at_+1))∧(w64 (s0.at_+1))<(List.length s0.s:Int) then
       if(decide ((List.getD s0.s (w64 (s0.at_+1)).toNat 0)=45))=true then
        if(0:Int)≤(w64 ((w64 (s0.at_+1))+1))∧(w64 ((w64 (s0.at_+1))+1))<(List.length s0.s:Int) then
         if(!(decide ((List.getD s0.s (w64 ((w64 (s0.at_+1))+1)).toNat 0)=93)))=true then
          if(0:Int)≤(w64 ((w64 (s0.at_+1))+1))∧(w64 ((w64 (s0.at_+1))+1))<(List.length s0.s:Int) then
           F.f156 t4 t5 (w64 (List.getD s0.s s0.at_.toNat 0)) (w64 (List.getD s0.s (w64 ((w64 (s0.at_+1))+1)).toNat 0)) (bT.mk s0.s (w64 ((w64 (s0.at_+1))+2)) s0.bad) s32 s48
          else none
         else
          F.f156 t4 t5 (w64 (List.getD s0.s s0.at_.toNat 0)) (w64 (List.getD s0.s s0.at_.toNat 0)) (bT.mk s0.s (w64 (s0.at_+1)) s0.bad) s32 s48
        else none
       else
        F.f156 t4 t5 (w64 (List.getD s0.s s0.at_.toNat 0)) (w64 (List.getD s0.s s0.at_.toNat 0)) (bT.mk s0.s (w64 (s0.at_+1)) s0.bad) s32 s48
      else none
     else
      F.f156 t4 t5 (w64 (List.getD s0.s s0.at_.toNat 0)) (w64 (List.getD s0.s s0.at_.toNat 0)) (bT.mk s0.s (w64 (s0.at_+1)) s0.bad) s32 s48
    else none
   else
    if(decide (s0.at_≥(List.length s0.s:Int)))=true then
     F.f157 t4 (bT.mk s0.s s0.at_ true) s32 s48
    else
     if(decide (t5=0))=true then
      F.f157 t4 (bT.mk s0.s s0.at_ true) s32 s48
     else
      F.f157 t4 s0 s32 s48
  else none
 else
  if(decide (s0.at_≥(List.length s0.s:Int)))=true then
   F.f157 t4 (bT.mk s0.s s0.at_ true) s32 s48
  else
   if(decide (t5=0))=true then
    F.f157 t4 (bT.mk s0.s s0.at_ true) s32 s48
   else
    F.f157 t4 s0 s32 s48
def Db(F:FsBuild)(t4:(List Bool))(t5:Int)(t6:Int)(t7:Int)(s0:bT)(s32:bH)(s48:bH):Option (bH×bT×Unit) :=
 if(decide (t7<t6))=true then
  F.f158 t4 t5 t6 t7 (bT.mk s0.s s0.at_ true) s32 s48
 else
  F.f158 t4 t5 t6 t7 s0 s32 s48
def Dd(F:FsBuild)(t4:(List Bool))(s0:bT)(s32:bH)(s48:bH):Option (bH×bT×Unit) :=
 F.f159 t4 [] 0 (bT.mk s0.s (w64 (s0.at_+1)) s0.bad) s32 s48
def De(F:FsBuild)(t4:(List Bool))(t5:Int)(t6:Int)(t7:Int)(s0:bT)(s32:bH)(s48:bH):Option (bH×bT×Unit) :=
 F.f160 t4 t5 t7 t6 s0 s32 s48
def Df(F:FsBuild)(t4:(List Bool))(t9:(List Int))(t10:Int)(s0:bT)(s32:bH)(s48:bH):Option (bH×bT×Unit) :=
 if(decide (t10<256))=true then
  if(0:Int)≤t10∧t10<(List.length t4:Int) then
   if(List.getD t4 t10.toNat false)=true then
    if List.length t9+1≤room then
     F.f159 t4 (List.append t9 [(w8 t10)]) (w64 (t10+1)) s0 s32 s48
    else none
   else
    F.f159 t4 t9 (w64 (t10+1)) s0 s32 s48
  else none
 else
  some ((bH.mk s48.Op s48.C t9 s48.Not s48.Kids),s0,())
def Dg(F:FsBuild)(t4:(List Bool))(t5:Int)(t7:Int)(t8:Int)(s0:bT)(s32:bH)(s48:bH):Option (bH×bT×Unit) :=
 if(decide (t8≤t7))=true then
  if(0:Int)≤t8∧t8<(List.length t4:Int) then
   F.f160 (List.set t4 t8.toNat true) t5 t7 (w64 (t8+1)) s0 s32 s48
  else none
 else
  F.f155 t4 (w64 (t5+1)) s0 s32 s48
def BW(F:FsBuild)(t0:bH):Option ((List bF)×Unit) :=
 (F.f162 t0).bind fun(r0:Bool×Unit) =>
 if(!r0.1)=true then
  some ([],())
 else
  (F.f163 [] t0).bind fun(r1:(List bF)×Unit) =>
  (F.f166 r1.1 8).bind fun(r2:(List bF)×Unit) =>
  some (r2.1,())
def B6(F:FsBuild)(t0:bH):Option (Bool×Unit) :=
 (F.f56 t0).bind fun(r0:Int×Unit) =>
 if(decide (r0.1≤12))=true then
  (F.f167 t0).bind fun(r1:Bool×Unit) =>
  some (r1.1,())
 else
  some (false,())
def Dj(F:FsBuild)(t0:(List bF))(t1:bH):Option ((List bF)×Unit) :=
 if(decide (t1.Op=1))=true then
  if List.length t0+1≤room then
   some ((List.append t0 [(bF.mk 1 t1.C [] false 0 0)]),())
  else none
 else
  if(decide (t1.Op=2))=true then
   (F.f166 t0 2).bind fun(r0:(List bF)×Unit) =>
   some (r0.1,())
  else
   if(decide (t1.Op=3))=true then
    if List.length t0+1≤room then
     some ((List.append t0 [(bF.mk 3 0 t1.Set t1.Not 0 0)]),())
    else none
   else
    if(decide (t1.Op=4))=true then
     (F.f166 t0 4).bind fun(r1:(List bF)×Unit) =>
     some (r1.1,())
    else
     if(decide (t1.Op=5))=true then
      (F.f166 t0 5).bind fun(r2:(List bF)×Unit) =>
      some (r2.1,())
     else
      if(decide (t1.Op=6))=true then
       F.f164 t0 0 t1
      else
       if(decide (t1.Op=7))=true then
        (F.f171 t0 t1.Kids).bind fun(r3:(List bF)×Unit) =>
        some (r3.1,())
       else
        if(decide (t1.Op=8))=true then
         (F.f166 t0 7).bind fun(r4:(List bF)×Unit) =>
         if(0:Int)≤0∧(0:Int)<(List.length t1.Kids:Int) then
          (F.f163 r4.1 (List.getD t1.Kids 0 ch)).bind fun(r5:(List bF)×Unit) =>
          if List.length r5.1+1≤room then
           if(0:Int)≤(List.length t0:Int)∧(List.length t0:Int)<(List.length (List.append r5.1 [(bF.mk 6 0 [] false (List.length t0:Int) 0)]):Int) then
            let v0:(List bF):=(List.set (List.append r5.1 [(bF.mk 6 0 [] false (List.length t0:Int) 0)]) (List.length t0:Int).toNat (bF.mk ((List.getD (List.append r5.1 [(bF.mk 6 0 [] false (List.length t0:Int) 0)]) (List.length t0:Int).toNat cM).Op) ((List.getD (List.append r5.1 [(bF.mk 6 0 [] false (List.length t0:Int) 0)]) (List.length t0:Int).toNat cM).C) ((List.getD (List.append r5.1 [(bF.mk 6 0 [] false (List.length t0:Int) 0)]) (List.length t0:Int).toNat cM).Set) ((List.getD (List.append r5.1 [(bF.mk 6 0 [] false (List.length t0:Int) 0)]) (List.length t0:Int).toNat cM).Not) (w64 ((List.length t0:Int)+1)) ((List.getD (List.append r5.1 [(bF.mk 6 0 [] false (List.length t0:Int) 0)]) (List.length t0:Int).toNat cM).B)))
            if(0:Int)≤(List.length t0:Int)∧(List.length t0:Int)<(List.length v0:Int) then
             let v1:(List bF):=(List.set v0 (List.length t0:Int).toNat (bF.mk ((List.getD v0 (List.length t0:Int).toNat cM).Op) ((List.getD v0 (List.length t0:Int).toNat cM).C) ((List.getD v0 (List.length t0:Int).toNat cM).Set) ((List.getD v0 (List.length t0:Int).toNat cM).Not) ((List.getD v0 (List.length t0:Int).toNat cM).A) (List.length v0:Int)))
             F.f165 v1
            else none
           else none
          else none
         else none
        else
         if(decide (t1.Op=9))=true then
          if(0:Int)≤0∧(0:Int)<(List.length t1.Kids:Int) then
           (F.f163 t0 (List.getD t1.Kids 0 ch)).bind fun(r6:(List bF)×Unit) =>
           if List.length r6.1+1≤room then
            F.f165 (List.append r6.1 [(bF.mk 7 0 [] false (List.length t0:Int) (w64 ((List.length r6.1:Int)+1)))])
           else none
          else none
         else
          if(decide (t1.Op=10))=true then
           (F.f166 t0 7).bind fun(r7:(List bF)×Unit) =>
           if(0:Int)≤0∧(0:Int)<(List.length t1.Kids:Int) then
            (F.f163 r7.1 (List.getD t1.Kids 0 ch)).bind fun(r8:(List bF)×Unit) =>
            if(0:Int)≤(List.length t0:Int)∧(List.length t0:Int)<(List.length r8.1:Int) then
             let v2:(List bF):=(List.set r8.1 (List.length t0:Int).toNat (bF.mk ((List.getD r8.1 (List.length t0:Int).toNat cM).Op) ((List.getD r8.1 (List.length t0:Int).toNat cM).C) ((List.getD r8.1 (List.length t0:Int).toNat cM).Set) ((List.getD r8.1 (List.length t0:Int).toNat cM).Not) (w64 ((List.length t0:Int)+1)) ((List.getD r8.1 (List.length t0:Int).toNat cM).B)))
             if(0:Int)≤(List.length t0:Int)∧(List.length t0:Int)<(List.length v2:Int) then
              let v3:(List bF):=(List.set v2 (List.length t0:Int).toNat (bF.mk ((List.getD v2 (List.length t0:Int).toNat cM).Op) ((List.getD v2 (List.length t0:Int).toNat cM).C) ((List.getD v2 (List.length t0:Int).toNat cM).Set) ((List.getD v2 (List.length t0:Int).toNat cM).Not) ((List.getD v2 (List.length t0:Int).toNat cM).A) (List.length v2:Int)))
              F.f165 v3
             else none
            else none
           else none
          else
           F.f165 t0
def Dk(F:FsBuild)(t0:(List bF))(t6:Int)(s48:bH):Option ((List bF)×Unit) :=
 if(decide (t6<(List.length s48.Kids:Int)))=true then
  if(0:Int)≤t6∧t6<(List.length s48.Kids:Int) then
   (F.f163 t0 (List.getD s48.Kids t6.toNat ch)).bind fun(r0:(List bF)×Unit) =>
   F.f164 r0.1 (w64 (t6+1)) s48
  else none
 else
  F.f165 t0
def Dl(F:FsBuild)(t0:(List bF)):Option ((List bF)×Unit) :=
 some (t0,())
def Dq(F:FsBuild)(t0:(List bF))(t1:Int):Option ((List bF)×Unit) :=
 if List.length t0+1≤room then
  some ((List.append t0 [(bF.mk t1 0 [] false 0 0)]),())
 else none
def C4(F:FsBuild)(t0:bH):Option (Bool×Unit) :=
 F.f168 0 t0
def C5(F:FsBuild)(t3:Int)(s16:bH):Option (Bool×Unit) :=
 if(decide (t3<(List.length s16.Kids:Int)))=true then
  if(0:Int)≤t3∧t3<(List.length s16.Kids:Int) then
   (F.f167 (List.getD s16.Kids t3.toNat ch)).bind fun(r0:Bool×Unit) =>
   if(!r0.1)=true then
    some (false,())
   else
    F.f168 (w64 (t3+1)) s16
  else none
 else
  if(decide (s16.Op=1))=true then
   (F.f0 s16.C 0 255).bind fun(r1:Bool×Unit) =>
   if r1.1=true then
    if(decide (s16.Set=[]))=true then
     if(!s16.Not)=true then
      some ((decide ((List.length s16.Kids:Int)=0)),())
     else
      some (false,())
    else
     some (false,())
   else
    some (false,())
  else
   if(decide (s16.Op=3))=true then
    if(decide (s16.C=0))=true then
     if(!(decide (s16.Set=[])))=true then
      (F.f174 s16.Set).bind fun(r2:Bool×Unit) =>
      if r2.1=true then
       some ((decide ((List.length s16.Kids:Int)=0)),())
      else
       some (false,())
     else
      some (false,())
    else
     some (false,())
   else
    if(decide (s16.Op=6))=true then
     F.f169 (List.length s16.Kids:Int) s16.Op (decide (s16.Op=6)) s16
    else
     F.f169 (List.length s16.Kids:Int) s16.Op (decide (s16.Op=7)) s16
def C6(F:FsBuild)(t4:Int)(t23:Int)(t62:Bool)(s16:bH):Option (Bool×Unit) :=
 if t62=true then
  if(decide (s16.C=0))=true then
   if(decide (s16.Set=[]))=true then
    if(!s16.Not)=true then
     some ((decide (t4≥2)),())
    else
     some (false,())
   else
    some (false,())
  else
   some (false,())
 else
  if(decide (t23=8))=true then
   F.f170 t4 (decide (t23=8)) s16
  else
   if(decide (t23=9))=true then
    F.f170 t4 (decide (t23=9)) s16
   else
    F.f170 t4 (decide (t23=10)) s16
def C7(F:FsBuild)(t4:Int)(t82:Bool)(s16:bH):Option (Bool×Unit) :=
 if t82=true then
  if(decide (s16.C=0))=true then
   if(decide (s16.Set=[]))=true then
    if(!s16.Not)=true then
     some ((decide (t4=1)),())
    else
     some (false,())
   else
    some (false,())
  else
   some (false,())
 else
  (F.f0 s16.Op 2 11).bind fun(r0:Bool×Unit) =>
  if r0.1=true then
   if(decide (s16.C=0))=true then
    if(decide (s16.Set=[]))=true then
     if(!s16.Not)=true then
      some ((decide (t4=0)),())
     else
      some (false,())
    else
     some (false,())
   else
    some (false,())
  else
   some (false,())
def Dm(F:FsBuild)(t0:(List bF))(t1:(List bH)):Option ((List bF)×Unit) :=
 F.f172 t0 t1 [] 0
def Dn(F:FsBuild)(t0:(List bF))(t1:(List bH))(t5:(List Int))(t6:Int):Option ((List bF)×Unit) :=
 if(decide (t6<(w64 ((List.length t1:Int)-1))))=true then
  (F.f166 t0 7).bind fun(r0:(List bF)×Unit) =>
  if(0:Int)≤t6∧t6<(List.length t1:Int) then
   (F.f163 r0.1 (List.getD t1 t6.toNat ch)).bind fun(r1:(List bF)×Unit) =>
   if List.length t5+1≤room then
    (F.f166 r1.1 6).bind fun(r2:(List bF)×Unit) =>
    if(0:Int)≤(List.length t0:Int)∧(List.length t0:Int)<(List.length r2.1:Int) then
     let v0:(List bF):=(List.set r2.1 (List.length t0:Int).toNat (bF.mk ((List.getD r2.1 (List.length t0:Int).toNat cM).Op) ((List.getD r2.1 (List.length t0:Int).toNat cM).C) ((List.getD r2.1 (List.length t0:Int).toNat cM).Set) ((List.getD r2.1 (List.length t0:Int).toNat cM).Not) (w64 ((List.length t0:Int)+1)) ((List.getD r2.1 (List.length t0:Int).toNat cM).B)))
     if(0:Int)≤(List.length t0:Int)∧(List.length t0:Int)<(List.length v0:Int) then
      let v1:(List bF):=(List.set v0 (List.length t0:Int).toNat (bF.mk ((List.getD v0 (List.length t0:Int).toNat cM).Op) ((List.getD v0 (List.length t0:Int).toNat cM).C) ((List.getD v0 (List.length t0:Int).toNat cM).Set) ((List.getD v0 (List.length t0:Int).toNat cM).Not) ((List.getD v0 (List.length t0:Int).toNat cM).A) (List.length v0:Int)))
      F.f172 v1 t1 (List.append t5 [(List.length r1.1:Int)]) (w64 (t6+1))
     else none
    else none
   else none
  else none
 else
  if(0:Int)≤(w64 ((List.length t1:Int)-1))∧(w64 ((List.length t1:Int)-1))<(List.length t1:Int) then
   (F.f163 t0 (List.getD t1 (w64 ((List.length t1:Int)-1)).toNat ch)).bind fun(r3:(List bF)×Unit) =>
   F.f173 r3.1 t5 0
  else none
def Dp(F:FsBuild)(t0:(List bF))(t5:(List Int))(t8:Int):Option ((List bF)×Unit) :=
 if(decide (t8<(List.length t5:Int)))=true then
  if(0:Int)≤t8∧t8<(List.length t5:Int) then
   if(0:Int)≤(List.getD t5 t8.toNat 0)∧(List.getD t5 t8.toNat 0)<(List.length t0:Int) then
    let v2:(List bF):=(List.set t0 (List.getD t5 t8.toNat 0).toNat (bF.mk ((List.getD t0 (List.getD t5 t8.toNat 0).toNat cM).Op) ((List.getD t0 (List.getD t5 t8.toNat 0).toNat cM).C) ((List.getD t0 (List.getD t5 t8.toNat 0).toNat cM).Set) ((List.getD t0 (List.getD t5 t8.toNat 0).toNat cM).Not) (List.length t0:Int) ((List.getD t0 (List.getD t5 t8.toNat 0).toNat cM).B)))
    F.f173 v2 t5 (w64 (t8+1))
   else none
  else none
 else
  some (t0,())
def Dh(F:FsBuild)(t0:(List Int)):Option (Bool×Unit) :=
 F.f175 t0 1
def Di(F:FsBuild)(t0:(List Int))(t3:Int):Option (Bool×Unit) :=
 if(decide (t3<(List.length t0:Int)))=true then
  if(0:Int)≤(w64 (t3-1))∧(w64 (t3-1))<(List.length t0:Int) then
   if(0:Int)≤t3∧t3<(List.length t0:Int) then
    if(decide ((List.getD t0 (w64 (t3-1)).toNat 0)≥(List.getD t0 t3.toNat 0)))=true then
     some (false,())
    else
     F.f175 t0 (w64 (t3+1))
   else none
  else none
 else
  some (true,())
noncomputable def b6:FsBuild:=⟨dA,s_ProgOk,i5,iy,mL,j0,jf,jZ,mw,jR,s_Build,ow,nR,oh,mz,kX,oi,mA,eR,nV,yD,mu,yd,ox,mK,ja,mJ,s_RexParse,jO,kU,ej,jP,iY,eQ,yK,yL,yM,AZ,A2,yj,yk,xW,xX,xY,xZ,ya,yA,yB,zi,zj,zl,zm,zn,zv,jd,lh,mD,mE,jb,Aq,Ar,AN,AY,AE,AF,A3,AJ,AK,AO,yI,yJ,yQ,yR,yN,yO,yP,yX,yY,yS,yT,yU,zx,zw,zh,zq,zp,lf,lg,ga,Am,An,Ao,Ap,Ay,Az,Ak,Au,Av,Aw,Ax,A7,A6,AX,AV,Bl,Bm,Be,yV,yW,zr,zt,zu,zo,zy,zd,ze,i9,mF,lj,jY,AB,A9,A4,A5,AL,AM,AW,AG,AH,A0,A1,A8,AP,AQ,AR,AU,Bf,Bg,Bh,Bi,Bj,Bk,Bn,Bo,mC,jc,AC,AD,AA,Bc,Bd,Ba,Bb,ot,mG,iA,je,gd,mH,lk,ll,s_NfaOf,yG,z9,Aa,Ab,Ag,zX,zY,zZ,z0,Ac,Ad,Ae,z5,z6⟩
theorem Ru{F:FsBuild}(H:LeFsBuild F):cI (CP F) dA:=fun t0 t1 t2=>leh (b:=CP b6 t0 t1 t2) (leq (by kernel_rfl)) (li lr lr)
theorem QI{F:FsBuild}(H:LeFsBuild F):cf (B3 F) s_ProgOk:=fun t0=>leh (b:=B3 b6 t0) (leq (by kernel_rfl)) (H.f2 _ _)
theorem QJ{F:FsBuild}(H:LeFsBuild F):cg (B4 F) i5:=fun t3 s16=>leh (b:=B4 b6 t3 s16) (leq (by kernel_rfl)) (li (li (lb (H.f4 _) fun _=>(li lr (li (lb (H.f6 _ _) fun _=>(li lr (li (li (li (li lr (H.f2 _ _)) lr) lr) (H.f2 _ _)))) lr))) lr) (H.f3 _ _))
theorem QK{F:FsBuild}(H:LeFsBuild F):cg (B5 F) iy:=fun t4 s16=>leh (b:=B5 b6 t4 s16) (leq (by kernel_rfl)) (li (li (lb (H.f4 _) fun _=>(li lr (li (li (li (li lr (H.f3 _ _)) lr) lr) (H.f3 _ _)))) lr) (li (li (lb (H.f8 _ _ _) fun _=>(li (lb (H.f8 _ _ _) fun _=>lr) lr)) lr) lr))
theorem Te{F:FsBuild}(H:LeFsBuild F):cf (Ey F) mL:=fun t0=>leh (b:=Ey b6 t0) (leq (by kernel_rfl)) (H.f5 _ _)
theorem Tf{F:FsBuild}(H:LeFsBuild F):cg (Ez F) j0:=fun t0 t3=>leh (b:=Ez b6 t0 t3) (leq (by kernel_rfl)) (li (li (lb (H.f11 _) fun _=>(li lr (H.f5 _ _))) lr) (lb (H.f0 _ _ _) fun _=>(li (lb (H.f12 _) fun _=>lr) lr)))
theorem Sl{F:FsBuild}(H:LeFsBuild F):cg (DG F) jf:=fun t0 t1=>leh (b:=DG b6 t0 t1) (leq (by kernel_rfl)) (H.f7 _ _ _)
theorem Sm{F:FsBuild}(H:LeFsBuild F):cI (DH F) jZ:=fun t0 t1 t5=>leh (b:=DH b6 t0 t1 t5) (leq (by kernel_rfl)) (li (li (li lr (H.f7 _ _ _)) lr) lr)
theorem QE{F:FsBuild}(H:LeFsBuild F):cI (BX F) mw:=fun t0 t1 t2=>leh (b:=BX b6 t0 t1 t2) (leq (by kernel_rfl)) (lb (H.f0 _ _ _) fun _=>(li lr (li (li lr (H.f9 _ _ _ _ _)) lr)))
theorem QF{F:FsBuild}(H:LeFsBuild F):fN (BZ F) jR:=fun t0 t1 t2 t7 t8=>leh (b:=BZ b6 t0 t1 t2 t7 t8) (leq (by kernel_rfl)) (li (li (lb (H.f13 _ _ _ _) fun _=>(li lr (H.f9 _ _ _ _ _))) lr) lr)
theorem Qj{F:FsBuild}(H:LeFsBuild F):cf (BB F) s_Build:=fun t0=>leh (b:=BB b6 t0) (leq (by kernel_rfl)) (lb (H.f19 _) fun _=>(li lr (lb (H.f21 _) fun _=>lr)))
theorem R8{F:FsBuild}(H:LeFsBuild F):cf (Dt F) ow:=fun t0=>leh (b:=Dt b6 t0) (leq (by kernel_rfl)) (li (li lr (li lr lr)) (li lr lr))
theorem QA{F:FsBuild}(H:LeFsBuild F):cf (BS F) nR:=fun t0=>leh (b:=BS b6 t0) (leq (by kernel_rfl)) (lb (H.f6 _ _) fun _=>(li lr (lb H.f26 fun _=>(lb (H.f6 _ _) fun _=>lr))))
theorem Q8{F:FsBuild}(H:LeFsBuild F):cA (Cs F) oh:=fun t0 t1 t2 t3=>leh (b:=Cs b6 t0 t1 t2 t3) (leq (by kernel_rfl)) (li (lb (H.f18 _) fun _=>(li lr lr)) (li lr (li (H.f14 _ _ _ _ _ _) (li (H.f14 _ _ _ _ _ _) (H.f14 _ _ _ _ _ _)))))
theorem Q9{F:FsBuild}(H:LeFsBuild F):fO (Ct F) mz:=fun t1 t2 t3 t12 t28 s64=>leh (b:=Ct b6 t1 t2 t3 t12 t28 s64) (leq (by kernel_rfl)) (li (li (li lr lr) lr) (li (H.f15 _ _ _ _ _) (li (H.f15 _ _ _ _ _) (li (H.f15 _ _ _ _ _) (H.f15 _ _ _ _ _)))))
theorem Ra{F:FsBuild}(H:LeFsBuild F):fN (Cu F) kX:=fun t1 t3 t12 t46 s64=>leh (b:=Cu b6 t1 t3 t12 t46 s64) (leq (by kernel_rfl)) (li (li (li lr lr) lr) (li (H.f16 _ _ _ _) (H.f16 _ _ _ _)))
theorem Rb{F:FsBuild}(H:LeFsBuild F):cA (Cv F) oi:=fun t1 t12 t65 s64=>leh (b:=Cv b6 t1 t12 t65 s64) (leq (by kernel_rfl)) (li (lb (H.s_RexParse _) fun _=>(li lr lr)) (li (lb (H.f0 _ _ _) fun _=>(li (lb H.f26 fun _=>(lb (H.f6 _ _) fun _=>lr)) lr)) (li (H.f17 _ _ _ _) (H.f17 _ _ _ _))))
theorem Rc{F:FsBuild}(H:LeFsBuild F):cA (Cw F) mA:=fun t1 t12 t91 s64=>leh (b:=Cw b6 t1 t12 t91 s64) (leq (by kernel_rfl)) (li (lb (H.f0 _ _ _) fun _=>(li lr lr)) (li (lb (H.f0 _ _ _) fun _=>(li lr lr)) (lb (H.f0 _ _ _) fun _=>(li (li lr lr) lr))))
theorem Qx{F:FsBuild}(H:LeFsBuild F):cf (BP F) eR:=fun t0=>leh (b:=BP b6 t0) (leq (by kernel_rfl)) (lb (H.f0 _ _ _) fun _=>lr)
theorem QG{F:FsBuild}(H:LeFsBuild F):cf (B0 F) nV:=fun t0=>leh (b:=B0 b6 t0) (leq (by kernel_rfl)) (lb (H.f34 _) fun _=>(li lr (H.f20 _ _ _ _ _ _ _ _)))
theorem QH{F:FsBuild}(H:LeFsBuild F):qW (B1 F) yD:=fun t4 t8 t9 s368_0 s368_1 s368_2 s368_3 s368_4=>leh (b:=B1 b6 t4 t8 t9 s368_0 s368_1 s368_2 s368_3 s368_4) (leq (by kernel_rfl)) (li (lb (H.f37 _) fun _=>(li (lb (H.f38 _) fun _=>(li (lb (H.f39 _) fun _=>(lb (H.f39 _) fun _=>(lb (H.f25 _ _) fun _=>(lb (H.f25 _ _) fun _=>(H.f20 _ _ _ _ _ _ _ _))))) lr)) (li lr (li lr lr)))) (li lr (li lr lr)))
theorem Qp{F:FsBuild}(H:LeFsBuild F):cf (BH F) mu:=fun t0=>leh (b:=BH b6 t0) (leq (by kernel_rfl)) (lb (H.f41 _) fun _=>(li lr (lb (H.f46 _) fun _=>(H.f22 _ _ _ _ _ _ _ _ _ _ _))))
theorem Qq{F:FsBuild}(H:LeFsBuild F):Fe (BI F) yd:=fun t5 t6 t0 t9 s32 s432_0 s432_1 s432_2 s496_0 s496_1 s496_2=>leh (b:=BI b6 t5 t6 t0 t9 s32 s432_0 s432_1 s432_2 s496_0 s496_1 s496_2) (leq (by kernel_rfl)) (li (li (li (lb (H.f48 _ _ _ _) fun _=>(H.f22 _ _ _ _ _ _ _ _ _ _ _)) (li (lb (H.f48 _ _ _ _) fun _=>(H.f22 _ _ _ _ _ _ _ _ _ _ _)) (lb (H.f50 _ _ _ _) fun _=>(lb (H.f53 _ _ _ _ _ _) fun _=>(lb (H.f48 _ _ _ _) fun _=>(li (H.f22 _ _ _ _ _ _ _ _ _ _ _) lr)))))) lr) (lb (H.f53 _ _ _ _ _ _) fun _=>(lb (H.f53 _ _ _ _ _ _) fun _=>(lb (H.s_ProgOk _) fun _=>(li lr lr)))))
theorem Tc{F:FsBuild}(H:LeFsBuild F):cf (Ew F) ox:=fun t0=>leh (b:=Ew b6 t0) (leq (by kernel_rfl)) (H.f24 _ _)
theorem Td{F:FsBuild}(H:LeFsBuild F):cg (Ex F) mK:=fun t0 t3=>leh (b:=Ex b6 t0 t3) (leq (by kernel_rfl)) (li (li (li lr (H.f24 _ _)) lr) lr)
theorem Rv{F:FsBuild}(H:LeFsBuild F):cg (CQ F) ja:=fun t0 t1=>leh (b:=CQ b6 t0 t1) (leq (by kernel_rfl)) (li lr lr)
theorem R7{F:FsBuild}(H:LeFsBuild F):E9 (Ds F) mJ:=leh (b:=Ds b6 ) (leq (by kernel_rfl)) lr
theorem QM{F:FsBuild}(H:LeFsBuild F):cf (B7 F) s_RexParse:=fun t0=>leh (b:=B7 b6 t0) (leq (by kernel_rfl)) (li lr (lb (H.f54 _ _) fun _=>(li lr (li lr (lb (H.f56 _) fun _=>(li lr lr))))))
theorem Qr{F:FsBuild}(H:LeFsBuild F):cf (BJ F) jO:=fun t0=>leh (b:=BJ b6 t0) (leq (by kernel_rfl)) (H.f29 _ _)
theorem Qs{F:FsBuild}(H:LeFsBuild F):cg (BK F) kU:=fun t0 t4=>leh (b:=BK b6 t0 t4) (leq (by kernel_rfl)) (li (li (li (H.f29 _ _) (li (li (li (li (li (H.f30 _ _ _) (li (li (H.f30 _ _ _) (H.f30 _ _ _)) lr)) lr) (H.f30 _ _ _)) lr) (li (li (li (H.f30 _ _ _) (li (li (H.f30 _ _ _) (H.f30 _ _ _)) lr)) lr) (H.f30 _ _ _)))) lr) (li (li (li (li (li (H.f30 _ _ _) (li (li (H.f30 _ _ _) (H.f30 _ _ _)) lr)) lr) (H.f30 _ _ _)) lr) (li (li (li (H.f30 _ _ _) (li (li (H.f30 _ _ _) (H.f30 _ _ _)) lr)) lr) (H.f30 _ _ _))))
theorem Qt{F:FsBuild}(H:LeFsBuild F):cI (BL F) ej:=fun t0 t4 t5=>leh (b:=BL b6 t0 t4 t5) (leq (by kernel_rfl)) (H.f31 _ _ _ _ _)
theorem Qu{F:FsBuild}(H:LeFsBuild F):fN (BM F) jP:=fun t0 t4 t5 t6 t7=>leh (b:=BM b6 t0 t4 t5 t6 t7) (leq (by kernel_rfl)) (li (li (lb (H.f58 _) fun _=>(li (li (li (H.f31 _ _ _ _ _) lr) (H.f31 _ _ _ _ _)) (li (li (li (li (lb (H.f58 _) fun _=>(li (H.f32 _ _ _ _ _ _) (H.f33 _ _ _ _))) lr) (H.f33 _ _ _ _)) lr) (H.f33 _ _ _ _)))) lr) (li (li (li (li (lb (H.f58 _) fun _=>(li (H.f32 _ _ _ _ _ _) (H.f33 _ _ _ _))) lr) (H.f33 _ _ _ _)) lr) (H.f33 _ _ _ _)))
theorem Qv{F:FsBuild}(H:LeFsBuild F):fO (BN F) iY:=fun t0 t4 t5 t6 t7 t8=>leh (b:=BN b6 t0 t4 t5 t6 t7 t8) (leq (by kernel_rfl)) (li (li (lb (H.f58 _) fun _=>(li (li (H.f32 _ _ _ _ _ _) lr) (H.f33 _ _ _ _))) lr) (H.f33 _ _ _ _))
theorem Qw{F:FsBuild}(H:LeFsBuild F):cA (BO F) eQ:=fun t4 t5 t6 t7=>leh (b:=BO b6 t4 t5 t6 t7) (leq (by kernel_rfl)) (li lr (li lr (li lr lr)))
theorem QP{F:FsBuild}(H:LeFsBuild F):cf (Ca F) yK:=fun t0=>leh (b:=Ca b6 t0) (leq (by kernel_rfl)) (li lr (H.f35 _ _ _))
theorem QQ{F:FsBuild}(H:LeFsBuild F):cI (Cb F) yL:=fun t0 t4 t5=>leh (b:=Cb b6 t0 t4 t5) (leq (by kernel_rfl)) (li (li (li (H.f35 _ _ _) (li (li (H.f35 _ _ _) (li (li (H.f36 _ _ _) (lb (H.f59 _ _ _) fun _=>(li lr (li (H.f35 _ _ _) lr)))) lr)) lr)) lr) (li lr lr))
theorem QR{F:FsBuild}(H:LeFsBuild F):cI (Cc F) yM:=fun t0 t4 t5=>leh (b:=Cc b6 t0 t4 t5) (leq (by kernel_rfl)) (li (li (li (H.f36 _ _ _) (H.f35 _ _ _)) lr) (H.f35 _ _ _))
theorem SL{F:FsBuild}(H:LeFsBuild F):cf (D8 F) AZ:=fun s0=>leh (b:=D8 b6 s0) (leq (by kernel_rfl)) (li lr lr)
theorem SO{F:FsBuild}(H:LeFsBuild F):cf (Eb F) A2:=fun s0=>leh (b:=Eb b6 s0) (leq (by kernel_rfl)) (lb (H.f61 _ _) fun _=>(li (lb (H.f62 _) fun _=>(lb (H.f63 _) fun _=>lr)) (lb (H.f65 _ _) fun _=>(li (lb (H.f63 _) fun _=>lr) (lb (H.f66 _) fun _=>(lb (H.f65 _ _) fun _=>(li (lb (H.f63 _) fun _=>lr) (lb (H.f68 _ _) fun _=>lr))))))))
theorem Qy{F:FsBuild}(H:LeFsBuild F):cf (BQ F) yj:=fun t0=>leh (b:=BQ b6 t0) (leq (by kernel_rfl)) (H.f40 _ _ _)
theorem Qz{F:FsBuild}(H:LeFsBuild F):cI (BR F) yk:=fun t3 t4 s16=>leh (b:=BR b6 t3 t4 s16) (leq (by kernel_rfl)) (li (li (lb (H.f39 _) fun _=>(lb (H.f25 _ _) fun _=>(H.f40 _ _ _))) lr) lr)
theorem Qk{F:FsBuild}(H:LeFsBuild F):cf (BC F) xW:=fun t0=>leh (b:=BC b6 t0) (leq (by kernel_rfl)) (lb (H.f69 _) fun _=>(li lr (H.f42 _ _)))
theorem Ql{F:FsBuild}(H:LeFsBuild F):cg (BD F) xX:=fun t0 t3=>leh (b:=BD b6 t0 t3) (leq (by kernel_rfl)) (li (li (li (li lr (li (lb (H.f71 _) fun _=>(li lr (H.f42 _ _))) lr)) (H.f42 _ _)) lr) (lb (H.f46 _) fun _=>(li lr (li lr (H.f43 _ _ _ _)))))
theorem Qm{F:FsBuild}(H:LeFsBuild F):cA (BE F) xY:=fun t0 t4 t5 t6=>leh (b:=BE b6 t0 t4 t5 t6) (leq (by kernel_rfl)) (li (li (lb (H.f6 _ _) fun _=>(li lr (H.f43 _ _ _ _))) lr) (H.f44 _ _))
theorem Qn{F:FsBuild}(H:LeFsBuild F):cg (BF F) xZ:=fun t0 t7=>leh (b:=BF b6 t0 t7) (leq (by kernel_rfl)) (li (li (lb (H.f73 _) fun _=>(li lr (li (lb (H.f73 _) fun _=>(li lr (H.f44 _ _))) lr))) lr) (H.f45 _ _))
theorem Qo{F:FsBuild}(H:LeFsBuild F):cg (BG F) ya:=fun t0 t8=>leh (b:=BG b6 t0 t8) (leq (by kernel_rfl)) (li (li (lb (H.f76 _) fun _=>(li lr (li (lb (H.f76 _) fun _=>(li lr (H.f45 _ _))) lr))) lr) lr)
theorem QB{F:FsBuild}(H:LeFsBuild F):cf (BU F) yA:=fun t0=>leh (b:=BU b6 t0) (leq (by kernel_rfl)) (H.f47 _ _ _ _)
theorem QC{F:FsBuild}(H:LeFsBuild F):cA (BV F) yB:=fun t0 t4 t5 t6=>leh (b:=BV b6 t0 t4 t5 t6) (leq (by kernel_rfl)) (li (li (lb (H.f78 _ _ _) fun _=>(li (lb (H.f78 _ _ _) fun _=>(H.f47 _ _ _ _)) lr)) lr) lr)
theorem Re{F:FsBuild}(H:LeFsBuild F):cA (Cz F) zi:=fun s0_0 s0_1 s0_2 t1=>leh (b:=Cz b6 s0_0 s0_1 s0_2 t1) (leq (by kernel_rfl)) (H.f49 _ _ _ _ _)
theorem Rf{F:FsBuild}(H:LeFsBuild F):fN (CA F) zj:=fun t4 s0_0 s0_1 s0_2 s48=>leh (b:=CA b6 t4 s0_0 s0_1 s0_2 s48) (leq (by kernel_rfl)) (li (li (lb (H.f81 _ _ _ _) fun _=>(H.f49 _ _ _ _ _)) lr) lr)
theorem Rg{F:FsBuild}(H:LeFsBuild F):cA (CB F) zl:=fun s0_0 s0_1 s0_2 t1=>leh (b:=CB b6 s0_0 s0_1 s0_2 t1) (leq (by kernel_rfl)) (li (H.f51 _ _ _ _ _ _) (H.f51 _ _ _ _ _ _))
theorem Rh{F:FsBuild}(H:LeFsBuild F):fO (CC F) zm:=fun t6 t24 s0_0 s0_1 s0_2 s48=>leh (b:=CC b6 t6 t24 s0_0 s0_1 s0_2 s48) (leq (by kernel_rfl)) (li (lb (H.f82 _ _ _ _) fun _=>lr) (li (lb (H.f83 _ _ _ _) fun _=>lr) (li (lb (H.f84 _ _ _ _) fun _=>lr) (li (li (lb (H.f50 _ _ _ _) fun _=>(li (lb (H.f53 _ _ _ _ _ _) fun _=>lr) lr)) lr) (H.f52 _ _ _ _ _)))))
theorem Ri{F:FsBuild}(H:LeFsBuild F):fN (CD F) zn:=fun t4 s0_0 s0_1 s0_2 s48=>leh (b:=CD b6 t4 s0_0 s0_1 s0_2 s48) (leq (by kernel_rfl)) (li (li (lb (H.f50 _ _ _ _) fun _=>(H.f52 _ _ _ _ _)) lr) (lb (H.f85 _ _ _ _) fun _=>lr))
theorem Rp{F:FsBuild}(H:LeFsBuild F):fO (CK F) zv:=fun s0_0 s0_1 s0_2 t1 t2 t3=>leh (b:=CK b6 s0_0 s0_1 s0_2 t1 t2 t3) (leq (by kernel_rfl)) (li lr lr)
theorem RE{F:FsBuild}(H:LeFsBuild F):cg (CZ F) jd:=fun s0 t1=>leh (b:=CZ b6 s0 t1) (leq (by kernel_rfl)) (lb (H.f86 _ _) fun _=>(H.f55 _ _ _ _))
theorem RF{F:FsBuild}(H:LeFsBuild F):cA (C0 F) lh:=fun t1 t5 s0 s64=>leh (b:=C0 b6 t1 t5 s0 s64) (leq (by kernel_rfl)) (lb (H.f88 _ _) fun _=>(li (lb (H.f86 _ _) fun _=>(li (H.f55 _ _ _ _) lr)) (li (li lr lr) lr)))
theorem Rz{F:FsBuild}(H:LeFsBuild F):cf (CU F) mD:=fun t0=>leh (b:=CU b6 t0) (leq (by kernel_rfl)) (H.f57 _ _ _)
theorem RA{F:FsBuild}(H:LeFsBuild F):cI (CV F) mE:=fun t3 t4 s16=>leh (b:=CV b6 t3 t4 s16) (leq (by kernel_rfl)) (li (li (lb (H.f56 _) fun _=>(lb (H.f25 _ _) fun _=>(H.f57 _ _ _))) lr) lr)
theorem Rw{F:FsBuild}(H:LeFsBuild F):cf (CR F) jb:=fun t0=>leh (b:=CR b6 t0) (leq (by kernel_rfl)) (li lr lr)
theorem Sd{F:FsBuild}(H:LeFsBuild F):cI (Dy F) Aq:=fun t0 t1 t2=>leh (b:=Dy b6 t0 t1 t2) (leq (by kernel_rfl)) (li (lb (H.f11 _) fun _=>(li (H.f60 _ _ _ _) (lb (H.f58 _) fun _=>(li (lb (H.f89 _ _) fun _=>lr) (li (lb (H.f93 _ _) fun _=>lr) (li (lb (H.f95 _) fun _=>(li (lb (H.f96 _ _) fun _=>lr) (lb (H.f98 _ _) fun _=>lr))) (lb (H.f98 _ _) fun _=>lr))))))) lr)
theorem Se{F:FsBuild}(H:LeFsBuild F):cA (Dz F) Ar:=fun t0 t1 t10 s96=>leh (b:=Dz b6 t0 t1 t10 s96) (leq (by kernel_rfl)) (li (li (lb (H.f11 _) fun _=>(li (H.f60 _ _ _ _) (li lr lr))) lr) (li lr lr))
theorem SB{F:FsBuild}(H:LeFsBuild F):cg (DW F) AN:=fun s0 t1=>leh (b:=DW b6 s0 t1) (leq (by kernel_rfl)) (lb (H.f37 _) fun _=>(li (li lr lr) lr))
theorem SK{F:FsBuild}(H:LeFsBuild F):cf (D7 F) AY:=fun s0=>leh (b:=D7 b6 s0) (leq (by kernel_rfl)) (li lr lr)
theorem Ss{F:FsBuild}(H:LeFsBuild F):cf (DM F) AE:=fun s0=>leh (b:=DM b6 s0) (leq (by kernel_rfl)) (lb (H.f100 _ _) fun _=>(H.f64 _ _ _ _ _ _ _ _ _))
theorem Su{F:FsBuild}(H:LeFsBuild F):qX (DN F) AF:=fun s0 s32_0 s32_1 s32_2 s32_3 s48_0 s48_1 s48_2 s48_3=>leh (b:=DN b6 s0 s32_0 s32_1 s32_2 s32_3 s48_0 s48_1 s48_2 s48_3) (leq (by kernel_rfl)) (li (lb (H.f65 _ _) fun _=>(li (lb (H.f65 _ _) fun _=>(li (lb (H.f62 _) fun _=>(H.f64 _ _ _ _ _ _ _ _ _)) (lb (H.f101 _) fun _=>(li (H.f64 _ _ _ _ _ _ _ _ _) lr)))) (lb (H.f100 _ _) fun _=>lr))) (lb (H.f100 _ _) fun _=>lr))
theorem SP{F:FsBuild}(H:LeFsBuild F):cg (Ec F) A3:=fun s0 t1=>leh (b:=Ec b6 s0 t1) (leq (by kernel_rfl)) (lb (H.f37 _) fun _=>(li (li lr lr) lr))
theorem Sx{F:FsBuild}(H:LeFsBuild F):cf (DR F) AJ:=fun s0=>leh (b:=DR b6 s0) (leq (by kernel_rfl)) (lb (H.f37 _) fun _=>(li (li (lb (H.f12 _) fun _=>(li (lb (H.f102 _) fun _=>(lb (H.f65 _ _) fun _=>(li (H.f67 _ _ _ _ _ _ _) (lb (H.f65 _ _) fun _=>(li (H.f67 _ _ _ _ _ _ _) (H.f67 _ _ _ _ _ _ _)))))) (lb (H.f103 _ _) fun _=>lr))) (lb (H.f103 _ _) fun _=>lr)) (lb (H.f103 _ _) fun _=>lr)))
theorem Sy{F:FsBuild}(H:LeFsBuild F):gE (DS F) AK:=fun t5 s0 s32_0 s32_1 s32_2 s32_3 s64=>leh (b:=DS b6 t5 s0 s32_0 s32_1 s32_2 s32_3 s64) (leq (by kernel_rfl)) (li (lb (H.f62 _) fun _=>(lb (H.f66 _) fun _=>(lb (H.f68 _ _) fun _=>lr))) (lb (H.f103 _ _) fun _=>lr))
theorem SC{F:FsBuild}(H:LeFsBuild F):cg (DX F) AO:=fun t0 t1=>leh (b:=DX b6 t0 t1) (leq (by kernel_rfl)) (li lr lr)
theorem QN{F:FsBuild}(H:LeFsBuild F):cf (B8 F) yI:=fun t0=>leh (b:=B8 b6 t0) (leq (by kernel_rfl)) (H.f70 _ _)
theorem QO{F:FsBuild}(H:LeFsBuild F):cg (B9 F) yJ:=fun t0 t3=>leh (b:=B9 b6 t0 t3) (leq (by kernel_rfl)) (li (li (li (li (li (lb (H.f0 _ _ _) fun _=>(li (li (li lr (lb (H.f39 _) fun _=>(li lr (lb (H.f104 _) fun _=>(li lr (H.f70 _ _)))))) (li (lb (H.f106 _) fun _=>(li (lb (H.f104 _) fun _=>(li (lb (H.f39 _) fun _=>(li lr (li lr (lb (H.f39 _) fun _=>(li lr (lb (H.f104 _) fun _=>(li lr (H.f70 _ _)))))))) lr)) lr)) lr)) (li (lb (H.f106 _) fun _=>(li (lb (H.f104 _) fun _=>(li (lb (H.f39 _) fun _=>(li lr (li lr (lb (H.f39 _) fun _=>(li lr (lb (H.f104 _) fun _=>(li lr (H.f70 _ _)))))))) lr)) lr)) lr))) (lb (H.f0 _ _ _) fun _=>(li (li (lb (H.f106 _) fun _=>(li (lb (H.f104 _) fun _=>(li (lb (H.f39 _) fun _=>(li lr (li lr (lb (H.f39 _) fun _=>(li lr (lb (H.f104 _) fun _=>(li lr (H.f70 _ _)))))))) lr)) lr)) lr) (li (lb (H.f106 _) fun _=>(li (lb (H.f104 _) fun _=>(li (lb (H.f39 _) fun _=>(li lr (li lr (lb (H.f39 _) fun _=>(li lr (lb (H.f104 _) fun _=>(li lr (H.f70 _ _)))))))) lr)) lr)) lr)))) (lb (H.f0 _ _ _) fun _=>(li (li (lb (H.f106 _) fun _=>(li (lb (H.f104 _) fun _=>(li (lb (H.f39 _) fun _=>(li lr (li lr (lb (H.f39 _) fun _=>(li lr (lb (H.f104 _) fun _=>(li lr (H.f70 _ _)))))))) lr)) lr)) lr) (li (lb (H.f106 _) fun _=>(li (lb (H.f104 _) fun _=>(li (lb (H.f39 _) fun _=>(li lr (li lr (lb (H.f39 _) fun _=>(li lr (lb (H.f104 _) fun _=>(li lr (H.f70 _ _)))))))) lr)) lr)) lr)))) (lb (H.f0 _ _ _) fun _=>(li (li (lb (H.f106 _) fun _=>(li (lb (H.f104 _) fun _=>(li (lb (H.f39 _) fun _=>(li lr (li lr (lb (H.f39 _) fun _=>(li lr (lb (H.f104 _) fun _=>(li lr (H.f70 _ _)))))))) lr)) lr)) lr) (li (lb (H.f106 _) fun _=>(li (lb (H.f104 _) fun _=>(li (lb (H.f39 _) fun _=>(li lr (li lr (lb (H.f39 _) fun _=>(li lr (lb (H.f104 _) fun _=>(li lr (H.f70 _ _)))))))) lr)) lr)) lr)))) lr) lr)
theorem QV{F:FsBuild}(H:LeFsBuild F):cf (Cg F) yQ:=fun t0=>leh (b:=Cg b6 t0) (leq (by kernel_rfl)) (li lr (li lr (li lr (li lr (li lr (H.f72 _ _))))))
theorem QW{F:FsBuild}(H:LeFsBuild F):cg (Ch F) yR:=fun t3 s16=>leh (b:=Ch b6 t3 s16) (leq (by kernel_rfl)) (li (li (li (li (li (H.f72 _ _) (li (lb (H.f71 _) fun _=>(li lr (H.f72 _ _))) lr)) lr) (li (lb (H.f71 _) fun _=>(li lr (H.f72 _ _))) lr)) (li (lb (H.f71 _) fun _=>(li lr (H.f72 _ _))) lr)) lr)
theorem QS{F:FsBuild}(H:LeFsBuild F):cf (Cd F) yN:=fun t0=>leh (b:=Cd b6 t0) (leq (by kernel_rfl)) (li (li (li lr (H.f74 _ _)) (li (li (li lr (H.f74 _ _)) (H.f74 _ _)) (li lr (H.f74 _ _)))) (H.f74 _ _))
theorem QT{F:FsBuild}(H:LeFsBuild F):cg (Ce F) yO:=fun t3 s16=>leh (b:=Ce b6 t3 s16) (leq (by kernel_rfl)) (H.f75 _ _ _)
theorem QU{F:FsBuild}(H:LeFsBuild F):cI (Cf F) yP:=fun t3 t4 s16=>leh (b:=Cf b6 t3 t4 s16) (leq (by kernel_rfl)) (li (li (lb (H.f73 _) fun _=>(li lr (H.f75 _ _ _))) lr) lr)
theorem Q4{F:FsBuild}(H:LeFsBuild F):cf (Cn F) yX:=fun t0=>leh (b:=Cn b6 t0) (leq (by kernel_rfl)) (li (lb (H.s_RexParse _) fun _=>lr) (li (li (li lr (H.f77 _ _)) lr) (H.f77 _ _)))
theorem Q5{F:FsBuild}(H:LeFsBuild F):cg (Cp F) yY:=fun t5 s16=>leh (b:=Cp b6 t5 s16) (leq (by kernel_rfl)) (li (li (lb (H.f76 _) fun _=>(li lr (H.f77 _ _))) lr) lr)
theorem QX{F:FsBuild}(H:LeFsBuild F):cI (Ci F) yS:=fun t0 t1 t2=>leh (b:=Ci b6 t0 t1 t2) (leq (by kernel_rfl)) (li (lb (H.f107 _ _) fun _=>(H.f79 _ _ _)) (li (li (lb (H.f107 _ _) fun _=>(H.f79 _ _ _)) (H.f79 _ _ _)) (li (lb (H.f107 _ _) fun _=>(H.f79 _ _ _)) (H.f79 _ _ _))))
theorem QY{F:FsBuild}(H:LeFsBuild F):cI (Cj F) yT:=fun t1 t2 s48=>leh (b:=Cj b6 t1 t2 s48) (leq (by kernel_rfl)) (H.f80 _ _ _ _)
theorem QZ{F:FsBuild}(H:LeFsBuild F):cA (Ck F) yU:=fun t1 t2 t8 s48=>leh (b:=Ck b6 t1 t2 t8 s48) (leq (by kernel_rfl)) (li (li (lb (H.f78 _ _ _) fun _=>(H.f80 _ _ _ _)) lr) lr)
theorem Rr{F:FsBuild}(H:LeFsBuild F):cA (CM F) zx:=fun s0_0 s0_1 s0_2 t1=>leh (b:=CM b6 s0_0 s0_1 s0_2 t1) (leq (by kernel_rfl)) (li (lb (H.f48 _ _ _ _) fun _=>lr) (li (lb (H.f109 _ _ _ _) fun _=>lr) (li (lb (H.f112 _ _ _ _) fun _=>lr) (li (lb (H.f113 _ _ _ _) fun _=>lr) (li (lb (H.f53 _ _ _ _ _ _) fun _=>lr) (li (li (lb (H.f50 _ _ _ _) fun _=>(lb (H.f114 _ _) fun _=>(lb (H.f53 _ _ _ _ _ _) fun _=>lr))) lr) (li (lb (H.f50 _ _ _ _) fun _=>(lb (H.f53 _ _ _ _ _ _) fun _=>lr)) lr)))))))
theorem Rq{F:FsBuild}(H:LeFsBuild F):cA (CL F) zw:=fun s0_0 s0_1 s0_2 t1=>leh (b:=CL b6 s0_0 s0_1 s0_2 t1) (leq (by kernel_rfl)) (li (lb (H.f116 _) fun _=>(li (li (lb (H.f50 _ _ _ _) fun _=>(lb (H.f114 _ _) fun _=>(lb (H.f53 _ _ _ _ _ _) fun _=>lr))) lr) (li (lb (H.f50 _ _ _ _) fun _=>(li (lb (H.f50 _ _ _ _) fun _=>(lb (H.f114 _ _) fun _=>(lb (H.f53 _ _ _ _ _ _) fun _=>lr))) lr)) lr))) lr)
theorem Rd{F:FsBuild}(H:LeFsBuild F):cA (Cy F) zh:=fun s0_0 s0_1 s0_2 t1=>leh (b:=Cy b6 s0_0 s0_1 s0_2 t1) (leq (by kernel_rfl)) (li (lb (H.f50 _ _ _ _) fun _=>(lb (H.f53 _ _ _ _ _ _) fun _=>(li (lb (H.f50 _ _ _ _) fun _=>(lb (H.f53 _ _ _ _ _ _) fun _=>(lb (H.f53 _ _ _ _ _ _) fun _=>(li (lb (H.f53 _ _ _ _ _ _) fun _=>(li lr lr)) lr)))) lr))) lr)
theorem Rl{F:FsBuild}(H:LeFsBuild F):cA (CG F) zq:=fun s0_0 s0_1 s0_2 t1=>leh (b:=CG b6 s0_0 s0_1 s0_2 t1) (leq (by kernel_rfl)) (li (lb (H.f50 _ _ _ _) fun _=>(lb (H.f53 _ _ _ _ _ _) fun _=>(lb (H.f53 _ _ _ _ _ _) fun _=>(lb (H.f53 _ _ _ _ _ _) fun _=>(li (li (lb (H.f50 _ _ _ _) fun _=>(lb (H.f53 _ _ _ _ _ _) fun _=>(li lr lr))) lr) lr))))) lr)
theorem Rk{F:FsBuild}(H:LeFsBuild F):cA (CF F) zp:=fun s0_0 s0_1 s0_2 t1=>leh (b:=CF b6 s0_0 s0_1 s0_2 t1) (leq (by kernel_rfl)) (li (lb (H.f53 _ _ _ _ _ _) fun _=>lr) (li (lb (H.f53 _ _ _ _ _ _) fun _=>lr) (li (lb (H.f53 _ _ _ _ _ _) fun _=>lr) (li (lb (H.f114 _ _) fun _=>(lb (H.f53 _ _ _ _ _ _) fun _=>lr)) (li (lb (H.f114 _ _) fun _=>(lb (H.f53 _ _ _ _ _ _) fun _=>lr)) (li (lb (H.f53 _ _ _ _ _ _) fun _=>lr) (li (lb (H.f53 _ _ _ _ _ _) fun _=>lr) (li (lb (H.f53 _ _ _ _ _ _) fun _=>lr) (li (lb (H.f53 _ _ _ _ _ _) fun _=>lr) (li (lb (H.f53 _ _ _ _ _ _) fun _=>lr) (li (lb (H.f53 _ _ _ _ _ _) fun _=>lr) (lb (H.f53 _ _ _ _ _ _) fun _=>lr))))))))))))
theorem RC{F:FsBuild}(H:LeFsBuild F):cg (CX F) lf:=fun s0 t1=>leh (b:=CX b6 s0 t1) (leq (by kernel_rfl)) (H.f87 _ _ _ _)
theorem RD{F:FsBuild}(H:LeFsBuild F):cA (CY F) lg:=fun t1 t5 s0 s64=>leh (b:=CY b6 t1 t5 s0 s64) (leq (by kernel_rfl)) (li (li (li (li (li (li (lb (H.f117 _ _) fun _=>(li (H.f87 _ _ _ _) lr)) (li lr (li (li lr lr) lr))) lr) (li lr (li (li lr lr) lr))) lr) (li lr (li (li lr lr) lr))) (li lr (li (li lr lr) lr)))
theorem RB{F:FsBuild}(H:LeFsBuild F):cg (CW F) ga:=fun s0 t1=>leh (b:=CW b6 s0 t1) (leq (by kernel_rfl)) (li (li (li lr lr) lr) lr)
theorem R9{F:FsBuild}(H:LeFsBuild F):cg (Du F) Am:=fun t0 t1=>leh (b:=Du b6 t0 t1) (leq (by kernel_rfl)) (H.f90 _ _ _)
theorem Sa{F:FsBuild}(H:LeFsBuild F):cI (Dv F) An:=fun t0 t1 t7=>leh (b:=Dv b6 t0 t1 t7) (leq (by kernel_rfl)) (li (li (lb (H.f58 _) fun _=>(li (H.f90 _ _ _) (li (li (li (li (lb (H.f58 _) fun _=>(li (H.f91 _ _ _ _) (H.f92 _ _ _))) lr) (H.f92 _ _ _)) lr) (H.f92 _ _ _)))) lr) (li (li (li (li (lb (H.f58 _) fun _=>(li (H.f91 _ _ _ _) (H.f92 _ _ _))) lr) (H.f92 _ _ _)) lr) (H.f92 _ _ _)))
theorem Sb{F:FsBuild}(H:LeFsBuild F):cA (Dw F) Ao:=fun t0 t1 t7 t8=>leh (b:=Dw b6 t0 t1 t7 t8) (leq (by kernel_rfl)) (li (li (lb (H.f58 _) fun _=>(li (H.f91 _ _ _ _) (li lr (H.f92 _ _ _)))) lr) (li lr (H.f92 _ _ _)))
theorem Sc{F:FsBuild}(H:LeFsBuild F):cI (Dx F) Ap:=fun t0 t1 t7=>leh (b:=Dx b6 t0 t1 t7) (leq (by kernel_rfl)) (li (lb (H.f28 _) fun _=>lr) lr)
theorem Sj{F:FsBuild}(H:LeFsBuild F):cg (DE F) Ay:=fun t0 t1=>leh (b:=DE b6 t0 t1) (leq (by kernel_rfl)) (H.f94 _ _ _)
theorem Sk{F:FsBuild}(H:LeFsBuild F):cI (DF F) Az:=fun t0 t7 t8=>leh (b:=DF b6 t0 t7 t8) (leq (by kernel_rfl)) (li (li (li lr (li lr (li (li lr (li (li lr (li (li (H.f94 _ _ _) lr) lr)) lr)) (li (li (H.f94 _ _ _) lr) lr)))) lr) lr)
theorem R6{F:FsBuild}(H:LeFsBuild F):cf (Dr F) Ak:=fun t0=>leh (b:=Dr b6 t0) (leq (by kernel_rfl)) (li lr (li (li (li lr (li lr (lb (H.f0 _ _ _) fun _=>lr))) (lb (H.f0 _ _ _) fun _=>lr)) lr))
theorem Sf{F:FsBuild}(H:LeFsBuild F):cg (DA F) Au:=fun t0 t1=>leh (b:=DA b6 t0 t1) (leq (by kernel_rfl)) (H.f97 _ _ _)
theorem Sg{F:FsBuild}(H:LeFsBuild F):cI (DB F) Av:=fun t0 t7 t8=>leh (b:=DB b6 t0 t7 t8) (leq (by kernel_rfl)) (li (li (li lr (li lr (li (li lr (li (li lr (li (li (li (li (li (li (H.f97 _ _ _) lr) lr) lr) lr) (li (li (H.f97 _ _ _) lr) lr)) lr)) lr)) (li (li (H.f97 _ _ _) lr) lr)))) lr) lr)
theorem Sh{F:FsBuild}(H:LeFsBuild F):cg (DC F) Aw:=fun t0 t1=>leh (b:=DC b6 t0 t1) (leq (by kernel_rfl)) (H.f99 _ _ _ _)
theorem Si{F:FsBuild}(H:LeFsBuild F):cA (DD F) Ax:=fun t0 t1 t5 t6=>leh (b:=DD b6 t0 t1 t5 t6) (leq (by kernel_rfl)) (li (li (li (li (li (li (li lr lr) (H.f99 _ _ _ _)) lr) lr) (H.f99 _ _ _ _)) lr) lr)
theorem ST{F:FsBuild}(H:LeFsBuild F):cg (Eg F) A7:=fun s0 t1=>leh (b:=Eg b6 s0 t1) (leq (by kernel_rfl)) (lb (H.f65 _ _) fun _=>(li (lb (H.f120 _) fun _=>lr) (lb (H.f62 _) fun _=>lr)))
theorem SS{F:FsBuild}(H:LeFsBuild F):cf (Ef F) A6:=fun s0=>leh (b:=Ef b6 s0) (leq (by kernel_rfl)) (lb (H.f61 _ _) fun _=>(li (lb (H.f121 _ _) fun _=>lr) (lb (H.f61 _ _) fun _=>(li (lb (H.f121 _ _) fun _=>lr) (lb (H.f65 _ _) fun _=>(li (lb (H.f63 _) fun _=>lr) (lb (H.f122 _) fun _=>(lb (H.f65 _ _) fun _=>(li (lb (H.f100 _ _) fun _=>lr) lr)))))))))
theorem SJ{F:FsBuild}(H:LeFsBuild F):cf (D6 F) AX:=fun s0=>leh (b:=D6 b6 s0) (leq (by kernel_rfl)) (lb (H.f37 _) fun _=>(lb (H.f61 _ _) fun _=>(li (lb (H.f62 _) fun _=>lr) (lb (H.f61 _ _) fun _=>(li (lb (H.f62 _) fun _=>lr) (li (lb H.f26 fun _=>(lb (H.f6 _ _) fun _=>(li (lb (H.f62 _) fun _=>(lb (H.f100 _ _) fun _=>(lb (H.f124 _ _) fun _=>(lb (H.f100 _ _) fun _=>lr)))) (lb (H.f126 _) fun _=>(lb (H.f65 _ _) fun _=>(li lr (lb (H.f62 _) fun _=>(lb (H.f66 _) fun _=>(lb (H.f100 _ _) fun _=>lr))))))))) (lb (H.f126 _) fun _=>(lb (H.f65 _ _) fun _=>(li lr (lb (H.f62 _) fun _=>(lb (H.f66 _) fun _=>(lb (H.f100 _ _) fun _=>lr))))))))))))
theorem SH{F:FsBuild}(H:LeFsBuild F):cg (D4 F) AV:=fun s0 t1=>leh (b:=D4 b6 s0 t1) (leq (by kernel_rfl)) (li (lb (H.f127 _) fun _=>lr) (li (lb (H.f129 _) fun _=>lr) (li (lb (H.f131 _) fun _=>lr) (lb (H.f132 _ _) fun _=>lr))))
theorem Tg{F:FsBuild}(H:LeFsBuild F):cf (EA F) Bl:=fun t0=>leh (b:=EA b6 t0) (leq (by kernel_rfl)) (lb (H.f136 _) fun _=>(li lr (lb (H.f0 _ _ _) fun _=>(li lr (li (li lr (li (li (lb (H.f0 _ _ _) fun _=>lr) lr) (li (lb (H.f23 _) fun _=>lr) (li (lb (H.f142 _) fun _=>lr) (li (H.f105 _ _ _) (li (H.f105 _ _ _) (H.f105 _ _ _))))))) (li (li (lb (H.f0 _ _ _) fun _=>lr) lr) (li (lb (H.f23 _) fun _=>lr) (li (lb (H.f142 _) fun _=>lr) (li (H.f105 _ _ _) (li (H.f105 _ _ _) (H.f105 _ _ _)))))))))))
theorem Th{F:FsBuild}(H:LeFsBuild F):cI (EB F) Bm:=fun t23 t44 s16=>leh (b:=EB b6 t23 t44 s16) (leq (by kernel_rfl)) (li (lb (H.f4 _) fun _=>lr) (li (lb H.f26 fun _=>(lb (H.f6 _ _) fun _=>lr)) lr))
theorem S5{F:FsBuild}(H:LeFsBuild F):cf (En F) Be:=fun t0=>leh (b:=En b6 t0) (leq (by kernel_rfl)) (lb (H.f0 _ _ _) fun _=>lr)
theorem Q0{F:FsBuild}(H:LeFsBuild F):cg (Cl F) yV:=fun t0 t1=>leh (b:=Cl b6 t0 t1) (leq (by kernel_rfl)) (lb (H.f6 _ _) fun _=>(li lr (H.f108 _ _ _)))
theorem Q3{F:FsBuild}(H:LeFsBuild F):cI (Cm F) yW:=fun t0 t1 t5=>leh (b:=Cm b6 t0 t1 t5) (leq (by kernel_rfl)) (li (li (li (H.f108 _ _ _) (li (li (li (li (li lr lr) lr) lr) lr) lr)) lr) (li (li (li (li (li lr lr) lr) lr) lr) lr))
theorem Rm{F:FsBuild}(H:LeFsBuild F):cA (CH F) zr:=fun s0_0 s0_1 s0_2 t1=>leh (b:=CH b6 s0_0 s0_1 s0_2 t1) (leq (by kernel_rfl)) (li (lb (H.f53 _ _ _ _ _ _) fun _=>(lb (H.f53 _ _ _ _ _ _) fun _=>(lb (H.f53 _ _ _ _ _ _) fun _=>(H.f110 _ _ _ _)))) (H.f110 _ _ _ _))
theorem Rn{F:FsBuild}(H:LeFsBuild F):cA (CI F) zt:=fun s0_0 s0_1 s0_2 s48=>leh (b:=CI b6 s0_0 s0_1 s0_2 s48) (leq (by kernel_rfl)) (H.f111 _ _ _ _ _)
theorem Ro{F:FsBuild}(H:LeFsBuild F):fN (CJ F) zu:=fun t4 s0_0 s0_1 s0_2 s48=>leh (b:=CJ b6 t4 s0_0 s0_1 s0_2 s48) (leq (by kernel_rfl)) (li (li (lb (H.f50 _ _ _ _) fun _=>(lb (H.f116 _) fun _=>(lb (H.f53 _ _ _ _ _ _) fun _=>(H.f111 _ _ _ _ _)))) lr) (lb (H.f53 _ _ _ _ _ _) fun _=>lr))
theorem Rj{F:FsBuild}(H:LeFsBuild F):cA (CE F) zo:=fun s0_0 s0_1 s0_2 t1=>leh (b:=CE b6 s0_0 s0_1 s0_2 t1) (leq (by kernel_rfl)) (li (lb (H.f50 _ _ _ _) fun _=>(lb (H.f53 _ _ _ _ _ _) fun _=>(li (lb (H.f48 _ _ _ _) fun _=>(li (lb (H.f53 _ _ _ _ _ _) fun _=>(li (li (lb (H.f48 _ _ _ _) fun _=>(li lr lr)) lr) lr)) (li lr lr))) lr))) lr)
theorem Rs{F:FsBuild}(H:LeFsBuild F):cA (CN F) zy:=fun s0_0 s0_1 s0_2 t1=>leh (b:=CN b6 s0_0 s0_1 s0_2 t1) (leq (by kernel_rfl)) (li (lb (H.f50 _ _ _ _) fun _=>(lb (H.f53 _ _ _ _ _ _) fun _=>(li (lb (H.f48 _ _ _ _) fun _=>(lb (H.f53 _ _ _ _ _ _) fun _=>(li lr lr))) lr))) lr)
theorem Q6{F:FsBuild}(H:LeFsBuild F):cg (Cq F) zd:=fun t0 t1=>leh (b:=Cq b6 t0 t1) (leq (by kernel_rfl)) (H.f115 _ _ _)
theorem Q7{F:FsBuild}(H:LeFsBuild F):cI (Cr F) ze:=fun t0 t1 t5=>leh (b:=Cr b6 t0 t1 t5) (leq (by kernel_rfl)) (li (li (li lr (H.f115 _ _ _)) lr) lr)
theorem Rt{F:FsBuild}(H:LeFsBuild F):cf (CO F) i9:=fun t0=>leh (b:=CO b6 t0) (leq (by kernel_rfl)) (li lr lr)
theorem RG{F:FsBuild}(H:LeFsBuild F):cg (C1 F) mF:=fun s0 t1=>leh (b:=C1 b6 s0 t1) (leq (by kernel_rfl)) (lb (H.f144 _ _) fun _=>(H.f118 _ _ _))
theorem RH{F:FsBuild}(H:LeFsBuild F):cI (C2 F) lj:=fun s0 s64 s80=>leh (b:=C2 b6 s0 s64 s80) (leq (by kernel_rfl)) (li (lb (H.f88 _ _) fun _=>(li (H.f119 _ _ _ _) (lb (H.f88 _ _) fun _=>(li (H.f119 _ _ _ _) (lb (H.f88 _ _) fun _=>(li (H.f119 _ _ _ _) (H.f119 _ _ _ _))))))) lr)
theorem RI{F:FsBuild}(H:LeFsBuild F):cA (C3 F) jY:=fun t6 s0 s64 s80=>leh (b:=C3 b6 t6 s0 s64 s80) (leq (by kernel_rfl)) (li lr (H.f118 _ _ _))
theorem Sp{F:FsBuild}(H:LeFsBuild F):cf (DJ F) AB:=fun s0=>leh (b:=DJ b6 s0) (leq (by kernel_rfl)) (li (lb (H.f37 _) fun _=>lr) lr)
theorem SV{F:FsBuild}(H:LeFsBuild F):cg (Ei F) A9:=fun s0 t1=>leh (b:=Ei b6 s0 t1) (leq (by kernel_rfl)) (lb (H.f62 _) fun _=>(lb (H.f100 _ _) fun _=>(lb (H.f66 _) fun _=>(lb (H.f100 _ _) fun _=>(lb (H.f63 _) fun _=>(lb (H.f68 _ _) fun _=>(li (lb (H.f61 _ _) fun _=>(li (lb (H.f62 _) fun _=>(lb (H.f63 _) fun _=>(li lr lr))) lr)) lr)))))))
theorem SQ{F:FsBuild}(H:LeFsBuild F):cf (Ed F) A4:=fun s0=>leh (b:=Ed b6 s0) (leq (by kernel_rfl)) (lb (H.f61 _ _) fun _=>(li (lb (H.f62 _) fun _=>(H.f123 _ _ _ _ _ _ _ _ _)) (lb (H.f61 _ _) fun _=>(li (lb (H.f62 _) fun _=>lr) (lb (H.f61 _ _) fun _=>(li (lb (H.f62 _) fun _=>(lb (H.f126 _) fun _=>(lb (H.f100 _ _) fun _=>(lb (H.f66 _) fun _=>(lb (H.f100 _ _) fun _=>lr))))) (lb (H.f66 _) fun _=>(lb (H.f68 _ _) fun _=>lr))))))))
theorem SR{F:FsBuild}(H:LeFsBuild F):qX (Ee F) A5:=fun s0 s32_0 s32_1 s32_2 s32_3 s48_0 s48_1 s48_2 s48_3=>leh (b:=Ee b6 s0 s32_0 s32_1 s32_2 s32_3 s48_0 s48_1 s48_2 s48_3) (leq (by kernel_rfl)) (li (lb (H.f65 _ _) fun _=>(li (lb (H.f65 _ _) fun _=>(li (li (lb (H.f100 _ _) fun _=>(lb (H.f66 _) fun _=>(li (H.f123 _ _ _ _ _ _ _ _ _) lr))) (lb (H.f66 _) fun _=>(li (H.f123 _ _ _ _ _ _ _ _ _) lr))) lr)) lr)) lr)
theorem Sz{F:FsBuild}(H:LeFsBuild F):cg (DT F) AL:=fun s0 t1=>leh (b:=DT b6 s0 t1) (leq (by kernel_rfl)) (H.f125 _ _ _)
theorem SA{F:FsBuild}(H:LeFsBuild F):cI (DU F) AM:=fun t1 t5 s0=>leh (b:=DU b6 t1 t5 s0) (leq (by kernel_rfl)) (li (lb (H.f65 _ _) fun _=>(li (li (lb (H.f100 _ _) fun _=>(lb (H.f66 _) fun _=>(li (H.f125 _ _ _) lr))) (lb (H.f66 _) fun _=>(li (H.f125 _ _ _) lr))) lr)) lr)
theorem SI{F:FsBuild}(H:LeFsBuild F):cf (D5 F) AW:=fun s0=>leh (b:=D5 b6 s0) (leq (by kernel_rfl)) (lb (H.f37 _) fun _=>(li (lb (H.f120 _) fun _=>lr) (li (lb (H.f120 _) fun _=>lr) (lb (H.f12 _) fun _=>(li (lb (H.f120 _) fun _=>lr) (lb (H.f62 _) fun _=>lr))))))
theorem Sv{F:FsBuild}(H:LeFsBuild F):cf (DP F) AG:=fun s0=>leh (b:=DP b6 s0) (leq (by kernel_rfl)) (lb (H.f103 _ _) fun _=>(H.f128 _ _ _ _ _ _ _ _))
theorem Sw{F:FsBuild}(H:LeFsBuild F):qW (DQ F) AH:=fun t3 t5 s0 s32_0 s32_1 s32_2 s32_3 s64=>leh (b:=DQ b6 t3 t5 s0 s32_0 s32_1 s32_2 s32_3 s64) (leq (by kernel_rfl)) (li (li (lb (H.f65 _ _) fun _=>(li (lb (H.f62 _) fun _=>(lb (H.f103 _ _) fun _=>(lb (H.f68 _ _) fun _=>lr))) (H.f128 _ _ _ _ _ _ _ _))) lr) lr)
theorem SM{F:FsBuild}(H:LeFsBuild F):cf (D9 F) A0:=fun s0=>leh (b:=D9 b6 s0) (leq (by kernel_rfl)) (lb (H.f103 _ _) fun _=>(H.f130 _ _ _ _ _ _))
theorem SN{F:FsBuild}(H:LeFsBuild F):fO (Ea F) A1:=fun s0 s32_0 s32_1 s32_2 s32_3 s48=>leh (b:=Ea b6 s0 s32_0 s32_1 s32_2 s32_3 s48) (leq (by kernel_rfl)) (lb (H.f146 _) fun _=>(li (lb (H.f103 _ _) fun _=>(lb (H.f68 _ _) fun _=>(H.f130 _ _ _ _ _ _))) lr))
theorem SU{F:FsBuild}(H:LeFsBuild F):cf (Eh F) A8:=fun s0=>leh (b:=Eh b6 s0) (leq (by kernel_rfl)) (li (lb (H.f148 _) fun _=>lr) (lb (H.f65 _ _) fun _=>(li (lb (H.f62 _) fun _=>(lb (H.f131 _) fun _=>(lb (H.f68 _ _) fun _=>lr))) (lb (H.f65 _ _) fun _=>(li (lb (H.f62 _) fun _=>(lb (H.f131 _) fun _=>(lb (H.f68 _ _) fun _=>lr))) (lb (H.f148 _) fun _=>lr))))))
theorem SD{F:FsBuild}(H:LeFsBuild F):cg (DY F) AP:=fun s0 t1=>leh (b:=DY b6 s0 t1) (leq (by kernel_rfl)) (lb (H.f103 _ _) fun _=>(H.f133 _ _ _ _ _ _))
theorem SE{F:FsBuild}(H:LeFsBuild F):fO (DZ F) AQ:=fun t1 t5 t6 s0 s64 s112=>leh (b:=DZ b6 t1 t5 t6 s0 s64 s112) (leq (by kernel_rfl)) (li (H.f134 _ _ _ _ _ _ _) lr)
theorem SF{F:FsBuild}(H:LeFsBuild F):gE (D0 F) AR:=fun t1 t5 t6 t8 s0 s64 s112=>leh (b:=D0 b6 t1 t5 t6 t8 s0 s64 s112) (leq (by kernel_rfl)) (li (li (li (li (lb (H.f65 _ _) fun _=>(li (H.f134 _ _ _ _ _ _ _) (li (li lr (lb (H.f62 _) fun _=>(lb (H.f103 _ _) fun _=>(li (li (lb (H.f68 _ _) fun _=>(H.f135 _ _ _ _ _ _ _)) lr) lr)))) lr))) lr) lr) (li (li lr (lb (H.f62 _) fun _=>(lb (H.f103 _ _) fun _=>(li (li (lb (H.f68 _ _) fun _=>(H.f135 _ _ _ _ _ _ _)) lr) lr)))) lr)) lr)
theorem SG{F:FsBuild}(H:LeFsBuild F):gE (D3 F) AU:=fun t1 t5 t6 t8 s0 s64 s112=>leh (b:=D3 b6 t1 t5 t6 t8 s0 s64 s112) (leq (by kernel_rfl)) (li (li (lb (H.f68 _ _) fun _=>(H.f133 _ _ _ _ _ _)) (H.f133 _ _ _ _ _ _)) (H.f133 _ _ _ _ _ _))
theorem S6{F:FsBuild}(H:LeFsBuild F):cf (Eo F) Bf:=fun t0=>leh (b:=Eo b6 t0) (leq (by kernel_rfl)) (li (H.f137 _ _ _ _) (li (H.f137 _ _ _ _) (li (H.f137 _ _ _ _) (li (H.f137 _ _ _ _) (li (H.f137 _ _ _ _) (H.f137 _ _ _ _))))))
theorem S7{F:FsBuild}(H:LeFsBuild F):cA (Ep F) Bg:=fun t3 t9 t10 s16=>leh (b:=Ep b6 t3 t9 t10 s16) (leq (by kernel_rfl)) (li (li (lb (H.f149 _ _ _) fun _=>lr) lr) (li (H.f138 _ _ _ _) (li (H.f138 _ _ _ _) (li (H.f138 _ _ _ _) (li (H.f138 _ _ _ _) (li (H.f138 _ _ _ _) (li (H.f138 _ _ _ _) (li (H.f138 _ _ _ _) (li (H.f138 _ _ _ _) (li (H.f138 _ _ _ _) (li (H.f138 _ _ _ _) (li (H.f138 _ _ _ _) (li (H.f138 _ _ _ _) (li (H.f138 _ _ _ _) (li (H.f138 _ _ _ _) (H.f138 _ _ _ _))))))))))))))))
theorem S8{F:FsBuild}(H:LeFsBuild F):cA (Er F) Bh:=fun t3 t9 t23 s16=>leh (b:=Er b6 t3 t9 t23 s16) (leq (by kernel_rfl)) (li (li (lb (H.f149 _ _ _) fun _=>lr) lr) (li (H.f139 _ _ _ _) (H.f139 _ _ _ _)))
theorem S9{F:FsBuild}(H:LeFsBuild F):cA (Es F) Bi:=fun t3 t9 t45 s16=>leh (b:=Es b6 t3 t9 t45 s16) (leq (by kernel_rfl)) (li (li (li (li (lb (H.f149 _ _ _) fun _=>lr) (li (li (lb (H.f149 _ _ _) fun _=>lr) lr) lr)) lr) lr) (li (H.f140 _ _ _ _) (H.f140 _ _ _ _)))
theorem Ta{F:FsBuild}(H:LeFsBuild F):cA (Et F) Bj:=fun t3 t9 t70 s16=>leh (b:=Et b6 t3 t9 t70 s16) (leq (by kernel_rfl)) (li (lb (H.f149 _ _ _) fun _=>lr) (li (lb (H.f0 _ _ _) fun _=>(li (lb (H.f149 _ _ _) fun _=>(li (lb (H.f151 _ _) fun _=>lr) lr)) lr)) (li (li (lb (H.f149 _ _ _) fun _=>(li (lb (H.f151 _ _) fun _=>lr) lr)) lr) (li (H.f141 _ _ _) lr))))
theorem Tb{F:FsBuild}(H:LeFsBuild F):cI (Ev F) Bk:=fun t3 t4 s16=>leh (b:=Ev b6 t3 t4 s16) (leq (by kernel_rfl)) (li (li (lb (H.f0 _ _ _) fun _=>(li lr (li (lb (H.f104 _) fun _=>(li lr (H.f141 _ _ _))) lr))) lr) lr)
theorem Ti{F:FsBuild}(H:LeFsBuild F):cf (EC F) Bn:=fun t0=>leh (b:=EC b6 t0) (leq (by kernel_rfl)) (H.f143 _ _)
theorem Tj{F:FsBuild}(H:LeFsBuild F):cg (ED F) Bo:=fun t0 t3=>leh (b:=ED b6 t0 t3) (leq (by kernel_rfl)) (li (li (li (li lr (li (li lr (H.f143 _ _)) lr)) (H.f143 _ _)) lr) (lb (H.f23 _) fun _=>lr))
theorem Rx{F:FsBuild}(H:LeFsBuild F):cg (CS F) mC:=fun s0 t1=>leh (b:=CS b6 s0 t1) (leq (by kernel_rfl)) (li lr (li lr (li lr (li (li (lb (H.f54 _ _) fun _=>(lb (H.f88 _ _) fun _=>(li lr lr))) (li lr (li lr (li lr (li (lb (H.f153 _) fun _=>lr) (li (li lr (li lr lr)) (li (li (H.f145 _ _ _) (H.f145 _ _ _)) (li (li (H.f145 _ _ _) (H.f145 _ _ _)) (li (H.f145 _ _ _) (H.f145 _ _ _)))))))))) lr))))
theorem Ry{F:FsBuild}(H:LeFsBuild F):cI (CT F) jc:=fun t5 s0 s64=>leh (b:=CT b6 t5 s0 s64) (leq (by kernel_rfl)) lr
theorem Sq{F:FsBuild}(H:LeFsBuild F):cf (DK F) AC:=fun s0=>leh (b:=DK b6 s0) (leq (by kernel_rfl)) (lb (H.f37 _) fun _=>(li lr (li (H.f147 _ _ _ _) (li (H.f147 _ _ _ _) (H.f147 _ _ _ _)))))
theorem Sr{F:FsBuild}(H:LeFsBuild F):cA (DL F) AD:=fun t12 t13 s0 s48=>leh (b:=DL b6 t12 t13 s0 s48) (leq (by kernel_rfl)) (li lr (li (lb (H.f12 _) fun _=>(li lr (li lr (li lr (lb H.f26 fun _=>(lb (H.f6 _ _) fun _=>lr)))))) (li (li lr lr) lr)))
theorem So{F:FsBuild}(H:LeFsBuild F):cf (DI F) AA:=fun s0=>leh (b:=DI b6 s0) (leq (by kernel_rfl)) (li lr (lb (H.f37 _) fun _=>(li lr (li (lb (H.f62 _) fun _=>lr) (li (lb (H.f62 _) fun _=>lr) (li (lb (H.f62 _) fun _=>lr) (li (lb (H.f102 _) fun _=>lr) (lb (H.f65 _ _) fun _=>(li (lb (H.f62 _) fun _=>(lb (H.f148 _) fun _=>(lb (H.f68 _ _) fun _=>lr))) (lb (H.f100 _ _) fun _=>(lb (H.f66 _) fun _=>(lb (H.f100 _ _) fun _=>lr))))))))))))
theorem SZ{F:FsBuild}(H:LeFsBuild F):cI (El F) Bc:=fun t0 t1 t2=>leh (b:=El b6 t0 t1 t2) (leq (by kernel_rfl)) (H.f150 _ _ _)
theorem S4{F:FsBuild}(H:LeFsBuild F):cI (Em F) Bd:=fun t2 t7 s48=>leh (b:=Em b6 t2 t7 s48) (leq (by kernel_rfl)) (li (li (lb (H.f106 _) fun _=>(li lr (li (lb (H.f104 _) fun _=>(li lr (H.f150 _ _ _))) lr))) lr) lr)
theorem SX{F:FsBuild}(H:LeFsBuild F):cg (Ej F) Ba:=fun t0 t1=>leh (b:=Ej b6 t0 t1) (leq (by kernel_rfl)) (H.f152 _ _)
theorem SY{F:FsBuild}(H:LeFsBuild F):cg (Ek F) Bb:=fun t5 s32=>leh (b:=Ek b6 t5 s32) (leq (by kernel_rfl)) (li (li (li lr (li (lb (H.f104 _) fun _=>(li lr (H.f152 _ _))) lr)) lr) lr)
theorem RN{F:FsBuild}(H:LeFsBuild F):cf (C8 F) ot:=fun s0=>leh (b:=C8 b6 s0) (leq (by kernel_rfl)) (lb (H.f88 _ _) fun _=>(li (H.f154 _ _ _) (H.f154 _ _ _)))
theorem RO{F:FsBuild}(H:LeFsBuild F):cI (C9 F) mG:=fun s0 s32 s48=>leh (b:=C9 b6 s0 s32 s48) (leq (by kernel_rfl)) (H.f155 _ _ _ _ _)
theorem RP{F:FsBuild}(H:LeFsBuild F):fN (Da F) iA:=fun t4 t5 s0 s32 s48=>leh (b:=Da b6 t4 t5 s0 s32 s48) (leq (by kernel_rfl)) (li (li (li (li (li (li (li (li (li (li (H.f156 _ _ _ _ _ _ _) lr) (H.f156 _ _ _ _ _ _ _)) lr) (H.f156 _ _ _ _ _ _ _)) lr) (H.f156 _ _ _ _ _ _ _)) lr) (li (H.f157 _ _ _ _) (li (H.f157 _ _ _ _) (H.f157 _ _ _ _)))) lr) (li (H.f157 _ _ _ _) (li (H.f157 _ _ _ _) (H.f157 _ _ _ _))))
theorem RQ{F:FsBuild}(H:LeFsBuild F):gE (Db F) je:=fun t4 t5 t6 t7 s0 s32 s48=>leh (b:=Db b6 t4 t5 t6 t7 s0 s32 s48) (leq (by kernel_rfl)) (li (H.f158 _ _ _ _ _ _ _) (H.f158 _ _ _ _ _ _ _))
theorem RR{F:FsBuild}(H:LeFsBuild F):cA (Dd F) gd:=fun t4 s0 s32 s48=>leh (b:=Dd b6 t4 s0 s32 s48) (leq (by kernel_rfl)) (H.f159 _ _ _ _ _ _)
theorem RS{F:FsBuild}(H:LeFsBuild F):gE (De F) mH:=fun t4 t5 t6 t7 s0 s32 s48=>leh (b:=De b6 t4 t5 t6 t7 s0 s32 s48) (leq (by kernel_rfl)) (H.f160 _ _ _ _ _ _ _)
theorem RT{F:FsBuild}(H:LeFsBuild F):fO (Df F) lk:=fun t4 t9 t10 s0 s32 s48=>leh (b:=Df b6 t4 t9 t10 s0 s32 s48) (leq (by kernel_rfl)) (li (li (li (li (H.f159 _ _ _ _ _ _) lr) (H.f159 _ _ _ _ _ _)) lr) lr)
theorem RU{F:FsBuild}(H:LeFsBuild F):gE (Dg F) ll:=fun t4 t5 t7 t8 s0 s32 s48=>leh (b:=Dg b6 t4 t5 t7 t8 s0 s32 s48) (leq (by kernel_rfl)) (li (li (H.f160 _ _ _ _ _ _ _) lr) (H.f155 _ _ _ _ _))
theorem QD{F:FsBuild}(H:LeFsBuild F):cf (BW F) s_NfaOf:=fun t0=>leh (b:=BW b6 t0) (leq (by kernel_rfl)) (lb (H.f162 _) fun _=>(li lr (lb (H.f163 _ _) fun _=>(lb (H.f166 _ _) fun _=>lr))))
theorem QL{F:FsBuild}(H:LeFsBuild F):cf (B6 F) yG:=fun t0=>leh (b:=B6 b6 t0) (leq (by kernel_rfl)) (lb (H.f56 _) fun _=>(li (lb (H.f167 _) fun _=>lr) lr))
theorem RX{F:FsBuild}(H:LeFsBuild F):cg (Dj F) z9:=fun t0 t1=>leh (b:=Dj b6 t0 t1) (leq (by kernel_rfl)) (li (li lr lr) (li (lb (H.f166 _ _) fun _=>lr) (li (li lr lr) (li (lb (H.f166 _ _) fun _=>lr) (li (lb (H.f166 _ _) fun _=>lr) (li (H.f164 _ _ _) (li (lb (H.f171 _ _) fun _=>lr) (li (lb (H.f166 _ _) fun _=>(li (lb (H.f163 _ _) fun _=>(li (li (li (H.f165 _) lr) lr) lr)) lr)) (li (li (lb (H.f163 _ _) fun _=>(li (H.f165 _) lr)) lr) (li (lb (H.f166 _ _) fun _=>(li (lb (H.f163 _ _) fun _=>(li (li (H.f165 _) lr) lr)) lr)) (H.f165 _)))))))))))
theorem RY{F:FsBuild}(H:LeFsBuild F):cI (Dk F) Aa:=fun t0 t6 s48=>leh (b:=Dk b6 t0 t6 s48) (leq (by kernel_rfl)) (li (li (lb (H.f163 _ _) fun _=>(H.f164 _ _ _)) lr) (H.f165 _))
theorem RZ{F:FsBuild}(H:LeFsBuild F):cf (Dl F) Ab:=fun t0=>leh (b:=Dl b6 t0) (leq (by kernel_rfl)) lr
theorem R5{F:FsBuild}(H:LeFsBuild F):cg (Dq F) Ag:=fun t0 t1=>leh (b:=Dq b6 t0 t1) (leq (by kernel_rfl)) (li lr lr)
theorem RJ{F:FsBuild}(H:LeFsBuild F):cf (C4 F) zX:=fun t0=>leh (b:=C4 b6 t0) (leq (by kernel_rfl)) (H.f168 _ _)
theorem RK{F:FsBuild}(H:LeFsBuild F):cg (C5 F) zY:=fun t3 s16=>leh (b:=C5 b6 t3 s16) (leq (by kernel_rfl)) (li (li (lb (H.f167 _) fun _=>(li lr (H.f168 _ _))) lr) (li (lb (H.f0 _ _ _) fun _=>(li (li (li lr lr) lr) lr)) (li (li (li (lb (H.f174 _) fun _=>(li lr lr)) lr) lr) (li (H.f169 _ _ _ _) (H.f169 _ _ _ _)))))
theorem RL{F:FsBuild}(H:LeFsBuild F):cA (C6 F) zZ:=fun t4 t23 t62 s16=>leh (b:=C6 b6 t4 t23 t62 s16) (leq (by kernel_rfl)) (li (li (li (li lr lr) lr) lr) (li (H.f170 _ _ _) (li (H.f170 _ _ _) (H.f170 _ _ _))))
theorem RM{F:FsBuild}(H:LeFsBuild F):cI (C7 F) z0:=fun t4 t82 s16=>leh (b:=C7 b6 t4 t82 s16) (leq (by kernel_rfl)) (li (li (li (li lr lr) lr) lr) (lb (H.f0 _ _ _) fun _=>(li (li (li (li lr lr) lr) lr) lr)))
theorem R0{F:FsBuild}(H:LeFsBuild F):cg (Dm F) Ac:=fun t0 t1=>leh (b:=Dm b6 t0 t1) (leq (by kernel_rfl)) (H.f172 _ _ _ _)
theorem R3{F:FsBuild}(H:LeFsBuild F):cA (Dn F) Ad:=fun t0 t1 t5 t6=>leh (b:=Dn b6 t0 t1 t5 t6) (leq (by kernel_rfl)) (li (lb (H.f166 _ _) fun _=>(li (lb (H.f163 _ _) fun _=>(li (lb (H.f166 _ _) fun _=>(li (li (H.f172 _ _ _ _) lr) lr)) lr)) lr)) (li (lb (H.f163 _ _) fun _=>(H.f173 _ _ _)) lr))
theorem R4{F:FsBuild}(H:LeFsBuild F):cI (Dp F) Ae:=fun t0 t5 t8=>leh (b:=Dp b6 t0 t5 t8) (leq (by kernel_rfl)) (li (li (li (H.f173 _ _ _) lr) lr) lr)
theorem RV{F:FsBuild}(H:LeFsBuild F):cf (Dh F) z5:=fun t0=>leh (b:=Dh b6 t0) (leq (by kernel_rfl)) (H.f175 _ _)
theorem RW{F:FsBuild}(H:LeFsBuild F):cg (Di F) z6:=fun t0 t3=>leh (b:=Di b6 t0 t3) (leq (by kernel_rfl)) (li (li (li (li lr (H.f175 _ _)) lr) lr) lr)
def ni(n:Nat):FsBuild:=Nat.rec ⟨fun _ _ _=>none,fun _=>none,fun _ _=>none,fun _ _=>none,fun _=>none,fun _ _=>none,fun _ _=>none,fun _ _ _=>none,fun _ _ _=>none,fun _ _ _ _ _=>none,fun _=>none,fun _=>none,fun _=>none,fun _ _ _ _=>none,fun _ _ _ _ _ _=>none,fun _ _ _ _ _=>none,fun _ _ _ _=>none,fun _ _ _ _=>none,fun _=>none,fun _=>none,fun _ _ _ _ _ _ _ _=>none,fun _=>none,fun _ _ _ _ _ _ _ _ _ _ _=>none,fun _=>none,fun _ _=>none,fun _ _=>none,none,fun _=>none,fun _=>none,fun _ _=>none,fun _ _ _=>none,fun _ _ _ _ _=>none,fun _ _ _ _ _ _=>none,fun _ _ _ _=>none,fun _=>none,fun _ _ _=>none,fun _ _ _=>none,fun _=>none,fun _=>none,fun _=>none,fun _ _ _=>none,fun _=>none,fun _ _=>none,fun _ _ _ _=>none,fun _ _=>none,fun _ _=>none,fun _=>none,fun _ _ _ _=>none,fun _ _ _ _=>none,fun _ _ _ _ _=>none,fun _ _ _ _=>none,fun _ _ _ _ _ _=>none,fun _ _ _ _ _=>none,fun _ _ _ _ _ _=>none,fun _ _=>none,fun _ _ _ _=>none,fun _=>none,fun _ _ _=>none,fun _=>none,fun _ _ _=>none,fun _ _ _ _=>none,fun _ _=>none,fun _=>none,fun _=>none,fun _ _ _ _ _ _ _ _ _=>none,fun _ _=>none,fun _=>none,fun _ _ _ _ _ _ _=>none,fun _ _=>none,fun _=>none,fun _ _=>none,fun _=>none,fun _ _=>none,fun _=>none,fun _ _=>none,fun _ _ _=>none,fun _=>none,fun _ _=>none,fun _ _ _=>none,fun _ _ _=>none,fun _ _ _ _=>none,fun _ _ _ _=>none,fun _ _ _ _=>none,fun _ _ _ _=>none,fun _ _ _ _=>none,fun _ _ _ _=>none,fun _ _=>none,fun _ _ _ _=>none,fun _ _=>none,fun _ _=>none,fun _ _ _=>none,fun _ _ _ _=>none,fun _ _ _=>none,fun _ _=>none,fun _ _ _=>none,fun _=>none,fun _ _=>none,fun _ _ _=>none,fun _ _=>none,fun _ _ _ _=>none,fun _ _=>none,fun _=>none,fun _=>none,fun _ _=>none,fun _=>none,fun _ _ _=>none,fun _=>none,fun _ _=>none,fun _ _ _=>none,fun _ _ _ _=>none,fun _ _ _ _=>none,fun _ _ _ _ _=>none,fun _ _ _ _=>none,fun _ _ _ _=>none,fun _ _=>none,fun _ _ _=>none,fun _=>none,fun _ _=>none,fun _ _ _=>none,fun _ _ _ _=>none,fun _=>none,fun _ _=>none,fun _=>none,fun _ _ _ _ _ _ _ _ _=>none,fun _ _=>none,fun _ _ _=>none,fun _=>none,fun _=>none,fun _ _ _ _ _ _ _ _=>none,fun _=>none,fun _ _ _ _ _ _=>none,fun _=>none,fun _ _=>none,fun _ _ _ _ _ _=>none,fun _ _ _ _ _ _ _=>none,fun _ _ _ _ _ _ _=>none,fun _=>none,fun _ _ _ _=>none,fun _ _ _ _=>none,fun _ _ _ _=>none,fun _ _ _ _=>none,fun _ _ _=>none,fun _=>none,fun _ _=>none,fun _ _=>none,fun _ _ _=>none,fun _=>none,fun _ _ _ _=>none,fun _=>none,fun _ _ _=>none,fun _ _ _=>none,fun _ _=>none,fun _ _=>none,fun _=>none,fun _ _ _=>none,fun _ _ _ _ _=>none,fun _ _ _ _ _ _ _=>none,fun _ _ _ _=>none,fun _ _ _ _ _ _ _=>none,fun _ _ _ _ _ _=>none,fun _ _ _ _ _ _ _=>none,fun _=>none,fun _=>none,fun _ _=>none,fun _ _ _=>none,fun _=>none,fun _ _=>none,fun _=>none,fun _ _=>none,fun _ _ _ _=>none,fun _ _ _=>none,fun _ _=>none,fun _ _ _ _=>none,fun _ _ _=>none,fun _=>none,fun _ _=>none⟩ (fun _ F=>⟨CP F,B3 F,B4 F,B5 F,Ey F,Ez F,DG F,DH F,BX F,BZ F,BB F,Dt F,BS F,Cs F,Ct F,Cu F,Cv F,Cw F,BP F,B0 F,B1 F,BH F,BI F,Ew F,Ex F,CQ F,Ds F,B7 F,BJ F,BK F,BL F,BM F,BN F,BO F,Ca F,Cb F,Cc F,D8 F,Eb F,BQ F,BR F,BC F,BD F,BE F,BF F,BG F,BU F,BV F,Cz F,CA F,CB F,CC F,CD F,CK F,CZ F,C0 F,CU F,CV F,CR F,Dy F,Dz F,DW F,D7 F,DM F,DN F,Ec F,DR F,DS F,DX F,B8 F,B9 F,Cg F,Ch F,Cd F,Ce F,Cf F,Cn F,Cp F,Ci F,Cj F,Ck F,CM F,CL F,Cy F,CG F,CF F,CX F,CY F,CW F,Du F,Dv F,Dw F,Dx F,DE F,DF F,Dr F,DA F,DB F,DC F,DD F,Eg F,Ef F,D6 F,D4 F,EA F,EB F,En F,Cl F,Cm F,CH F,CI F,CJ F,CE F,CN F,Cq F,Cr F,CO F,C1 F,C2 F,C3 F,DJ F,Ei F,Ed F,Ee F,DT F,DU F,D5 F,DP F,DQ F,D9 F,Ea F,Eh F,DY F,DZ F,D0 F,D3 F,Eo F,Ep F,Er F,Es F,Et F,Ev F,EC F,ED F,CS F,CT F,DK F,DL F,DI F,El F,Em F,Ej F,Ek F,C8 F,C9 F,Da F,Db F,Dd F,De F,Df F,Dg F,BW F,B6 F,Dj F,Dk F,Dl F,Dq F,C4 F,C5 F,C6 F,C7 F,Dm F,Dn F,Dp F,Dh F,Di F⟩) n
theorem bZ:∀ n,LeFsBuild (ni n)
 | 0=>⟨fun _ _ _=>ln,fun _=>ln,fun _ _=>ln,fun _ _=>ln,fun _=>ln,fun _ _=>ln,fun _ _=>ln,fun _ _ _=>ln,fun _ _ _=>ln,fun _ _ _ _ _=>ln,fun _=>ln,fun _=>ln,fun _=>ln,fun _ _ _ _=>ln,fun _ _ _ _ _ _=>ln,fun _ _ _ _ _=>ln,fun _ _ _ _=>ln,fun _ _ _ _=>ln,fun _=>ln,fun _=>ln,fun _ _ _ _ _ _ _ _=>ln,fun _=>ln,fun _ _ _ _ _ _ _ _ _ _ _=>ln,fun _=>ln,fun _ _=>ln,fun _ _=>ln,ln,fun _=>ln,fun _=>ln,fun _ _=>ln,fun _ _ _=>ln,fun _ _ _ _ _=>ln,fun _ _ _ _ _ _=>ln,fun _ _ _ _=>ln,fun _=>ln,fun _ _ _=>ln,fun _ _ _=>ln,fun _=>ln,fun _=>ln,fun _=>ln,fun _ _ _=>ln,fun _=>ln,fun _ _=>ln,fun _ _ _ _=>ln,fun _ _=>ln,fun _ _=>ln,fun _=>ln,fun _ _ _ _=>ln,fun _ _ _ _=>ln,fun _ _ _ _ _=>ln,fun _ _ _ _=>ln,fun _ _ _ _ _ _=>ln,fun _ _ _ _ _=>ln,fun _ _ _ _ _ _=>ln,fun _ _=>ln,fun _ _ _ _=>ln,fun _=>ln,fun _ _ _=>ln,fun _=>ln,fun _ _ _=>ln,fun _ _ _ _=>ln,fun _ _=>ln,fun _=>ln,fun _=>ln,fun _ _ _ _ _ _ _ _ _=>ln,fun _ _=>ln,fun _=>ln,fun _ _ _ _ _ _ _=>ln,fun _ _=>ln,fun _=>ln,fun _ _=>ln,fun _=>ln,fun _ _=>ln,fun _=>ln,fun _ _=>ln,fun _ _ _=>ln,fun _=>ln,fun _ _=>ln,fun _ _ _=>ln,fun _ _ _=>ln,fun _ _ _ _=>ln,fun _ _ _ _=>ln,fun _ _ _ _=>ln,fun _ _ _ _=>ln,fun _ _ _ _=>ln,fun _ _ _ _=>ln,fun _ _=>ln,fun _ _ _ _=>ln,fun _ _=>ln,fun _ _=>ln,fun _ _ _=>ln,fun _ _ _ _=>ln,fun _ _ _=>ln,fun _ _=>ln,fun _ _ _=>ln,fun _=>ln,fun _ _=>ln,fun _ _ _=>ln,fun _ _=>ln,fun _ _ _ _=>ln,fun _ _=>ln,fun _=>ln,fun _=>ln,fun _ _=>ln,fun _=>ln,fun _ _ _=>ln,fun _=>ln,fun _ _=>ln,fun _ _ _=>ln,fun _ _ _ _=>ln,fun _ _ _ _=>ln,fun _ _ _ _ _=>ln,fun _ _ _ _=>ln,fun _ _ _ _=>ln,fun _ _=>ln,fun _ _ _=>ln,fun _=>ln,fun _ _=>ln,fun _ _ _=>ln,fun _ _ _ _=>ln,fun _=>ln,fun _ _=>ln,fun _=>ln,fun _ _ _ _ _ _ _ _ _=>ln,fun _ _=>ln,fun _ _ _=>ln,fun _=>ln,fun _=>ln,fun _ _ _ _ _ _ _ _=>ln,fun _=>ln,fun _ _ _ _ _ _=>ln,fun _=>ln,fun _ _=>ln,fun _ _ _ _ _ _=>ln,fun _ _ _ _ _ _ _=>ln,fun _ _ _ _ _ _ _=>ln,fun _=>ln,fun _ _ _ _=>ln,fun _ _ _ _=>ln,fun _ _ _ _=>ln,fun _ _ _ _=>ln,fun _ _ _=>ln,fun _=>ln,fun _ _=>ln,fun _ _=>ln,fun _ _ _=>ln,fun _=>ln,fun _ _ _ _=>ln,fun _=>ln,fun _ _ _=>ln,fun _ _ _=>ln,fun _ _=>ln,fun _ _=>ln,fun _=>ln,fun _ _ _=>ln,fun _ _ _ _ _=>ln,fun _ _ _ _ _ _ _=>ln,fun _ _ _ _=>ln,fun _ _ _ _ _ _ _=>ln,fun _ _ _ _ _ _=>ln,fun _ _ _ _ _ _ _=>ln,fun _=>ln,fun _=>ln,fun _ _=>ln,fun _ _ _=>ln,fun _=>ln,fun _ _=>ln,fun _=>ln,fun _ _=>ln,fun _ _ _ _=>ln,fun _ _ _=>ln,fun _ _=>ln,fun _ _ _ _=>ln,fun _ _ _=>ln,fun _=>ln,fun _ _=>ln⟩
 | n+1=>⟨Ru (bZ n),QI (bZ n),QJ (bZ n),QK (bZ n),Te (bZ n),Tf (bZ n),Sl (bZ n),Sm (bZ n),QE (bZ n),QF (bZ n),Qj (bZ n),R8 (bZ n),QA (bZ n),Q8 (bZ n),Q9 (bZ n),Ra (bZ n),Rb (bZ n),Rc (bZ n),Qx (bZ n),QG (bZ n),QH (bZ n),Qp (bZ n),Qq (bZ n),Tc (bZ n),Td (bZ n),Rv (bZ n),R7 (bZ n),QM (bZ n),Qr (bZ n),Qs (bZ n),Qt (bZ n),Qu (bZ n),Qv (bZ n),Qw (bZ n),QP (bZ n),QQ (bZ n),QR (bZ n),SL (bZ n),SO (bZ n),Qy (bZ n),Qz (bZ n),Qk (bZ n),Ql (bZ n),Qm (bZ n),Qn (bZ n),Qo (bZ n),QB (bZ n),QC (bZ n),Re (bZ n),Rf (bZ n),Rg (bZ n),Rh (bZ n),Ri (bZ n),Rp (bZ n),RE (bZ n),RF (bZ n),Rz (bZ n),RA (bZ n),Rw (bZ n),Sd (bZ n),Se (bZ n),SB (bZ n),SK (bZ n),Ss (bZ n),Su (bZ n),SP (bZ n),Sx (bZ n),Sy (bZ n),SC (bZ n),QN (bZ n),QO (bZ n),QV (bZ n),QW (bZ n),QS (bZ n),QT (bZ n),QU (bZ n),Q4 (bZ n),Q5 (bZ n),QX (bZ n),QY (bZ n),QZ (bZ n),Rr (bZ n),Rq (bZ n),Rd (bZ n),Rl (bZ n),Rk (bZ n),RC (bZ n),RD (bZ n),RB (bZ n),R9 (bZ n),Sa (bZ n),Sb (bZ n),Sc (bZ n),Sj (bZ n),Sk (bZ n),R6 (bZ n),Sf (bZ n),Sg (bZ n),Sh (bZ n),Si (bZ n),ST (bZ n),SS (bZ n),SJ (bZ n),SH (bZ n),Tg (bZ n),Th (bZ n),S5 (bZ n),Q0 (bZ n),Q3 (bZ n),Rm (bZ n),Rn (bZ n),Ro (bZ n),Rj (bZ n),Rs (bZ n),Q6 (bZ n),Q7 (bZ n),Rt (bZ n),RG (bZ n),RH (bZ n),RI (bZ n),Sp (bZ n),SV (bZ n),SQ (bZ n),SR (bZ n),Sz (bZ n),SA (bZ n),SI (bZ n),Sv (bZ n),Sw (bZ n),SM (bZ n),SN (bZ n),SU (bZ n),SD (bZ n),SE (bZ n),SF (bZ n),SG (bZ n),S6 (bZ n),S7 (bZ n),S8 (bZ n),S9 (bZ n),Ta (bZ n),Tb (bZ n),Ti (bZ n),Tj (bZ n),Rx (bZ n),Ry (bZ n),Sq (bZ n),Sr (bZ n),So (bZ n),SZ (bZ n),S4 (bZ n),SX (bZ n),SY (bZ n),RN (bZ n),RO (bZ n),RP (bZ n),RQ (bZ n),RR (bZ n),RS (bZ n),RT (bZ n),RU (bZ n),QD (bZ n),QL (bZ n),RX (bZ n),RY (bZ n),RZ (bZ n),R5 (bZ n),RJ (bZ n),RK (bZ n),RL (bZ n),RM (bZ n),R0 (bZ n),R3 (bZ n),R4 (bZ n),RV (bZ n),RW (bZ n)⟩
theorem fR(a b c:Int):eV a b c=some (decide (b≤a∧a≤c),()):=by
 rw[Pk]
 by_cases h:a≥b
 ·rw[bw (by simp[h])];simp[show b≤a from h]
 ·rw[bz (by simp[h])];simp[show ¬ b≤a from h]
set_option linter.defProp false
def aZ:=@List.getElem_mem
def isD(x:Int):Bool:=decide (48≤x)&&decide (x≤57)
theorem nC(x:Int):isD x=true↔48≤x∧x≤57:=by unfold isD;rw[aD,ab,ab]
def cJ(l:List Int):List Int:=l.takeWhile isD
theorem NM{x:Int}{l:List Int}(h:isD x=true):cJ (x::l)=x::cJ l:=List.takeWhile_cons_of_pos h
theorem NL{x:Int}{l:List Int}(h:isD x=false):cJ (x::l)=[]:=List.takeWhile_cons_of_neg (by rw[h];decide)
theorem rt{s:List Int}{i:Nat}(hi:i<s.length)(h:isD s[i]=true):cJ (s.drop i)=s[i]::cJ (s.drop (i+1)):=by rw[aj hi,NM h]
theorem o6{s:List Int}{i:Nat}(hi:i<s.length)(h:isD s[i]=false):cJ (s.drop i)=[]:=by rw[aj hi,NL h]
theorem ng{s:List Int}{i:Nat}(hi:s.length≤i):cJ (s.drop i)=[]:=by rw[a7 hi];rfl
def AllD(l:List Int):Prop:=∀ x∈l,48≤x∧x≤57
theorem lJ(l:List Int):AllD (cJ l):=fun x hx=>(nC x).1 (List.all_eq_true.1 (List.all_takeWhile ..) x hx)
theorem AllD.tail{c:Int}{l:List Int}(h:AllD (c::l)):AllD l:=fun x hx=>h x (aI _ hx)
theorem AllD.head{c:Int}{l:List Int}(h:AllD (c::l)):48≤c∧c≤57:=h c (aH ..)
theorem ru(l:List Int):(cJ l).length≤l.length:=(List.takeWhile_sublist _).length_le
theorem GE(l:List Int):l.take (cJ l).length=cJ l:=by
 unfold cJ
 have h:=List.takeWhile_append_dropWhile (p:=isD) (l:=l)
 have:l.take (l.takeWhile isD).length=(l.takeWhile isD++l.dropWhile isD).take (l.takeWhile isD).length:=by rw[h]
 rw[this,List.take_left]
def dv(a:Int)(l:List Int):Int:=l.foldl (fun n c=>10*n+(c-48)) a
theorem iM(a c:Int)(l:List Int):dv a (c::l)=dv (10*a+(c-48)) l:=rfl
theorem vC(a:Int)(l m:List Int):dv a (l++m)=dv (dv a l) m:=List.foldl_append ..
theorem kt:∀ (l:List Int) (a:Int),dv a l=a*10 ^ l.length+dv 0 l
 | [],a=>by simp[dv]
 | c::l,a=>by
  rw[iM,iM,kt l (10*a+(c-48)),kt l (10*0+(c-48)),aW,Int.pow_succ,Int.add_mul,Int.mul_zero,Int.zero_add,← Int.add_assoc]
  congr 2
  rw[Int.mul_comm 10 a,Int.mul_assoc,Int.mul_comm 10]
theorem kr:∀ (l:List Int) (a:Int),AllD l→0≤a→0≤dv a l
 | [],a,_,h=>h
 | c::l,a,hd,h=>kr l (10*a+(c-48)) hd.tail (by have:=hd.head;omega)
theorem GI:∀ (l:List Int),dv 0 (l.dropWhile (fun x=>decide (x=48)))=dv 0 l
 | []=>rfl
 | c::l=>by
  by_cases h:c=48
  ·rw[List.dropWhile_cons_of_pos (by simp[h]),GI l,iM,h];rfl
  ·rw[List.dropWhile_cons_of_neg (by simp[h])]
theorem vD:∀ (l:List Int),AllD l→dv 0 l<10 ^ l.length
 | [],_=>by simp[dv]
 | c::l,hd=>by
  have h1:=vD l hd.tail
  have h2:=hd.head
  rw[iM,kt,aW,Int.pow_succ]
  have:(10*0+(c-48))*10 ^ l.length≤9*10 ^ l.length:=Int.mul_le_mul_of_nonneg_right (by omega) (Int.le_of_lt (Int.pow_pos (by omega)))
  omega
theorem NS{l:List Int}(hd:AllD l)(h0:∀ c r,l=c::r→c≠48)(h:7<l.length):10000000≤dv 0 l:=by
 cases l with
 | nil=>cases h
 | cons c r =>
  have h1:=hd.head
  have h2:=h0 c r rfl
  have h3:=kr r 0 hd.tail (Int.le_refl 0)
  rw[iM,kt]
  simp only[aW]at h
  have h4:(10:Int) ^ 7≤10 ^ r.length:=by
   have:(10:Nat) ^ 7≤10 ^ r.length:=Nat.pow_le_pow_right (by omega) (by omega)
   exact_mod_cast this
  have h5:1*(10:Int) ^ r.length≤(10*0+(c-48))*10 ^ r.length:=Int.mul_le_mul_of_nonneg_right (by omega) (Int.le_of_lt (Int.pow_pos (by omega)))
  omega
def fr:List Int→Int→Int
 | [],_=>0
 | c::l,u=>(c-48)*u+fr l (u/10)
theorem G7:∀ l:List Int,fr l 0=0
 | []=>rfl
 | c::l=>by show(c-48)*0+fr l (0/10)=0;rw[Int.mul_zero,show(0:Int)/10=0 from rfl,G7 l];rfl
def um:Nat→Int
 | 0=>0
 | k+1=>10 ^ k
theorem YN(k:Nat):um (k+1)/10=um k:=by
 cases k with
 | zero=>rfl
 | succ k=>show(10:Int) ^ (k+1)/10=10 ^ k;rw[Int.pow_succ];omega
theorem vE:∀ k:Nat,dv 0 (List.replicate k 48)=0
 | 0=>rfl
 | k+1=>by rw[List.replicate_succ,iM];exact vE k
theorem vT:∀ (l:List Int) (k m:Nat),k≤m→fr l (um k)=dv 0 ((l++List.replicate m 48).take k)
 | [],k,m,h=>by rw[bl,List.take_replicate,Nat.min_eq_left h,vE];rfl
 | c::l,0,m,h=>by rw[List.take_zero];exact G7 _
 | c::l,k+1,m,h=>by
  rw[List.cons_append,List.take_succ_cons,iM,kt,aU,ah,bf,Nat.min_eq_left (by omega),← vT l k m (by omega)]
  show(c-48)*10 ^ k+fr l (um (k+1)/10)=_
  rw[YN,Int.mul_zero,Int.zero_add]
theorem pg(l:List Int)(hd:AllD l):0≤fr l 100000∧fr l 100000<1000000:=by
 have e:fr l 100000=dv 0 ((l++List.replicate 6 48).take 6):=vT l 6 6 (aK 6)
 have hd':AllD ((l++List.replicate 6 48).take 6):=fun x hx=>by
  rcases aE.1 (List.mem_of_mem_take hx)with h | h
  ·exact hd x h
  ·rw[(List.mem_replicate.1 h).2];omega
 have h1:=vD _ hd'
 have h2:((l++List.replicate 6 48).take 6).length=6:=by rw[aU,ah,bf];omega
 rw[h2]at h1
 rw[e]
 exact⟨kr _ _ hd' (Int.le_refl 0),h1⟩
def sat:Int→List Int→Int
 | n,[]=>n
 | n,c::l=>if n≤9000000000000 then sat (10*n+(c-48)*1000000) l else sat n l
theorem KL:∀ (l:List Int) (n:Int),9000000000000<n→sat n l=n
 | [],n,_=>rfl
 | c::l,n,h=>by unfold sat;rw[aq];exact KL l n h
theorem KM:∀ (l:List Int) (a:Int),AllD l→0≤a→(sat (a*1000000) l=dv a l*1000000)∨(9000000000000<sat (a*1000000) l∧9000000000000<dv a l*1000000)
 | [],a,_,_=>.inl rfl
 | c::l,a,hd,h=>by
  have hc:=hd.head
  unfold sat
  rw[iM]
  by_cases hn:a*1000000≤9000000000000
  ·rw[bw hn,show 10*(a*1000000)+(c-48)*1000000=(10*a+(c-48))*1000000 by omega]
   exact KM l _ hd.tail (by omega)
  ·rw[bz hn,KL _ _ (by omega)]
   refine .inr ⟨by omega,?_⟩
   have h1:=kr l 0 hd.tail (Int.le_refl 0)
   have h2:a*1≤(10*a+(c-48))*10 ^ l.length:=Int.mul_le_mul (by omega) (by have:(0:Int)<10 ^ l.length:=Int.pow_pos (by omega);omega) (by omega) (by omega)
   rw[kt]
   omega
theorem EG(c:Int):∀ l:List Int,l.length≤4294967296→oF l c=some (l.dropWhile (fun x=>decide (x=c)),())
 | [],h=>by rw[LV,bz (by simp)];rfl
 | x::l,h=>by
  simp only[aW]at h
  rw[LV,am ((by simp only[aW];omega)),bw (by simp only[aW];omega)]
  by_cases hx:x=c
  ·rw[bw (by simp[hx]),bw (by simp only[aW];omega),List.dropWhile_cons_of_pos (by simp[hx])]
   have:List.take ((x::l).length-1) (List.drop 1 (x::l))=l:=by simp
   rw[this]
   exact EG c l (by omega)
  ·rw[bz (by simpa using hx),List.dropWhile_cons_of_neg (by simpa using hx)]
theorem Fl(l:List Int)(c:Int)(hc:c<128)(h:l.length≤4294967296):uB l [c]=some (l.dropWhile (fun x=>decide (x=c)),()):=by
 rw[Zi]
 by_cases h0:l=[]
 ·rw[am h0,h0];rfl
 ·rw[al h0,bz (by simp),bw (by simp),bw (by simp),bw (by simpa using hc),bw (by simp),LW]
  show Option.bind (oF l c) _=_
  rw[EG c l h];rfl
theorem YH(c:Int):∀ (n:Nat) (l:List Int),l.length=n→l.length≤4294967296→∃ r,qM l c=some (r,())∧r.length≤l.length∧((∀ x∈r,x=c) ↔ ∀ x∈l,x=c):=by
 intro n
 induction n with
 | zero =>
  intro l hl h
  have:l=[]:=List.eq_nil_of_length_eq_zero hl
  subst this
  exact⟨[],by rw[LY,bz (by simp)],aK _,Iff.rfl⟩
 | succ n ih =>
  intro l hl h
  rw[LY,au,aw,ap,show((l.length:Int)-1).toNat=l.length-1 by omega,di (by omega)]
  by_cases hx:l[l.length-1]=c
  ·rw[am hx,ap]
   have e:List.take (l.length-1-0) (List.drop 0 l)=l.take (l.length-1):=rfl
   rw[e]
   obtain⟨r,r1,r2,r3⟩:=ih (l.take (l.length-1)) (by rw[aU];omega) (by rw[aU];omega)
   have hs:l=l.take (l.length-1)++[c]:=by
    have h1:=List.take_append_drop (l.length-1) l
    have h2:l.drop (l.length-1)=[l[l.length-1]]:=by
     rw[aj (by omega),a7 (by omega)]
    rw[h2,hx]at h1
    exact h1.symm
   rw[aU]at r2
   refine⟨r,r1,by omega,r3.trans ?_⟩
   constructor
   ·intro h5 x hx5
    rw[hs]at hx5
    rcases aE.1 hx5 with h6 | h6
    ·exact h5 x h6
    ·exact aN.1 h6
   ·intro h5 x hx5
    exact h5 x (List.mem_of_mem_take hx5)
  ·rw[al hx]
   exact⟨l,rfl,aK _,Iff.rfl⟩
theorem GH(c:Int):∀ l:List Int,l.dropWhile (fun x=>decide (x=c))=[] ↔ ∀ x∈l,x=c
 | []=>by simp
 | a::l=>by
  by_cases h:a=c
  ·rw[List.dropWhile_cons_of_pos (by simp[h]),GH c l]
   simp[h]
  ·rw[List.dropWhile_cons_of_neg (by simp[h])]
   simp[h]
theorem Me(l:List Int)(h:l.length≤4294967296):∃ r,EV l [32]=some (r,())∧(r=[] ↔ ∀ x∈l,x=32):=by
 rw[Zj]
 by_cases h0:l=[]
 ·rw[am h0];exact⟨l,rfl,by simp[h0]⟩
 ·obtain⟨r,r1,r2,r3⟩:=YH 32 l.length l rfl h
  rw[al h0,bz (by simp),bw (by simp),bw (by simp),bw (by simp),bw (by simp),Zk]
  show ∃ x,(Option.bind (qM l 32) _)=some (x,())∧_
  rw[r1,aa,bw (by simp),LW]
  show ∃ x,(Option.bind (oF r 32) _)=some (x,())∧_
  rw[EG 32 r (by omega)]
  exact⟨_,rfl,(GH 32 r).trans r3⟩
theorem MA(t:List Int)(ht:t.length≤18)(hd:AllD t)(h0:∀ c r,t=c::r→c≠45)(hne:t≠[]):∀ (d i:Nat) (n:Int),i+d=t.length→0≤n→n<10 ^ i→uA t n t (t.length:Int) (i:Int)=some (dv n (t.drop i),(),()):=by
 intro d
 induction d with
 | zero =>
  intro i n hi n0 n1
  rw[LH,av,bw (by have:=List.length_pos_iff.2 hne;omega),a7 (by omega)]
  cases t with
  | nil=>exact absurd rfl hne
  | cons c r=>rw[bz (by have:=h0 c r rfl;simpa using this)];rfl
 | succ d ih =>
  intro i n hi n0 n1
  have hlt:i<t.length:=by omega
  have hx:=hd _ (aZ hlt)
  have hp:(10:Int) ^ i≤10 ^ 17:=by
   have:(10:Nat) ^ i≤10 ^ 17:=Nat.pow_le_pow_right (by omega) (by omega)
   exact_mod_cast this
  have hp1:(10:Int) ^ (i+1)=10 ^ i*10:=Int.pow_succ ..
  have e8:w8 (t[i]-48)=t[i]-48:=uq (by omega) (by omega)
  rw[LH,au,ap,cW hlt,e8,av,aw (n:=n*10),aw (n:=t[i]-48),aw,cE hlt (by omega),ih (i+1) _ (by omega) (by omega) (by omega),aj hlt,iM,Int.mul_comm n 10]
theorem MB(t:List Int)(ht:t.length≤18)(hd:AllD t)(hne:t≠[]):ET t=some (dv 0 t,(),()):=by
 have hp:=List.length_pos_iff.2 hne
 have h0:∀ c r,t=c::r→c≠45∧c≠43:=fun c r h=>by
  subst h;have:=hd.head;omega
 have hg:∀ z,t.getD 0 z≠45∧t.getD 0 z≠43:=fun z=>by
  cases t with
  | nil=>exact absurd rfl hne
  | cons c r=>exact h0 c r rfl
 rw[Zf,Y3,au,au,ap,al (by exact(hg 0).1),ap,al (by exact(hg 0).2),Y2,bw (by rw[ce];omega)]
 have:=MA t ht hd (fun c r h=>(h0 c r h).1) hne t.length 0 0 (by omega) (by omega) (by simp)
 rw[show(((0:Nat)):Int)=0 from rfl,aQ]at this
 rw[this];rfl
theorem OH(n:Int):fg n=some (decide (-9000000000000≤n∧n≤9000000000000),()):=by rw[Hj,fR];rfl
theorem PL(n:Int):wD n=some (if -9000000000000≤n∧n≤9000000000000 then(n,true,()) else(0,false,())):=by
 rw[PK,OH,aa]
 by_cases h:-9000000000000≤n∧n≤9000000000000
 ·rw[ac h,bz (by simp),bw h]
 ·rw[af h,bw (by simp),bz h]
theorem TI(w r:List Int)(hw:AllD w)(hr:AllD r)(lw:w.length≤1000000)(lr:r.length≤1000000):pt w r=some (if dv 0 w*1000000+fr r 100000≤9000000000000 then(dv 0 w*1000000+fr r 100000,true,()) else(0,false,())):=by
 rw[Pr,Fl _ _ (by omega) (by omega),aa]
 have hb:=pg r hr
 have hz:=GI w
 have hT:AllD (w.dropWhile (fun x=>decide (x=48))):=fun x hx=>hw x ((List.dropWhile_sublist _).subset hx)
 have hTl:(w.dropWhile (fun x=>decide (x=48))).length≤w.length:=(List.dropWhile_sublist _).length_le
 have hT0:∀ c r,w.dropWhile (fun x=>decide (x=48))=c::r→c≠48:=fun c r h=>by
  have:=List.head?_dropWhile_not (fun x=>decide (x=48)) w
  rw[h]at this
  simpa using this
 generalize w.dropWhile (fun x=>decide (x=48))=T at *
 rw[bw (by simp only[aW,List.length_nil];omega),bw (by rw[ah];simp only[aW,List.length_nil];omega)]
 by_cases h7:(T.length:Int)>7
 ·have:=NS hT hT0 (by omega)
  rw[am h7,aq]
 ·have e6:List.take (6-0) (List.drop 0 (r++[48,48,48,48,48,48]))=(r++List.replicate 6 48).take 6:=rfl
  have hR:AllD ((r++List.replicate 6 48).take 6):=fun x hx=>by
   rcases aE.1 (List.mem_of_mem_take hx)with h | h
   ·exact hr x h
   ·rw[(List.mem_replicate.1 h).2];omega
  have hRl:((r++List.replicate 6 48).take 6).length=6:=by rw[aU,ah,bf];omega
  have hRv:dv 0 ((r++List.replicate 6 48).take 6)=fr r 100000:=(vT r 6 6 (aK 6)).symm
  rw[e6,al h7]
  generalize (r++List.replicate 6 48).take 6=R at *
  rw[bw (by simp only[aW,List.length_nil];omega),bw (by simp only[ah,aW,List.length_nil];omega)]
  have hall:AllD (([48]++T)++R):=fun x hx=>by
   rcases aE.1 hx with h | h
   ·rcases aE.1 h with h | h
    ·rw[aN.1 h];omega
    ·exact hT x h
   ·exact hR x h
  rw[MB _ (by simp only[ah,aW,List.length_nil];omega) hall (by simp),aa]
  have ev:dv 0 (([48]++T)++R)=dv 0 w*1000000+fr r 100000:=by
   rw[vC,vC,kt,hRl,hRv,show dv 0 [48]=0 from rfl,hz];rfl
  have hn:=kr w 0 hw (Int.le_refl 0)
  rw[ev,PL,aa]
  by_cases hm:dv 0 w*1000000+fr r 100000≤9000000000000
  ·rw[bw hm,bw ⟨by omega,hm⟩]
  ·rw[bz hm,bz (fun x=>hm x.2)]
set_option linter.defProp false
def bh:=@Int.tdiv_eq_ediv_of_nonneg
def Bt(b:List Int):Prop:=∀ x∈b,0≤x∧x≤255
theorem nF(x:Int):jb x=some (isD x,()):=by
 rw[Xx]
 unfold isD
 by_cases h:x≥48
 ·rw[am h,show decide (48≤x)=true from ac h,Bool.true_and]
 ·rw[al h,show decide (48≤x)=false from af h,Bool.false_and]
def fin(p:Int)(b:Bool)(n m:Int):Option (Int×Int×Unit):=if m=0 then some (0,0,())else if n>9000000000000 then some (0,0,())else some (if b=true then 0-n else n,p,())
theorem E8(p:Int)(b:Bool)(n m:Int)(h0:0≤n):eQ p b n m=fin p b n m:=by
 rw[JD]
 unfold fin
 by_cases h1:m=0
 ·rw[am h1,bw h1]
 ·rw[al h1,bz h1]
  by_cases h2:n>9000000000000
  ·rw[am h2,bw h2]
  ·rw[al h2,bz h2,aw]
   cases b <;> rfl
theorem Mc(s:List Int)(hs:s.length≤1000000)(b:Bool):∀ (d i:Nat) (n m u:Int),i+d=s.length→0≤n→0≤u→u≤100000→n≤200000000000000+1000000*i→0≤m→m≤2000000+i →
  ∃ n',iY s (i:Int) b n m u=eQ ((i+(cJ (s.drop i)).length:Nat):Int) b n' (m+(cJ (s.drop i)).length)∧n'=n+fr (cJ (s.drop i)) u:=by
 intro d
 induction d with
 | zero =>
  intro i n m u hd h0 hu hu2 hn hm hm2
  rw[ng (show s.length≤i by omega)]
  refine⟨n,?_,by show n=n+0;omega⟩
  rw[sP,av]
  simp
 | succ d ih =>
  intro i n m u hd h0 hu hu2 hn hm hm2
  have hi:i<s.length:=by omega
  rw[sP,au,ap,cW hi,nF,aa]
  cases hx:isD s[i] with
  | true =>
   have hxb:=(nC _).1 hx
   have hmul:0≤(s[i]-48)*u∧(s[i]-48)*u≤900000:=by
    have h1:(s[i]-48)*u≤9*u:=Int.mul_le_mul_of_nonneg_right (by omega) hu
    exact⟨Int.mul_nonneg (by omega) hu,by omega⟩
   rw[bw rfl,ap,bh hu,aw (n:=s[i]),aw (n:=s[i]-48),aw (n:=(s[i]-48)*u),aw (n:=n+(s[i]-48)*u),aw (n:=m+1),aw (n:=u/10),cE hi (by omega)]
   obtain⟨n',e1,e2⟩:=ih (i+1) (n+(s[i]-48)*u) (m+1) (u/10) (by omega) (by omega) (by omega) (by omega) (by omega) (by omega) (by omega)
   rw[rt hi hx,aW]
   refine⟨n',?_,?_⟩
   ·rw[e1]
    congr 1
    ·omega
    ·omega
   ·rw[e2]
    show _=n+((s[i]-48)*u+fr _ (u/10))
    omega
  | false =>
   rw[bz (by simp),o6 hi hx]
   exact⟨n,by simp,by show n=n+0;omega⟩
def dw(s:List Int)(p:Nat):List Int:=if s[p]? = some 46 then cJ (s.drop (p+1))else []
def gL(s:List Int)(p:Nat):Nat:=if dw s p=[]then p else p+1+(dw s p).length
theorem E7(s:List Int)(hs:s.length≤1000000)(b:Bool)(p:Nat)(hp:p≤s.length)(n m:Int)(h0:0≤n)(hn:n≤100000000000000)(hm:0≤m)(hm2:m≤1000000) :
  (if(decide ((w64 ((p:Int)+1))<(List.length s:Int)))=true then
   if(0:Int)≤(p:Int)∧(p:Int)<(List.length s:Int) then
    if(decide ((List.getD s (p:Int).toNat 0)=46))=true then
     if(0:Int)≤(w64 ((p:Int)+1))∧(w64 ((p:Int)+1))<(List.length s:Int) then
      (jb (List.getD s (w64 ((p:Int)+1)).toNat 0)).bind fun(r2:Bool×Unit) =>
      if r2.1=true then
       iY s (w64 ((p:Int)+1)) b n m 100000
      else
       eQ (p:Int) b n m
     else none
    else
     eQ (p:Int) b n m
   else none
  else
   eQ (p:Int) b n m)=fin (gL s p) b (n+fr (dw s p) 100000) (m+(dw s p).length):=by
 have hw:w64 ((p:Int)+1)=((p+1:Nat):Int):=cE (n:=1000001) (by omega) (by omega)
 rw[hw]
 have none:dw s p=[]→eQ (p:Int) b n m=fin (gL s p) b (n+fr (dw s p) 100000) (m+(dw s p).length):=by
  intro h
  unfold gL
  rw[h,bw rfl,E8 _ _ _ _ h0]
  show fin p b n m=fin p b (n+0) (m+(0:Nat))
  congr 1
  ·omega
  ·omega
 by_cases h1:((p+1:Nat):Int)<(s.length:Int)
 ·have hp1:p<s.length:=by omega
  have hp2:p+1<s.length:=by omega
  rw[am h1,ap,cW hp1]
  by_cases h2:s[p]=46
  ·rw[am h2,ap,cW hp2,nF,aa]
   have hf:dw s p=cJ (s.drop (p+1)):=by unfold dw;rw[List.getElem?_eq_getElem hp1,h2,bw rfl]
   cases hx:isD s[p+1] with
   | true =>
    rw[bw rfl]
    obtain⟨n',e1,e2⟩:=Mc s hs b (s.length-(p+1)) (p+1) n m 100000 (by omega) h0 (by omega) (by omega) (by omega) hm (by omega)
    have hb:=pg _ (lJ (s.drop (p+1)))
    have hne:dw s p≠[]:=by
     rw[hf,rt hp2 hx]
     exact List.cons_ne_nil _ _
    rw[e1,e2,E8 _ _ _ _ (by omega),hf]
    unfold gL
    rw[bz hne,hf]
   | false =>
    rw[bz (by simp)]
    refine none ?_
    rw[hf,o6 hp2 hx]
  ·rw[al h2]
   refine none ?_
   unfold dw
   rw[List.getElem?_eq_getElem hp1,bz (by simpa using h2)]
 ·rw[al h1]
  refine none ?_
  unfold dw
  split
  ·exact ng (by omega)
  ·rfl
theorem Mb(s:List Int)(hs:s.length≤1000000)(hb:Bt s)(b:Bool):∀ (d i:Nat) (n m:Int),i+d=s.length→0≤n→n≤100000000000000→0≤m→m≤i →
  jP s (i:Int) b n m=fin (gL s (i+(cJ (s.drop i)).length)) b (sat n (cJ (s.drop i))+fr (dw s (i+(cJ (s.drop i)).length)) 100000) (m+(cJ (s.drop i)).length+(dw s (i+(cJ (s.drop i)).length)).length):=by
 intro d
 induction d with
 | zero =>
  intro i n m hd h0 hn hm hm2
  rw[sO,av,E7 s hs b i (by omega) n m h0 hn hm (by omega),ng (show s.length≤i by omega)]
  simp[sat]
 | succ d ih =>
  intro i n m hd h0 hn hm hm2
  have hi:i<s.length:=by omega
  have hx0:=hb _ (aZ hi)
  rw[sO,au,ap]
  have hg:List.getD s (i:Int).toNat 0=s[i]:=cW hi 0
  rw[hg,nF,aa]
  cases hx:isD s[i] with
  | true =>
   have hxb:=(nC _).1 hx
   have hdg:cJ (s.drop i)=s[i]::cJ (s.drop (i+1)):=rt hi hx
   rw[bw rfl,hdg]
   simp only[aW,sat]
   have el:i+((cJ (s.drop (i+1))).length+1)=i+1+(cJ (s.drop (i+1))).length:=by omega
   rw[el,cE hi (by omega),aw (n:=m+1)]
   by_cases hmx:n≤9000000000000
   ·rw[am hmx,ap,bw hmx,aw (n:=10*n),aw (n:=s[i]),aw (n:=s[i]-48),aw (n:=(s[i]-48)*1000000),aw (n:=10*n+(s[i]-48)*1000000),
     ih (i+1) _ (m+1) (by omega) (by omega) (by omega) (by omega) (by omega)]
    congr 1
    omega
   ·rw[al hmx,bz hmx,ih (i+1) n (m+1) (by omega) h0 hn (by omega) (by omega)]
    congr 1
    omega
  | false =>
   have hdg:cJ (s.drop i)=[]:=o6 hi hx
   rw[bz (by simp),hdg]
   have he:=E7 s hs b i (by omega) n m h0 hn hm (by omega)
   rw[hg]at he
   simp only[List.length_nil,Nat.add_zero,sat]
   rw[he]
   congr 1
   omega
theorem GD(s:List Int)(hs:s.length≤1000000):∀ (d p j:Nat),p+j+d=s.length+1→rP s (p:Int) (j:Int)=some (((j+(cJ (s.drop (p+j))).length:Nat):Int),()):=by
 intro d
 induction d with
 | zero =>
  intro p j hd
  rw[HE,aw,av,ng (by omega)]
  simp
 | succ d ih =>
  intro p j hd
  rw[HE,aw (n:=(p:Int)+j)]
  by_cases hlt:(p:Int)+j<(s.length:Int)
  ·have hi:p+j<s.length:=by omega
   have hg:List.getD s ((p:Int)+j).toNat 0=s[p+j]:=by
    rw[show((p:Int)+j).toNat=p+j by omega];exact di hi 0
   rw[am hlt,ap,hg,cE (n:=1000001) (by omega) (by omega)]
   by_cases h1:s[p+j]≥48
   ·rw[am h1,ap]
    by_cases h2:s[p+j]≤57
    ·have hx:isD s[p+j]=true:=(nC _).2 ⟨h1,h2⟩
     rw[am h2,ih p (j+1) (by omega),rt hi hx,aW,show p+(j+1)=p+j+1 by omega]
     congr 3
     omega
    ·have hx:isD s[p+j]=false:=by
      cases h:isD s[p+j] with
      | false=>rfl
      | true=>exact absurd ((nC _).1 h).2 h2
     rw[al h2,o6 hi hx]
     simp
   ·have hx:isD s[p+j]=false:=by
     cases h:isD s[p+j] with
     | false=>rfl
     | true=>exact absurd ((nC _).1 h).1 h1
    rw[al h1,o6 hi hx]
    simp
  ·rw[al hlt,ng (by omega)]
   simp
theorem Ho(p:Int)(b:Bool)(w r:List Int)(hw:AllD w)(hr:AllD r)(lw:w.length≤1000000)(lr:r.length≤1000000):lR p b w r=fin p b (dv 0 w*1000000+fr r 100000) ((w.length:Int)+r.length):=by
 have hb:=pg r hr
 have hn:=kr w 0 hw (Int.le_refl 0)
 have tail:0<w.length+r.length→((pt w r).bind fun(r1:Int×Bool×Unit)=>if(!r1.2.1)=true then some ((0:Int),(0:Int),())else if b=true then some ((w64 (0-r1.1)),p,())else some (r1.1,p,()))=fin p b (dv 0 w*1000000+fr r 100000) ((w.length:Int)+r.length):=by
  intro hl
  rw[TI w r hw hr lw lr,aa]
  unfold fin
  rw[bz (show ¬ (w.length:Int)+r.length=0 by omega)]
  by_cases h:dv 0 w*1000000+fr r 100000≤9000000000000
  ·rw[bw h]
   dsimp only
   rw[bz (show ¬ (!true)=true by decide),bz (show ¬ dv 0 w*1000000+fr r 100000>9000000000000 by omega),aw]
   cases b <;> rfl
  ·rw[bz h]
   dsimp only
   rw[bw (show(!false)=true by decide),ap]
 rw[OD]
 by_cases h1:w=[]
 ·rw[am h1]
  by_cases h2:r=[]
  ·rw[am h2,h1,h2];rfl
  ·rw[al h2]
   exact tail (by have:=List.length_pos_iff.2 h2;omega)
 ·rw[al h1]
  exact tail (by have:=List.length_pos_iff.2 h1;omega)
theorem Hm(s:List Int)(hs:s.length≤1000000)(b:Bool)(i:Nat)(hi:i≤s.length) :
  il s (i:Int) b=fin (gL s (i+(cJ (s.drop i)).length)) b (dv 0 (cJ (s.drop i))*1000000+fr (dw s (i+(cJ (s.drop i)).length)) 100000) ((cJ (s.drop i)).length+(dw s (i+(cJ (s.drop i)).length)).length):=by
 have hdl:=ru (s.drop i)
 rw[aV]at hdl
 have hD:=lJ (s.drop i)
 rw[OC,HF,show(0:Int)=((0:Nat):Int)from rfl,GD s hs (s.length+1-i) i 0 (by omega),aa,Nat.zero_add,Nat.add_zero]
 dsimp only
 rw[aw]
 have hcut:List.take (((i:Int)+((cJ (s.drop i)).length:Nat)).toNat-(i:Int).toNat) (List.drop (i:Int).toNat s)=cJ (s.drop i):=by
  rw[show((i:Int)+((cJ (s.drop i)).length:Nat)).toNat-(i:Int).toNat=(cJ (s.drop i)).length by omega,ag]
  exact GE _
 rw[hcut]
 generalize hDD:cJ (s.drop i)=D at *
 have hz:(((0:Nat)):Int)=0:=rfl
 rw[hz,ap]
 have hp:(i:Int)+(D.length:Nat)=((i+D.length:Nat):Int):=by omega
 rw[hp]
 generalize hP:i+D.length=P at *
 have none:dw s P=[]→lR (P:Int) b D []=fin (gL s P) b (dv 0 D*1000000+fr (dw s P) 100000) (D.length+(dw s P).length):=by
  intro h
  rw[Ho _ _ _ _ hD (fun x hx=>by cases hx) (by omega) (by simp)]
  unfold gL
  rw[h,bw rfl]
 by_cases h1:(P:Int)<(s.length:Int)
 ·have hP1:P<s.length:=by omega
  rw[am h1,ap,cW hP1]
  by_cases h2:s[P]=46
  ·have hw:w64 ((P:Int)+1)=((P+1:Nat):Int):=cE hP1 (by omega)
   have hf:dw s P=cJ (s.drop (P+1)):=by unfold dw;rw[List.getElem?_eq_getElem hP1,h2,bw rfl]
   have hfl:=ru (s.drop (P+1))
   rw[aV]at hfl
   have hF:=lJ (s.drop (P+1))
   rw[am h2,hw,HF,show(0:Int)=((0:Nat):Int)from rfl,GD s hs (s.length-P) (P+1) 0 (by omega),aa,Nat.zero_add,Nat.add_zero]
   dsimp only
   rw[hz,b7 (n:=1+(((cJ (s.drop (P+1))).length:Nat):Int)) (by omega) (by omega),b7 (n:=((P+1:Nat):Int)+(((cJ (s.drop (P+1))).length:Nat):Int)) (by omega) (by omega),b7 (n:=(P:Int)+(1+(((cJ (s.drop (P+1))).length:Nat):Int))) (by omega) (by omega)]
   have hcut2:List.take ((((P+1:Nat):Int)+((cJ (s.drop (P+1))).length:Nat)).toNat-((P+1:Nat):Int).toNat) (List.drop ((P+1:Nat):Int).toNat s)=cJ (s.drop (P+1)):=by
    rw[show(((P+1:Nat):Int)+((cJ (s.drop (P+1))).length:Nat)).toNat-((P+1:Nat):Int).toNat=(cJ (s.drop (P+1))).length by omega,ag]
    exact GE _
   rw[hcut2]
   generalize hFF:cJ (s.drop (P+1))=F at *
   by_cases h3:(F.length:Int)>0
   ·rw[am h3,ap,Ho _ _ _ _ hD hF (by omega) (by omega)]
    unfold gL
    rw[hf,bz (fun h=>by rw[h]at h3;simp at h3)]
    congr 1
    omega
   ·rw[al h3]
    exact none (by rw[hf];exact List.eq_nil_of_length_eq_zero (by omega))
  ·rw[al h2]
   refine none ?_
   unfold dw
   rw[List.getElem?_eq_getElem hP1,bz (by simpa using h2)]
 ·rw[al h1]
  refine none ?_
  unfold dw
  split
  ·exact ng (by omega)
  ·rfl
theorem tj(s:List Int)(hs:s.length≤1000000)(hb:Bt s)(b:Bool)(i:Nat)(hi:i≤s.length):ej s (i:Int) b=il s (i:Int) b:=by
 rw[JC,Mb s hs hb b (s.length-i) i 0 0 (by omega) (by omega) (by omega) (by omega) (by omega),Hm s hs b i hi]
 have hD:=lJ (s.drop i)
 have hF:AllD (dw s (i+(cJ (s.drop i)).length)):=by
  unfold dw
  split
  ·exact lJ _
  ·intro x hx;cases hx
 generalize cJ (s.drop i)=D at *
 generalize dw s (i+D.length)=F at *
 have hfb:=pg F hF
 have hsat:=KM D 0 hD (Int.le_refl 0)
 rw[Int.zero_mul]at hsat
 rcases hsat with h | ⟨h1,h2⟩
 ·rw[h,Int.zero_add]
 ·unfold fin
  rw[Int.zero_add]
  by_cases hm:((D.length:Nat):Int)+(F.length:Nat)=0
  ·rw[bw hm,bw hm]
  ·rw[bz hm,bz hm,ap,ap]
theorem N8{p:Int}{b:Bool}{n m:Int}(h0:0≤n):∃ v e,fin p b n m=some (v,e,())∧(e=0∨e=p)∧(-9000000000000≤v∧v≤9000000000000):=by
 unfold fin
 split
 ·exact⟨0,0,rfl,.inl rfl,by omega,by omega⟩
 ·split
  ·exact⟨0,0,rfl,.inl rfl,by omega,by omega⟩
  ·refine⟨_,p,rfl,.inr rfl,?_⟩
   split <;> omega
theorem NU(s:List Int)(p:Nat)(hp:p≤s.length):gL s p≤s.length:=by
 unfold gL
 split
 ·exact hp
 ·rename_i h
  unfold dw at h ⊢
  by_cases h46:s[p]? = some 46
  ·rw[bw h46]at h ⊢
   have:=ru (s.drop (p+1))
   rw[aV]at this
   have hlt:p<s.length:=by
    by_cases h':p<s.length
    ·exact h'
    ·rw[List.getElem?_eq_none (by omega)]at h46;cases h46
   omega
  ·rw[bz h46]at h;exact absurd rfl h
theorem wb(s:List Int)(hs:s.length≤1000000)(b:Bool)(i:Nat)(hi:i≤s.length):∃ v e,il s (i:Int) b=some (v,e,())∧(0≤e∧e≤(s.length:Int))∧(-9000000000000≤v∧v≤9000000000000):=by
 have hdl:=ru (s.drop i)
 rw[aV]at hdl
 have hF:AllD (dw s (i+(cJ (s.drop i)).length)):=by
  unfold dw
  split
  ·exact lJ _
  ·intro x hx;cases hx
 rw[Hm s hs b i hi]
 have h1:=kr _ 0 (lJ (s.drop i)) (Int.le_refl 0)
 have h2:=pg _ hF
 have h3:=NU s (i+(cJ (s.drop i)).length) (by omega)
 obtain⟨v,e,k1,k2,k3⟩:=N8 (p:=(gL s (i+(cJ (s.drop i)).length):Nat)) (b:=b) (n:=dv 0 (cJ (s.drop i))*1000000+fr (dw s (i+(cJ (s.drop i)).length)) 100000) (m:=((cJ (s.drop i)).length+(dw s (i+(cJ (s.drop i)).length)).length)) (by omega)
 exact⟨v,e,k1,by rcases k2 with rfl | rfl <;> omega,k3⟩
def dS(l:List Int):Nat:=(l.takeWhile (fun x=>decide (x=32))).length
noncomputable def front(s:List Int)(p:Nat):Option (Int×Int×Unit) :=
 if s[p]? = some 45 then il s ((p+1:Nat):Int) true else if s[p]? = some 43 then il s ((p+1:Nat):Int) false else il s (p:Int) false
theorem Wj(s:List Int)(hs:s.length≤1000000)(hb:Bt s):∀ (d i:Nat),i+d=s.length→kU s (i:Int)=front s (i+dS (s.drop i)):=by
 intro d
 induction d with
 | zero =>
  intro i hd
  rw[sN,av,av,av,tj s hs hb false i (by omega),a7 (by omega)]
  rw[show i+dS []=i from rfl]
  unfold front
  rw[List.getElem?_eq_none (by omega),bz (by simp),bz (by simp)]
 | succ d ih =>
  intro i hd
  have hi:i<s.length:=by omega
  have c1:(i:Int)<(s.length:Int):=by omega
  have c2:(0:Int)≤(i:Int)∧(i:Int)<(s.length:Int):=by omega
  have hg:List.getD s (i:Int).toNat 0=s[i]:=cW hi 0
  have hdr:=aj hi
  rw[sN,am c1,bw c2,hg,cE hi (by omega)]
  by_cases h:s[i]=32
  ·rw[am h,ih (i+1) (by omega),hdr]
   unfold dS
   rw[List.takeWhile_cons_of_pos (by simp[h]),aW,show i+1+(List.takeWhile (fun x=>decide (x=32)) (List.drop (i+1) s)).length=i+((List.takeWhile (fun x=>decide (x=32)) (List.drop (i+1) s)).length+1) by omega]
  ·have hl:dS (s.drop i)=0:=by
    unfold dS
    rw[hdr,List.takeWhile_cons_of_neg (by simpa using h)];rfl
   rw[al h,am c1,bw c2,am c1,bw c2,hl,show i+0=i from rfl]
   unfold front
   rw[List.getElem?_eq_getElem hi]
   by_cases h1:s[i]=45
   ·rw[am h1,bw (by rw[h1]),ac h1]
    exact tj s hs hb true (i+1) (by omega)
   ·rw[al h1,bw c2,bz (show ¬ some s[i]=some 45 by simpa using h1),af h1]
    by_cases h2:s[i]=43
    ·rw[am h2,bw (by rw[h2])]
     exact tj s hs hb false (i+1) (by omega)
    ·rw[al h2,bz (by simpa using h2)]
     exact tj s hs hb false i (by omega)
theorem Tk(s:List Int):(s.length:Int)-(s.dropWhile (fun x=>decide (x=32))).length=dS s:=by
 have h:=congrArg List.length (List.takeWhile_append_dropWhile (p:=fun x=>decide (x=(32:Int))) (l:=s))
 rw[ah]at h
 unfold dS
 omega
theorem H9(s:List Int):dS s≤s.length:=(List.takeWhile_sublist _).length_le
theorem Pj(s:List Int)(hs:s.length≤1000000):rE s=front s (dS s):=by
 have hL:=Tk s
 have hle:=H9 s
 rw[OE,Fl _ _ (by omega) (by omega),aa]
 dsimp only
 rw[hL,aw (n:=(dS s:Int))]
 unfold front
 by_cases c1:(dS s:Int)<(s.length:Int)
 ·have hi:dS s<s.length:=by omega
  have c2:(0:Int)≤(dS s:Int)∧(dS s:Int)<(s.length:Int):=by omega
  have hg:List.getD s (dS s:Int).toNat 0=s[dS s]:=cW hi 0
  rw[am c1,bw c2,hg,cE hi (by omega),List.getElem?_eq_getElem hi]
  by_cases h2:s[dS s]=43
  ·rw[am h2,bw c2,bz (by rw[h2];simp),bw (by rw[h2]),af (by rw[h2];decide)]
  ·rw[al h2,bw c2]
   by_cases h1:s[dS s]=45
   ·rw[am h1,bw c2,bw (by rw[h1]),ac h1]
   ·rw[al h1,bz (by simpa using h1),bz (by simpa using h2)]
 ·rw[al c1,List.getElem?_eq_none (by omega),bz (by simp),bz (by simp)]
theorem NE(s:List Int)(hs:s.length≤1000000)(hb:Bt s):∃ v e,jO s=some (v,e,())∧rE s=some (v,e,())∧(0≤e∧e≤(s.length:Int))∧(-9000000000000≤v∧v≤9000000000000):=by
 have h1:jO s=front s (dS s):=by
  have:=Wj s hs hb s.length 0 (by omega)
  rw[show(((0:Nat)):Int)=0 from rfl,aQ,Nat.zero_add]at this
  rw[JE,this]
 rw[h1,Pj s hs]
 have hle:=H9 s
 have hlt:∀ c:Int,s[dS s]? = some c→dS s+1≤s.length:=fun c h=>by
  by_cases h':dS s<s.length
  ·exact h'
  ·rw[List.getElem?_eq_none (by omega)]at h;cases h
 unfold front
 split
 ·rename_i h
  obtain⟨v,e,k1,k2,k3⟩:=wb s hs true (dS s+1) (hlt _ h)
  exact⟨v,e,k1,k1,k2,k3⟩
 ·split
  ·rename_i h
   obtain⟨v,e,k1,k2,k3⟩:=wb s hs false (dS s+1) (hlt _ h)
   exact⟨v,e,k1,k1,k2,k3⟩
  ·obtain⟨v,e,k1,k2,k3⟩:=wb s hs false (dS s) hle
   exact⟨v,e,k1,k1,k2,k3⟩
theorem Tu(s:List Int)(hs:s.length≤1000000)(v:Int):∀ (d i:Nat),i+d=s.length→ql s v (i:Int)=some (if ∀ x∈s.drop i,x=32 then(v,true,()) else(0,false,())):=by
 intro d
 induction d with
 | zero =>
  intro i hd
  rw[sQ,av,a7 (by omega),bw (by simp)]
 | succ d ih =>
  intro i hd
  have hi:i<s.length:=by omega
  rw[sQ,au,ap,cW hi,cE hi (by omega),ih (i+1) (by omega),aj hi]
  by_cases h:s[i]=32
  ·rw[bz (by simp[h])]
   simp[h]
  ·rw[bw (by simp[h]),bz (fun hh=>h (hh _ (aH ..)))]
theorem NF(s:List Int)(hs:s.length≤1000000)(hb:Bt s):∃ v ok,mv s=some (v,ok,())∧rF s=some (v,ok,())∧(-9000000000000≤v∧v≤9000000000000):=by
 obtain⟨v,e,k1,k2,k3,k4⟩:=NE s hs hb
 rw[JG,OG,k1,k2]
 simp only[aa]
 by_cases h:e=0
 ·rw[am h,am h];exact⟨0,false,rfl,rfl,by omega,by omega⟩
 ·obtain⟨n,rfl⟩:=Int.eq_ofNat_of_zero_le k3.1
  rw[al h,al h,bw k3,Tu s hs v (s.length-n) n (by omega)]
  have hcut:List.take (s.length-(n:Int).toNat) (List.drop (n:Int).toNat s)=s.drop n:=by
   rw[ag,bg (by rw[aV];omega)]
  rw[hcut]
  obtain⟨r,r1,r2⟩:=Me (s.drop n) (by rw[aV];omega)
  rw[r1,aa]
  by_cases hr:r=[]
  ·rw[bw (r2.1 hr),bz (by simp[hr])];exact⟨v,true,rfl,rfl,k4⟩
  ·rw[bz (fun hh=>hr (r2.2 hh)),bw (by simp[hr])];exact⟨0,false,rfl,rfl,by omega,by omega⟩
set_option linter.defProp false
def bo:=@List.length_singleton
def fe(n:Nat):List Int:=(Lib.decDigits n).map fun b=>(b.toNat:Int)
theorem rr{n:Nat}(h:n<10):fe n=[48+(n:Int)]:=by
 unfold fe
 rw[Lib.decDigits,dif_pos h]
 have:(UInt8.ofNat (48+n)).toNat=48+n:=by rw[UInt8.toNat_ofNat'];omega
 simp only[bj,List.map_nil,this]
 congr 1
theorem vy{n:Nat}(h:¬ n<10):fe n=fe (n/10)++[48+((n%10:Nat):Int)]:=by
 unfold fe
 rw[Lib.decDigits,dif_neg h]
 have:(UInt8.ofNat (48+n%10)).toNat=48+n%10:=by rw[UInt8.toNat_ofNat'];omega
 simp only[List.map_append,bj,List.map_nil,this]
 congr 2
theorem AllD.app{l m:List Int}(h:AllD l)(g:AllD m):AllD (l++m):=fun x hx=>(aE.1 hx).elim (h x) (g x)
theorem GC(n:Nat):AllD (fe n)∧dv 0 (fe n)=n∧fe n≠[]∧(0<n→∃ c r,fe n=c::r∧49≤c):=by
 induction n using Nat.strongRecOn with
 | ind n ih =>
  by_cases h:n<10
  ·rw[rr h]
   refine⟨fun x hx=>?_,?_,by simp,fun h0=>⟨_,_,rfl,by omega⟩⟩
   ·rw[aN.1 hx];omega
   ·simp only[dv,List.foldl_cons,List.foldl_nil];omega
  ·obtain⟨h1,h2,h3,h4⟩:=ih (n/10) (by omega)
   rw[vy h]
   refine⟨h1.app fun x hx=>?_,?_,by simp,fun _=>?_⟩
   ·rw[aN.1 hx];omega
   ·rw[vC,h2];simp only[dv,List.foldl_cons,List.foldl_nil];omega
   ·obtain⟨c,r,e,hc⟩:=h4 (by omega)
    rw[e]
    exact⟨c,r++_,rfl,hc⟩
theorem vz{n k:Nat}(h:n<10 ^ k)(hk:0<k):(fe n).length≤k:=by
 induction k generalizing n with
 | zero=>omega
 | succ k ih =>
  by_cases h9:n<10
  ·rw[rr h9];simp
  ·rw[vy h9,ah,bo]
   have hk0:0<k:=by
    rcases Nat.eq_zero_or_pos k with h0 | h0
    ·subst h0;omega
    ·exact h0
   have:=ih (n:=n/10) (by rw[Nat.pow_succ]at h;omega) hk0
   omega
theorem GB{r:Nat}(h:r<1000000):∃ l,fe (1000000+r)=49::l∧l.length=6∧AllD l∧dv 0 l=r:=by
 obtain⟨h1,h2,h3,h4⟩:=GC (1000000+r)
 obtain⟨c,l,e,hc⟩:=h4 (by omega)
 have hlen:=vz (n:=1000000+r) (k:=7) (by omega) (by omega)
 rw[e]at h1 h2 hlen
 have hl:=vD l h1.tail
 have hn:=kr l 0 h1.tail (Int.le_refl 0)
 have hc9:=h1.head
 rw[iM,kt]at h2
 simp only[aW]at hlen
 have h6:l.length=6:=by
  by_cases h6:l.length=6
  ·exact h6
  ·exfalso
   have h5:(10:Int) ^ l.length≤10 ^ 5:=by
    have:(10:Nat) ^ l.length≤10 ^ 5:=Nat.pow_le_pow_right (by omega) (by omega)
    exact_mod_cast this
   have:(10*0+(c-48))*10 ^ l.length≤9*10 ^ 5:=Int.mul_le_mul (by omega) h5 (Int.le_of_lt (Int.pow_pos (by omega))) (by omega)
   omega
 rw[h6]at h2 hl
 have hc1:c=49:=by omega
 subst hc1
 exact⟨l,e,h6,h1.tail,by omega⟩
theorem Qa(n:Nat):∀ acc:List Int,acc.length+n≤9223372036854775807→tT (n:Int) acc=some ((if n=0 then []else fe n)++acc,()):=by
 induction n using Nat.strongRecOn with
 | ind n ih =>
  intro acc hb
  rw[Xy]
  by_cases h0:n=0
  ·rw[av,bw h0];rfl
  ·have e1:Int.tdiv (n:Int) 10=((n/10:Nat):Int):=rfl
   have e2:Int.tmod (n:Int) 10=((n%10:Nat):Int):=rfl
   have e3:w8 (w64 (48+((n%10:Nat):Int)))=48+((n%10:Nat):Int):=by rw[aw,uq (by omega) (by omega)]
   rw[au,e1,e2,e3,bw (by rw[bo];omega),aw,bz h0,ih (n/10) (by omega) _ (by rw[ah,bo];omega)]
   by_cases h9:n<10
   ·rw[ap,rr h9,Nat.mod_eq_of_lt h9];rfl
   ·rw[aq,vy h9,ai]
theorem wR(n:Nat)(h:n≤9223372036854775807):qy (n:Int)=some (fe n,()):=by
 rw[Xz]
 by_cases h0:n=0
 ·subst h0
  rw[au,rr (by omega)];rfl
 ·rw[av,Qa n [] (by simpa using h),bz h0,aL]
def fI(c:Int)(l:List Int):List Int:=(l.reverse.dropWhile (fun x=>decide (x=c))).reverse
theorem Lr(c:Int)(l:List Int):fI c (l++[c])=fI c l:=by
 unfold fI
 rw[List.reverse_append,List.reverse_singleton,List.singleton_append,List.dropWhile_cons_of_pos (by simp)]
theorem Lq{c x:Int}(h:x≠c)(l:List Int):fI c (l++[x])=l++[x]:=by
 unfold fI
 rw[List.reverse_append,List.reverse_singleton,List.singleton_append,List.dropWhile_cons_of_neg (by simpa using h),List.reverse_cons,List.reverse_reverse]
theorem Bv{l:List Int}{n:Nat}(h:l.length=n+1):l=l.take (l.length-1)++[l[l.length-1]]:=by
 have h1:=List.take_append_drop (l.length-1) l
 have h2:l.drop (l.length-1)=[l[l.length-1]]:=by
  rw[aj (by omega),a7 (by omega)]
 rw[h2]at h1
 exact h1.symm
theorem Lm(c:Int):∀ (n:Nat) (l:List Int),l.length=n→∃ k,l=fI c l++List.replicate k c∧((∃ x∈l,x≠c)→fI c l≠[])
 | 0,l,h=>by
  have:l=[]:=List.eq_nil_of_length_eq_zero h
  subst this
  exact⟨0,rfl,fun⟨x,hx,_⟩=>by cases hx⟩
 | n+1,l,h=>by
  have hs:=Bv h
  generalize hA:l.take (l.length-1)=A at hs
  generalize l[l.length-1]=x at hs
  have hAl:A.length=n:=by rw[← hA,aU];omega
  subst hs
  by_cases hx:x=c
  ·subst hx
   obtain⟨k,e,g⟩:=Lm x n A hAl
   rw[Lr]
   refine⟨k+1,?_,fun⟨y,hy,hne⟩=>g ⟨y,?_,hne⟩⟩
   ·rw[List.replicate_succ',← ai,← e]
   ·rcases aE.1 hy with hy | hy
    ·exact hy
    ·exact absurd (aN.1 hy) hne
  ·rw[Lq hx]
   exact⟨0,by simp,fun _=>by simp⟩
theorem Lp(c:Int)(l:List Int):(fI c l).length≤l.length:=by
 obtain⟨k,e,_⟩:=Lm c l.length l rfl
 have:=congrArg List.length e
 rw[ah]at this
 omega
theorem KK(t0:Int)(t4:List Int)(h4:t4.length≤1000):∀ (n:Nat) (l:List Int),l.length=n→l.length≤1000→(∃ x∈l,x≠48)→sR t0 t4 l=qm t0 (t4++[46]++fI 48 l)
 | 0,l,hl,_,⟨x,hx,_⟩=>by
  have:l=[]:=List.eq_nil_of_length_eq_zero hl
  subst this
  cases hx
 | n+1,l,hl,h,hne=>by
  rw[Vs,aw,ap,show((l.length:Int)-1).toNat=l.length-1 by omega,di (by omega)]
  have hs:=Bv hl
  have e:List.take (l.length-1-0) (List.drop 0 l)=l.take (l.length-1):=rfl
  by_cases hx:l[l.length-1]=48
  ·rw[am hx,ap,e]
   rw[hx]at hs
   obtain⟨x,hx1,hx2⟩:=hne
   have hx3:x∈l.take (l.length-1):=by
    rw[hs]at hx1
    rcases aE.1 hx1 with h1 | h1
    ·exact h1
    ·exact absurd (aN.1 h1) hx2
   rw[KK t0 t4 h4 n _ (by rw[aU];omega) (by rw[aU];omega) ⟨x,hx3,hx2⟩]
   have:fI 48 l=fI 48 (l.take (l.length-1)):=by
    generalize l.take (l.length-1)=A at *
    rw[hs];exact Lr 48 A
   rw[this]
  ·rw[al hx,bw (by simp only[bo];omega),bw (by rw[ah];simp only[bo];omega)]
   have:fI 48 l=l:=by
    generalize hA:l.take (l.length-1)=A at hs
    generalize l[l.length-1]=x at hs hx
    rw[hs];exact Lq hx _
   rw[this]
def ph(r:Nat):List Int:=if 0<r then 46::fI 48 ((fe (1000000+r)).drop 1)else []
def o5(n:Nat):List Int:=fe (n/1000000)++ph (n%1000000)
def lI(n:Int):List Int:=if -9000000000000≤n∧n≤9000000000000 then(if n<0 then [45]else [])++o5 n.natAbs else []
theorem Ol{r:Nat}(h:r<1000000):(ph r).length≤7:=by
 unfold ph
 obtain⟨l,e,h6,_⟩:=GB h
 split
 ·rw[e,List.drop_one,List.tail_cons,aW]
  have:=Lp 48 l
  omega
 ·simp
theorem NG{n:Nat}(h:n≤9000000000000):(o5 n).length≤14:=by
 unfold o5
 have h1:=vz (n:=n/1000000) (k:=7) (by omega) (by omega)
 have h2:=Ol (r:=n%1000000) (by omega)
 rw[ah];omega
theorem NI(n:Int):(lI n).length≤15:=by
 unfold lI
 split
 ·rename_i h
  have:=NG (n:=n.natAbs) (by omega)
  rw[ah]
  split
  ·simp only[bo];omega
  ·simp only[List.length_nil];omega
 ·simp
theorem JN(n:Int)(t:List Int)(h:t.length≤1000):qm n t=some ((if n<0 then [45]else [])++t,()):=by
 rw[Vt]
 by_cases h0:n<0
 ·rw[am h0,bw h0,bw (by rw[bo];omega)]
 ·rw[al h0,bz h0];rfl
theorem JI(n:Int):eR n=some (decide (-9000000000000≤n∧n≤9000000000000),()):=by
 rw[JH,Ku]
 by_cases h:n ≥ -9000000000000
 ·rw[am h]
  simp[show -9000000000000≤n from h]
 ·rw[al h]
  simp[show ¬ -9000000000000≤n from h]
theorem Vv(n:Int):yi n=some (lI n,()):=by
 rw[Vu,JI,aa]
 dsimp only
 unfold lI
 by_cases h:-9000000000000≤n∧n≤9000000000000
 ·rw[ac h,bz (by decide),bw h]
  have ea:oq n=some (((n.natAbs:Nat):Int),()):=by
   rw[Kt]
   by_cases h0:n<0
   ·rw[am h0,aw,show(0:Int)-n=((n.natAbs:Nat):Int) by omega]
   ·rw[al h0,show((n.natAbs:Nat):Int)=n by omega]
  rw[ea,aa]
  dsimp only
  generalize hm:n.natAbs=m
  have e1:Int.tdiv (m:Int) 1000000=((m/1000000:Nat):Int):=rfl
  have e2:Int.tmod (m:Int) 1000000=((m%1000000:Nat):Int):=rfl
  have h1:=vz (n:=m/1000000) (k:=7) (by omega) (by omega)
  rw[e1,e2,aw,wR _ (by omega),aa]
  dsimp only
  unfold o5 ph
  by_cases h0:0<m%1000000
  ·have e3:w64 (1000000+((m%1000000:Nat):Int))=((1000000+m%1000000:Nat):Int):=by rw[aw];omega
   obtain⟨l,e,h6,hd,hv⟩:=GB (r:=m%1000000) (by omega)
   have e4:List.take ((49::l).length-1) (List.drop 1 (49::l))=l:=by simp
   have h7:=Lp 48 l
   have hne:∃ x∈l,x≠48:=by
    by_cases hh:∃ x∈l,x≠48
    ·exact hh
    ·exfalso
     have hall:∀ x∈l,x=48:=fun x hx=>by
      by_cases hx48:x=48
      ·exact hx48
      ·exact absurd ⟨x,hx,hx48⟩ hh
     rw[List.eq_replicate_of_mem hall,vE]at hv
     omega
   rw[au,e3,wR _ (by omega),aa,bw h0]
   dsimp only
   rw[e,e4,bw (by rw[aW];omega),KK n _ (by omega) _ l rfl (by omega) hne,JN _ _ (by simp only[ah,bo];omega),List.drop_one,List.tail_cons,ai (fe _)]
   rfl
  ·rw[av,bz h0,aL,JN _ _ (by omega)]
 ·rw[af h,bw (by decide),bz h]
end Go.Proofs.YtemajhlhgphhjaaGreatDoor.E.TM
