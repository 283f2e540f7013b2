/- What the pure statement needs (1). No condition. -/
import Derived.Test.YtacknlgegbagfaaGreatEG4
import Derived.Laws.BitsLemmas
import Derived.Test.YtacknlgegbagfaaGreatTRe1
import Derived.Test.YtacknlgegbagfaaGreatTRe2
import Derived.Test.YtacknlgegbagfaaGreatTRe3
namespace Go.Proofs.YtacknlgegbagfaaGreat.E
set_option linter.unusedVariables false
theorem aa{α β:Type _}(a:α)(f:α→Option β):(some a).bind f=f a:=rfl
theorem ab{p:Prop}[Decidable p]:(decide p=true)=p:=decide_eq_true_eq
theorem ac{p:Prop}[Decidable p](a:p):decide p=true:=decide_eq_true a
theorem ae{p:Prop}[Decidable p](a:¬p):decide p=false:=decide_eq_false a
theorem af(n:Nat):((n:Int)).toNat=n:=Int.toNat_natCast n
theorem ag{α:Type _}{x y:List α}:(x++y).length=x.length+y.length:=List.length_append
theorem ah{α:Type _}(x y z:List α):x++y++z=x++(y++z):=List.append_assoc x y z
theorem ai{α:Type _}{i:Nat}{l:List α}(h:i<l.length):l.drop i=l[i]::l.drop (i+1):=List.drop_eq_getElem_cons h
theorem aj{α:Sort _}{p:Prop}[Decidable p]{a b:α}(h:¬p):(if decide p=true then a else b)=b:=if_neg (by rw[decide_eq_true_eq];exact h)
theorem ak{α:Sort _}{p:Prop}[Decidable p]{a b:α}(h:p):(if decide p=true then a else b)=a:=if_pos (decide_eq_true h)
theorem al{α:Sort _}{c:Prop}[Decidable c]{a b:α}(h:c:=by omega):(if c then a else b)=a:=if_pos h
theorem am{α:Sort _}{c:Prop}[Decidable c]{a b:α}(h:¬c:=by omega):(if c then a else b)=b:=if_neg h
theorem ap{α:Sort _}{p:Prop}[Decidable p]{a b:α}(h:p:=by omega):(if decide p=true then a else b)=a:=if_pos (decide_eq_true h)
theorem aq{α:Sort _}{p:Prop}[Decidable p]{a b:α}(h:¬p:=by omega):(if decide p=true then a else b)=b:=if_neg (by rw[decide_eq_true_eq];exact h)
theorem bW{n:Int}(h:-9223372036854775808≤n)(h':n≤9223372036854775807):w64 n=n:=by
 show IntKind.i64.wrap n=n
 rw[IntKind.wrap_i64];omega
theorem ar{n:Int}(h:-9223372036854775808≤n:=by omega)(h':n≤9223372036854775807:=by omega):w64 n=n:=bW h h'
theorem wB{n:Int}(h:0≤n)(h':n≤255):w8 n=n:=by
 show IntKind.u8.wrap n=n
 rw[IntKind.wrap_u8];omega
theorem iP(n:Int):0≤w8 n∧w8 n≤255:=by
 show 0≤IntKind.u8.wrap n∧IntKind.u8.wrap n≤255
 rw[IntKind.wrap_u8];omega
theorem cO{i:Nat}{n:Nat}(h:i<n)(hn:n≤9223372036854775807):w64 ((i:Int)+1)=((i+1:Nat):Int):=by
 rw[ar];omega
theorem wD(j:Nat)(hj:j≤63)(n:Int)(h₀:0≤n)(h₁:n<2 ^ j):IntKind.i64.wrap n=n:=by
 rw[IntKind.wrap_i64]
 have:(2:Int) ^ j≤2 ^ 63:=by exact_mod_cast Nat.pow_le_pow_right (by omega) hj
 omega
theorem wS{x:Int}(h0:0≤x)(h1:x<9223372036854775808):Go.bits .and .i64 x 127=x%128 :=
 bits_mask .i64 63 (by decide) (wD 63 (by omega)) 7 (by decide) x h0 h1
theorem I2{x:Int}(h0:0≤x)(h1:x<128):Go.bits .or .i64 x 128=x+128:=by
 obtain⟨a,rfl⟩:=Int.eq_ofNat_of_zero_le h0
 have e:=(bits_nat .i64 63 (by decide) (wD 63 (by omega)) a 128 (by omega) (by decide)).2
 have e2:=Nat.two_pow_add_eq_or_of_lt (i:=7) (b:=a) (by omega) 1
 have e3:((128:Nat):Int)=128:=rfl
 rw[e3]at e
 rw[e,Nat.or_comm]
 simp at e2
 omega
theorem b7:room=4294967296:=rfl
theorem dJ{α:Type}{l:List α}{i:Nat}(h:i<l.length)(z:α):l.getD i z=l[i]:=by
 rw[List.getD_eq_getElem?_getD,List.getElem?_eq_getElem h];rfl
theorem dq{α:Type}{l:List α}{i:Nat}(h:i<l.length)(z:α):l.getD (i:Int).toNat z=l[i]:=by
 rw[af];exact dJ h z
theorem DY{α:Type}{l:List α}{i:Nat}(h:i<l.length)(a z:α):(l.set i a).getD i z=a:=by
 rw[List.getD_eq_getElem?_getD,List.getElem?_set_self h];rfl
end Go.Proofs.YtacknlgegbagfaaGreat.E
namespace Go.Proofs.YtacknlgegbagfaaGreat.E.TR
def LeO{α:Type}(a b:Option α):Prop:=∀ y,a=some y→b=some y
theorem lr{α:Type}{a:Option α}:LeO a a:=fun _ h=>h
theorem ln{α:Type}{b:Option α}:LeO none b:=fun _ h=>by cases h
theorem li{α:Type}{c:Prop}[Decidable c]{a b a' b':Option α}(h:LeO a a')(k:LeO b b'):LeO (if c then a else b) (if c then a' else b'):=by
 by_cases hc:c
 ·rw[bm hc,bm hc];exact h
 ·rw[bn hc,bn hc];exact k
theorem lb{α β:Type}{a a':Option α}{k k':α→Option β}(h:LeO a a')(hk:∀ r,LeO (k r) (k' r)):LeO (a.bind k) (a'.bind k'):=by
 intro y hy
 cases a with
 | none=>cases hy
 | some r=>rw[h r rfl];exact hk r y hy
end Go.Proofs.YtacknlgegbagfaaGreat.E.TR
