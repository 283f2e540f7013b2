/- What the pure statement needs (1). No condition. -/
import Derived.Test.YtmcjclfgedjgaaaGreatEG4
import Derived.Laws.BitsLemmas
import Derived.Test.YtmcjclfgedjgaaaGreatTDe1
import Derived.Test.YtmcjclfgedjgaaaGreatTDe2
import Derived.Test.YtmcjclfgedjgaaaGreatTDe3
namespace Go.Proofs.YtmcjclfgedjgaaaGreat.E
set_option linter.unusedVariables false
theorem aa{α β:Type _}(a:α)(f:α→Option β):(some a).bind f=f a:=rfl
theorem ab{p:Prop}[Decidable p]:(decide p=true)=p:=decide_eq_true_eq
theorem ac{p:Prop}[Decidable p](a:p):decide p=true:=decide_eq_true a
theorem ae{p:Prop}[Decidable p](a:¬p):decide p=false:=decide_eq_false a
theorem af(n:Nat):((n:Int)).toNat=n:=Int.toNat_natCast n
theorem ag{α:Type _}{x y:List α}:(x++y).length=x.length+y.length:=List.length_append
theorem ah{α:Type _}(x y z:List α):x++y++z=x++(y++z):=List.append_assoc x y z
theorem ai{α:Type _}{i:Nat}{l:List α}(h:i<l.length):l.drop i=l[i]::l.drop (i+1):=List.drop_eq_getElem_cons h
theorem aj{α:Sort _}{p:Prop}[Decidable p]{a b:α}(h:¬p):(if decide p=true then a else b)=b:=if_neg (by rw[decide_eq_true_eq];exact h)
theorem ak{α:Sort _}{p:Prop}[Decidable p]{a b:α}(h:p):(if decide p=true then a else b)=a:=if_pos (decide_eq_true h)
theorem al{α:Sort _}{c:Prop}[Decidable c]{a b:α}(h:c:=by omega):(if c then a else b)=a:=if_pos h
theorem am{α:Sort _}{c:Prop}[Decidable c]{a b:α}(h:¬c:=by omega):(if c then a else b)=b:=if_neg h
theorem ap{α:Sort _}{p:Prop}[Decidable p]{a b:α}(h:p:=by omega):(if decide p=true then a else b)=a:=if_pos (decide_eq_true h)
theorem aq{α:Sort _}{p:Prop}[Decidable p]{a b:α}(h:¬p:=by omega):(if decide p=true then a else b)=b:=if_neg (by rw[decide_eq_true_eq];exact h)
theorem ck{n:Int}(h:-9223372036854775808≤n)(h':n≤9223372036854775807):w64 n=n:=by
 show IntKind.i64.wrap n=n
 rw[IntKind.wrap_i64];omega
theorem ar{n:Int}(h:-9223372036854775808≤n:=by omega)(h':n≤9223372036854775807:=by omega):w64 n=n:=ck h h'
theorem zk{n:Int}(h:0≤n)(h':n≤255):w8 n=n:=by
 show IntKind.u8.wrap n=n
 rw[IntKind.wrap_u8];omega
theorem oF(n:Int):0≤w8 n∧w8 n≤255:=by
 show 0≤IntKind.u8.wrap n∧IntKind.u8.wrap n≤255
 rw[IntKind.wrap_u8];omega
theorem cP{i:Nat}{n:Nat}(h:i<n)(hn:n≤9223372036854775807):w64 ((i:Int)+1)=((i+1:Nat):Int):=by
 rw[ar];omega
theorem b8:room=4294967296:=rfl
theorem zJ{ρ:Type}(a:Option ρ):amb a a=a:=by unfold amb;rw[bm rfl]
theorem dQ{α:Type}{l:List α}{i:Nat}(h:i<l.length)(z:α):l.getD i z=l[i]:=by
 rw[List.getD_eq_getElem?_getD,List.getElem?_eq_getElem h];rfl
theorem dp{α:Type}{l:List α}{i:Nat}(h:i<l.length)(z:α):l.getD (i:Int).toNat z=l[i]:=by
 rw[af];exact dQ h z
theorem Bl{α:Type}{l:List α}{i:Nat}(h:i<l.length)(a z:α):(l.set i a).getD i z=a:=by
 rw[List.getD_eq_getElem?_getD,List.getElem?_set_self h];rfl
end Go.Proofs.YtmcjclfgedjgaaaGreat.E
namespace Go.Proofs.YtmcjclfgedjgaaaGreat.E.TD
def LeO{α:Type}(a b:Option α):Prop:=∀ y,a=some y→b=some y
theorem lr{α:Type}{a:Option α}:LeO a a:=fun _ h=>h
theorem ln{α:Type}{b:Option α}:LeO none b:=fun _ h=>by cases h
theorem li{α:Type}{c:Prop}[Decidable c]{a b a' b':Option α}(h:LeO a a')(k:LeO b b'):LeO (if c then a else b) (if c then a' else b'):=by
 by_cases hc:c
 ·rw[bm hc,bm hc];exact h
 ·rw[bn hc,bn hc];exact k
theorem lb{α β:Type}{a a':Option α}{k k':α→Option β}(h:LeO a a')(hk:∀ r,LeO (k r) (k' r)):LeO (a.bind k) (a'.bind k'):=by
 intro y hy
 cases a with
 | none=>cases hy
 | some r=>rw[h r rfl];exact hk r y hy
end Go.Proofs.YtmcjclfgedjgaaaGreat.E.TD
