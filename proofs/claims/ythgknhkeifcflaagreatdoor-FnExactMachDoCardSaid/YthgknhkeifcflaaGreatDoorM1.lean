/- What the pure statement needs (1). No condition. -/
import Derived.Test.YthgknhkeifcflaaGreatDoorEG4
import Derived.Laws.BitsLemmas
import Derived.Test.YthgknhkeifcflaaGreatDoorTDe1
import Derived.Test.YthgknhkeifcflaaGreatDoorTDe2
import Derived.Test.YthgknhkeifcflaaGreatDoorTDe3
import Derived.Test.YthgknhkeifcflaaGreatDoorTDe4
namespace Go.Proofs.YthgknhkeifcflaaGreatDoor.E
set_option linter.unusedVariables false
theorem aa{α β:Type _}(a:α)(f:α→Option β):(some a).bind f=f a:=rfl
theorem ab{p:Prop}[Decidable p]:(decide p=true)=p:=decide_eq_true_eq
theorem ac{p:Prop}[Decidable p](a:p):decide p=true:=decide_eq_true a
theorem ae{p:Prop}[Decidable p](a:¬p):decide p=false:=decide_eq_false a
theorem af(n:Nat):((n:Int)).toNat=n:=Int.toNat_natCast n
theorem ag{α:Type _}{x y:List α}:(x++y).length=x.length+y.length:=List.length_append
theorem ah{α:Type _}(x y z:List α):x++y++z=x++(y++z):=List.append_assoc x y z
theorem ai{α:Type _}{i:Nat}{l:List α}(h:i<l.length):l.drop i=l[i]::l.drop (i+1):=List.drop_eq_getElem_cons h
theorem aj{α:Sort _}{p:Prop}[Decidable p]{a b:α}(h:¬p):(if decide p=true then a else b)=b:=if_neg (by rw[decide_eq_true_eq];exact h)
theorem ak{α:Sort _}{p:Prop}[Decidable p]{a b:α}(h:p):(if decide p=true then a else b)=a:=if_pos (decide_eq_true h)
theorem al{α:Sort _}{c:Prop}[Decidable c]{a b:α}(h:c:=by omega):(if c then a else b)=a:=if_pos h
theorem am{α:Sort _}{c:Prop}[Decidable c]{a b:α}(h:¬c:=by omega):(if c then a else b)=b:=if_neg h
theorem an{α:Sort _}{p:Prop}[Decidable p]{a b:α}(h:p:=by omega):(if decide p=true then a else b)=a:=if_pos (decide_eq_true h)
theorem ap{α:Sort _}{p:Prop}[Decidable p]{a b:α}(h:¬p:=by omega):(if decide p=true then a else b)=b:=if_neg (by rw[decide_eq_true_eq];exact h)
theorem bW{n:Int}(h:-9223372036854775808≤n)(h':n≤9223372036854775807):w64 n=n:=by
 show IntKind.i64.wrap n=n
 rw[IntKind.wrap_i64];omega
theorem aq{n:Int}(h:-9223372036854775808≤n:=by omega)(h':n≤9223372036854775807:=by omega):w64 n=n:=bW h h'
theorem Be{n:Int}(h:0≤n)(h':n≤255):w8 n=n:=by
 show IntKind.u8.wrap n=n
 rw[IntKind.wrap_u8];omega
theorem VD(n:Int):0≤w8 n∧w8 n≤255:=by
 show 0≤IntKind.u8.wrap n∧IntKind.u8.wrap n≤255
 rw[IntKind.wrap_u8];omega
theorem ci{i:Nat}{n:Nat}(h:i<n)(hn:n≤9223372036854775807):w64 ((i:Int)+1)=((i+1:Nat):Int):=by
 rw[aq];omega
theorem ch:room=4294967296:=rfl
theorem lZ{ρ:Type}(a:Option ρ):amb a a=a:=by unfold amb;rw[bn rfl]
theorem cF{α:Type}{l:List α}{i:Nat}(h:i<l.length)(z:α):l.getD i z=l[i]:=by
 rw[List.getD_eq_getElem?_getD,List.getElem?_eq_getElem h];rfl
theorem ck{α:Type}{l:List α}{i:Nat}(h:i<l.length)(z:α):l.getD (i:Int).toNat z=l[i]:=by
 rw[af];exact cF h z
theorem rM{α β:Type}(L:List β→Int→Option (List β×Unit))(f:α→β)(l:List α)
  (step:∀ (acc:List β) (i:Nat) (h:i<l.length),acc.length=l.length→L acc i=L (acc.set i (f l[i])) ((i+1:Nat):Int))
  (stop:∀ acc:List β,acc.length=l.length→L acc (l.length:Int)=some (acc,())) (acc:List β) (ha:acc.length=l.length):L acc 0=some (l.map f,()):=by
 have key:∀ (d i:Nat) (acc:List β),acc.length=l.length→i+d=l.length→(∀ j (hj:j<i) (h:j<l.length),acc[j]? = some (f l[j]))→L acc (i:Int)=some (l.map f,()):=by
  intro d
  induction d with
  | zero =>
   intro i acc ha hd hj
   have hi:i=l.length:=by omega
   subst hi
   rw[stop acc ha]
   congr 2
   apply List.ext_getElem?
   intro j
   by_cases h:j<l.length
   ·rw[hj j h h,List.getElem?_map,List.getElem?_eq_getElem h];rfl
   ·rw[List.getElem?_eq_none (by omega),List.getElem?_eq_none (by rw[bh];omega)]
  | succ d ih =>
   intro i acc ha hd hj
   have hi:i<l.length:=by omega
   rw[step acc i hi ha]
   refine ih (i+1) _ (by rw[aX];exact ha) (by omega) fun j hji h=>?_
   by_cases e:i=j
   ·subst e
    rw[List.getElem?_set_self (by omega)]
   ·rw[List.getElem?_set_ne e]
    exact hj j (by omega) h
 exact key l.length 0 acc ha (by omega) fun j hj _=>absurd hj (by omega)
theorem pI{ρ α:Type}(L:Int→Option ρ)(l:List α)(y:Option ρ)(step:∀ (i:Nat) (h:i<l.length),L i=L ((i+1:Nat):Int))(stop:L (l.length:Int)=y):L 0=y:=by
 have key:∀ (d i:Nat),i+d=l.length→L (i:Int)=y:=by
  intro d
  induction d with
  | zero=>intro i hd;rw[show i=l.length by omega];exact stop
  | succ d ih=>intro i hd;rw[step i (by omega)];exact ih (i+1) (by omega)
 exact key l.length 0 (by omega)
theorem nK{α:Type}{l:List α}{i:Nat}(h:i<l.length)(a z:α):(l.set i a).getD i z=a:=by
 rw[List.getD_eq_getElem?_getD,List.getElem?_set_self h];rfl
set_option linter.defProp false
def aV:=@List.getElem_mem
def dW(p:Nat→Bool)(n:Nat):Bool:=(List.range n).any p
theorem anyB_iff{p:Nat→Bool}{n:Nat}:dW p n=true ↔ ∃ i,i<n∧p i=true:=by
 unfold dW
 rw[List.any_eq_true]
 constructor
 ·rintro ⟨i,h,e⟩;exact⟨i,List.mem_range.1 h,e⟩
 ·rintro ⟨i,h,e⟩;exact⟨i,List.mem_range.2 h,e⟩
theorem anyB_false{p:Nat→Bool}{n:Nat}:dW p n=false ↔ ∀ i,i<n→p i=false:=by
 rw[← aS,anyB_iff]
 constructor
 ·intro h i hi
  cases e:p i with
  | false=>rfl
  | true=>exact absurd ⟨i,hi,e⟩ h
 ·rintro h ⟨i,hi,e⟩
  rw[h i hi]at e;cases e
theorem KD(p q:Nat→Bool)(n:Nat):dW (fun i=>p i||q i) n=(dW p n||dW q n):=by
 cases h:dW p n with
 | true =>
  obtain⟨i,hi,e⟩:=anyB_iff.1 h
  rw[Bool.true_or,anyB_iff];exact⟨i,hi,by rw[e];rfl⟩
 | false =>
  rw[Bool.false_or]
  have h':=anyB_false.1 h
  cases g:dW q n with
  | true =>
   obtain⟨i,hi,e⟩:=anyB_iff.1 g
   rw[anyB_iff];exact⟨i,hi,by rw[e,Bool.or_true]⟩
  | false=>rw[anyB_false];intro i hi;rw[h' i hi,anyB_false.1 g i hi];rfl
theorem gh{ρ:Type}(F:Int→Option ρ)(n:Nat)(p:Nat→Bool)(x y:Option ρ)
  (step:∀ i:Nat,i<n→F i=if p i=true then x else F ((i+1:Nat):Int)) (stop:F (n:Int)=y):F 0=if dW p n=true then x else y:=by
 have key:∀ (d i:Nat),i+d=n→(∀ j,j<i→p j=false)→F (i:Int)=if dW p n=true then x else y:=by
  intro d
  induction d with
  | zero =>
   intro i hd hj
   have hi:i=n:=by omega
   subst hi
   rw[stop,anyB_false.2 hj];rfl
  | succ d ih =>
   intro i hd hj
   rw[step i (by omega)]
   cases e:p i with
   | true=>rw[bn rfl,anyB_iff.2 ⟨i,by omega,e⟩,bn rfl]
   | false =>
    rw[bo (by simp)]
    refine ih (i+1) (by omega) fun j h=>?_
    by_cases h':j=i
    ·subst h';exact e
    ·exact hj j (by omega)
 exact key n 0 (by omega) (fun j h=>absurd h (by omega))
theorem iz{σ:Type}(F:Int→Option (Int×σ))(s:σ)(n:Nat)(p:Nat→Bool)
  (step:∀ i:Nat,i<n→F i=if p i=true then some ((i:Int),s)else F ((i+1:Nat):Int)) (stop:F (n:Int)=some (-1,s)) :
  ∃ k:Int,F 0=some (k,s)∧decide (k≥0)=dW p n∧k<n∧(0≤k→p k.toNat=true∧∀ j:Nat,(j:Int)<k→p j=false)∧(k<0→k = -1):=by
 have key:∀ (d i:Nat),i+d=n→(∀ j,j<i→p j=false)→∃ k:Int,F (i:Int)=some (k,s)∧decide (k≥0)=dW p n∧k<n∧(0≤k→p k.toNat=true∧∀ j:Nat,(j:Int)<k→p j=false)∧(k<0→k = -1):=by
  intro d
  induction d with
  | zero =>
   intro i hd hj
   have hi:i=n:=by omega
   subst hi
   exact⟨-1,stop,by rw[anyB_false.2 hj];rfl,by omega,fun h=>by omega,fun _=>rfl⟩
  | succ d ih =>
   intro i hd hj
   rw[step i (by omega)]
   cases e:p i with
   | true=>rw[bn rfl];exact⟨i,rfl,by rw[anyB_iff.2 ⟨i,by omega,e⟩];exact ac (by omega),by omega,fun _=>⟨by rw[af];exact e,fun j h=>hj j (by omega)⟩,fun h=>by omega⟩
   | false =>
    rw[bo (by simp)]
    refine ih (i+1) (by omega) fun j h=>?_
    by_cases h':j=i
    ·subst h';exact e
    ·exact hj j (by omega)
 exact key n 0 (by omega) (fun j h=>absurd h (by omega))
theorem eY{α:Type}(l:List α)(z:α)(p:α→Bool):dW (fun i=>p (l.getD i z)) l.length=l.any p:=by
 cases h:l.any p with
 | true =>
  obtain⟨x,hx,e⟩:=List.any_eq_true.1 h
  obtain⟨i,hi,rfl⟩:=bk.1 hx
  exact anyB_iff.2 ⟨i,hi,by rw[cF hi];exact e⟩
 | false =>
  rw[anyB_false]
  intro i hi
  rw[cF hi]
  cases e:p l[i] with
  | false=>rfl
  | true =>
   have:l.any p=true:=List.any_eq_true.2 ⟨l[i],aV hi,e⟩
   rw[h]at this;cases this
theorem Gg{α:Type}(L:List α→Int→Int→Option (Int×Unit))(P:α→Prop)(b:Nat)(bd:Int)
  (stop:∀ a k,L a k (a.length:Int)=some (k,()))
  (step:∀ (a:List α) (k:Int) (i:Nat) (h:i<a.length),a.length≤4294967296→P a[i]→0≤k→k+b≤bd→∃ y k',L a k i=L (a.set i y) k' ((i+1:Nat):Int)∧k≤k'∧k'≤k+b)
  (l:List α) (k:Int) (hl:l.length≤4294967296) (hP:∀ x∈l,P x) (hk:0≤k) (hb:k+b*l.length≤bd) :
  ∃ k',L l k 0=some (k',())∧k≤k'∧k'≤k+b*l.length:=by
 have hs:∀ d:Nat,(b*((d+1:Nat):Int):Int)=b*d+b:=fun d=>by rw[Int.natCast_add,Int.mul_add];simp
 have hz:∀ d:Nat,(0:Int)≤b*d:=fun d=>by exact_mod_cast Nat.zero_le (b*d)
 have key:∀ (d i:Nat) (a:List α) (k:Int),i+d=a.length→a.length≤4294967296→(∀ j (h:j<a.length),i≤j→P a[j])→0≤k→k+b*d≤bd →
   ∃ k',L a k (i:Int)=some (k',())∧k≤k'∧k'≤k+b*d:=by
  intro d
  induction d with
  | zero =>
   intro i a k hd hl hp hk hb
   have hi:i=a.length:=by omega
   subst hi
   exact⟨k,stop a k,Int.le_refl k,by simp⟩
  | succ d ih =>
   intro i a k hd hl hp hk hb
   have hi:i<a.length:=by omega
   have h0:=hz d
   rw[hs]at hb
   obtain⟨y,k1,e1,e2,e3⟩:=step a k i hi hl (hp i hi (aG i)) hk (by omega)
   obtain⟨k',f1,f2,f3⟩:=ih (i+1) (a.set i y) k1 (by rw[aX];omega) (by rw[aX];exact hl)
    (fun j hj hij=>by rw[List.getElem_set_ne (by omega)];exact hp j (by rw[aX]at hj;exact hj) (by omega)) (by omega) (by omega)
   exact⟨k',e1.trans f1,by omega,by rw[hs];omega⟩
 exact key l.length 0 l k (by omega) hl (fun j hj _=>hP _ (aV hj)) hk hb
end Go.Proofs.YthgknhkeifcflaaGreatDoor.E
namespace Go.Proofs.YthgknhkeifcflaaGreatDoor.E.TD
open Go.Proofs.YthgknhkeifcflaaGreatDoor.E
set_option linter.unusedVariables false
theorem eL(a b c:Int):cV a b c=some (decide (b≤a∧a≤c),()):=by
 rw[OC]
 by_cases h:a≥b
 ·rw[bn (by simp[h])];simp[show b≤a from h]
 ·rw[bo (by simp[h])];simp[show ¬ b≤a from h]
theorem dN(a b c:Int):dE a b c=some (decide (b≤a∧a≤c),()):=by
 rw[H7]
 by_cases h:b≤a
 ·rw[bn (by simp[h])];simp[h]
 ·rw[bo (by simp[h])];simp[h]
set_option linter.defProp false
def aZ:=@List.length_eq_zero_iff
inductive Small:bE→Prop
 | mk (x:bE):x.Kids.length≤100→(∀ k∈x.Kids,Small k)→Small x
theorem rH{x:bE}(h:x.Kids=[]):Small x:=.mk x (by rw[h];decide) (fun k hk=>by rw[h]at hk;cases hk)
theorem Gp(a b:Int):mxI a b=if a>b then a else b:=by unfold mxI;split <;> split <;> omega
theorem wZ{x:bE}(h:Small x):∃ v,jj x=some (v,())∧iY x=some (v,()):=by
 induction h with
 | mk x hl hs ih =>
  rw[H9,EH]
  have key:∀ (n i:Nat) (t:Int),i+n=x.Kids.length→∃ v,uW t i x=some (v,())∧qv t x.Kids x.Kids.length i=some (v,()):=by
   intro n
   induction n with
   | zero =>
    intro i t hi
    rw[AJ,tt,ap,ap]
    exact⟨_,rfl,rfl⟩
   | succ n ihn =>
    intro i t hi
    have hi':i<x.Kids.length:=by omega
    obtain⟨v,e1,e2⟩:=ih x.Kids[i] (aV hi')
    rw[AJ,an,al,tt,an,al,ck hi',e1,e2,aa,aa]
    dsimp only
    rw[H8,Gp,ci hi' (by omega)]
    by_cases c:t>v
    ·rw[ak c,bn c,aa];exact ihn (i+1) t (by omega)
    ·rw[aj c,bo c,aa];exact ihn (i+1) v (by omega)
  exact key x.Kids.length 0 0 (by omega)
theorem Gv{c:bS}{b:Int}(h:c.bad=true):iG c b=some (false,c,()):=by rw[AK,bo (by simp[h])]
theorem jd{S:List Int}{p:Nat}{b:Int}(h:S.length≤p):iG ⟨S,p,false⟩ b=some (false,⟨S,p,false⟩,()):=by
 rw[AK,bn (by simp),aj (by simp;omega)]
theorem mF{S:List Int}{p:Nat}{b:Int}(h:p<S.length):iG ⟨S,p,false⟩ b=some (decide (S[p]=b),⟨S,p,false⟩,()):=by
 rw[AK];dsimp only
 rw[bn (by simp),an,al,ck h]
theorem eo{r:bH}(h:r.s=[]∨r.bad=true):kO r=some (0,false,r,()):=by
 rw[EI]
 by_cases h1:r.s=[]
 ·rw[ak h1]
 ·rw[aj h1,bn (h.resolve_left h1)]
theorem fm{b:Int}{s:List Int}:kO ⟨b::s,false⟩=some (b,true,⟨b::s,false⟩,()):=by
 rw[EI,bo (by simp),bo (by simp),bn (by simp)]
 rfl
theorem pV(b:Int)(s:List Int):List.take ((b::s).length-1) (List.drop 1 (b::s))=s:=by simp
theorem gA{r:bH}{b:Int}(h:r.s=[]∨r.bad=true):jL r b=some (false,r,()):=by
 rw[ye,eo h,aa,bn (by simp)]
theorem kc{b:Int}{s:List Int}:jL ⟨b::s,false⟩ b=some (true,⟨s,false⟩,()):=by
 rw[ye,fm,aa,bo (by simp),bo (by simp),bn (by simp;omega)]
 dsimp only
 rw[pV]
theorem j9{a b:Int}{s:List Int}(h:a≠b):jL ⟨a::s,false⟩ b=some (false,⟨a::s,false⟩,()):=by
 rw[ye,fm,aa,bo (by simp),bn (by simp[h])]
theorem gW(r:bH):(r.s=[]∨r.bad=true)∨∃ b s,r=⟨b::s,false⟩:=by
 obtain⟨s,bad⟩:=r
 cases s with
 | nil=>exact .inl (.inl rfl)
 | cons b s=>cases bad with
  | true=>exact .inl (.inr rfl)
  | false=>exact .inr ⟨b,s,rfl⟩
def ez(f:List Bool)(j:Nat):Nat→List Bool
 | 0=>f
 | n+1=>ez (f.set j true) (j+1) n
theorem iq(n:Nat):∀ (f:List Bool) (j:Nat),(ez f j n).length=f.length:=by
 induction n with
 | zero=>intro f j;rfl
 | succ n ih=>intro f j;unfold ez;rw[ih,aX]
theorem MD{k hi:Int}(c:bS)(z w:bE)(hh:hi≤255):∀ (n:Nat) (f:List Bool) (j:Nat),f.length=256→(hi+1-j).toNat=n→rv f k hi j c z w=lF (ez f j n) (w64 (k+1)) c z w:=by
 intro n
 induction n with
 | zero=>intro f j hf hn;rw[Ie,ap];rfl
 | succ n ih =>
  intro f j hf hn
  rw[Ie,bn (by rw[ab];omega),al,aq (n:=(j:Int)+1),af]
  exact ih (f.set j true) (j+1) (by rw[aX];exact hf) (by omega)
theorem MB{t:List Int}{k hi:Int}(c:bH)(z w:bE)(hh:hi≤255):∀ (n:Nat) (f:List Bool) (j:Nat),f.length=256→(hi+1-j).toNat=n→qx t f k hi j c z w=nU t (ez f j n) (w64 (k+1)) c z w:=by
 intro n
 induction n with
 | zero=>intro f j hf hn;rw[EL,ap];rfl
 | succ n ih =>
  intro f j hf hn
  rw[EL,bn (by rw[ab];omega),al,aq (n:=(j:Int)+1),af]
  exact ih (f.set j true) (j+1) (by rw[aX];exact hf) (by omega)
def cT:Nat→List Int→List Bool→Bool→List Bool×Bool
 | 0,_,f,b=>(f,b)
 | _+1,[],f,b=>(f,b)
 | n+1,lo::t,f,b=>match t with
  | d::hi::u=>if d=45 then cT n u (ez f lo.toNat (hi+1-lo).toNat) (b||decide (hi<lo))else cT n t (ez f lo.toNat (lo+1-lo).toNat) b
  | _=>cT n t (ez f lo.toNat (lo+1-lo).toNat) b
theorem IE(n:Nat):∀ (l:List Int) (f:List Bool) (b:Bool),(cT n l f b).1.length=f.length:=by
 induction n with
 | zero=>intro l f b;rfl
 | succ n ih =>
  intro l f b
  match l with
  | []=>rfl
  | [lo]=>show(cT n [] _ b).1.length=_;rw[ih,iq]
  | [lo,d]=>show(cT n [d] _ b).1.length=_;rw[ih,iq]
  | lo::d::hi::u =>
   show(if d=45 then _ else _:List Bool×Bool).1.length=_
   split
   ·rw[ih,iq]
   ·rw[ih,iq]
def kz(f:List Bool):Nat→Nat→List Int→List Int
 | _,0,t=>t
 | j,n+1,t=>kz f (j+1) n (if f.getD j false=true then t++[w8 j]else t)
theorem LL(c:bS)(z w:bE){f:List Bool}(hf:f.length=256):∀ (n j:Nat) (t:List Int),j+n=256→t.length≤j→ru f t j c z w=some (⟨w.Op,w.C,kz f j n t,w.Not,w.Kids⟩,c,()):=by
 intro n
 induction n with
 | zero=>intro j t hj ht;rw[Id,ap];rfl
 | succ n ih =>
  intro j t hj ht
  rw[Id,bn (by rw[ab];omega),al,aq (n:=(j:Int)+1),af]
  unfold kz
  by_cases c:f.getD j false=true
  ·rw[bn c,bn c,bn (by rw[ch];omega)]
   exact ih (j+1) _ (by omega) (by simp;omega)
  ·rw[bo c,bo c]
   exact ih (j+1) _ (by omega) (by omega)
theorem LK(c:bH)(z w:bE){f:List Bool}(hf:f.length=256):∀ (n j:Nat) (t:List Int),j+n=256→t.length≤j→kS t f 256 j c z w=some (⟨w.Op,w.C,kz f j n t,w.Not,w.Kids⟩,c,()):=by
 intro n
 induction n with
 | zero=>intro j t hj ht;rw[EK,ap];rfl
 | succ n ih =>
  intro j t hj ht
  rw[EK,bn (by rw[ab];omega),al,aq (n:=(j:Int)+1),af]
  unfold kz
  by_cases c:f.getD j false=true
  ·rw[bn c,bn c,bn (by rw[ch];omega)]
   exact ih (j+1) _ (by omega) (by simp;omega)
  ·rw[bo c,bo c]
   exact ih (j+1) _ (by omega) (by omega)
theorem vt(n:Nat)(lo:Int)(f:List Bool)(b:Bool):∀ (t:List Int),(∀ hi u,t≠45::hi::u)→cT (n+1) (lo::t) f b=cT n t (ez f lo.toNat (lo+1-lo).toNat) b
 | [],_=>rfl
 | [_],_=>rfl
 | d::hi::u,h=>by
  show(if d=45 then _ else _:List Bool×Bool)=_
  rw[bo (fun e=>h hi u (by rw[e]))]
theorem vo(n:Nat)(lo hi:Int)(u:List Int)(f:List Bool)(b:Bool):cT (n+1) (lo::45::hi::u) f b=cT n u (ez f lo.toNat (hi+1-lo).toNat) (b||decide (hi<lo)):=by
 rw[cT]
 exact bn rfl
theorem rD(n:Nat)(f:List Bool)(b:Bool):cT n [] f b=(f,b):=by cases n <;> rfl
def n93(x:Int):Bool:=!decide (x=93)
def cg(l:List Int):List Int:=l.takeWhile n93
theorem K0:cg []=[]:=rfl
theorem l6{l:List Int}:cg (93::l)=[]:=rfl
theorem jr{a:Int}{l:List Int}(h:a≠93):cg (a::l)=a::cg l:=List.takeWhile_cons_of_pos (by unfold n93;simp[h])
theorem wG(l:List Int):(cg l).length≤l.length:=(List.takeWhile_sublist _).length_le
theorem C0{k lo hi:Int}(c:bS)(z w:bE)(hh:hi≤255)(hl:0≤lo)(f:List Bool)(hf:f.length=256):rv f k hi lo c z w=lF (ez f lo.toNat (hi+1-lo).toNat) (w64 (k+1)) c z w:=by
 have:=MD (k:=k) c z w hh _ f lo.toNat hf rfl
 rwa [Int.toNat_of_nonneg hl]at this
theorem CZ{t:List Int}{k lo hi:Int}(c:bH)(z w:bE)(hh:hi≤255)(hl:0≤lo)(f:List Bool)(hf:f.length=256):qx t f k hi lo c z w=nU t (ez f lo.toNat (hi+1-lo).toNat) (w64 (k+1)) c z w:=by
 have:=MB (t:=t) (k:=k) c z w hh _ f lo.toNat hf rfl
 rwa [Int.toNat_of_nonneg hl]at this
theorem U5(z w:bE){S:List Int}(hS:S.length≤60)(hB:∀ b∈S,0≤b∧b≤255):∀ (n p:Nat) (f:List Bool) (k:Int) (b:Bool),f.length=256→p≤S.length→(cg (S.drop p)).length≤n→0≤k→k≤p →
  lF f k ⟨S,p,b⟩ z w=iI (cT n (cg (S.drop p)) f b).1 ⟨S,(p+(cg (S.drop p)).length:Nat),(decide (S.length≤p+(cg (S.drop p)).length)||(decide (k=0)&&decide (cg (S.drop p)=[])))||(cT n (cg (S.drop p)) f b).2⟩ z w:=by
 intro n
 induction n with
 | zero =>
  intro p f k b hf hp hn hk hkp
  have hn0:cg (S.drop p)=[]:=aZ.1 (by omega)
  rw[hn0,rD,vf]
  simp only[List.length_nil,Nat.add_zero,decide_true,Bool.and_true]
  by_cases h:p<S.length
  ·have h93:S[p]=93:=by
    rw[ai h]at hn0
    apply Classical.byContradiction
    intro hne
    rw[jr hne]at hn0
    cases hn0
   rw[bn (by rw[ab];omega),al,ck h,h93,bo (by simp),ap]
   by_cases hk0:k=0
   ·rw[ak hk0,ac hk0];simp
   ·rw[aj hk0,ae hk0,ae (p:=S.length≤p) (by omega)];simp
  ·rw[ap,bn (by rw[ab];omega),ac (p:=S.length≤p) (by omega)];simp
 | succ n ih =>
  intro p f k b hf hp hn hk hkp
  by_cases h:p<S.length
  ·by_cases h93:S[p]=93
   ·have hn0:cg (S.drop p)=[]:=by rw[ai h,h93,l6]
    rw[hn0,rD,vf]
    simp only[List.length_nil,Nat.add_zero,decide_true,Bool.and_true]
    rw[bn (by rw[ab];omega),al,ck h,h93,bo (by simp),ap]
    by_cases hk0:k=0
    ·rw[ak hk0,ac hk0];simp
    ·rw[aj hk0,ae hk0,ae (p:=S.length≤p) (by omega)];simp
   ·have hlo:=hB _ (aV h)
    have e0:cg (S.drop p)=S[p]::cg (S.drop (p+1)):=by rw[ai h,jr h93]
    have hstep:∀ (t:List Int) (q:Nat) (f':List Bool) (b':Bool),f'.length=256→q≤S.length→p<q→(cg (S.drop q)).length≤n→p+(cg (S.drop p)).length=q+(cg (S.drop q)).length→cT (n+1) (cg (S.drop p)) f b=cT n (cg (S.drop q)) f' b' →
      lF f' (w64 (k+1)) ⟨S,q,b'⟩ z w=iI (cT (n+1) (cg (S.drop p)) f b).1 ⟨S,(p+(cg (S.drop p)).length:Nat),(decide (S.length≤p+(cg (S.drop p)).length)||(decide (k=0)&&decide (cg (S.drop p)=[])))||(cT (n+1) (cg (S.drop p)) f b).2⟩ z w:=by
     intro t q f' b' hf' hq hpq hb he hr
     rw[hr,he,ih q f' _ b' hf' hq hb (by rw[aq];omega) (by rw[aq];omega)]
     have z1:decide (w64 (k+1)=0)=false:=by rw[aq];exact ae (by omega)
     have z2:decide (cg (S.drop p)=[])=false:=ae (by rw[e0];exact List.cons_ne_nil _ _)
     rw[z1,z2];simp
    have hno:mW f k (w64 S[p]) (w64 S[p]) ⟨S,(w64 ((p:Int)+1)),b⟩ z w=lF (ez f S[p].toNat (S[p]+1-S[p]).toNat) (w64 (k+1)) ⟨S,(p+1:Nat),b⟩ z w:=by
     rw[aq (n:=S[p]),Ib,ap,Ic,C0 _ z w hlo.2 hlo.1 f hf,aq (n:=(p:Int)+1)]
     rfl
    rw[vf];dsimp only
    rw[bn (by rw[ab];omega),al,ck h,bn (by simp[h93]),al]
    have hl1:p+(cg (S.drop p)).length=p+1+(cg (S.drop (p+1))).length:=by rw[e0];simp;omega
    have hn1:(cg (S.drop (p+1))).length≤n:=by rw[e0]at hn;simpa using hn
    have hel:(∀ hi u,cg (S.drop (p+1))≠45::hi::u)→mW f k (w64 S[p]) (w64 S[p]) ⟨S,(w64 ((p:Int)+1)),b⟩ z w=iI (cT (n+1) (cg (S.drop p)) f b).1 ⟨S,(p+(cg (S.drop p)).length:Nat),(decide (S.length≤p+(cg (S.drop p)).length)||(decide (k=0)&&decide (cg (S.drop p)=[])))||(cT (n+1) (cg (S.drop p)) f b).2⟩ z w:=fun hne=>by
     rw[hno]
     exact hstep [] (p+1) _ b (by rw[iq];exact hf) (by omega) (by omega) hn1 hl1 (by rw[e0];exact vt n _ f b _ hne)
    have w2:w64 (w64 ((p:Int)+1)+1)=((p+2:Nat):Int):=by rw[aq (n:=(p:Int)+1),aq];omega
    have w1:w64 ((p:Int)+1)=((p+1:Nat):Int):=by rw[aq (n:=(p:Int)+1)];omega
    by_cases h2:p+2<S.length
    ·have h1:p+1<S.length:=by omega
     rw[w2,bn (by rw[ab];omega),bn (by rw[w1];omega)]
     have g1:List.getD S (w64 ((p:Int)+1)).toNat 0=S[p+1]:=by rw[w1,ck h1]
     have g2:List.getD S ((p+2:Nat):Int).toNat 0=S[p+2]:=ck h2 0
     rw[g1,g2]
     by_cases c1:S[p+1]=45
     ·rw[ak c1,al]
      by_cases c2:S[p+2]=93
      ·rw[bo (by simp[c2])]
       refine hel fun hi u hu=>?_
       rw[ai h1,c1,jr (by decide),ai h2,c2,l6]at hu
       cases hu
      ·have hhi:=hB _ (aV h2)
       rw[bn (by simp[c2]),al]
       have e1:cg (S.drop (p+1))=45::S[p+2]::cg (S.drop (p+3)):=by
        rw[ai h1,c1,jr (by decide),ai h2,jr c2]
       have w3:w64 (w64 ((p:Int)+1)+2)=((p+3:Nat):Int):=by rw[w1,aq];omega
       rw[w3,aq (n:=S[p]),aq (n:=S[p+2]),Ib]
       have hfin:∀ b',b'=(b||decide (S[p+2]<S[p]))→vg f k S[p] S[p+2] ⟨S,((p+3:Nat):Int),b'⟩ z w=iI (cT (n+1) (cg (S.drop p)) f b).1 ⟨S,(p+(cg (S.drop p)).length:Nat),(decide (S.length≤p+(cg (S.drop p)).length)||(decide (k=0)&&decide (cg (S.drop p)=[])))||(cT (n+1) (cg (S.drop p)) f b).2⟩ z w:=fun b' hb'=>by
        rw[Ic,C0 _ z w hhi.2 hlo.1 f hf]
        refine hstep [] (p+3) _ b' (by rw[iq];exact hf) (by omega) (by omega) (by rw[e1]at hn1;simp at hn1;omega) (by rw[hl1,e1];simp;omega) ?_
        rw[e0,e1,vo,hb']
       by_cases c3:S[p+2]<S[p]
       ·rw[ak c3];exact hfin true (by rw[ac c3,Bool.or_true])
       ·rw[aj c3];exact hfin b (by rw[ae c3,Bool.or_false])
     ·rw[aj c1]
      refine hel fun hi u hu=>?_
      rw[ai h1]at hu
      by_cases c9:S[p+1]=93
      ·rw[c9,l6]at hu;cases hu
      ·rw[jr c9]at hu;exact c1 (aL hu).1
    ·rw[w2,ap]
     refine hel fun hi u hu=>?_
     have:=wG (S.drop (p+1))
     rw[hu,aQ]at this
     simp at this
     omega
  ·have hd:S.drop p=[]:=aW (by omega)
   rw[hd,K0,rD,vf]
   simp only[List.length_nil,Nat.add_zero,decide_true,Bool.and_true]
   rw[ap,bn (by rw[ab];omega),ac (p:=S.length≤p) (by omega)];simp
theorem U4(z w:bE){s t:List Int}(ht:t.length≤60)(hB:∀ b∈t,0≤b∧b≤255):∀ (n i:Nat) (f:List Bool) (b:Bool),f.length=256→i≤t.length→(t.drop i).length≤n →
  nU t f i ⟨s,b⟩ z w=kS [] (cT n (t.drop i) f b).1 256 0 ⟨s,(cT n (t.drop i) f b).2⟩ z w:=by
 intro n
 induction n with
 | zero =>
  intro i f b hf hi hn
  have hd:t.drop i=[]:=aZ.1 (by omega)
  rw[aQ]at hn
  rw[hd,rD,yd,ap,hf]
  rfl
 | succ n ih =>
  intro i f b hf hi hn
  rw[aQ]at hn
  by_cases h:i<t.length
  ·have hlo:=hB _ (aV h)
   rw[yd,bn (by rw[ab];omega),al,al,ck h]
   have e0:t.drop i=t[i]::t.drop (i+1):=ai h
   have hel:(∀ hi u,t.drop (i+1)≠45::hi::u)→mr t f i (w64 t[i]) (w64 t[i]) ⟨s,b⟩ z w=kS [] (cT (n+1) (t.drop i) f b).1 256 0 ⟨s,(cT (n+1) (t.drop i) f b).2⟩ z w:=fun hne=>by
    rw[EJ,aq (n:=t[i]),CZ _ z w hlo.2 hlo.1 f hf,e0,vt n _ f b _ hne,ci h (by omega)]
    exact ih (i+1) _ b (by rw[iq];exact hf) (by omega) (by rw[aQ];omega)
   have w1:w64 ((i:Int)+1)=((i+1:Nat):Int):=ci h (by omega)
   have w2:w64 ((i:Int)+2)=((i+2:Nat):Int):=by rw[aq];omega
   by_cases h2:i+2<t.length
   ·have h1:i+1<t.length:=by omega
    rw[w2,bn (by rw[ab];omega),w1,al,ck h1]
    by_cases c1:t[i+1]=45
    ·have hhi:=hB _ (aV h2)
     rw[ak c1,al,ck h2,aq (n:=t[i]),aq (n:=t[i+2])]
     have e1:t.drop (i+1)=45::t[i+2]::t.drop (i+3):=by rw[ai h1,c1,ai h2]
     have hfin:∀ b',b'=(b||decide (t[i+2]<t[i]))→mr t f ((i+2:Nat):Int) t[i] t[i+2] ⟨s,b'⟩ z w=kS [] (cT (n+1) (t.drop i) f b).1 256 0 ⟨s,(cT (n+1) (t.drop i) f b).2⟩ z w:=fun b' hb'=>by
      rw[EJ,CZ _ z w hhi.2 hlo.1 f hf,e0,e1,vo,hb',ci h2 (by omega)]
      exact ih (i+3) _ _ (by rw[iq];exact hf) (by omega) (by rw[aQ];omega)
     cases b with
     | true=>rw[bn rfl];exact hfin true (by simp)
     | false=>rw[bo (by simp)];exact hfin _ (by simp)
    ·rw[aj c1]
     refine hel fun hi' u hu=>c1 ?_
     rw[ai h1]at hu
     exact(aL hu).1
   ·rw[w2,ap]
    refine hel fun hi' u hu=>?_
    have:=congrArg List.length hu
    rw[aQ]at this
    simp at this
    omega
  ·have hd:t.drop i=[]:=aW (by omega)
   rw[hd,rD,yd,ap,hf]
   rfl
set_option linter.defProp false
def bf:=@List.suffix_refl
theorem EX:∀ l:List Int,(dw l 93 = -1∧cg l=l)∨(dw l 93=(cg l).length∧(cg l).length<l.length)
 | []=>.inl ⟨rfl,rfl⟩
 | b::l=>by
  by_cases h:b=93
  ·subst h
   refine .inr ⟨?_,?_⟩
   ·rw[dw,bn rfl,l6];rfl
   ·rw[l6];simp
  ·rw[dw,bo h,jr h]
   rcases EX l with ⟨e1,e2⟩ | ⟨e1,e2⟩
   ·rw[bn e1,e2];exact .inl ⟨rfl,rfl⟩
   ·rw[am,e1];refine .inr ⟨by simp,by simp;omega⟩
theorem Ch:∀ l:List Int,l.take (cg l).length=cg l
 | []=>rfl
 | b::l=>by
  by_cases h:b=93
  ·subst h;rw[l6];rfl
  ·rw[jr h,aR,List.take_succ_cons,Ch l]
def fv(u:List Int)(nt:Bool):bE×bH :=
 if(cg u).length=u.length∨cg u=[] then(⟨0,0,[],false,[]⟩,⟨u,true⟩)
 else(⟨3,0,kz (cT (cg u).length (cg u) (List.replicate 256 false) false).1 0 256 [],nt,[]⟩,⟨u.drop ((cg u).length+1),(cT (cg u).length (cg u) (List.replicate 256 false) false).2⟩)
theorem yh(u:List Int)(nt:Bool)(hu:u.length≤60)(hb:∀ b∈u,0≤b∧b≤255)(s:List Int)(ht:jL ⟨s,false⟩ 94=some (nt,⟨u,false⟩,())) :
  nT ⟨s,false⟩=some ((fv u nt).1,(fv u nt).2,()):=by
 rw[O9,ht,aa]
 dsimp only
 rw[J8,JE,Jx,aa,aa,aa]
 dsimp only
 unfold fv
 rcases EX u with ⟨e1,e2⟩ | ⟨e1,e2⟩
 ·rw[e1,e2,bn (by decide),bn (.inl rfl)]
 ·by_cases h0:cg u=[]
  ·rw[e1,h0,bn (by simp),bn (.inr rfl)]
  ·have hl:0<(cg u).length:=List.length_pos_iff.2 h0
   have w1:w64 (((cg u).length:Int)+1)=(((cg u).length+1:Nat):Int):=by rw[aq];omega
   rw[e1,ap,al,w1,al,bo (fun h=>h.elim (by omega) h0)]
   dsimp only
   rw[af,af,Nat.sub_zero,aM,Ch,a8 (by simp)]
   have hi:=U4 (s:=u.drop ((cg u).length+1)) (cf) ⟨3,0,[],nt,[]⟩ (t:=cg u) (by omega) (fun b hx=>hb b ((List.takeWhile_sublist _).subset hx)) (cg u).length 0 (List.replicate 256 false) false a7 (by omega) (by rw[aM];exact aG _)
   rw[aM]at hi
   exact hi.trans (LK _ _ _ (by rw[IE];exact a7) 256 0 [] rfl (Nat.zero_le _))
theorem A6(s:List Int):∃ nt,∃ k:Nat,jL ⟨s,false⟩ 94=some (nt,⟨s.drop k,false⟩,())∧((nt=true∧k=1∧∃ u,s=94::u)∨(nt=false∧k=0∧∀ u,s≠94::u)):=by
 cases s with
 | nil=>exact⟨false,0,gA (.inl rfl),.inr ⟨rfl,rfl,fun u h=>by cases h⟩⟩
 | cons b u =>
  by_cases h:b=94
  ·subst h;exact⟨true,1,kc,.inl ⟨rfl,rfl,u,rfl⟩⟩
  ·exact⟨false,0,j9 h,.inr ⟨rfl,rfl,fun v hv=>h (aL hv).1⟩⟩
theorem UY(u:List Int)(nt:Bool):(fv u nt).2.s <:+ u∧(fv u nt).1.Kids=[]:=by
 unfold fv
 split
 ·exact⟨bf _,rfl⟩
 ·exact⟨List.drop_suffix _ _,rfl⟩
def By(s:List Int):Prop:=s.length≤60∧∀ b∈s,0≤b∧b≤255
theorem By.suf{s t:List Int}(h:By s)(ht:t <:+ s):By t:=⟨Nat.le_trans ht.length_le h.1,fun b hb=>h.2 b (ht.subset hb)⟩
theorem EO(s:List Int)(h:By s):∃ y r,nT ⟨s,false⟩=some (y,r,())∧r.s <:+ s∧Small y:=by
 obtain⟨nt,k,e,_⟩:=A6 s
 have hu:By (s.drop k):=h.suf (List.drop_suffix _ _)
 have hr:=UY (s.drop k) nt
 exact⟨_,_,yh _ nt hu.1 hu.2 s e,hr.1.trans (List.drop_suffix _ _),rH hr.2⟩
def dY(F:bH→Option (bE×bH×Unit))(s:List Int)(b:Bool)(k:Nat):Prop :=
 ∃ y r,F ⟨s,b⟩=some (y,r,())∧r.s <:+ s∧r.s.length+k≤s.length∧(b=true→r.bad=true)∧Small y
theorem mb{b:Int}{s:List Int}:(⟨List.take ((b::s).length-1) (List.drop 1 (b::s)),false⟩:bH)=⟨s,false⟩:=by rw[pV]
theorem j8{b:Int}{s t:List Int}(h:t <:+ s):t <:+ b::s:=h.trans (List.suffix_cons b s)
theorem tg(b:Int)(s:List Int)(h:By (b::s))(hp:dY gk s false 0):dY jH (b::s) false 1:=by
 have hs:By s:=h.suf (List.suffix_cons b s)
 unfold dY
 rw[yb,fm,aa]
 dsimp only
 rw[bn (by simp;omega),mb]
 have leaf:∀ (x:bE) (bad:Bool),x.Kids=[]→∃ y r,some (x,(⟨s,bad⟩:bH),())=some (y,r,())∧r.s <:+ b::s∧r.s.length+1≤(b::s).length∧(false=true→r.bad=true)∧Small y :=
  fun x bad hx=>⟨_,_,rfl,List.suffix_cons b s,by simp,(fun h=>by cases h),rH hx⟩
 by_cases c1:b=40
 ·rw[ak c1]
  obtain⟨y,r,e,e1,e2,e3,e4⟩:=hp
  rw[e,aa]
  dsimp only
  rcases gW r with hr | ⟨a,t,hr⟩
  ·rw[gA hr,aa];dsimp only
   rw[bn (by simp)]
   exact⟨_,_,rfl,j8 e1,by simp;omega,(fun h=>by cases h),e4⟩
  ·subst hr
   by_cases ha:a=41
   ·subst ha
    rw[kc,aa];dsimp only
    rw[bo (by simp)]
    refine⟨_,_,rfl,j8 ((List.suffix_cons 41 t).trans e1),?_,(fun h=>by cases h),e4⟩
    simp at e2 ⊢;omega
   ·rw[j9 ha,aa];dsimp only
    rw[bn (by simp)]
    refine⟨_,_,rfl,j8 e1,?_,(fun h=>by cases h),e4⟩
    simp at e2 ⊢;omega
 rw[aj c1]
 by_cases c2:b=46
 ·rw[ak c2];exact leaf _ _ rfl
 rw[aj c2]
 by_cases c3:b=94
 ·rw[ak c3];exact leaf _ _ rfl
 rw[aj c3]
 by_cases c4:b=36
 ·rw[ak c4];exact leaf _ _ rfl
 rw[aj c4]
 by_cases c5:b=91
 ·rw[ak c5]
  obtain⟨y,r,e,e1,e2⟩:=EO s hs
  rw[e,aa]
  exact⟨_,_,rfl,j8 e1,by have:=e1.length_le;simp;omega,(fun h=>by cases h),e2⟩
 rw[aj c5]
 by_cases c6:b=92
 ·rw[ak c6]
  cases s with
  | nil=>rw[eo (.inl rfl),aa];dsimp only;rw[bn (by simp)];exact leaf _ _ rfl
  | cons a t =>
   rw[fm,aa];dsimp only
   rw[bo (by simp),bn (by simp;omega),pV]
   exact⟨_,_,rfl,j8 (List.suffix_cons a t),by simp,(fun h=>by cases h),rH rfl⟩
 rw[aj c6]
 have l1:∀ (t:Bool),∃ y r,nR b t ⟨s,false⟩ cf=some (y,r,())∧r.s <:+ b::s∧r.s.length+1≤(b::s).length∧(false=true→r.bad=true)∧Small y:=fun t=>by
  rw[nS]
  cases t with
  | true=>rw[bn rfl];exact leaf _ _ rfl
  | false=>rw[bo (by simp)];exact leaf _ _ rfl
 by_cases c7:b=42
 ·rw[ak c7];exact l1 _
 rw[aj c7]
 by_cases c8:b=43
 ·rw[ak c8];exact l1 _
 rw[aj c8]
 exact l1 _
theorem uq(b:Int):∃ v,tr b=some (v,())∧((v=8∧b=42)∨(v=9∧b=43)∨(v=10∧b=63)∨(v=0∧b≠42∧b≠43∧b≠63)):=by
 rw[O8]
 by_cases c1:b=42
 ·rw[ak c1];exact⟨_,rfl,.inl ⟨rfl,c1⟩⟩
 rw[aj c1]
 by_cases c2:b=43
 ·rw[ak c2];exact⟨_,rfl,.inr (.inl ⟨rfl,c2⟩)⟩
 rw[aj c2]
 by_cases c3:b=63
 ·rw[ak c3];exact⟨_,rfl,.inr (.inr (.inl ⟨rfl,c3⟩))⟩
 rw[aj c3];exact⟨_,rfl,.inr (.inr (.inr ⟨rfl,c1,c2,c3⟩))⟩
theorem Va{x:bE}(op:Int)(h:Small x):Small ⟨op,0,[],false,[x]⟩:=.mk _ (by simp) fun k hk=>by rw[aJ.1 hk];exact h
theorem O2(z:bE):∀ (n:Nat) (r:bH) (x:bE),r.s.length≤n→Small x→∃ y r',kR r z x=some (y,r',())∧r'.s <:+ r.s∧(r.bad=true→r'.bad=true)∧Small y:=by
 intro n
 induction n with
 | zero =>
  intro r x hn hx
  rw[jK,eo (.inl (aZ.1 (by omega))),aa]
  dsimp only
  rw[bn (by simp)]
  exact⟨_,_,rfl,bf _,fun h=>h,hx⟩
 | succ n ih =>
  intro r x hn hx
  rw[jK]
  rcases gW r with hr | ⟨b,s,rfl⟩
  ·rw[eo hr,aa]
   dsimp only
   rw[bn (by simp)]
   exact⟨_,_,rfl,bf _,fun h=>h,hx⟩
  ·obtain⟨v,e,hv⟩:=uq b
   rw[fm,aa]
   dsimp only
   rw[bo (by simp),e,aa]
   dsimp only
   by_cases c:v=0
   ·rw[ak c];exact⟨_,_,rfl,bf _,fun h=>h,hx⟩
   ·rw[aj c,bn (by simp;omega),aa]
    dsimp only
    rw[mb]
    obtain⟨y,r',e1,e2,e3,e4⟩:=ih ⟨s,false⟩ _ (by simp at hn ⊢;omega) (Va v hx)
    exact⟨y,r',e1,j8 e2,(fun h=>by cases h),e4⟩
theorem ED(z:bE):∀ (n:Nat) (r:bH) (x:bE),r.s.length≤n→∃ y r',kR r z x=some (y,r',())∧r'.s <:+ r.s∧(r.bad=true→r'.bad=true):=by
 intro n
 induction n with
 | zero =>
  intro r x hn
  rw[jK,eo (.inl (aZ.1 (by omega))),aa]
  dsimp only
  rw[bn (by simp)]
  exact⟨_,_,rfl,bf _,fun h=>h⟩
 | succ n ih =>
  intro r x hn
  rw[jK]
  rcases gW r with hr | ⟨b,s,rfl⟩
  ·rw[eo hr,aa]
   dsimp only
   rw[bn (by simp)]
   exact⟨_,_,rfl,bf _,fun h=>h⟩
  ·obtain⟨v,e,hv⟩:=uq b
   rw[fm,aa]
   dsimp only
   rw[bo (by simp),e,aa]
   dsimp only
   by_cases c:v=0
   ·rw[ak c];exact⟨_,_,rfl,bf _,fun h=>h⟩
   ·rw[aj c,bn (by simp;omega),aa]
    dsimp only
    rw[mb]
    obtain⟨y,r',e1,e2,e3⟩:=ih ⟨s,false⟩ _ (by simp at hn ⊢;omega)
    exact⟨y,r',e1,j8 e2,(fun h=>by cases h)⟩
theorem EF(b:Int)(s:List Int)(h:dY jH (b::s) false 1):dY gn (b::s) false 1:=by
 obtain⟨y,r,e,e1,e2,e3,e4⟩:=h
 unfold dY
 rw[yc,e,aa]
 obtain⟨y',r',f1,f2,f3,f4⟩:=O2 cf _ r y (aG _) e4
 exact⟨y',r',f1,f2.trans e1,by have:=f2.length_le;omega,(fun h=>by cases h),f4⟩
theorem IQ{l:List bE}(op:Int)(hl:l.length≤100)(h:∀ x∈l,Small x):Small ⟨op,0,[],false,l⟩:=.mk _ hl h
def gx(l:List bE):bE:=if l.length=0 then⟨11,0,[],false,[]⟩else if l.length=1 then l.getD 0 cf else⟨6,0,[],false,l⟩
def fW(l:List bE):bE:=if l.length=1 then l.getD 0 cf else⟨7,0,[],false,l⟩
theorem d8{α:Type}(l:List bE)(r:α) :
  (if(decide ((List.length l:Int)=0))=true then some ((bE.mk 11 0 [] false []),r,()) else
   if(decide ((List.length l:Int)=1))=true then if(0:Int)≤0∧(0:Int)<(List.length l:Int)then some ((List.getD l 0 cf),r,())else none
   else some ((bE.mk 6 0 [] false l),r,()))=some (gx l,r,()):=by
 unfold gx
 by_cases c:l.length=0
 ·rw[an,bn c]
 ·rw[ap,bo c]
  by_cases d:l.length=1
  ·rw[an,al,bn d]
  ·rw[ap,bo d]
theorem fp{α:Type}(l:List bE)(r:α) :
  (if(decide ((List.length l:Int)=1))=true then if(0:Int)≤0∧(0:Int)<(List.length l:Int)then some ((List.getD l 0 cf),r,())else none
   else some ((bE.mk 7 0 [] false l),r,()))=some (fW l,r,()):=by
 unfold fW
 by_cases d:l.length=1
 ·rw[an,al,bn d]
 ·rw[ap,bo d]
theorem Dm{l:List bE}(h:∀ x∈l,Small x)(hl:l.length=1):Small (l.getD 0 cf):=by
 match l,hl with
 | [x],_=>exact h x (aJ.2 rfl)
theorem GH{l:List bE}(hl:l.length≤100)(h:∀ x∈l,Small x):Small (gx l):=by
 unfold gx
 split
 ·exact rH rfl
 ·split
  ·exact Dm h ‹_›
  ·exact IQ 6 hl h
theorem GL{l:List bE}(hl:l.length≤100)(h:∀ x∈l,Small x):Small (fW l):=by
 unfold fW
 split
 ·exact Dm h ‹_›
 ·exact IQ 7 hl h
theorem IP{l:List bE}{x:bE}(h:∀ y∈l,Small y)(hx:Small x):∀ y∈List.append l [x],Small y:=by
 intro y hy
 rcases aA.1 hy with hy | hy
 ·exact h y hy
 ·rw[aJ.1 hy];exact hx
theorem x9(z:bE)(N:Nat)(hp:∀ b s,(b::s).length≤N→By (b::s)→dY gn (b::s) false 1):∀ (n:Nat) (r:bH) (l:List bE),r.s.length≤n→n≤N→By r.s→l.length+n≤60→(∀ x∈l,Small x) →
  ∃ y r',kP l r z=some (y,r',())∧r'.s <:+ r.s∧(r.bad=true→r'.bad=true)∧Small y:=by
 intro n
 induction n with
 | zero =>
  intro r l hn hN hb hl hx
  rw[jI,eo (.inl (aZ.1 (by omega))),aa]
  dsimp only
  rw[bn (by simp),d8]
  exact⟨_,_,rfl,bf _,fun h=>h,GH (by omega) hx⟩
 | succ n ih =>
  intro r l hn hN hb hl hx
  rw[jI]
  have stop:∃ y r',some (gx l,r,())=some (y,r',())∧r'.s <:+ r.s∧(r.bad=true→r'.bad=true)∧Small y:=⟨_,_,rfl,bf _,fun h=>h,GH (by omega) hx⟩
  rcases gW r with hr | ⟨b,s,rfl⟩
  ·rw[eo hr,aa]
   dsimp only
   rw[bn (by simp),d8]
   exact stop
  ·rw[fm,aa]
   dsimp only
   rw[bo (by simp)]
   by_cases c1:b=124
   ·rw[ak c1,d8];exact stop
   rw[aj c1]
   by_cases c2:b=41
   ·rw[ak c2,d8];exact stop
   rw[aj c2]
   obtain⟨y,r,e,e1,e2,e3,e4⟩:=hp b s (by have:(b::s).length≤n+1:=hn;omega) hb
   rw[e,aa]
   dsimp only
   rw[bn (by rw[ch];omega)]
   have h2:r.s.length≤n:=by simp only[aR]at e2 hn;omega
   obtain⟨y',r',f1,f2,f3,f4⟩:=ih r _ h2 (by omega) (hb.suf e1) (by show(l++[y]).length+n≤60;simp;omega) (IP hx e4)
   exact⟨y',r',f1,f2.trans e1,(fun h=>by cases h),f4⟩
theorem EB(z:bE)(N:Nat)(hp:∀ s b,s.length≤N→By s→dY gP s b 0):∀ (n:Nat) (r:bH) (l:List bE),r.s.length≤n→n≤N→By r.s→l.length+n≤61→(∀ x∈l,Small x) →
  ∃ y r',kQ l r z=some (y,r',())∧r'.s <:+ r.s∧(r.bad=true→r'.bad=true)∧Small y:=by
 intro n
 induction n with
 | zero =>
  intro r l hn hN hb hl hx
  rw[jJ,gA (.inl (aZ.1 (by omega))),aa]
  dsimp only
  rw[bo (by simp),fp]
  exact⟨_,_,rfl,bf _,fun h=>h,GL (by omega) hx⟩
 | succ n ih =>
  intro r l hn hN hb hl hx
  rw[jJ]
  have stop:∃ y r',some (fW l,r,())=some (y,r',())∧r'.s <:+ r.s∧(r.bad=true→r'.bad=true)∧Small y:=⟨_,_,rfl,bf _,fun h=>h,GL (by omega) hx⟩
  rcases gW r with hr | ⟨b,s,rfl⟩
  ·rw[gA hr,aa]
   dsimp only
   rw[bo (by simp),fp]
   exact stop
  ·by_cases c1:b=124
   ·subst c1
    rw[kc,aa]
    dsimp only
    have hbs:By s:=hb.suf (List.suffix_cons _ _)
    have hn':s.length≤n:=by simp only[aR]at hn;omega
    obtain⟨y,r,e,e1,e2,e3,e4⟩:=hp s false (by omega) hbs
    rw[bn rfl,e,aa]
    dsimp only
    rw[bn (by rw[ch];omega)]
    obtain⟨y',r',f1,f2,f3,f4⟩:=ih r _ (by omega) (by omega) (hbs.suf e1) (by show(l++[y]).length+n≤61;simp;omega) (IP hx e4)
    exact⟨y',r',f1,j8 (f2.trans e1),(fun h=>by cases h),f4⟩
   ·rw[j9 c1,aa]
    dsimp only
    rw[bo (by simp),fp]
    exact stop
theorem qC:∀ (n:Nat) (s:List Int) (b:Bool),s.length≤n→By s→dY gk s b 0:=by
 intro n
 induction n with
 | zero =>
  intro s b hn hs
  have hpart:∀ s b,s.length≤0→By s→dY gP s b 0:=fun s b h hs=>by
   unfold dY
   rw[qw]
   obtain⟨y,r',f1,f2,f3,f4⟩:=x9 cf 0 (fun b s h=>by simp at h) 0 ⟨s,b⟩ [] h (aG _) hs (by simp) (fun x hx=>by cases hx)
   exact⟨y,r',f1,f2,f2.length_le,f3,f4⟩
  unfold dY
  obtain⟨y,r,e,e1,e2,e3,e4⟩:=hpart s b hn hs
  rw[tu,e,aa]
  obtain⟨y',r',f1,f2,f3,f4⟩:=EB cf 0 hpart 0 r [y] (by have:=e1.length_le;omega) (aG _) (hs.suf e1) (by simp) (fun x hx=>by rw[aJ.1 hx];exact e4)
  exact⟨y',r',f1,f2.trans e1,by have:=(f2.trans e1).length_le;omega,fun h=>f3 (e3 h),f4⟩
 | succ n ih =>
  intro s b hn hs
  have hpiece:∀ b s,(b::s).length≤n+1→By (b::s)→dY gn (b::s) false 1:=fun b s h hs =>
   EF b s (tg b s hs (ih s false (by simpa using h) (hs.suf (List.suffix_cons _ _))))
  have hpart:∀ s b,s.length≤n+1→By s→dY gP s b 0:=fun s b h hs=>by
   unfold dY
   rw[qw]
   obtain⟨y,r',f1,f2,f3,f4⟩:=x9 cf (n+1) hpiece s.length ⟨s,b⟩ [] (aG _) h hs (by have:=hs.1;simp;omega) (fun x hx=>by cases hx)
   exact⟨y,r',f1,f2,f2.length_le,f3,f4⟩
  unfold dY
  obtain⟨y,r,e,e1,e2,e3,e4⟩:=hpart s b hn hs
  rw[tu,e,aa]
  have h60:=hs.1
  obtain⟨y',r',f1,f2,f3,f4⟩:=EB cf (n+1) hpart s.length r [y] (by have:=e1.length_le;omega) hn (hs.suf e1) (by simp;omega) (fun x hx=>by rw[aJ.1 hx];exact e4)
  exact⟨y',r',f1,f2.trans e1,by have:=(f2.trans e1).length_le;omega,fun h=>f3 (e3 h),f4⟩
def Res(S:List Int)(p:Nat)(d:Int)(lo:Nat)(x:bE)(c:bS)(y:bE)(r:bH):Prop :=
 (∃ q:Nat,p+lo≤q∧q≤S.length∧c=⟨S,(q:Int),false⟩∧r=⟨S.drop q,false⟩∧x=y)∨(c.bad=true∧(r.bad=false→(r.s.length:Int)+82≤S.length+d))
def Sim(S:List Int)(p:Nat)(d:Int)(lo:Nat)(fs:Option (bE×bS×Unit))(fi:Option (bE×bH×Unit)):Prop :=
 ∃ x c y r,fs=some (x,c,())∧fi=some (y,r,())∧Res S p d lo x c y r
theorem ni{p:Nat}(h:p≤1000):w64 ((p:Int)+1)=((p+1:Nat):Int):=by rw[aq];omega
theorem IG{S:List Int}(hS:By S)(q:Nat)(hq:q≤S.length)(nt:Bool)(d:Int) :
  ∃ x c,ve ⟨S,(q:Int),false⟩ cf ⟨3,0,[],nt,[]⟩=some (x,c,())∧Res S q d 0 x c (fv (S.drop q) nt).1 (fv (S.drop q) nt).2:=by
 have h60:=hS.1
 have hl:=wG (S.drop q)
 rw[aQ]at hl
 rw[Uu,U5 cf _ hS.1 hS.2 (cg (S.drop q)).length q _ 0 false a7 hq (aG _) (Int.le_refl _) (by omega),Uv]
 dsimp only
 have hc:=fun c=>LL c cf ⟨3,0,[],nt,[]⟩ (f:=(cT (cg (S.drop q)).length (cg (S.drop q)) (List.replicate 256 false) false).1) (by rw[IE];exact a7) 256 0 [] rfl (Nat.zero_le _)
 rw[show((0:Nat):Int)=0 from rfl]at hc
 rw[ni (by omega),hc]
 refine⟨_,_,rfl,?_⟩
 unfold fv
 split
 ·rename_i h
  refine .inr ⟨?_,fun h=>by cases h⟩
  dsimp only
  rcases h with h | h
  ·rw[aQ]at h
   rw[ac (p:=S.length≤q+(cg (S.drop q)).length) (by omega)];rfl
  ·rw[h,ac (p:=(0:Int)=0) rfl,ac (p:=([]:List Int)=[]) rfl,Bool.and_true,Bool.or_true,Bool.true_or]
 ·rename_i h
  have h1:¬ (cg (S.drop q)).length=(S.drop q).length:=fun e=>h (.inl e)
  have h2:¬ cg (S.drop q)=[]:=fun e=>h (.inr e)
  rw[aQ]at h1
  dsimp only
  rw[ae (p:=S.length≤q+(cg (S.drop q)).length) (by omega),ae h2,Bool.and_false,Bool.or_false,Bool.false_or,List.drop_drop]
  cases (cT (cg (S.drop q)).length (cg (S.drop q)) (List.replicate 256 false) false).2 with
  | true=>exact .inr ⟨rfl,fun h=>by cases h⟩
  | false=>exact .inl ⟨q+(cg (S.drop q)).length+1,by omega,by omega,rfl,rfl,rfl⟩
theorem U6{S:List Int}(hS:By S)(p:Nat)(hp:p≤S.length)(d:Int):Sim S p d 0 (AN ⟨S,(p:Int),false⟩) (nT ⟨S.drop p,false⟩):=by
 have h60:=hS.1
 obtain⟨nt,k,e,hk⟩:=A6 (S.drop p)
 have hu:By ((S.drop p).drop k):=hS.suf ((List.drop_suffix _ _).trans (List.drop_suffix _ _))
 have hi:=yh _ nt hu.1 hu.2 _ e
 rw[Uw]
 rcases hk with ⟨rfl,rfl,u,hu'⟩ | ⟨rfl,rfl,hu'⟩
 ·have hlt:p<S.length:=by
   have:=congrArg List.length hu'
   rw[aQ]at this
   simp at this;omega
  have h94:S[p]=94:=by
   rw[ai hlt]at hu'
   exact(aL hu').1
  rw[mF hlt,aa]
  dsimp only
  rw[ak h94,ni (by omega)]
  obtain⟨x,c,e1,e2⟩:=IG hS (p+1) (by omega) true d
  rw[List.drop_drop]at hi
  refine⟨x,c,_,_,e1,hi,?_⟩
  rcases e2 with ⟨q,a,b⟩ | h
  ·exact .inl ⟨q,by omega,b⟩
  ·exact .inr h
 ·have hn:iG ⟨S,(p:Int),false⟩ 94=some (false,⟨S,(p:Int),false⟩,()):=by
   by_cases hlt:p<S.length
   ·rw[mF hlt]
    have:¬ S[p]=94:=fun h=>hu' (S.drop (p+1)) (by rw[ai hlt,h])
    rw[ae this]
   ·exact jd (by omega)
  rw[hn,aa]
  dsimp only
  rw[bo (by simp)]
  obtain⟨x,c,e1,e2⟩:=IG hS p hp false d
  exact⟨x,c,_,_,e1,hi,e2⟩
theorem KO{S:List Int}(hS:By S)(p:Nat)(hp:p<S.length)(d:Int)(hd:0≤d)(hdp:d≤p)
  (hpat:Sim S (p+1) (d+1) 0 (mV ⟨S,((p+1:Nat):Int),false⟩ (d+1)) (gk ⟨S.drop (p+1),false⟩)) :
  Sim S p d 1 (uU ⟨S,(p:Int),false⟩ d) (jH ⟨S.drop p,false⟩):=by
 have h60:=hS.1
 have hdrop:=ai hp
 unfold Sim
 rw[Uo]
 dsimp only
 rw[bo (by simp),ap]
 by_cases h40:d>40
 ·rw[ak h40]
  have hb:=hS.suf (List.drop_suffix p S)
  rw[hdrop]at hb ⊢
  obtain⟨y,r,e,e1,e2,e3,e4⟩:=tg S[p] _ hb (qC _ _ false (aG _) (hS.suf (List.drop_suffix (p+1) S)))
  refine⟨_,_,_,_,rfl,e,.inr ⟨rfl,fun _=>?_⟩⟩
  simp only[aR,aQ]at e2
  omega
 rw[aj h40,al,ck hp,ni (by omega),aq (n:=d+1),hdrop,yb,fm,aa]
 dsimp only
 rw[bn (c:=(0:Int)≤1∧(1:Int)≤((S[p]::S.drop (p+1)).length:Int)) (by simp;omega),mb]
 by_cases c1:S[p]=40
 ·rw[ak c1,ak c1]
  obtain⟨x,c,y,r,e1,e2,e3⟩:=hpat
  rw[e1,e2,aa,aa]
  dsimp only
  rcases e3 with ⟨q,q1,q2,rfl,rfl,rfl⟩ | ⟨hc,hr⟩
  ·by_cases hq:q<S.length
   ·rw[mF hq,aa,ai hq]
    dsimp only
    by_cases ha:S[q]=41
    ·rw[ha,kc,aa,bo (by simp),ni (by omega)]
     dsimp only
     rw[bo (by simp)]
     exact⟨_,_,_,_,rfl,rfl,.inl ⟨q+1,by omega,by omega,rfl,rfl,rfl⟩⟩
    ·rw[j9 ha,aa,bn (by simp[ha])]
     dsimp only
     rw[bn (by simp)]
     exact⟨_,_,_,_,rfl,rfl,.inr ⟨rfl,fun h=>by cases h⟩⟩
   ·rw[jd (by omega),aa,aW (by omega),gA (.inl rfl),aa]
    dsimp only
    rw[bn (by simp),bn (by simp)]
    exact⟨_,_,_,_,rfl,rfl,.inr ⟨rfl,fun h=>by cases h⟩⟩
  ·rw[Gv hc,aa]
   dsimp only
   rw[bn (by simp)]
   rcases gW r with hr' | ⟨a,t,rfl⟩
   ·rw[gA hr',aa]
    dsimp only
    rw[bn (by simp)]
    exact⟨_,_,_,_,rfl,rfl,.inr ⟨rfl,fun h=>by cases h⟩⟩
   ·have:=hr rfl
    simp only[aR]at this
    by_cases ha:a=41
    ·subst ha
     rw[kc,aa]
     dsimp only
     rw[bo (by simp)]
     exact⟨_,_,_,_,rfl,rfl,.inr ⟨rfl,fun h=>by dsimp only;omega⟩⟩
    ·rw[j9 ha,aa]
     dsimp only
     rw[bn (by simp)]
     exact⟨_,_,_,_,rfl,rfl,.inr ⟨rfl,fun h=>by cases h⟩⟩
 have n1:¬ (decide (S[p]=40)=true):=by rw[ab];exact c1
 rw[bo n1,bo n1]
 have good:∀ x:bE,∃ x' c' y' r',some (x,(⟨S,((p+1:Nat):Int),false⟩:bS),())=some (x',c',())∧some (x,(⟨S.drop (p+1),false⟩:bH),())=some (y',r',())∧Res S p d 1 x' c' y' r' :=
  fun x=>⟨_,_,_,_,rfl,rfl,.inl ⟨p+1,by omega,by omega,rfl,rfl,rfl⟩⟩
 have bad:∀ (x y:bE) (a:Int) (s:List Int),∃ x' c' y' r',some (x,(⟨S,a,true⟩:bS),())=some (x',c',())∧some (y,(⟨s,true⟩:bH),())=some (y',r',())∧Res S p d 1 x' c' y' r' :=
  fun x y a s=>⟨_,_,_,_,rfl,rfl,.inr ⟨rfl,fun h=>by cases h⟩⟩
 by_cases c2:S[p]=46
 ·rw[ak c2,ak c2];exact good _
 have n2:¬ (decide (S[p]=46)=true):=by rw[ab];exact c2
 rw[bo n2,bo n2]
 by_cases c3:S[p]=94
 ·rw[ak c3,ak c3];exact good _
 have n3:¬ (decide (S[p]=94)=true):=by rw[ab];exact c3
 rw[bo n3,bo n3]
 by_cases c4:S[p]=36
 ·rw[ak c4,ak c4];exact good _
 have n4:¬ (decide (S[p]=36)=true):=by rw[ab];exact c4
 rw[bo n4,bo n4]
 by_cases c5:S[p]=91
 ·rw[ak c5,ak c5]
  obtain⟨x,c,y,r,e1,e2,e3⟩:=U6 hS (p+1) (by omega) d
  rw[e1,e2,aa,aa]
  refine⟨_,_,_,_,rfl,rfl,?_⟩
  rcases e3 with ⟨q,a,b⟩ | h
  ·exact .inl ⟨q,by omega,b⟩
  ·exact .inr h
 have n5:¬ (decide (S[p]=91)=true):=by rw[ab];exact c5
 rw[bo n5,bo n5]
 by_cases c6:S[p]=92
 ·rw[ak c6,ak c6]
  by_cases hq:p+1<S.length
  ·rw[ap,al,ck hq,ni (by omega),ai hq,fm,aa]
   dsimp only
   rw[bo (by simp),bn (by simp;omega),pV]
   exact⟨_,_,_,_,rfl,rfl,.inl ⟨p+1+1,by omega,by omega,rfl,rfl,rfl⟩⟩
  ·rw[an,aW (by omega),eo (.inl rfl),aa]
   dsimp only
   rw[bn (by simp)]
   exact bad _ _ _ _
 have n6:¬ (decide (S[p]=92)=true):=by rw[ab];exact c6
 rw[bo n6,bo n6]
 by_cases c7:S[p]=42
 ·rw[ak c7,ak c7,ak c7,uV,nS,ak c7];exact bad _ _ _ _
 have n7:¬ (decide (S[p]=42)=true):=by rw[ab];exact c7
 rw[bo n7,bo n7]
 by_cases c8:S[p]=43
 ·rw[ak c8,ak c8,ak c8,uV,nS,ak c8];exact bad _ _ _ _
 have n8:¬ (decide (S[p]=43)=true):=by rw[ab];exact c8
 rw[bo n8,bo n8]
 by_cases c9:S[p]=63
 ·rw[ak c9,uV,nS,ak c9];exact bad _ _ _ _
 have n9:¬ (decide (S[p]=63)=true):=by rw[ab];exact c9
 rw[bo n9,uV,nS,bo n9]
 exact good _
theorem RU{c:bS}(z x:bE)(h:c.bad=true):rt c z x=some (x,c,()):=by
 rw[uZ,bo (by simp[h])]
theorem RV{S:List Int}(hS:By S)(d:Int):∀ (n p:Nat) (x:bE),p≤S.length→S.length-p≤n→Sim S p d 0 (rt ⟨S,(p:Int),false⟩ cf x) (kR ⟨S.drop p,false⟩ cf x):=by
 have h60:=hS.1
 have stop:∀ (p:Nat) (x:bE),p≤S.length→∃ x' c' y' r',some (x,(⟨S,(p:Int),false⟩:bS),())=some (x',c',())∧some (x,(⟨S.drop p,false⟩:bH),())=some (y',r',())∧Res S p d 0 x' c' y' r' :=
  fun p x hp=>⟨_,_,_,_,rfl,rfl,.inl ⟨p,by omega,hp,rfl,rfl,rfl⟩⟩
 intro n
 induction n with
 | zero =>
  intro p x hp hn
  unfold Sim
  rw[uZ,bn (by simp),jd (by omega),aa]
  dsimp only
  rw[bo (by simp),jd (by omega),aa]
  dsimp only
  rw[bo (by simp),jd (by omega),aa]
  dsimp only
  rw[bo (by simp),u6,bn (by simp),jK,eo (.inl (aW (by omega))),aa]
  dsimp only
  rw[bn (by simp)]
  exact stop p x hp
 | succ n ih =>
  intro p x hp hn
  by_cases hlt:p<S.length
  ·unfold Sim
   rw[uZ,bn (by simp),mF hlt,aa]
   dsimp only
   rw[mF hlt,aa]
   dsimp only
   rw[mF hlt,aa,jK,ai hlt,fm,aa]
   dsimp only
   obtain⟨v,e,hv⟩:=uq S[p]
   rw[bo (c:=(!true)=true) (by simp),e,aa]
   dsimp only
   rw[aa]
   dsimp only
   rw[bn (c:=(0:Int)≤1∧(1:Int)≤((S[p]::S.drop (p+1)).length:Int)) (by simp;omega),mb]
   have go:∀ v:Int,v≠0→Sim S p d 0 (o8 v ⟨S,(p:Int),false⟩ cf x) (kR ⟨S.drop (p+1),false⟩ cf ⟨v,0,[],false,[x]⟩):=fun v hv=>by
    rw[u6,aj hv]
    dsimp only
    rw[ni (by omega)]
    obtain⟨x',c',y',r',f1,f2,f3⟩:=ih (p+1) ⟨v,0,[],false,[x]⟩ (by omega) (by omega)
    refine⟨x',c',y',r',f1,f2,?_⟩
    rcases f3 with ⟨q,a,b⟩ | h
    ·exact .inl ⟨q,by omega,b⟩
    ·exact .inr h
   rcases hv with ⟨rfl,h⟩ | ⟨rfl,h⟩ | ⟨rfl,h⟩ | ⟨rfl,h1,h2,h3⟩
   ·rw[ak h,bo (by simp)];exact go 8 (by decide)
   ·rw[bo (by rw[h];simp),ak h,bo (by simp)];exact go 9 (by decide)
   ·rw[bo (by rw[h];simp),bo (by rw[h];simp),ak h,bo (by simp)];exact go 10 (by decide)
   ·rw[aj h1,aj h2,aj h3,bn (by simp),u6,bn (by simp),← ai hlt]
    exact stop p x hp
  ·have hz:S.length-p≤0:=by omega
   unfold Sim
   rw[uZ,bn (by simp),jd (by omega),aa]
   dsimp only
   rw[bo (by simp),jd (by omega),aa]
   dsimp only
   rw[bo (by simp),jd (by omega),aa]
   dsimp only
   rw[bo (by simp),u6,bn (by simp),jK,eo (.inl (aW (by omega))),aa]
   dsimp only
   rw[bn (by simp)]
   exact stop p x hp
theorem RW{S:List Int}(hS:By S)(p:Nat)(d:Int)(h:Sim S p d 1 (uU ⟨S,(p:Int),false⟩ d) (jH ⟨S.drop p,false⟩)) :
  Sim S p d 1 (uY ⟨S,(p:Int),false⟩ d) (gn ⟨S.drop p,false⟩):=by
 obtain⟨x,c,y,r,e1,e2,e3⟩:=h
 unfold Sim
 rw[Ur,yc,e1,e2,aa,aa]
 dsimp only
 rcases e3 with ⟨q,q1,q2,rfl,rfl,rfl⟩ | ⟨hc,hr⟩
 ·obtain⟨x',c',y',r',f1,f2,f3⟩:=RV hS d _ q x q2 (aG _)
  refine⟨x',c',y',r',f1,f2,?_⟩
  rcases f3 with ⟨q',a,b⟩ | h
  ·exact .inl ⟨q',by omega,b⟩
  ·exact .inr h
 ·rw[RU _ _ hc]
  obtain⟨y',r',f1,f2,f3⟩:=ED cf _ r y (aG _)
  refine⟨_,_,_,_,rfl,f1,.inr ⟨hc,fun h=>?_⟩⟩
  have:=f2.length_le
  have hb:r.bad=false:=by
   cases hb:r.bad with
   | false=>rfl
   | true=>rw[f3 hb]at h;cases h
  have:=hr hb
  omega
theorem RN{c:bS}(d:Int)(l:List bE)(z:bE)(h:c.bad=true):rq d l c z=some (gx l,c,()):=by
 rw[AL,bo (by simp[h]),d8]
theorem zP{S:List Int}{p p' lo:Nat}{d:Int}{x:bE}{c:bS}{y:bE}{r:bH}(lo':Nat)(h:Res S p' d lo x c y r)(hp:p+lo'≤p'+lo):Res S p d lo' x c y r:=by
 rcases h with ⟨q,a,b⟩ | h
 ·exact .inl ⟨q,by omega,b⟩
 ·exact .inr h
theorem wB{r r':bH}{S:List Int}{d:Int}(hr:r.bad=false→(r.s.length:Int)+82≤S.length+d)(hs:r'.s <:+ r.s)(hb:r.bad=true→r'.bad=true) :
  r'.bad=false→(r'.s.length:Int)+82≤S.length+d:=by
 intro h
 have:=hs.length_le
 have hb':r.bad=false:=by
  cases hb':r.bad with
  | false=>rfl
  | true=>rw[hb hb']at h;cases h
 have:=hr hb'
 omega
theorem kM(n:Nat):(∀ b s,(b::s).length≤n→By (b::s)→dY gn (b::s) false 1)∧(∀ s b,s.length≤n→By s→dY gP s b 0):=by
 have hpiece:∀ b s,(b::s).length≤n→By (b::s)→dY gn (b::s) false 1:=fun b s h hs =>
  EF b s (tg b s hs (qC _ s false (aG _) (hs.suf (List.suffix_cons _ _))))
 refine⟨hpiece,fun s b h hs=>?_⟩
 unfold dY
 rw[qw]
 obtain⟨y,r',f1,f2,f3,f4⟩:=x9 cf n hpiece s.length ⟨s,b⟩ [] (aG _) h hs (by have:=hs.1;simp;omega) (fun x hx=>by cases hx)
 exact⟨y,r',f1,f2,f2.length_le,f3,f4⟩
theorem GI(z:bE)(r:bH)(hb:By r.s):∀ (l:List bE),l.length+r.s.length≤60→∃ y r',kP l r z=some (y,r',())∧r'.s <:+ r.s∧(r.bad=true→r'.bad=true):=by
 have key:∀ (n:Nat) (r:bH) (l:List bE),r.s.length≤n→By r.s→l.length+n≤60→∃ y r',kP l r z=some (y,r',())∧r'.s <:+ r.s∧(r.bad=true→r'.bad=true):=by
  intro n
  induction n with
  | zero =>
   intro r l hn hb hl
   rw[jI,eo (.inl (aZ.1 (by omega))),aa]
   dsimp only
   rw[bn (by simp),d8]
   exact⟨_,_,rfl,bf _,fun h=>h⟩
  | succ n ih =>
   intro r l hn hb hl
   rw[jI]
   have stop:∃ y r',some (gx l,r,())=some (y,r',())∧r'.s <:+ r.s∧(r.bad=true→r'.bad=true):=⟨_,_,rfl,bf _,fun h=>h⟩
   rcases gW r with hr | ⟨b,s,rfl⟩
   ·rw[eo hr,aa]
    dsimp only
    rw[bn (by simp),d8]
    exact stop
   ·rw[fm,aa]
    dsimp only
    rw[bo (by simp)]
    by_cases c1:b=124
    ·rw[ak c1,d8];exact stop
    rw[aj c1]
    by_cases c2:b=41
    ·rw[ak c2,d8];exact stop
    rw[aj c2]
    obtain⟨y,r,e,e1,e2,e3,e4⟩:=(kM _).1 b s (aG _) hb
    rw[e,aa]
    dsimp only
    rw[bn (by rw[ch];omega)]
    have h2:r.s.length≤n:=by have:(b::s).length≤n+1:=hn;omega
    obtain⟨y',r',f1,f2,f3⟩:=ih r _ h2 (hb.suf e1) (by show(l++[y]).length+n≤60;simp;omega)
    exact⟨y',r',f1,f2.trans e1,(fun h=>by cases h)⟩
 intro l hl
 exact key _ r l (aG _) hb hl
theorem ui(z:bE)(r:bH)(hb:By r.s):∀ (l:List bE),l.length+r.s.length≤61→∃ y r',kQ l r z=some (y,r',())∧r'.s <:+ r.s∧(r.bad=true→r'.bad=true):=by
 have key:∀ (n:Nat) (r:bH) (l:List bE),r.s.length≤n→By r.s→l.length+n≤61→∃ y r',kQ l r z=some (y,r',())∧r'.s <:+ r.s∧(r.bad=true→r'.bad=true):=by
  intro n
  induction n with
  | zero =>
   intro r l hn hb hl
   rw[jJ,gA (.inl (aZ.1 (by omega))),aa]
   dsimp only
   rw[bo (by simp),fp]
   exact⟨_,_,rfl,bf _,fun h=>h⟩
  | succ n ih =>
   intro r l hn hb hl
   rw[jJ]
   have stop:∃ y r',some (fW l,r,())=some (y,r',())∧r'.s <:+ r.s∧(r.bad=true→r'.bad=true):=⟨_,_,rfl,bf _,fun h=>h⟩
   rcases gW r with hr | ⟨b,s,rfl⟩
   ·rw[gA hr,aa]
    dsimp only
    rw[bo (by simp),fp]
    exact stop
   ·by_cases c1:b=124
    ·subst c1
     rw[kc,aa]
     dsimp only
     have hbs:By s:=hb.suf (List.suffix_cons _ _)
     have hn':s.length≤n:=by have:(124::s).length≤n+1:=hn;simp only[aR]at this;omega
     obtain⟨y,r,e,e1,e2,e3,e4⟩:=(kM _).2 s false (aG _) hbs
     rw[bn rfl,e,aa]
     dsimp only
     rw[bn (by rw[ch];omega)]
     obtain⟨y',r',f1,f2,f3⟩:=ih r _ (by omega) (hbs.suf e1) (by show(l++[y]).length+n≤61;simp;omega)
     exact⟨y',r',f1,j8 (f2.trans e1),(fun h=>by cases h)⟩
    ·rw[j9 c1,aa]
     dsimp only
     rw[bo (by simp),fp]
     exact stop
 intro l hl
 exact key _ r l (aG _) hb hl
theorem RO{S:List Int}(hS:By S)(d:Int)(m:Nat)(hp:∀ p,p<S.length→S.length-p≤m→d≤p→Sim S p d 1 (uY ⟨S,(p:Int),false⟩ d) (gn ⟨S.drop p,false⟩)) :
  ∀ (n p:Nat) (l:List bE),p≤S.length→S.length-p≤n→n≤m→d≤p→l.length+n≤60→Sim S p d 0 (rq d l ⟨S,(p:Int),false⟩ cf) (kP l ⟨S.drop p,false⟩ cf):=by
 have h60:=hS.1
 intro n
 induction n with
 | zero =>
  intro p l h1 h2 h3 h4 h5
  unfold Sim
  rw[AL]
  dsimp only
  rw[bn (by simp),ap,d8,jI,eo (.inl (aW (by omega))),aa]
  dsimp only
  rw[bn (by simp),d8]
  exact⟨_,_,_,_,rfl,rfl,.inl ⟨p,by omega,h1,rfl,rfl,rfl⟩⟩
 | succ n ih =>
  intro p l h1 h2 h3 h4 h5
  unfold Sim
  have stop:∃ x' c' y' r',some (gx l,(⟨S,(p:Int),false⟩:bS),())=some (x',c',())∧some (gx l,(⟨S.drop p,false⟩:bH),())=some (y',r',())∧Res S p d 0 x' c' y' r' :=
   ⟨_,_,_,_,rfl,rfl,.inl ⟨p,by omega,h1,rfl,rfl,rfl⟩⟩
  rw[AL]
  dsimp only
  by_cases hlt:p<S.length
  ·have hd:=ai hlt
   rw[bn (by simp),an,al,ck hlt,jI]
   obtain⟨x,c,y,r,e1,e2,e3⟩:=hp p hlt (by omega) h4
   rw[hd]at stop e2 ⊢
   rw[fm,aa]
   dsimp only
   rw[bo (c:=(!true)=true) (by simp)]
   by_cases c1:S[p]=124
   ·rw[bo (by simp[c1]),d8,ak c1,d8];exact stop
   have n1:¬ (decide (S[p]=124)=true):=by rw[ab];exact c1
   rw[bn (by rw[ae c1];rfl),al,bo n1]
   by_cases c2:S[p]=41
   ·rw[bo (by simp[c2]),d8,ak c2,d8];exact stop
   have n2:¬ (decide (S[p]=41)=true):=by rw[ab];exact c2
   rw[bn (by rw[ae c2];rfl),bo n2,e1,e2,aa,aa]
   dsimp only
   rw[bn (by rw[ch];omega),bn (by rw[ch];omega)]
   have hl:∀ y:bE,(List.append l [y]).length=l.length+1:=fun y=>by show(l++[y]).length=_;simp
   rcases e3 with ⟨q,q1,q2,rfl,rfl,rfl⟩ | ⟨hc,hr⟩
   ·obtain⟨x',c',y',r',f1,f2,f3⟩:=ih q (List.append l [x]) q2 (by omega) (by omega) (by omega) (by rw[hl];omega)
    exact⟨x',c',y',r',f1,f2,zP 0 f3 (by omega)⟩
   ·rw[RN _ _ _ hc]
    have hb:=hS.suf (List.drop_suffix p S)
    rw[hd]at hb
    obtain⟨y2,r2,g,g1,g2,g3,g4⟩:=(kM _).1 S[p] _ (aG _) hb
    rw[e2]at g
    obtain⟨rfl,rfl⟩:y=y2∧r=r2:=by
     have:=aN g
     exact⟨congrArg Prod.fst this,congrArg (fun z=>z.2.1) this⟩
    simp only[aR,aQ]at g2
    obtain⟨y',r',f1,f2,f3⟩:=GI cf r (hb.suf g1) (List.append l [y]) (by rw[hl];omega)
    exact⟨_,_,_,_,rfl,f1,.inr ⟨hc,wB hr f2 f3⟩⟩
  ·rw[bn (by simp),ap,d8,jI,eo (.inl (aW (by omega))),aa]
   dsimp only
   rw[bn (by simp),d8]
   exact stop
theorem GM{c:bS}(d:Int)(l:List bE)(z:bE)(h:c.bad=true):rr d l c z=some (fW l,c,()):=by
 rw[uX,Gv h,aa]
 dsimp only
 rw[bo (by simp),fp]
theorem RQ{S:List Int}(hS:By S)(d:Int)(m:Nat)(hp:∀ p,p≤S.length→S.length-p≤m→d≤p→Sim S p d 0 (rp ⟨S,(p:Int),false⟩ d) (gP ⟨S.drop p,false⟩)) :
  ∀ (n p:Nat) (l:List bE),p≤S.length→S.length-p≤n→n≤m→d≤p→l.length+n≤61→Sim S p d 0 (rr d l ⟨S,(p:Int),false⟩ cf) (kQ l ⟨S.drop p,false⟩ cf):=by
 have h60:=hS.1
 intro n
 induction n with
 | zero =>
  intro p l h1 h2 h3 h4 h5
  unfold Sim
  rw[uX,jd (by omega),aa]
  dsimp only
  rw[bo (by simp),fp,jJ,gA (.inl (aW (by omega))),aa]
  dsimp only
  rw[bo (by simp),fp]
  exact⟨_,_,_,_,rfl,rfl,.inl ⟨p,by omega,h1,rfl,rfl,rfl⟩⟩
 | succ n ih =>
  intro p l h1 h2 h3 h4 h5
  unfold Sim
  have stop:∃ x' c' y' r',some (fW l,(⟨S,(p:Int),false⟩:bS),())=some (x',c',())∧some (fW l,(⟨S.drop p,false⟩:bH),())=some (y',r',())∧Res S p d 0 x' c' y' r' :=
   ⟨_,_,_,_,rfl,rfl,.inl ⟨p,by omega,h1,rfl,rfl,rfl⟩⟩
  by_cases hlt:p<S.length
  ·have hd:=ai hlt
   rw[uX,mF hlt,aa,jJ]
   dsimp only
   rw[hd]at stop ⊢
   by_cases c1:S[p]=124
   ·rw[c1,kc,aa,bn (by simp),ni (by omega)]
    dsimp only
    rw[bn rfl]
    obtain⟨x,c,y,r,e1,e2,e3⟩:=hp (p+1) (by omega) (by omega) (by omega)
    rw[e1,e2,aa,aa]
    dsimp only
    rw[bn (by rw[ch];omega),bn (by rw[ch];omega)]
    have hl:∀ y:bE,(List.append l [y]).length=l.length+1:=fun y=>by show(l++[y]).length=_;simp
    rcases e3 with ⟨q,q1,q2,rfl,rfl,rfl⟩ | ⟨hc,hr⟩
    ·obtain⟨x',c',y',r',f1,f2,f3⟩:=ih q (List.append l [x]) q2 (by omega) (by omega) (by omega) (by rw[hl];omega)
     exact⟨x',c',y',r',f1,f2,zP 0 f3 (by omega)⟩
    ·rw[GM _ _ _ hc]
     have hb:=hS.suf (List.drop_suffix (p+1) S)
     obtain⟨y2,r2,g,g1,g2,g3,g4⟩:=(kM _).2 _ false (aG _) hb
     rw[e2]at g
     obtain⟨rfl,rfl⟩:y=y2∧r=r2:=by
      have:=aN g
      exact⟨congrArg Prod.fst this,congrArg (fun z=>z.2.1) this⟩
     simp only[aQ]at g2
     obtain⟨y',r',f1,f2,f3⟩:=ui cf r (hb.suf g1) (List.append l [y]) (by rw[hl];omega)
     exact⟨_,_,_,_,rfl,f1,.inr ⟨hc,wB hr f2 f3⟩⟩
   ·rw[j9 c1,aa,aj c1,fp]
    dsimp only
    rw[bo (by simp),fp]
    exact stop
  ·rw[uX,jd (by omega),aa]
   dsimp only
   rw[bo (by simp),fp,jJ,gA (.inl (aW (by omega))),aa]
   dsimp only
   rw[bo (by simp),fp]
   exact stop
theorem GN{S:List Int}(hS:By S)(m:Nat)(p:Nat)(d:Int)(hpat:∀ p',p'<S.length→S.length-p'≤m→d≤p'→Sim S (p'+1) (d+1) 0 (mV ⟨S,((p'+1:Nat):Int),false⟩ (d+1)) (gk ⟨S.drop (p'+1),false⟩))
  (h1:p≤S.length) (h2:S.length-p≤m) (h3:0≤d) (h4:d≤p) (hm:m≤60):Sim S p d 0 (mV ⟨S,(p:Int),false⟩ d) (gk ⟨S.drop p,false⟩):=by
 have h60:=hS.1
 have hpart:∀ p,p≤S.length→S.length-p≤m→d≤p→Sim S p d 0 (rp ⟨S,(p:Int),false⟩ d) (gP ⟨S.drop p,false⟩):=fun p a b c=>by
  rw[Up,qw]
  exact RO hS d m (fun p' a' b' c'=>RW hS p' d (KO hS p' a' d h3 c' (hpat p' a' b' c'))) m p [] a b (aG _) c (by simp;omega)
 unfold Sim
 obtain⟨x,c,y,r,e1,e2,e3⟩:=hpart p h1 h2 h4
 rw[Uq,tu,e1,e2,aa,aa]
 dsimp only
 rcases e3 with ⟨q,q1,q2,rfl,rfl,rfl⟩ | ⟨hc,hr⟩
 ·obtain⟨x',c',y',r',f1,f2,f3⟩:=RQ hS d m hpart m q [x] q2 (by omega) (aG _) (by omega) (by simp;omega)
  exact⟨x',c',y',r',f1,f2,zP 0 f3 (by omega)⟩
 ·rw[GM _ _ _ hc]
  have hb:=hS.suf (List.drop_suffix p S)
  obtain⟨y2,r2,g,g1,g2,g3,g4⟩:=(kM _).2 _ false (aG _) hb
  rw[e2]at g
  obtain⟨rfl,rfl⟩:y=y2∧r=r2:=by
   have:=aN g
   exact⟨congrArg Prod.fst this,congrArg (fun z=>z.2.1) this⟩
  simp only[aQ]at g2
  obtain⟨y',r',f1,f2,f3⟩:=ui cf r (hb.suf g1) [y] (by simp;omega)
  exact⟨_,_,_,_,rfl,f1,.inr ⟨hc,wB hr f2 f3⟩⟩
theorem RR{S:List Int}(hS:By S):∀ (n p:Nat) (d:Int),p≤S.length→S.length-p≤n→0≤d→d≤p→Sim S p d 0 (mV ⟨S,(p:Int),false⟩ d) (gk ⟨S.drop p,false⟩):=by
 have h60:=hS.1
 intro n
 induction n with
 | zero =>
  intro p d h1 h2 h3 h4
  exact GN hS 0 p d (fun p' h h' h''=>absurd h (by omega)) h1 h2 h3 h4 (by omega)
 | succ n ih =>
  intro p d h1 h2 h3 h4
  exact GN hS (S.length-p) p d (fun p' h h' h''=>ih (p'+1) (d+1) (by omega) (by omega) (by omega) (by omega)) h1 (aG _) h3 h4 (by omega)
theorem He(S:List Int)(hB:∀ b∈S,0≤b∧b≤255)(hl:S.length≤9223372036854775807):∃ x ok,mQ S=some (x,ok,())∧nP S=some (x,ok,()):=by
 rw[Ty,Ea]
 by_cases c:(S.length:Int)>60
 ·rw[ak c,ak c];exact⟨_,_,rfl,rfl⟩
 have n1:¬ (decide ((S.length:Int)>60)=true):=by rw[ab];exact c
 have hS:By S:=⟨by omega,hB⟩
 obtain⟨x,c,y,r,e1,e2,e3⟩:=RR hS S.length 0 0 (Nat.zero_le _) (by omega) (Int.le_refl _) (Int.le_refl _)
 rw[aM]at e2
 rw[show((0:Nat):Int)=0 from rfl]at e1
 rw[bo n1,bo n1,e1,e2,aa,aa]
 dsimp only
 obtain⟨y2,r2,g,g1,g2,g3,g4⟩:=qC _ S false (aG _) hS
 rw[e2]at g
 obtain⟨rfl,rfl⟩:y=y2∧r=r2:=by
  have:=aN g
  exact⟨congrArg Prod.fst this,congrArg (fun z=>z.2.1) this⟩
 rcases e3 with ⟨q,q1,q2,rfl,rfl,rfl⟩ | ⟨hc,hr⟩
 ·dsimp only
  rw[bo (c:=false=true) (by simp),bo (c:=false=true) (by simp)]
  by_cases hq:q=S.length
  ·have a1:¬ ((!(decide ((q:Int)=(S.length:Int))))=true):=by rw[ac (by omega)];decide
   have a2:¬ ((!(decide (S.drop q=[])))=true):=by rw[ac (aW (by omega))];decide
   obtain⟨v,d1,d2⟩:=wZ g4
   rw[bo a1,bo a2,d1,d2,aa]
   dsimp only
   by_cases hv:v>12
   ·rw[ak hv];exact⟨_,_,rfl,rfl⟩
   ·rw[aj hv];exact⟨_,_,rfl,rfl⟩
  ·have a1:(!(decide ((q:Int)=(S.length:Int))))=true:=by rw[ae (by omega)];rfl
   have a2:(!(decide (S.drop q=[])))=true:=by
    rw[ae (fun h=>by have:=congrArg List.length h;rw[aQ]at this;simp at this;omega)];rfl
   rw[bn a1,bn a2];exact⟨_,_,rfl,rfl⟩
 ·rw[bn hc]
  cases hb:r.bad with
  | true=>rw[bn rfl];exact⟨_,_,rfl,rfl⟩
  | false=>have:=hr hb;have:=hS.1;omega
def fG(x:Int):Bool:=(decide (97≤x)&&decide (x≤122))||(decide (65≤x)&&decide (x≤90))
theorem Eq(x:Int):xU x=some (fG x,()):=by
 rw[Ep]
 unfold fG
 by_cases c1:x≥97
 ·by_cases c2:x≤122
  ·rw[ak c1,ak c2,ac (show 97≤x from c1),ac c2];rfl
  ·rw[ak c1,aj c2,an,ae c2,Bool.and_false,Bool.false_or,ac (show 65≤x by omega),Bool.true_and]
 ·rw[aj c1,ae (show ¬ 97≤x from c1),Bool.false_and,Bool.false_or]
  by_cases c3:x≥65
  ·rw[ak c3,ac (show 65≤x from c3),Bool.true_and]
  ·rw[aj c3,ae (show ¬ 65≤x from c3),Bool.false_and]
theorem UM(x:Int):AX x=some (fG x,()):=by
 have:=Eq x
 rw[Ep]at this
 rw[UL];exact this
theorem vH(l:List (List Int))(s:List Int)(hl:l.length≤4294967296):mY l s=some (decide (s∈l),()):=by
 rw[UN]
 have:=gh (fun i=>pd l s i) l.length (fun i=>decide (l.getD i []=s)) (some (true,())) (some (false,())) (fun i hi=>by
  show pd l s i=_
  rw[Ip,an,al,ci hi (by omega),af]) (by
  show pd l s _=_
  rw[Ip,bo (by simp)])
 rw[this,eY l [] (fun x=>decide (x=s))]
 have:l.any (fun x=>decide (x=s))=decide (s∈l):=by
  rw[Bool.eq_iff_iff,List.any_eq_true,ab]
  constructor
  ·rintro ⟨x,hx,e⟩;rw[ab]at e;subst e;exact hx
  ·intro h;exact⟨s,h,ac rfl⟩
 rw[this]
 cases decide (s∈l) <;> rfl
theorem wS(l:List (List Int))(s:List Int)(hl:l.length≤4294967296):rR l s=some (decide (s∈l),()):=by
 rw[Wa,Wm]
 obtain⟨k,e,e1,_⟩:=iz (fun i=>pq l s (l.length:Int) i) () l.length (fun i=>decide (s=l.getD i [])) (fun i hi=>by
  show pq l s _ i=_
  rw[J3,an,al,ci hi (by omega),af]) (by
  show pq l s _ _=_
  rw[J3,bo (by simp)])
 rw[e,aa]
 dsimp only
 rw[e1,eY l [] (fun x=>decide (s=x))]
 congr 2
 rw[Bool.eq_iff_iff,List.any_eq_true,ab]
 constructor
 ·rintro ⟨x,hx,e⟩;rw[ab]at e;subst e;exact hx
 ·intro h;exact⟨s,h,ac rfl⟩
def kw1:List (List Int):=[[66,69,71,73,78],[112,114,105,110,116],[105,102],[101,108,115,101],[119,104,105,108,101],[110,101,120,116],[100,101,108,101,116,101],[78,82],[78,70]]
def kw2:List (List Int):=[[108,101,110,103,116,104],[115,117,98,115,116,114],[105,110,100,101,120],[105,110,116],[117,112,112,101,114],[108,111,119,101,114]]
def oe(s:List Int):Bool:=decide (s∈kw1)||decide (s∈kw2)
theorem HO:vk=some (kw2,()):=UK
theorem Ej:ti=some (kw2,()):=On
theorem Ti(s:List Int):Ah s=some (oe s,()):=by
 have e:mY [[66,69,71,73,78],[112,114,105,110,116],[105,102],[101,108,115,101],[119,104,105,108,101],[110,101,120,116],[100,101,108,101,116,101],[78,82],[78,70]] s=some (decide (s∈kw1),()):=vH kw1 s (by decide)
 rw[Th,e,aa,HO,aa]
 dsimp only
 rw[vH kw2 s (by decide),aa]
 unfold oe
 cases decide (s∈kw1) <;> rfl
theorem NU(s:List Int)(b:Bool):iv s b=some (b||decide (s∈kw2),()):=by
 rw[NT,Ej,aa]
 dsimp only
 rw[wS kw2 s (by decide),aa]
 cases b <;> rfl
theorem NW(s:List Int):xC s=some (oe s,()):=by
 rw[NV]
 simp only[NU]
 have:decide (s∈kw1)=(decide (s=[66,69,71,73,78])||(decide (s=[112,114,105,110,116])||(decide (s=[105,102])||(decide (s=[101,108,115,101])||(decide (s=[119,104,105,108,101])||(decide (s=[110,101,120,116])||(decide (s=[100,101,108,101,116,101])||(decide (s=[78,82])||decide (s=[78,70]))))))))):=by
  rw[Bool.eq_iff_iff]
  simp only[ab,aU,kw1,aK,List.not_mem_nil,or_false]
 unfold oe
 rw[this]
 cases decide (s=[66,69,71,73,78]) <;> cases decide (s=[112,114,105,110,116]) <;> cases decide (s=[105,102]) <;> cases decide (s=[101,108,115,101]) <;> cases decide (s=[119,104,105,108,101]) <;> cases decide (s=[110,101,120,116]) <;> cases decide (s=[100,101,108,101,116,101]) <;> cases decide (s=[78,82]) <;> rfl
def iA(s:List Int):Bool:=(decide (1≤(s.length:Int)∧(s.length:Int)≤8)&&s.all fG) && !oe s
theorem Is(s:List Int)(hl:s.length≤4294967296):vm s=some (iA s,()):=by
 rw[UQ]
 have:=gh (fun i=>pe s i) s.length (fun i=>!fG (s.getD i 0)) (some (false,())) (some (decide (1≤(s.length:Int)∧(s.length:Int)≤8) && !oe s,())) (fun i hi=>by
  show pe s i=_
  rw[Ir,an,al,ci hi (by omega),af,UM,aa]) (by
  show pe s _=_
  rw[Ir,bo (by simp),dN,aa,Ti,aa]
  dsimp only
  cases decide (1≤(s.length:Int)∧(s.length:Int)≤8) <;> rfl)
 rw[this,eY s 0 (fun x=>!fG x)]
 unfold iA
 have h:s.any (fun x=>!fG x) = !s.all fG:=by rw[← List.not_all_eq_any_not]
 rw[h]
 cases s.all fG <;> cases decide (1≤(s.length:Int)∧(s.length:Int)≤8) <;> rfl
theorem QW(s:List Int)(hl:s.length≤4294967296):∃ k:Int,xX s 0=some (k,())∧decide (k=(s.length:Int))=s.all fG:=by
 rw[OI]
 have key:∀ (d i:Nat),i+d=s.length→(∀ j (h:j<s.length),j<i→fG s[j]=true)→∃ k:Int,tl s 0 (i:Int)=some (k,())∧decide (k=(s.length:Int))=s.all fG:=by
  intro d
  induction d with
  | zero =>
   intro i hd hj
   have hi:i=s.length:=by omega
   subst hi
   rw[Er,aq (n:=0+(s.length:Int)),bo (by simp)]
   refine⟨_,rfl,?_⟩
   rw[ac rfl,eq_comm,List.all_eq_true]
   intro x hx
   obtain⟨j,h,rfl⟩:=bk.1 hx
   exact hj j h h
  | succ d ih =>
   intro i hd hj
   have hi:i<s.length:=by omega
   rw[Er,aq (n:=0+(i:Int)),Int.zero_add,an,al,ck hi,Eq,aa]
   dsimp only
   cases e:fG s[i] with
   | true =>
    rw[bn rfl,ci hi (by omega)]
    refine ih (i+1) (by omega) fun j h h'=>?_
    by_cases g:j=i
    ·subst g;exact e
    ·exact hj j h (by omega)
   | false =>
    rw[bo (by simp)]
    refine⟨_,rfl,?_⟩
    rw[ae (by omega),eq_comm]
    cases g:s.all fG with
    | false=>rfl
    | true=>have:=List.all_eq_true.1 g s[i] (aV hi);rw[e]at this;cases this
 exact key s.length 0 (by omega) (fun j _ h=>absurd h (by omega))
theorem OE(s:List Int)(hl:s.length≤4294967296):xV s=some (iA s,()):=by
 obtain⟨k,e,e1⟩:=QW s hl
 rw[OD,eL,aa,e,aa]
 dsimp only
 rw[e1,NW,aa]
 unfold iA
 cases s.all fG <;> cases decide (1≤(s.length:Int)∧(s.length:Int)≤8) <;> rfl
noncomputable def oO(s:List Int):Bool:=match mQ s with
 | some (_,ok,_)=>ok
 | none=>false
theorem Hf(s:List Int)(hb:∀ b∈s,0≤b∧b≤255)(hl:s.length≤9223372036854775807):(∃ x,mQ s=some (x,oO s,())∧nP s=some (x,oO s,())):=by
 obtain⟨x,ok,e1,e2⟩:=He s hb hl
 have:oO s=ok:=by unfold oO;rw[e1]
 rw[this];exact⟨x,e1,e2⟩
noncomputable def opB(o:bB)(n v c:Int):Bool :=
 if o.Code=1 then decide (-9000000000000≤o.N∧o.N≤9000000000000)&&decide (o.S=[])
 else if o.Code=2 then decide (o.N=0)
 else if o.Code=3∨o.Code=4∨o.Code=5 then(decide (o.N≥0)&&decide (o.N<v))&&decide (o.S=[])
 else if o.Code=6∨o.Code=7∨o.Code=8∨o.Code=35 then(decide (o.N≥0)&&decide (o.N<c))&&decide (o.S=[])
 else if o.Code=24∨o.Code=25 then oO o.S&&decide (o.N=0)
 else if o.Code=29 then decide (1≤o.N∧o.N≤3)&&decide (o.S∈kw2)
 else if o.Code=30∨o.Code=31 then decide (0≤o.N∧o.N≤w64 (n-1))&&decide (o.S=[])
 else if o.Code=33 then decide (0≤o.N∧o.N≤1)&&decide (o.S=[])
 else(decide (1≤o.Code∧o.Code≤36)&&decide (o.N=0))&&decide (o.S=[])
set_option linter.defProp false
def aY:=@Bool.and_assoc
theorem Hw(n:Int):fL n=some (decide (-9000000000000≤n∧n≤9000000000000),()):=by rw[Hv,dN];rfl
theorem DR(n:Int):dH n=some (decide (-9000000000000≤n∧n≤9000000000000),()):=by rw[DQ,eL];rfl
theorem OH(s:List Int)(hb:∀ b∈s,0≤b∧b≤255)(hl:s.length≤9223372036854775807):xW s=some (oO s,()):=by
 obtain⟨x,e1,e2⟩:=Hf s hb hl
 rw[OG,e2];rfl
theorem qI(a b:Bool):(if a=true then some (b,())else some (false,()))=some (a&&b,()):=by cases a <;> rfl
theorem in4(t1:Int)(c:Int)(b:Bool)(o:bB):uN t1 c b o=some (if b=true then decide (0≤o.N∧o.N≤w64 (t1-1))&&decide (o.S=[])else if c=33 then decide (0≤o.N∧o.N≤1)&&decide (o.S=[]) else(decide (1≤o.Code∧o.Code≤36)&&decide (o.N=0))&&decide (o.S=[]),()):=by
 rw[T5,dN,dN,dN]
 simp only[aa,qI]
 cases b with
 | true=>rfl
 | false =>
  by_cases h:c=33
  ·simp[h]
  ·simp[h,aY]
theorem T7(o:bB)(n v c:Int)(hb:∀ b∈o.S,0≤b∧b≤255)(hl:o.S.length≤9223372036854775807):Ax o n v c=some (opB o n v c,()):=by
 obtain⟨x,e1,e2⟩:=Hf o.S hb hl
 rw[T6,Hw]
 simp only[aa,qI,T2,T3,T4,in4,e1,HO,dN,vH kw2 _ (by decide)]
 unfold opB
 by_cases c1:o.Code=1
 ·simp[c1,aY]
 by_cases c2:o.Code=2
 ·simp[c2,aY]
 by_cases c3:o.Code=3
 ·simp[c3,aY]
 by_cases c4:o.Code=4
 ·simp[c4,aY]
 by_cases c5:o.Code=5
 ·simp[c5,aY]
 by_cases c6:o.Code=6
 ·simp[c6,aY]
 by_cases c7:o.Code=7
 ·simp[c7,aY]
 by_cases c8:o.Code=8
 ·simp[c8,aY]
 by_cases c35:o.Code=35
 ·simp[c35,aY]
 by_cases c24:o.Code=24
 ·simp[c24,aY]
 by_cases c25:o.Code=25
 ·simp[c25,aY]
 by_cases c29:o.Code=29
 ·simp[c29,aY]
 by_cases c30:o.Code=30
 ·simp[c30,aY]
 by_cases c31:o.Code=31
 ·simp[c31,aY]
 by_cases c33:o.Code=33
 ·simp[c33,aY]
 simp[aY,c1,c2,c3,c4,c5,c6,c7,c8,c35,c24,c25,c29,c30,c31,c33]
def xq(c:Int):List Int:=if c=1 then [100]else if c=2∨c=24∨c=25 then [115]else if c=29 then [110,115]else if c=3∨c=4∨c=5∨c=6∨c=7∨c=8∨c=35∨c=30∨c=31∨c=33 then [110]else []
def opNames:List (List Int):=[[],[110,117,109],[116,101,120,116],[118,97,114],[115,101,116,118,97,114],[112,108,117,115,118,97,114],[99,101,108,108],[115,101,116,99,101,108,108],[112,108,117,115,99,101,108,108],[102,105,101,108,100],[110,114],[110,102],[97,100,100],[115,117,98],[109,117,108],[100,105,118],[109,111,100],[99,97,116],[108,101,115,115],[109,111,115,116],[109,111,114,101],[108,101,97,115,116],[115,97,109,101],[111,116,104,101,114],[102,105,116,115],[108,105,110,101],[110,111,116],[109,105,110,117,115],[98,111,111,108],[99,97,108,108],[106,117,109,112],[122,101,114,111],[112,111,112],[115,104,111,119],[101,110,100,108],[100,114,111,112],[110,101,120,116]]
theorem RA(c:Int)(h:1≤c∧c≤36):opNames.getD c.toNat []≠[]:=by
 have:∀ n:Nat,n<37→1≤n→opNames.getD n []≠[]:=by decide
 exact this c.toNat (by omega) (by omega)
theorem Ry(c:Int)(f:List Int)(h:1≤c∧c≤36):mq c opNames f=some (opNames.getD c.toNat [],f,()):=by
 rw[OM,bn (by show(0:Int)≤c∧c<37;omega)]
theorem Rz(c:Int):xZ c=some (if 1≤c∧c≤36 then opNames.getD c.toNat []else [],if 1≤c∧c≤36 then xq c else [],()):=by
 rw[OP,eL,aa]
 dsimp only
 by_cases h:1≤c∧c≤36
 ·rw[ac h,bo (by simp),bn h,bn h]
  have e:=fun f=>Ry c f h
  unfold opNames at e ⊢
  simp only[ON,OO,e]
  unfold xq
  by_cases c1:c=1
  ·simp[c1]
  by_cases c2:c=2
  ·simp[c2]
  by_cases c24:c=24
  ·simp[c24]
  by_cases c25:c=25
  ·simp[c25]
  by_cases c29:c=29
  ·simp[c29]
  by_cases c3:c=3
  ·simp[c3]
  by_cases c4:c=4
  ·simp[c4]
  by_cases c5:c=5
  ·simp[c5]
  by_cases c6:c=6
  ·simp[c6]
  by_cases c7:c=7
  ·simp[c7]
  by_cases c8:c=8
  ·simp[c8]
  by_cases c35:c=35
  ·simp[c35]
  by_cases c30:c=30
  ·simp[c30]
  by_cases c31:c=31
  ·simp[c31]
  by_cases c33:c=33
  ·simp[c33]
  simp[c1,c2,c3,c4,c5,c6,c7,c8,c35,c24,c25,c29,c30,c31,c33]
 ·rw[ae h,bn (by simp),bo h,bo h]
theorem OV(o:bB)(n v c:Int)(hb:∀ b∈o.S,0≤b∧b≤255)(hl:o.S.length≤9223372036854775807):x6 o n v c=some (opB o n v c,()):=by
 rw[OU,Rz,aa]
 dsimp only
 by_cases h:1≤o.Code∧o.Code≤36
 ·rw[bn h,bn h,aj (by exact RA _ h)]
  simp only[DR,aa,qI,OQ,OR,OS,OT,OH o.S hb hl,Ej,eL,wS kw2 _ (by decide)]
  unfold opB xq
  by_cases c1:o.Code=1
  ·simp[c1,aY] <;> by_cases hN:o.N=0 <;> by_cases hS:o.S=[] <;> simp[hN,hS]
  by_cases c2:o.Code=2
  ·simp[c2,aY] <;> by_cases hN:o.N=0 <;> by_cases hS:o.S=[] <;> simp[hN,hS]
  by_cases c3:o.Code=3
  ·simp[c3,aY] <;> by_cases hN:o.N=0 <;> by_cases hS:o.S=[] <;> simp[hN,hS]
  by_cases c4:o.Code=4
  ·simp[c4,aY] <;> by_cases hN:o.N=0 <;> by_cases hS:o.S=[] <;> simp[hN,hS]
  by_cases c5:o.Code=5
  ·simp[c5,aY] <;> by_cases hN:o.N=0 <;> by_cases hS:o.S=[] <;> simp[hN,hS]
  by_cases c6:o.Code=6
  ·simp[c6,aY] <;> by_cases hN:o.N=0 <;> by_cases hS:o.S=[] <;> simp[hN,hS]
  by_cases c7:o.Code=7
  ·simp[c7,aY] <;> by_cases hN:o.N=0 <;> by_cases hS:o.S=[] <;> simp[hN,hS]
  by_cases c8:o.Code=8
  ·simp[c8,aY] <;> by_cases hN:o.N=0 <;> by_cases hS:o.S=[] <;> simp[hN,hS]
  by_cases c35:o.Code=35
  ·simp[c35,aY] <;> by_cases hN:o.N=0 <;> by_cases hS:o.S=[] <;> simp[hN,hS]
  by_cases c24:o.Code=24
  ·simp[c24,aY] <;> by_cases hN:o.N=0 <;> by_cases hS:o.S=[] <;> simp[hN,hS]
  by_cases c25:o.Code=25
  ·simp[c25,aY] <;> by_cases hN:o.N=0 <;> by_cases hS:o.S=[] <;> simp[hN,hS]
  by_cases c29:o.Code=29
  ·simp[c29,aY] <;> by_cases hN:o.N=0 <;> by_cases hS:o.S=[] <;> simp[hN,hS]
  by_cases c30:o.Code=30
  ·simp[c30,aY] <;> by_cases hN:o.N=0 <;> by_cases hS:o.S=[] <;> simp[hN,hS]
  by_cases c31:o.Code=31
  ·simp[c31,aY] <;> by_cases hN:o.N=0 <;> by_cases hS:o.S=[] <;> simp[hN,hS]
  by_cases c33:o.Code=33
  ·simp[c33,aY] <;> by_cases hN:o.N=0 <;> by_cases hS:o.S=[] <;> simp[hN,hS]
  simp[c1,c2,c3,c4,c5,c6,c7,c8,c35,c24,c25,c29,c30,c31,c33,h,aY]
  by_cases hN:o.N=0 <;> by_cases hS:o.S=[] <;> simp[hN,hS]
 ·rw[bo h,bo h,bn (by simp)]
  unfold opB
  rw[am,am,am,am,am,am,am,am,ae h]
  rfl
def isD(x:Int):Bool:=decide (48≤x)&&decide (x≤57)
theorem oc(x:Int):isD x=true↔48≤x∧x≤57:=by unfold isD;rw[az,ab,ab]
def cC(l:List Int):List Int:=l.takeWhile isD
theorem L9{x:Int}{l:List Int}(h:isD x=true):cC (x::l)=x::cC l:=List.takeWhile_cons_of_pos h
theorem L8{x:Int}{l:List Int}(h:isD x=false):cC (x::l)=[]:=List.takeWhile_cons_of_neg (by rw[h];decide)
theorem sI{s:List Int}{i:Nat}(hi:i<s.length)(h:isD s[i]=true):cC (s.drop i)=s[i]::cC (s.drop (i+1)):=by rw[ai hi,L9 h]
theorem pW{s:List Int}{i:Nat}(hi:i<s.length)(h:isD s[i]=false):cC (s.drop i)=[]:=by rw[ai hi,L8 h]
theorem nE{s:List Int}{i:Nat}(hi:s.length≤i):cC (s.drop i)=[]:=by rw[aW hi];rfl
def AllD(l:List Int):Prop:=∀ x∈l,48≤x∧x≤57
theorem ma(l:List Int):AllD (cC l):=fun x hx=>(oc x).1 (List.all_eq_true.1 (List.all_takeWhile ..) x hx)
theorem AllD.tail{c:Int}{l:List Int}(h:AllD (c::l)):AllD l:=fun x hx=>h x (aE _ hx)
theorem AllD.head{c:Int}{l:List Int}(h:AllD (c::l)):48≤c∧c≤57:=h c (aD ..)
theorem sJ(l:List Int):(cC l).length≤l.length:=(List.takeWhile_sublist _).length_le
theorem CK(l:List Int):l.take (cC l).length=cC l:=by
 unfold cC
 have h:=List.takeWhile_append_dropWhile (p:=isD) (l:=l)
 have:l.take (l.takeWhile isD).length=(l.takeWhile isD++l.dropWhile isD).take (l.takeWhile isD).length:=by rw[h]
 rw[this,List.take_left]
def dv(a:Int)(l:List Int):Int:=l.foldl (fun n c=>10*n+(c-48)) a
theorem iV(a c:Int)(l:List Int):dv a (c::l)=dv (10*a+(c-48)) l:=rfl
theorem xc(a:Int)(l m:List Int):dv a (l++m)=dv (dv a l) m:=List.foldl_append ..
theorem kD:∀ (l:List Int) (a:Int),dv a l=a*10 ^ l.length+dv 0 l
 | [],a=>by simp[dv]
 | c::l,a=>by
  rw[iV,iV,kD l (10*a+(c-48)),kD l (10*0+(c-48)),aR,Int.pow_succ,Int.add_mul,Int.mul_zero,Int.zero_add,← Int.add_assoc]
  congr 2
  rw[Int.mul_comm 10 a,Int.mul_assoc,Int.mul_comm 10]
theorem kC:∀ (l:List Int) (a:Int),AllD l→0≤a→0≤dv a l
 | [],a,_,h=>h
 | c::l,a,hd,h=>kC l (10*a+(c-48)) hd.tail (by have:=hd.head;omega)
theorem CP:∀ (l:List Int),dv 0 (l.dropWhile (fun x=>decide (x=48)))=dv 0 l
 | []=>rfl
 | c::l=>by
  by_cases h:c=48
  ·rw[List.dropWhile_cons_of_pos (by simp[h]),CP l,iV,h];rfl
  ·rw[List.dropWhile_cons_of_neg (by simp[h])]
theorem xd:∀ (l:List Int),AllD l→dv 0 l<10 ^ l.length
 | [],_=>by simp[dv]
 | c::l,hd=>by
  have h1:=xd l hd.tail
  have h2:=hd.head
  rw[iV,kD,aR,Int.pow_succ]
  have:(10*0+(c-48))*10 ^ l.length≤9*10 ^ l.length:=Int.mul_le_mul_of_nonneg_right (by omega) (Int.le_of_lt (Int.pow_pos (by omega)))
  omega
theorem Mh{l:List Int}(hd:AllD l)(h0:∀ c r,l=c::r→c≠48)(h:7<l.length):10000000≤dv 0 l:=by
 cases l with
 | nil=>cases h
 | cons c r =>
  have h1:=hd.head
  have h2:=h0 c r rfl
  have h3:=kC r 0 hd.tail (Int.le_refl 0)
  rw[iV,kD]
  simp only[aR]at h
  have h4:(10:Int) ^ 7≤10 ^ r.length:=by
   have:(10:Nat) ^ 7≤10 ^ r.length:=Nat.pow_le_pow_right (by omega) (by omega)
   exact_mod_cast this
  have h5:1*(10:Int) ^ r.length≤(10*0+(c-48))*10 ^ r.length:=Int.mul_le_mul_of_nonneg_right (by omega) (Int.le_of_lt (Int.pow_pos (by omega)))
  omega
def fr:List Int→Int→Int
 | [],_=>0
 | c::l,u=>(c-48)*u+fr l (u/10)
theorem Dh:∀ l:List Int,fr l 0=0
 | []=>rfl
 | c::l=>by show(c-48)*0+fr l (0/10)=0;rw[Int.mul_zero,show(0:Int)/10=0 from rfl,Dh l];rfl
def vG:Nat→Int
 | 0=>0
 | k+1=>10 ^ k
theorem Vz(k:Nat):vG (k+1)/10=vG k:=by
 cases k with
 | zero=>rfl
 | succ k=>show(10:Int) ^ (k+1)/10=10 ^ k;rw[Int.pow_succ];omega
theorem xe:∀ k:Nat,dv 0 (List.replicate k 48)=0
 | 0=>rfl
 | k+1=>by rw[List.replicate_succ,iV];exact xe k
theorem xr:∀ (l:List Int) (k m:Nat),k≤m→fr l (vG k)=dv 0 ((l++List.replicate m 48).take k)
 | [],k,m,h=>by rw[bg,List.take_replicate,Nat.min_eq_left h,xe];rfl
 | c::l,0,m,h=>by rw[List.take_zero];exact Dh _
 | c::l,k+1,m,h=>by
  rw[List.cons_append,List.take_succ_cons,iV,kD,aP,ag,a7,Nat.min_eq_left (by omega),← xr l k m (by omega)]
  show(c-48)*10 ^ k+fr l (vG (k+1)/10)=_
  rw[Vz,Int.mul_zero,Int.zero_add]
theorem qd(l:List Int)(hd:AllD l):0≤fr l 100000∧fr l 100000<1000000:=by
 have e:fr l 100000=dv 0 ((l++List.replicate 6 48).take 6):=xr l 6 6 (aG 6)
 have hd':AllD ((l++List.replicate 6 48).take 6):=fun x hx=>by
  rcases aA.1 (List.mem_of_mem_take hx)with h | h
  ·exact hd x h
  ·rw[(List.mem_replicate.1 h).2];omega
 have h1:=xd _ hd'
 have h2:((l++List.replicate 6 48).take 6).length=6:=by rw[aP,ag,a7];omega
 rw[h2]at h1
 rw[e]
 exact⟨kC _ _ hd' (Int.le_refl 0),h1⟩
def sat:Int→List Int→Int
 | n,[]=>n
 | n,c::l=>if n≤9000000000000 then sat (10*n+(c-48)*1000000) l else sat n l
theorem Iv:∀ (l:List Int) (n:Int),9000000000000<n→sat n l=n
 | [],n,_=>rfl
 | c::l,n,h=>by unfold sat;rw[am];exact Iv l n h
theorem Iw:∀ (l:List Int) (a:Int),AllD l→0≤a→(sat (a*1000000) l=dv a l*1000000)∨(9000000000000<sat (a*1000000) l∧9000000000000<dv a l*1000000)
 | [],a,_,_=>.inl rfl
 | c::l,a,hd,h=>by
  have hc:=hd.head
  unfold sat
  rw[iV]
  by_cases hn:a*1000000≤9000000000000
  ·rw[bn hn,show 10*(a*1000000)+(c-48)*1000000=(10*a+(c-48))*1000000 by omega]
   exact Iw l _ hd.tail (by omega)
  ·rw[bo hn,Iv _ _ (by omega)]
   refine .inr ⟨by omega,?_⟩
   have h1:=kC l 0 hd.tail (Int.le_refl 0)
   have h2:a*1≤(10*a+(c-48))*10 ^ l.length:=Int.mul_le_mul (by omega) (by have:(0:Int)<10 ^ l.length:=Int.pow_pos (by omega);omega) (by omega) (by omega)
   rw[kD]
   omega
theorem A8(c:Int):∀ l:List Int,l.length≤4294967296→pt l c=some (l.dropWhile (fun x=>decide (x=c)),())
 | [],h=>by rw[Kb,bo (by simp)];rfl
 | x::l,h=>by
  simp only[aR]at h
  rw[Kb,ak ((by simp only[aR];omega)),bn (by simp only[aR];omega)]
  by_cases hx:x=c
  ·rw[bn (by simp[hx]),bn (by simp only[aR];omega),List.dropWhile_cons_of_pos (by simp[hx])]
   have:List.take ((x::l).length-1) (List.drop 1 (x::l))=l:=by simp
   rw[this]
   exact A8 c l (by omega)
  ·rw[bo (by simpa using hx),List.dropWhile_cons_of_neg (by simpa using hx)]
theorem BS(l:List Int)(c:Int)(hc:c<128)(h:l.length≤4294967296):v7 l [c]=some (l.dropWhile (fun x=>decide (x=c)),()):=by
 rw[Wu]
 by_cases h0:l=[]
 ·rw[ak h0,h0];rfl
 ·rw[aj h0,bo (by simp),bn (by simp),bn (by simp),bn (by simpa using hc),bn (by simp),Kc]
  show Option.bind (pt l c) _=_
  rw[A8 c l h];rfl
theorem Vu(c:Int):∀ (n:Nat) (l:List Int),l.length=n→l.length≤4294967296→∃ r,nu l c=some (r,())∧r.length≤l.length∧((∀ x∈r,x=c) ↔ ∀ x∈l,x=c):=by
 intro n
 induction n with
 | zero =>
  intro l hl h
  have:l=[]:=List.eq_nil_of_length_eq_zero hl
  subst this
  exact⟨[],by rw[v8,bo (by simp)],aG _,Iff.rfl⟩
 | succ n ih =>
  intro l hl h
  rw[v8,an,aq,al,show((l.length:Int)-1).toNat=l.length-1 by omega,cF (by omega)]
  by_cases hx:l[l.length-1]=c
  ·rw[ak hx,al]
   have e:List.take (l.length-1-0) (List.drop 0 l)=l.take (l.length-1):=rfl
   rw[e]
   obtain⟨r,r1,r2,r3⟩:=ih (l.take (l.length-1)) (by rw[aP];omega) (by rw[aP];omega)
   have hs:l=l.take (l.length-1)++[c]:=by
    have h1:=List.take_append_drop (l.length-1) l
    have h2:l.drop (l.length-1)=[l[l.length-1]]:=by
     rw[ai (by omega),aW (by omega)]
    rw[h2,hx]at h1
    exact h1.symm
   rw[aP]at r2
   refine⟨r,r1,by omega,r3.trans ?_⟩
   constructor
   ·intro h5 x hx5
    rw[hs]at hx5
    rcases aA.1 hx5 with h6 | h6
    ·exact h5 x h6
    ·exact aJ.1 h6
   ·intro h5 x hx5
    exact h5 x (List.mem_of_mem_take hx5)
  ·rw[aj hx]
   exact⟨l,rfl,aG _,Iff.rfl⟩
theorem CM(c:Int):∀ l:List Int,l.dropWhile (fun x=>decide (x=c))=[] ↔ ∀ x∈l,x=c
 | []=>by simp
 | a::l=>by
  by_cases h:a=c
  ·rw[List.dropWhile_cons_of_pos (by simp[h]),CM c l]
   simp[h]
  ·rw[List.dropWhile_cons_of_neg (by simp[h])]
   simp[h]
theorem Kx(l:List Int)(h:l.length≤4294967296):∃ r,Bz l [32]=some (r,())∧(r=[] ↔ ∀ x∈l,x=32):=by
 rw[Ww]
 by_cases h0:l=[]
 ·rw[ak h0];exact⟨l,rfl,by simp[h0]⟩
 ·obtain⟨r,r1,r2,r3⟩:=Vu 32 l.length l rfl h
  rw[aj h0,bo (by simp),bn (by simp),bn (by simp),bn (by simp),bn (by simp),Kd]
  show ∃ x,(Option.bind (nu l 32) _)=some (x,())∧_
  rw[r1,aa,bn (by simp),Kc]
  show ∃ x,(Option.bind (pt r 32) _)=some (x,())∧_
  rw[A8 32 r (by omega)]
  exact⟨_,rfl,(CM 32 r).trans r3⟩
theorem KM(t:List Int)(ht:t.length≤18)(hd:AllD t)(h0:∀ c r,t=c::r→c≠45)(hne:t≠[]):∀ (d i:Nat) (n:Int),i+d=t.length→0≤n→n<10 ^ i→vO t n t (t.length:Int) (i:Int)=some (dv n (t.drop i),(),()):=by
 intro d
 induction d with
 | zero =>
  intro i n hi n0 n1
  rw[JB,ap,bn (by have:=List.length_pos_iff.2 hne;omega),aW (by omega)]
  cases t with
  | nil=>exact absurd rfl hne
  | cons c r=>rw[bo (by have:=h0 c r rfl;simpa using this)];rfl
 | succ d ih =>
  intro i n hi n0 n1
  have hlt:i<t.length:=by omega
  have hx:=hd _ (aV hlt)
  have hp:(10:Int) ^ i≤10 ^ 17:=by
   have:(10:Nat) ^ i≤10 ^ 17:=Nat.pow_le_pow_right (by omega) (by omega)
   exact_mod_cast this
  have hp1:(10:Int) ^ (i+1)=10 ^ i*10:=Int.pow_succ ..
  have e8:w8 (t[i]-48)=t[i]-48:=Be (by omega) (by omega)
  rw[JB,an,al,ck hlt,e8,ap,aq (n:=n*10),aq (n:=t[i]-48),aq,ci hlt (by omega),ih (i+1) _ (by omega) (by omega) (by omega),ai hlt,iV,Int.mul_comm n 10]
theorem KN(t:List Int)(ht:t.length≤18)(hd:AllD t)(hne:t≠[]):Bu t=some (dv 0 t,(),()):=by
 have hp:=List.length_pos_iff.2 hne
 have h0:∀ c r,t=c::r→c≠45∧c≠43:=fun c r h=>by
  subst h;have:=hd.head;omega
 have hg:∀ z,t.getD 0 z≠45∧t.getD 0 z≠43:=fun z=>by
  cases t with
  | nil=>exact absurd rfl hne
  | cons c r=>exact h0 c r rfl
 rw[Wo,VN,an,an,al,aj (by exact(hg 0).1),al,aj (by exact(hg 0).2),VM,bn (by rw[ch];omega)]
 have:=KM t ht hd (fun c r h=>(h0 c r h).1) hne t.length 0 0 (by omega) (by omega) (by simp)
 rw[show(((0:Nat)):Int)=0 from rfl,aM]at this
 rw[this];rfl
theorem eK(n:Int):dH n=some (decide (-9000000000000≤n∧n≤9000000000000),()):=by rw[DQ,eL];rfl
theorem qz(n:Int):mt n=some (if -9000000000000≤n∧n≤9000000000000 then(n,true,()) else(0,false,())):=by
 rw[Pe,eK,aa]
 by_cases h:-9000000000000≤n∧n≤9000000000000
 ·rw[ac h,bo (by simp),bn h]
 ·rw[ae h,bn (by simp),bo h]
theorem Ri(w r:List Int)(hw:AllD w)(hr:AllD r)(lw:w.length≤1000000)(lr:r.length≤1000000):qo w r=some (if dv 0 w*1000000+fr r 100000≤9000000000000 then(dv 0 w*1000000+fr r 100000,true,()) else(0,false,())):=by
 rw[OK,BS _ _ (by omega) (by omega),aa]
 have hb:=qd r hr
 have hz:=CP w
 have hT:AllD (w.dropWhile (fun x=>decide (x=48))):=fun x hx=>hw x ((List.dropWhile_sublist _).subset hx)
 have hTl:(w.dropWhile (fun x=>decide (x=48))).length≤w.length:=(List.dropWhile_sublist _).length_le
 have hT0:∀ c r,w.dropWhile (fun x=>decide (x=48))=c::r→c≠48:=fun c r h=>by
  have:=List.head?_dropWhile_not (fun x=>decide (x=48)) w
  rw[h]at this
  simpa using this
 generalize w.dropWhile (fun x=>decide (x=48))=T at *
 rw[bn (by simp only[aR,List.length_nil];omega),bn (by rw[ag];simp only[aR,List.length_nil];omega)]
 by_cases h7:(T.length:Int)>7
 ·have:=Mh hT hT0 (by omega)
  rw[ak h7,am]
 ·have e6:List.take (6-0) (List.drop 0 (r++[48,48,48,48,48,48]))=(r++List.replicate 6 48).take 6:=rfl
  have hR:AllD ((r++List.replicate 6 48).take 6):=fun x hx=>by
   rcases aA.1 (List.mem_of_mem_take hx)with h | h
   ·exact hr x h
   ·rw[(List.mem_replicate.1 h).2];omega
  have hRl:((r++List.replicate 6 48).take 6).length=6:=by rw[aP,ag,a7];omega
  have hRv:dv 0 ((r++List.replicate 6 48).take 6)=fr r 100000:=(xr r 6 6 (aG 6)).symm
  rw[e6,aj h7]
  generalize (r++List.replicate 6 48).take 6=R at *
  rw[bn (by simp only[aR,List.length_nil];omega),bn (by simp only[ag,aR,List.length_nil];omega)]
  have hall:AllD (([48]++T)++R):=fun x hx=>by
   rcases aA.1 hx with h | h
   ·rcases aA.1 h with h | h
    ·rw[aJ.1 h];omega
    ·exact hT x h
   ·exact hR x h
  rw[KN _ (by simp only[ag,aR,List.length_nil];omega) hall (by simp),aa]
  have ev:dv 0 (([48]++T)++R)=dv 0 w*1000000+fr r 100000:=by
   rw[xc,xc,kD,hRl,hRv,show dv 0 [48]=0 from rfl,hz];rfl
  have hn:=kC w 0 hw (Int.le_refl 0)
  rw[ev,qz,aa]
  by_cases hm:dv 0 w*1000000+fr r 100000≤9000000000000
  ·rw[bn hm,bn ⟨by omega,hm⟩]
  ·rw[bo hm,bo (fun x=>hm x.2)]
set_option linter.defProp false
def ba:=@Int.tdiv_eq_ediv_of_nonneg
def Bt(b:List Int):Prop:=∀ x∈b,0≤x∧x≤255
theorem yE(x:Int):mT x=some (isD x,()):=by
 rw[Ul]
 unfold isD
 by_cases h:x≥48
 ·rw[ak h,show decide (48≤x)=true from ac h,Bool.true_and]
 ·rw[aj h,show decide (48≤x)=false from ae h,Bool.false_and]
def fin(p:Int)(b:Bool)(n m:Int):Option (Int×Int×Unit):=if m=0 then some (0,0,())else if n>9000000000000 then some (0,0,())else some (if b=true then 0-n else n,p,())
theorem BN(p:Int)(b:Bool)(n m:Int)(h0:0≤n):fK p b n m=fin p b n m:=by
 rw[S6]
 unfold fin
 by_cases h1:m=0
 ·rw[ak h1,bn h1]
 ·rw[aj h1,bo h1]
  by_cases h2:n>9000000000000
  ·rw[ak h2,bn h2]
  ·rw[aj h2,bo h2,aq]
   cases b <;> rfl
theorem Kq(s:List Int)(hs:s.length≤1000000)(b:Bool):∀ (d i:Nat) (n m u:Int),i+d=s.length→0≤n→0≤u→u≤100000→n≤200000000000000+1000000*i→0≤m→m≤2000000+i →
  ∃ n',oP s (i:Int) b n m u=fK ((i+(cC (s.drop i)).length:Nat):Int) b n' (m+(cC (s.drop i)).length)∧n'=n+fr (cC (s.drop i)) u:=by
 intro d
 induction d with
 | zero =>
  intro i n m u hd h0 hu hu2 hn hm hm2
  rw[nE (show s.length≤i by omega)]
  refine⟨n,?_,by show n=n+0;omega⟩
  rw[Ht,ap]
  simp
 | succ d ih =>
  intro i n m u hd h0 hu hu2 hn hm hm2
  have hi:i<s.length:=by omega
  rw[Ht,an,al,ck hi,yE,aa]
  cases hx:isD s[i] with
  | true =>
   have hxb:=(oc _).1 hx
   have hmul:0≤(s[i]-48)*u∧(s[i]-48)*u≤900000:=by
    have h1:(s[i]-48)*u≤9*u:=Int.mul_le_mul_of_nonneg_right (by omega) hu
    exact⟨Int.mul_nonneg (by omega) hu,by omega⟩
   rw[bn rfl,al,ba hu,aq (n:=s[i]),aq (n:=s[i]-48),aq (n:=(s[i]-48)*u),aq (n:=n+(s[i]-48)*u),aq (n:=m+1),aq (n:=u/10),ci hi (by omega)]
   obtain⟨n',e1,e2⟩:=ih (i+1) (n+(s[i]-48)*u) (m+1) (u/10) (by omega) (by omega) (by omega) (by omega) (by omega) (by omega) (by omega)
   rw[sI hi hx,aR]
   refine⟨n',?_,?_⟩
   ·rw[e1]
    congr 1
    ·omega
    ·omega
   ·rw[e2]
    show _=n+((s[i]-48)*u+fr _ (u/10))
    omega
  | false =>
   rw[bo (by simp),pW hi hx]
   exact⟨n,by simp,by show n=n+0;omega⟩
def dq(s:List Int)(p:Nat):List Int:=if s[p]? = some 46 then cC (s.drop (p+1))else []
def gM(s:List Int)(p:Nat):Nat:=if dq s p=[]then p else p+1+(dq s p).length
theorem BM(s:List Int)(hs:s.length≤1000000)(b:Bool)(p:Nat)(hp:p≤s.length)(n m:Int)(h0:0≤n)(hn:n≤100000000000000)(hm:0≤m)(hm2:m≤1000000) :
  (if(decide ((w64 ((p:Int)+1))<(List.length s:Int)))=true then
   if(0:Int)≤(p:Int)∧(p:Int)<(List.length s:Int) then
    if(decide ((List.getD s (p:Int).toNat 0)=46))=true then
     if(0:Int)≤(w64 ((p:Int)+1))∧(w64 ((p:Int)+1))<(List.length s:Int) then
      (mT (List.getD s (w64 ((p:Int)+1)).toNat 0)).bind fun(r2:Bool×Unit) =>
      if r2.1=true then
       oP s (w64 ((p:Int)+1)) b n m 100000
      else
       fK (p:Int) b n m
     else none
    else
     fK (p:Int) b n m
   else none
  else
   fK (p:Int) b n m)=fin (gM s p) b (n+fr (dq s p) 100000) (m+(dq s p).length):=by
 have hw:w64 ((p:Int)+1)=((p+1:Nat):Int):=ci (n:=1000001) (by omega) (by omega)
 rw[hw]
 have none:dq s p=[]→fK (p:Int) b n m=fin (gM s p) b (n+fr (dq s p) 100000) (m+(dq s p).length):=by
  intro h
  unfold gM
  rw[h,bn rfl,BN _ _ _ _ h0]
  show fin p b n m=fin p b (n+0) (m+(0:Nat))
  congr 1
  ·omega
  ·omega
 by_cases h1:((p+1:Nat):Int)<(s.length:Int)
 ·have hp1:p<s.length:=by omega
  have hp2:p+1<s.length:=by omega
  rw[ak h1,al,ck hp1]
  by_cases h2:s[p]=46
  ·rw[ak h2,al,ck hp2,yE,aa]
   have hf:dq s p=cC (s.drop (p+1)):=by unfold dq;rw[List.getElem?_eq_getElem hp1,h2,bn rfl]
   cases hx:isD s[p+1] with
   | true =>
    rw[bn rfl]
    obtain⟨n',e1,e2⟩:=Kq s hs b (s.length-(p+1)) (p+1) n m 100000 (by omega) h0 (by omega) (by omega) (by omega) hm (by omega)
    have hb:=qd _ (ma (s.drop (p+1)))
    have hne:dq s p≠[]:=by
     rw[hf,sI hp2 hx]
     exact List.cons_ne_nil _ _
    rw[e1,e2,BN _ _ _ _ (by omega),hf]
    unfold gM
    rw[bo hne,hf]
   | false =>
    rw[bo (by simp)]
    refine none ?_
    rw[hf,pW hp2 hx]
  ·rw[aj h2]
   refine none ?_
   unfold dq
   rw[List.getElem?_eq_getElem hp1,bo (by simpa using h2)]
 ·rw[aj h1]
  refine none ?_
  unfold dq
  split
  ·exact nE (by omega)
  ·rfl
theorem Kp(s:List Int)(hs:s.length≤1000000)(hb:Bt s)(b:Bool):∀ (d i:Nat) (n m:Int),i+d=s.length→0≤n→n≤100000000000000→0≤m→m≤i →
  q8 s (i:Int) b n m=fin (gM s (i+(cC (s.drop i)).length)) b (sat n (cC (s.drop i))+fr (dq s (i+(cC (s.drop i)).length)) 100000) (m+(cC (s.drop i)).length+(dq s (i+(cC (s.drop i)).length)).length):=by
 intro d
 induction d with
 | zero =>
  intro i n m hd h0 hn hm hm2
  rw[Hs,ap,BM s hs b i (by omega) n m h0 hn hm (by omega),nE (show s.length≤i by omega)]
  simp[sat]
 | succ d ih =>
  intro i n m hd h0 hn hm hm2
  have hi:i<s.length:=by omega
  have hx0:=hb _ (aV hi)
  rw[Hs,an,al]
  have hg:List.getD s (i:Int).toNat 0=s[i]:=ck hi 0
  rw[hg,yE,aa]
  cases hx:isD s[i] with
  | true =>
   have hxb:=(oc _).1 hx
   have hdg:cC (s.drop i)=s[i]::cC (s.drop (i+1)):=sI hi hx
   rw[bn rfl,hdg]
   simp only[aR,sat]
   have el:i+((cC (s.drop (i+1))).length+1)=i+1+(cC (s.drop (i+1))).length:=by omega
   rw[el,ci hi (by omega),aq (n:=m+1)]
   by_cases hmx:n≤9000000000000
   ·rw[ak hmx,al,bn hmx,aq (n:=10*n),aq (n:=s[i]),aq (n:=s[i]-48),aq (n:=(s[i]-48)*1000000),aq (n:=10*n+(s[i]-48)*1000000),
     ih (i+1) _ (m+1) (by omega) (by omega) (by omega) (by omega) (by omega)]
    congr 1
    omega
   ·rw[aj hmx,bo hmx,ih (i+1) n (m+1) (by omega) h0 hn (by omega) (by omega)]
    congr 1
    omega
  | false =>
   have hdg:cC (s.drop i)=[]:=pW hi hx
   rw[bo (by simp),hdg]
   have he:=BM s hs b i (by omega) n m h0 hn hm (by omega)
   rw[hg]at he
   simp only[List.length_nil,Nat.add_zero,sat]
   rw[he]
   congr 1
   omega
theorem CJ(s:List Int)(hs:s.length≤1000000):∀ (d p j:Nat),p+j+d=s.length+1→tj s (p:Int) (j:Int)=some (((j+(cC (s.drop (p+j))).length:Nat):Int),()):=by
 intro d
 induction d with
 | zero =>
  intro p j hd
  rw[Em,aq,ap,nE (by omega)]
  simp
 | succ d ih =>
  intro p j hd
  rw[Em,aq (n:=(p:Int)+j)]
  by_cases hlt:(p:Int)+j<(s.length:Int)
  ·have hi:p+j<s.length:=by omega
   have hg:List.getD s ((p:Int)+j).toNat 0=s[p+j]:=by
    rw[show((p:Int)+j).toNat=p+j by omega];exact cF hi 0
   rw[ak hlt,al,hg,ci (n:=1000001) (by omega) (by omega)]
   by_cases h1:s[p+j]≥48
   ·rw[ak h1,al]
    by_cases h2:s[p+j]≤57
    ·have hx:isD s[p+j]=true:=(oc _).2 ⟨h1,h2⟩
     rw[ak h2,ih p (j+1) (by omega),sI hi hx,aR,show p+(j+1)=p+j+1 by omega]
     congr 3
     omega
    ·have hx:isD s[p+j]=false:=by
      cases h:isD s[p+j] with
      | false=>rfl
      | true=>exact absurd ((oc _).1 h).2 h2
     rw[aj h2,pW hi hx]
     simp
   ·have hx:isD s[p+j]=false:=by
     cases h:isD s[p+j] with
     | false=>rfl
     | true=>exact absurd ((oc _).1 h).1 h1
    rw[aj h1,pW hi hx]
    simp
  ·rw[aj hlt,nE (by omega)]
   simp
theorem DX(p:Int)(b:Bool)(w r:List Int)(hw:AllD w)(hr:AllD r)(lw:w.length≤1000000)(lr:r.length≤1000000):mj p b w r=fin p b (dv 0 w*1000000+fr r 100000) ((w.length:Int)+r.length):=by
 have hb:=qd r hr
 have hn:=kC w 0 hw (Int.le_refl 0)
 have tail:0<w.length+r.length→((qo w r).bind fun(r1:Int×Bool×Unit)=>if(!r1.2.1)=true then some ((0:Int),(0:Int),())else if b=true then some ((w64 (0-r1.1)),p,())else some (r1.1,p,()))=fin p b (dv 0 w*1000000+fr r 100000) ((w.length:Int)+r.length):=by
  intro hl
  rw[Ri w r hw hr lw lr,aa]
  unfold fin
  rw[bo (show ¬ (w.length:Int)+r.length=0 by omega)]
  by_cases h:dv 0 w*1000000+fr r 100000≤9000000000000
  ·rw[bn h]
   dsimp only
   rw[bo (show ¬ (!true)=true by decide),bo (show ¬ dv 0 w*1000000+fr r 100000>9000000000000 by omega),aq]
   cases b <;> rfl
  ·rw[bo h]
   dsimp only
   rw[bn (show(!false)=true by decide),al]
 rw[NL]
 by_cases h1:w=[]
 ·rw[ak h1]
  by_cases h2:r=[]
  ·rw[ak h2,h1,h2];rfl
  ·rw[aj h2]
   exact tail (by have:=List.length_pos_iff.2 h2;omega)
 ·rw[aj h1]
  exact tail (by have:=List.length_pos_iff.2 h1;omega)
theorem DW(s:List Int)(hs:s.length≤1000000)(b:Bool)(i:Nat)(hi:i≤s.length) :
  iu s (i:Int) b=fin (gM s (i+(cC (s.drop i)).length)) b (dv 0 (cC (s.drop i))*1000000+fr (dq s (i+(cC (s.drop i)).length)) 100000) ((cC (s.drop i)).length+(dq s (i+(cC (s.drop i)).length)).length):=by
 have hdl:=sJ (s.drop i)
 rw[aQ]at hdl
 have hD:=ma (s.drop i)
 rw[NK,En,show(0:Int)=((0:Nat):Int)from rfl,CJ s hs (s.length+1-i) i 0 (by omega),aa,Nat.zero_add,Nat.add_zero]
 dsimp only
 rw[aq]
 have hcut:List.take (((i:Int)+((cC (s.drop i)).length:Nat)).toNat-(i:Int).toNat) (List.drop (i:Int).toNat s)=cC (s.drop i):=by
  rw[show((i:Int)+((cC (s.drop i)).length:Nat)).toNat-(i:Int).toNat=(cC (s.drop i)).length by omega,af]
  exact CK _
 rw[hcut]
 generalize hDD:cC (s.drop i)=D at *
 have hz:(((0:Nat)):Int)=0:=rfl
 rw[hz,al]
 have hp:(i:Int)+(D.length:Nat)=((i+D.length:Nat):Int):=by omega
 rw[hp]
 generalize hP:i+D.length=P at *
 have none:dq s P=[]→mj (P:Int) b D []=fin (gM s P) b (dv 0 D*1000000+fr (dq s P) 100000) (D.length+(dq s P).length):=by
  intro h
  rw[DX _ _ _ _ hD (fun x hx=>by cases hx) (by omega) (by simp)]
  unfold gM
  rw[h,bn rfl]
 by_cases h1:(P:Int)<(s.length:Int)
 ·have hP1:P<s.length:=by omega
  rw[ak h1,al,ck hP1]
  by_cases h2:s[P]=46
  ·have hw:w64 ((P:Int)+1)=((P+1:Nat):Int):=ci hP1 (by omega)
   have hf:dq s P=cC (s.drop (P+1)):=by unfold dq;rw[List.getElem?_eq_getElem hP1,h2,bn rfl]
   have hfl:=sJ (s.drop (P+1))
   rw[aQ]at hfl
   have hF:=ma (s.drop (P+1))
   rw[ak h2,hw,En,show(0:Int)=((0:Nat):Int)from rfl,CJ s hs (s.length-P) (P+1) 0 (by omega),aa,Nat.zero_add,Nat.add_zero]
   dsimp only
   rw[hz,bW (n:=1+(((cC (s.drop (P+1))).length:Nat):Int)) (by omega) (by omega),bW (n:=((P+1:Nat):Int)+(((cC (s.drop (P+1))).length:Nat):Int)) (by omega) (by omega),bW (n:=(P:Int)+(1+(((cC (s.drop (P+1))).length:Nat):Int))) (by omega) (by omega)]
   have hcut2:List.take ((((P+1:Nat):Int)+((cC (s.drop (P+1))).length:Nat)).toNat-((P+1:Nat):Int).toNat) (List.drop ((P+1:Nat):Int).toNat s)=cC (s.drop (P+1)):=by
    rw[show(((P+1:Nat):Int)+((cC (s.drop (P+1))).length:Nat)).toNat-((P+1:Nat):Int).toNat=(cC (s.drop (P+1))).length by omega,af]
    exact CK _
   rw[hcut2]
   generalize hFF:cC (s.drop (P+1))=F at *
   by_cases h3:(F.length:Int)>0
   ·rw[ak h3,al,DX _ _ _ _ hD hF (by omega) (by omega)]
    unfold gM
    rw[hf,bo (fun h=>by rw[h]at h3;simp at h3)]
    congr 1
    omega
   ·rw[aj h3]
    exact none (by rw[hf];exact List.eq_nil_of_length_eq_zero (by omega))
  ·rw[aj h2]
   refine none ?_
   unfold dq
   rw[List.getElem?_eq_getElem hP1,bo (by simpa using h2)]
 ·rw[aj h1]
  refine none ?_
  unfold dq
  split
  ·exact nE (by omega)
  ·rfl
theorem uH(s:List Int)(hs:s.length≤1000000)(hb:Bt s)(b:Bool)(i:Nat)(hi:i≤s.length):eP s (i:Int) b=iu s (i:Int) b:=by
 rw[S5,Kp s hs hb b (s.length-i) i 0 0 (by omega) (by omega) (by omega) (by omega) (by omega),DW s hs b i hi]
 have hD:=ma (s.drop i)
 have hF:AllD (dq s (i+(cC (s.drop i)).length)):=by
  unfold dq
  split
  ·exact ma _
  ·intro x hx;cases hx
 generalize cC (s.drop i)=D at *
 generalize dq s (i+D.length)=F at *
 have hfb:=qd F hF
 have hsat:=Iw D 0 hD (Int.le_refl 0)
 rw[Int.zero_mul]at hsat
 rcases hsat with h | ⟨h1,h2⟩
 ·rw[h,Int.zero_add]
 ·unfold fin
  rw[Int.zero_add]
  by_cases hm:((D.length:Nat):Int)+(F.length:Nat)=0
  ·rw[bn hm,bn hm]
  ·rw[bo hm,bo hm,al,al]
theorem MF{p:Int}{b:Bool}{n m:Int}(h0:0≤n):∃ v e,fin p b n m=some (v,e,())∧(e=0∨e=p)∧(-9000000000000≤v∧v≤9000000000000):=by
 unfold fin
 split
 ·exact⟨0,0,rfl,.inl rfl,by omega,by omega⟩
 ·split
  ·exact⟨0,0,rfl,.inl rfl,by omega,by omega⟩
  ·refine⟨_,p,rfl,.inr rfl,?_⟩
   split <;> omega
theorem Mj(s:List Int)(p:Nat)(hp:p≤s.length):gM s p≤s.length:=by
 unfold gM
 split
 ·exact hp
 ·rename_i h
  unfold dq at h ⊢
  by_cases h46:s[p]? = some 46
  ·rw[bn h46]at h ⊢
   have:=sJ (s.drop (p+1))
   rw[aQ]at this
   have hlt:p<s.length:=by
    by_cases h':p<s.length
    ·exact h'
    ·rw[List.getElem?_eq_none (by omega)]at h46;cases h46
   omega
  ·rw[bo h46]at h;exact absurd rfl h
theorem xD(s:List Int)(hs:s.length≤1000000)(b:Bool)(i:Nat)(hi:i≤s.length):∃ v e,iu s (i:Int) b=some (v,e,())∧(0≤e∧e≤(s.length:Int))∧(-9000000000000≤v∧v≤9000000000000):=by
 have hdl:=sJ (s.drop i)
 rw[aQ]at hdl
 have hF:AllD (dq s (i+(cC (s.drop i)).length)):=by
  unfold dq
  split
  ·exact ma _
  ·intro x hx;cases hx
 rw[DW s hs b i hi]
 have h1:=kC _ 0 (ma (s.drop i)) (Int.le_refl 0)
 have h2:=qd _ hF
 have h3:=Mj s (i+(cC (s.drop i)).length) (by omega)
 obtain⟨v,e,k1,k2,k3⟩:=MF (p:=(gM s (i+(cC (s.drop i)).length):Nat)) (b:=b) (n:=dv 0 (cC (s.drop i))*1000000+fr (dq s (i+(cC (s.drop i)).length)) 100000) (m:=((cC (s.drop i)).length+(dq s (i+(cC (s.drop i)).length)).length)) (by omega)
 exact⟨v,e,k1,by rcases k2 with rfl | rfl <;> omega,k3⟩
def dM(l:List Int):Nat:=(l.takeWhile (fun x=>decide (x=32))).length
noncomputable def front(s:List Int)(p:Nat):Option (Int×Int×Unit) :=
 if s[p]? = some 45 then iu s ((p+1:Nat):Int) true else if s[p]? = some 43 then iu s ((p+1:Nat):Int) false else iu s (p:Int) false
theorem TL(s:List Int)(hs:s.length≤1000000)(hb:Bt s):∀ (d i:Nat),i+d=s.length→uA s (i:Int)=front s (i+dM (s.drop i)):=by
 intro d
 induction d with
 | zero =>
  intro i hd
  rw[Hr,ap,ap,ap,uH s hs hb false i (by omega),aW (by omega)]
  rw[show i+dM []=i from rfl]
  unfold front
  rw[List.getElem?_eq_none (by omega),bo (by simp),bo (by simp)]
 | succ d ih =>
  intro i hd
  have hi:i<s.length:=by omega
  have c1:(i:Int)<(s.length:Int):=by omega
  have c2:(0:Int)≤(i:Int)∧(i:Int)<(s.length:Int):=by omega
  have hg:List.getD s (i:Int).toNat 0=s[i]:=ck hi 0
  have hdr:=ai hi
  rw[Hr,ak c1,bn c2,hg,ci hi (by omega)]
  by_cases h:s[i]=32
  ·rw[ak h,ih (i+1) (by omega),hdr]
   unfold dM
   rw[List.takeWhile_cons_of_pos (by simp[h]),aR,show i+1+(List.takeWhile (fun x=>decide (x=32)) (List.drop (i+1) s)).length=i+((List.takeWhile (fun x=>decide (x=32)) (List.drop (i+1) s)).length+1) by omega]
  ·have hl:dM (s.drop i)=0:=by
    unfold dM
    rw[hdr,List.takeWhile_cons_of_neg (by simpa using h)];rfl
   rw[aj h,ak c1,bn c2,ak c1,bn c2,hl,show i+0=i from rfl]
   unfold front
   rw[List.getElem?_eq_getElem hi]
   by_cases h1:s[i]=45
   ·rw[ak h1,bn (by rw[h1]),ac h1]
    exact uH s hs hb true (i+1) (by omega)
   ·rw[aj h1,bn c2,bo (show ¬ some s[i]=some 45 by simpa using h1),ae h1]
    by_cases h2:s[i]=43
    ·rw[ak h2,bn (by rw[h2])]
     exact uH s hs hb false (i+1) (by omega)
    ·rw[aj h2,bo (by simpa using h2)]
     exact uH s hs hb false i (by omega)
theorem QU(s:List Int):(s.length:Int)-(s.dropWhile (fun x=>decide (x=32))).length=dM s:=by
 have h:=congrArg List.length (List.takeWhile_append_dropWhile (p:=fun x=>decide (x=(32:Int))) (l:=s))
 rw[ag]at h
 unfold dM
 omega
theorem FR(s:List Int):dM s≤s.length:=(List.takeWhile_sublist _).length_le
theorem OB(s:List Int)(hs:s.length≤1000000):qg s=front s (dM s):=by
 have hL:=QU s
 have hle:=FR s
 rw[NM,BS _ _ (by omega) (by omega),aa]
 dsimp only
 rw[hL,aq (n:=(dM s:Int))]
 unfold front
 by_cases c1:(dM s:Int)<(s.length:Int)
 ·have hi:dM s<s.length:=by omega
  have c2:(0:Int)≤(dM s:Int)∧(dM s:Int)<(s.length:Int):=by omega
  have hg:List.getD s (dM s:Int).toNat 0=s[dM s]:=ck hi 0
  rw[ak c1,bn c2,hg,ci hi (by omega),List.getElem?_eq_getElem hi]
  by_cases h2:s[dM s]=43
  ·rw[ak h2,bn c2,bo (by rw[h2];simp),bn (by rw[h2]),ae (by rw[h2];decide)]
  ·rw[aj h2,bn c2]
   by_cases h1:s[dM s]=45
   ·rw[ak h1,bn c2,bn (by rw[h1]),ac h1]
   ·rw[aj h1,bo (by simpa using h1),bo (by simpa using h2)]
 ·rw[aj c1,List.getElem?_eq_none (by omega),bo (by simp),bo (by simp)]
theorem wX(s:List Int)(hs:s.length≤1000000)(hb:Bt s):∃ v e,qZ s=some (v,e,())∧qg s=some (v,e,())∧(0≤e∧e≤(s.length:Int))∧(-9000000000000≤v∧v≤9000000000000):=by
 have h1:qZ s=front s (dM s):=by
  have:=TL s hs hb s.length 0 (by omega)
  rw[show(((0:Nat)):Int)=0 from rfl,aM,Nat.zero_add]at this
  rw[S7,this]
 rw[h1,OB s hs]
 have hle:=FR s
 have hlt:∀ c:Int,s[dM s]? = some c→dM s+1≤s.length:=fun c h=>by
  by_cases h':dM s<s.length
  ·exact h'
  ·rw[List.getElem?_eq_none (by omega)]at h;cases h
 unfold front
 split
 ·rename_i h
  obtain⟨v,e,k1,k2,k3⟩:=xD s hs true (dM s+1) (hlt _ h)
  exact⟨v,e,k1,k1,k2,k3⟩
 ·split
  ·rename_i h
   obtain⟨v,e,k1,k2,k3⟩:=xD s hs false (dM s+1) (hlt _ h)
   exact⟨v,e,k1,k1,k2,k3⟩
  ·obtain⟨v,e,k1,k2,k3⟩:=xD s hs false (dM s) hle
   exact⟨v,e,k1,k1,k2,k3⟩
theorem Q5(s:List Int)(hs:s.length≤1000000)(v:Int):∀ (d i:Nat),i+d=s.length→uB s v (i:Int)=some (if ∀ x∈s.drop i,x=32 then(v,true,()) else(0,false,())):=by
 intro d
 induction d with
 | zero =>
  intro i hd
  rw[Hu,ap,aW (by omega),bn (by simp)]
 | succ d ih =>
  intro i hd
  have hi:i<s.length:=by omega
  rw[Hu,an,al,ck hi,ci hi (by omega),ih (i+1) (by omega),ai hi]
  by_cases h:s[i]=32
  ·rw[bo (by simp[h])]
   simp[h]
  ·rw[bn (by simp[h]),bo (fun hh=>h (hh _ (aD ..)))]
theorem wY(s:List Int)(hs:s.length≤1000000)(hb:Bt s):∃ v ok,oQ s=some (v,ok,())∧qh s=some (v,ok,())∧(-9000000000000≤v∧v≤9000000000000):=by
 obtain⟨v,e,k1,k2,k3,k4⟩:=wX s hs hb
 rw[S9,NO,k1,k2]
 simp only[aa]
 by_cases h:e=0
 ·rw[ak h,ak h];exact⟨0,false,rfl,rfl,by omega,by omega⟩
 ·obtain⟨n,rfl⟩:=Int.eq_ofNat_of_zero_le k3.1
  rw[aj h,aj h,bn k3,Q5 s hs v (s.length-n) n (by omega)]
  have hcut:List.take (s.length-(n:Int).toNat) (List.drop (n:Int).toNat s)=s.drop n:=by
   rw[af,a8 (by rw[aQ];omega)]
  rw[hcut]
  obtain⟨r,r1,r2⟩:=Kx (s.drop n) (by rw[aQ];omega)
  rw[r1,aa]
  by_cases hr:r=[]
  ·rw[bn (r2.1 hr),bo (by simp[hr])];exact⟨v,true,rfl,rfl,k4⟩
  ·rw[bo (fun hh=>hr (r2.2 hh)),bn (by simp[hr])];exact⟨0,false,rfl,rfl,by omega,by omega⟩
theorem wW(s:List Int)(hs:s.length≤9223372036854775807):kN s=some (s.take 300,()):=by
 rw[Ox]
 have hm:mnI (s.length:Int) 300=min (s.length:Int) 300:=by unfold mnI;split <;> omega
 rw[hm,al,aM,Nat.sub_zero]
 by_cases h:s.length≤300
 ·rw[a8 (by omega),a8 h]
 ·rw[show(min (s.length:Int) 300).toNat=300 by omega]
theorem Sj(s:List Int)(hs:s.length≤9223372036854775807)(hb:Bt s):∃ v,mP s=some (v,())∧mm s=some (v,()):=by
 have hbt:Bt (s.take 300):=fun x hx=>hb x (List.mem_of_mem_take hx)
 obtain⟨v,ok,k1,k2,_⟩:=wY (s.take 300) (by rw[aP];omega) hbt
 have e1:mP s=uF (s.take 300) bV:=by
  rw[Tw]
  by_cases h:(s.length:Int)>300
  ·rw[ak h,al];rfl
  ·rw[aj h,a8 (by omega)]
 rw[e1,Tu,D9,wW s hs,k1,aa,aa]
 dsimp only
 rw[k2,aa]
 dsimp only
 cases ok with
 | true=>exact⟨_,rfl,rfl⟩
 | false=>rw[kW];exact⟨_,rfl,rfl⟩
noncomputable def jc(s:List Int):Int×Bool:=match oQ s with
 | some (v,ok,_)=>(v,ok)
 | none=>(0,false)
theorem Gd(s:List Int)(hs:s.length≤1000000)(hb:Bt s):oQ s=some ((jc s).1,(jc s).2,())∧qh s=some ((jc s).1,(jc s).2,()):=by
 obtain⟨v,ok,e1,e2,_⟩:=wY s hs hb
 have:jc s=(v,ok):=by unfold jc;rw[e1]
 rw[this];exact⟨e1,e2⟩
noncomputable def dQ(v:bG):Bool:=(decide (-9000000000000≤v.N∧v.N≤9000000000000) && !decide ((v.S.length:Int)>300)) &&
 (if v.Kind=0 then decide (v.N=0)&&decide (v.S=[])else if v.Kind=1 then decide (v.S=[])else if v.Kind=2 then decide (v.N=0)else if v.Kind=3 then(jc v.S).2&&decide ((jc v.S).1=v.N)else false)
theorem Eg(v:bG)(hb:Bt v.S):td v=some (dQ v,()):=by
 rw[Og,DR,aa]
 dsimp only
 unfold dQ
 cases decide (-9000000000000≤v.N∧v.N≤9000000000000) with
 | false=>rfl
 | true =>
  by_cases h:(v.S.length:Int)>300
  ·rw[ac h];rfl
  ·rw[ae h,(Gd v.S (by omega) hb).2,aa]
   dsimp only
   simp only[qI]
   by_cases c0:v.Kind=0
   ·simp[c0]
   by_cases c1:v.Kind=1
   ·simp[c1]
   by_cases c2:v.Kind=2
   ·simp[c2]
   by_cases c3:v.Kind=3
   ·simp[c3]
   simp[c0,c1,c2,c3]
theorem HN(v:bG)(hb:Bt v.S):uG v=some (dQ v,()):=by
 rw[TF,Hw,dN,aa,aa]
 dsimp only
 unfold dQ
 by_cases hk:0≤v.Kind∧v.Kind≤3
 ·rw[ac hk]
  cases decide (-9000000000000≤v.N∧v.N≤9000000000000) with
  | false=>rfl
  | true =>
   by_cases h:(v.S.length:Int)>300
   ·rw[ac h];rfl
   ·rw[ae h,(Gd v.S (by omega) hb).1,aa]
    dsimp only
    simp only[qI]
    by_cases c0:v.Kind=0
    ·simp[c0]
    by_cases c1:v.Kind=1
    ·simp[c1]
    by_cases c2:v.Kind=2
    ·simp[c2]
    have c3:v.Kind=3:=by omega
    simp[c3]
 ·rw[ae hk,bn (c:=(!false)=true) rfl,bo (c:=v.Kind=0) (by omega),bo (c:=v.Kind=1) (by omega),bo (c:=v.Kind=2) (by omega),bo (c:=v.Kind=3) (by omega),Bool.and_false]
def dl(a b:bq):Bool:=decide (a.Name<b.Name)||(decide (a.Name=b.Name)&&ltS a.Key b.Key)
theorem HR(a:bq)(n:Int)(k:List Int):uI a n k=some (decide (a.Name<n)||(decide (a.Name=n)&&ltS a.Key k),()):=by
 rw[TP]
 cases decide (a.Name<n) <;> cases decide (a.Name=n) <;> rfl
theorem I3(a b:List Int):lM a b=some (du a b,()):=by
 rw[J6,Ju,Jz];rfl
theorem LE(a b:List Int):decide (du a b≥0) = !ltS a b:=by
 unfold du
 cases ltS a b with
 | true=>rfl
 | false=>cases ltS b a <;> rfl
theorem Or(a b:bq):∃ k,qn a b=some (k,())∧decide (k≥0) = !dl a b:=by
 rw[El,I3,aa]
 unfold dl
 by_cases h:a.Name<b.Name
 ·rw[ak h,ac h];exact⟨_,rfl,rfl⟩
 ·rw[aj h,ae h]
  by_cases g:a.Name>b.Name
  ·rw[ak g,ae (by omega)];exact⟨_,rfl,rfl⟩
  ·rw[aj g,ac (by omega)]
   refine⟨_,rfl,?_⟩
   rw[LE];rfl
noncomputable def iU(l:List bq)(c:Int)(i:Nat):Bool :=
 decide ((l.getD i cj).Name<0)||(decide ((l.getD i cj).Name≥c)||(decide (((l.getD i cj).Key.length:Int)>300)||(!dQ (l.getD i cj).Val||(decide ((i:Int)>0) && !dl (l.getD (i-1) cj) (l.getD i cj)))))
noncomputable def eS(s:bF)(v c:Int):Bool :=
 decide ((s.Vars.length:Int)=v)&&(!s.Vars.any (fun x=>!dQ x)&&(decide ((s.Cells.length:Int)≤40)&&(decide (0≤s.Nr∧s.Nr≤1000000)&&(decide (0≤s.Err∧s.Err≤7) && !dW (iU s.Cells c) s.Cells.length))))
def fg(s:bF):Prop:=(s.Vars.length≤2097152∧∀ v∈s.Vars,Bt v.S)∧s.Cells.length≤2097152∧∀ c∈s.Cells,Bt c.Val.S
theorem KH(l:List bG)(hl:l.length≤4294967296)(hb:∀ v∈l,Bt v.S):Bn l=some (l.any (fun x=>!dQ x),()):=by
 rw[V6,Wh]
 obtain⟨k,e,e1,_⟩:=iz (fun i=>pn l (l.length:Int) i) () l.length (fun i=>!dQ (l.getD i bV)) (fun i hi=>by
  show pn l _ i=_
  rw[JT,an,al,ci hi (by omega),af,Ob,Eg _ (by rw[cF hi];exact hb _ (aV hi)),aa,aa]) (by
  show pn l _ _=_
  rw[JT,bo (by simp)])
 rw[e,aa]
 dsimp only
 rw[e1,eY l bV (fun x=>!dQ x)]
theorem Ot(s:bF)(c:Int)(hl:s.Cells.length≤4294967296)(hb:∀ x∈s.Cells,Bt x.Val.S):kL c s.Cells (s.Cells.length:Int) 0 s=some (!dW (iU s.Cells c) s.Cells.length,()):=by
 have:=gh (fun i=>kL c s.Cells (s.Cells.length:Int) i s) s.Cells.length (iU s.Cells c) (some (false,())) (some (true,())) (fun i hi=>by
  show kL c s.Cells _ i s=_
  obtain⟨k,e,e1⟩:=Or (s.Cells.getD (i-1) cj) (s.Cells.getD i cj)
  rw[Ed,an,al,ci hi (by omega),af,Eg _ (by rw[cF hi];exact hb _ (aV hi)),aa]
  dsimp only
  unfold iU
  by_cases h0:(i:Int)>0
  ·have w1:w64 ((i:Int)-1)=((i-1:Nat):Int):=by rw[aq];omega
   rw[ac h0,w1,af,bn (c:=(true=true)) rfl,bn (c:=0≤((i-1:Nat):Int)∧((i-1:Nat):Int)<(s.Cells.length:Int)) (by omega),e,aa]
   dsimp only
   rw[e1]
   cases decide ((s.Cells.getD i cj).Name<0) <;> cases decide ((s.Cells.getD i cj).Name≥c) <;> cases decide (((s.Cells.getD i cj).Key.length:Int)>300) <;> cases dQ (s.Cells.getD i cj).Val <;> rfl
  ·rw[ae h0,bo (c:=(false=true)) (by simp)]
   cases decide ((s.Cells.getD i cj).Name<0) <;> cases decide ((s.Cells.getD i cj).Name≥c) <;> cases decide (((s.Cells.getD i cj).Key.length:Int)>300) <;> cases dQ (s.Cells.getD i cj).Val <;> rfl) (by
  show kL c s.Cells _ _ s=_
  rw[Ed,bo (by simp)])
 rw[this]
 cases dW (iU s.Cells c) s.Cells.length <;> rfl
theorem xL(s:bF)(v c:Int)(h:fg s):tc s v c=some (eS s v c,()):=by
 rw[Oc,KH s.Vars (by have:=h.1.1;omega) h.1.2,eL,eL,Ot s c (by have:=h.2.1;omega) h.2.2]
 simp only[aa]
 have e:decide ((s.Cells.length:Int)>40) = !decide ((s.Cells.length:Int)≤40):=by
  by_cases g:(s.Cells.length:Int)≤40
  ·rw[ac g,ae (by omega)];rfl
  ·rw[ae g,ac (by omega)];rfl
 unfold eS
 rw[e]
 cases decide ((s.Vars.length:Int)=v) <;> cases s.Vars.any (fun x=>!dQ x) <;> cases decide ((s.Cells.length:Int)≤40) <;> cases decide (0≤s.Nr∧s.Nr≤1000000) <;> cases decide (0≤s.Err∧s.Err≤7) <;> rfl
theorem TA(s:bF)(v c:Int)(h:fg s):Aq s v c=some (eS s v c,()):=by
 have h1:=h.1.1
 have h2:=h.2.1
 rw[Tz]
 have f2:=gh (fun i=>lA v c i s) s.Cells.length (iU s.Cells c) (some (false,())) (some (decide ((s.Vars.length:Int)=v)&&(decide ((s.Cells.length:Int)≤40)&&(decide (0≤s.Nr∧s.Nr≤1000000)&&decide (0≤s.Err∧s.Err≤7))),())) (fun i hi=>by
  show lA v c i s=_
  rw[HK,an,al,ci hi (by omega),af,HN _ (by rw[cF hi];exact h.2.2 _ (aV hi)),aa]
  dsimp only
  unfold iU
  by_cases h0:(i:Int)>0
  ·have w1:w64 ((i:Int)-1)=((i-1:Nat):Int):=by rw[aq];omega
   rw[ac h0,w1,af,bn (c:=(true=true)) rfl,bn (c:=0≤((i-1:Nat):Int)∧((i-1:Nat):Int)<(s.Cells.length:Int)) (by omega),HR,aa]
   dsimp only
   unfold dl
   cases decide ((s.Cells.getD i cj).Name<0) <;> cases decide ((s.Cells.getD i cj).Name≥c) <;> cases decide (((s.Cells.getD i cj).Key.length:Int)>300) <;> cases dQ (s.Cells.getD i cj).Val <;> rfl
  ·rw[ae h0,bo (c:=(false=true)) (by simp)]
   cases decide ((s.Cells.getD i cj).Name<0) <;> cases decide ((s.Cells.getD i cj).Name≥c) <;> cases decide (((s.Cells.getD i cj).Key.length:Int)>300) <;> cases dQ (s.Cells.getD i cj).Val <;> rfl) (by
  show lA v c _ s=_
  rw[HK,bo (by simp),dN,dN,aa,aa]
  dsimp only
  cases decide ((s.Vars.length:Int)=v) <;> cases decide ((s.Cells.length:Int)≤40) <;> cases decide (0≤s.Nr∧s.Nr≤1000000) <;> rfl)
 have f1:=gh (fun i=>oT v c i s) s.Vars.length (fun i=>!dQ (s.Vars.getD i bV)) (some (false,())) (lA v c 0 s) (fun i hi=>by
  show oT v c i s=_
  rw[HJ,an,al,ci hi (by omega),af,HN _ (by rw[cF hi];exact h.1.2 _ (aV hi)),aa]) (by
  show oT v c _ s=_
  rw[HJ,bo (by simp)])
 rw[f1,f2,eY s.Vars bV (fun x=>!dQ x)]
 unfold eS
 cases decide ((s.Vars.length:Int)=v) <;> cases s.Vars.any (fun x=>!dQ x) <;> cases decide ((s.Cells.length:Int)≤40) <;> cases decide (0≤s.Nr∧s.Nr≤1000000) <;> cases decide (0≤s.Err∧s.Err≤7) <;> cases dW (iU s.Cells c) s.Cells.length <;> rfl
def lP(l:List bB):Prop:=l.length≤2097152∧∀ o∈l,(∀ b∈o.S,0≤b∧b≤255)∧o.S.length≤2097152
def hU(p:bD):Prop:=(p.Vars.length≤2097152∧∀ s∈p.Vars,s.length≤2097152)∧(p.Cells.length≤2097152∧∀ s∈p.Cells,s.length≤2097152)∧lP p.Start∧lP p.Main
noncomputable def gv(l:List bB)(v c:Int):Bool :=
 decide (1≤(l.length:Int)∧(l.length:Int)≤1500)&&(decide ((l.getD (l.length-1) cH).Code=36) && !l.any (fun o=>!opB o l.length v c))
theorem HG(l:List bB)(v c:Int)(h:lP l):uE l v c=some (gv l v c,()):=by
 have h1:=h.1
 rw[Tr,dN,aa]
 dsimp only
 unfold gv
 by_cases g:1≤(l.length:Int)∧(l.length:Int)≤1500
 ·have w1:w64 ((l.length:Int)-1)=((l.length-1:Nat):Int):=by rw[aq];omega
  have f:=gh (fun i=>oS l v c (l.length:Int) i) l.length (fun i=>!opB (l.getD i cH) l.length v c) (some (false,())) (some (true,())) (fun i hi=>by
   show oS l v c _ i=_
   rw[HF,an,al,ci hi (by omega),af,T7 _ _ _ _ (by rw[cF hi];exact(h.2 _ (aV hi)).1) (by rw[cF hi];have:=(h.2 _ (aV hi)).2;omega),aa]) (by
   show oS l v c _ _=_
   rw[HF,bo (by simp)])
  rw[ac g,bo (by simp),w1,al,af,f,eY l cH (fun o=>!opB o l.length v c)]
  cases decide ((l.getD (l.length-1) cH).Code=36) <;> cases l.any (fun o=>!opB o l.length v c) <;> rfl
 ·rw[ae g];rfl
theorem KG(l:List bB)(v c:Int)(h:lP l):Bm l l v c=some (l.any (fun o=>!opB o l.length v c),l,v,c,()):=by
 have h1:=h.1
 rw[V4,Wf]
 obtain⟨k,e,e1,_⟩:=iz (fun i=>pl l (l.length:Int) i l v c) (l,v,c,()) l.length (fun i=>!opB (l.getD i cH) l.length v c) (fun i hi=>by
  show pl l _ i l v c=_
  rw[JP,an,al,ci hi (by omega),af,N6,OV _ _ _ _ (by rw[cF hi];exact(h.2 _ (aV hi)).1) (by rw[cF hi];have:=(h.2 _ (aV hi)).2;omega),aa,aa]) (by
  show pl l _ _ l v c=_
  rw[JP,bo (by simp)])
 rw[e,aa]
 dsimp only
 rw[e1,eY l cH (fun o=>!opB o l.length v c)]
theorem D7(l:List bB)(v c:Int)(h:lP l):s9 l v c=some (gv l v c,()):=by
 have h1:=h.1
 rw[N7,eL,aa]
 dsimp only
 unfold gv
 by_cases g:1≤(l.length:Int)∧(l.length:Int)≤1500
 ·have w1:w64 ((l.length:Int)-1)=((l.length-1:Nat):Int):=by rw[aq];omega
  rw[ac g,bo (by simp),w1,al,af,KG l v c h,aa]
  cases decide ((l.getD (l.length-1) cH).Code=36) <;> rfl
 ·rw[ae g];rfl
def iB(l:List (List Int))(i:Nat):Bool:=!iA (l.getD i [])||(decide ((i:Int)>0) && !ltS (l.getD (i-1) []) (l.getD i []))
def la(l:List (List Int)):Bool:=!dW (iB l) l.length&&decide ((l.length:Int)≤8)
theorem Et(l:List (List Int))(hl:l.length≤2097152)(hs:∀ s∈l,s.length≤2097152):tn l=some (la l,()):=by
 rw[OL]
 have f:=gh (fun i=>mp l l (l.length:Int) i) l.length (iB l) (some (false,())) (some (decide ((l.length:Int)≤8),())) (fun i hi=>by
  show mp l l _ i=_
  rw[Es,an,al,ci hi (by omega),af,OE _ (by rw[cF hi];have:=hs _ (aV hi);omega),aa]
  dsimp only
  unfold iB
  by_cases h0:(i:Int)>0
  ·have w1:w64 ((i:Int)-1)=((i-1:Nat):Int):=by rw[aq];omega
   rw[ac h0,w1,af,bn (c:=(true=true)) rfl,bn (c:=0≤((i-1:Nat):Int)∧((i-1:Nat):Int)<(l.length:Int)) (by omega)]
   cases iA (l.getD i []) <;> rfl
  ·rw[ae h0,bo (c:=(false=true)) (by simp)]
   cases iA (l.getD i []) <;> rfl) (by
  show mp l l _ _=_
  rw[Es,bo (by simp)])
 rw[f]
 unfold la
 cases dW (iB l) l.length <;> rfl
noncomputable def fd(p:bD):Bool :=
 la p.Vars&&(la p.Cells&&(!p.Vars.any (fun s=>decide (s∈p.Cells))&&(gv p.Start p.Vars.length p.Cells.length&&gv p.Main p.Vars.length p.Cells.length)))
theorem KF(p:bD)(h:hU p):Bp p.Vars p=some (p.Vars.any (fun s=>decide (s∈p.Cells)),p,()):=by
 have h1:=h.1.1
 have h2:=h.2.1.1
 rw[V8,Wk]
 obtain⟨k,e,e1,_⟩:=iz (fun i=>pp p.Vars (p.Vars.length:Int) i p) (p,()) p.Vars.length (fun i=>decide (p.Vars.getD i []∈p.Cells)) (fun i hi=>by
  show pp p.Vars _ i p=_
  rw[JZ,an,al,ci hi (by omega),af,N8,wS _ _ (by omega),aa,aa]) (by
  show pp p.Vars _ _ p=_
  rw[JZ,bo (by simp)])
 rw[e,aa]
 dsimp only
 rw[e1,eY p.Vars [] (fun s=>decide (s∈p.Cells))]
theorem xJ(p:bD)(h:hU p):ta p=some (fd p,()):=by
 rw[N9,Et _ h.1.1 h.1.2,Et _ h.2.1.1 h.2.1.2,KF p h]
 simp only[aa]
 rw[D7 _ _ _ h.2.2.1,D7 _ _ _ h.2.2.2]
 unfold fd
 cases la p.Vars <;> cases la p.Cells <;> cases p.Vars.any (fun s=>decide (s∈p.Cells)) <;> cases gv p.Start p.Vars.length p.Cells.length <;> rfl
theorem Tt(p:bD)(h:hU p):Ao p=some (fd p,()):=by
 have h1:=h.1.1
 have h2:=h.2.1.1
 rw[Ts]
 have f2:=gh (fun i=>lz i p) p.Cells.length (iB p.Cells) (some (false,())) (some (decide ((p.Vars.length:Int)≤8)&&(decide ((p.Cells.length:Int)≤8)&&(gv p.Start p.Vars.length p.Cells.length&&gv p.Main p.Vars.length p.Cells.length)),())) (fun i hi=>by
  show lz i p=_
  rw[HI,an,al,ci hi (by omega),af,Is _ (by rw[cF hi];have:=h.2.1.2 _ (aV hi);omega),aa]
  dsimp only
  unfold iB
  by_cases h0:(i:Int)>0
  ·have w1:w64 ((i:Int)-1)=((i-1:Nat):Int):=by rw[aq];omega
   rw[ac h0,w1,af,bn (c:=(true=true)) rfl,bn (c:=0≤((i-1:Nat):Int)∧((i-1:Nat):Int)<(p.Cells.length:Int)) (by omega),bn (c:=0≤(i:Int)∧(i:Int)<(p.Cells.length:Int)) (by omega)]
   cases iA (p.Cells.getD i []) <;> rfl
  ·rw[ae h0,bo (c:=(false=true)) (by simp)]
   cases iA (p.Cells.getD i []) <;> rfl) (by
  show lz _ p=_
  rw[HI,bo (by simp),HG _ _ _ h.2.2.1,HG _ _ _ h.2.2.2,aa,aa]
  cases decide ((p.Vars.length:Int)≤8) <;> cases decide ((p.Cells.length:Int)≤8) <;> cases gv p.Start p.Vars.length p.Cells.length <;> rfl)
 have f1:=gh (fun i=>mO i p) p.Vars.length (fun i=>iB p.Vars i||decide (p.Vars.getD i []∈p.Cells)) (some (false,())) (lz 0 p) (fun i hi=>by
  show mO i p=_
  rw[HH,an,al,ci hi (by omega),af,Is _ (by rw[cF hi];have:=h.1.2 _ (aV hi);omega),aa,vH _ _ (by omega),aa]
  dsimp only
  rw[bn (c:=0≤(i:Int)∧(i:Int)<(p.Vars.length:Int)) (by omega)]
  unfold iB
  by_cases h0:(i:Int)>0
  ·have w1:w64 ((i:Int)-1)=((i-1:Nat):Int):=by rw[aq];omega
   rw[ac h0,w1,af,bn (c:=(true=true)) rfl,bn (c:=0≤((i-1:Nat):Int)∧((i-1:Nat):Int)<(p.Vars.length:Int)) (by omega),bn (c:=0≤(i:Int)∧(i:Int)<(p.Vars.length:Int)) (by omega)]
   cases iA (p.Vars.getD i []) <;> cases decide (p.Vars.getD i []∈p.Cells) <;> cases ltS (p.Vars.getD (i-1) []) (p.Vars.getD i []) <;> rfl
  ·rw[ae h0,bo (c:=(false=true)) (by simp)]
   cases iA (p.Vars.getD i []) <;> cases decide (p.Vars.getD i []∈p.Cells) <;> rfl) (by
  show mO _ p=_
  rw[HH,bo (by simp)])
 rw[f1,f2,KD (iB p.Vars) (fun i=>decide (p.Vars.getD i []∈p.Cells)),eY p.Vars [] (fun s=>decide (s∈p.Cells))]
 unfold fd la
 cases dW (iB p.Vars) p.Vars.length <;> cases dW (iB p.Cells) p.Cells.length <;> cases p.Vars.any (fun s=>decide (s∈p.Cells)) <;> cases decide ((p.Vars.length:Int)≤8) <;> cases decide ((p.Cells.length:Int)≤8) <;> rfl
noncomputable def fH(p:bD)(m:bA):Bool :=
 fd p&&(eS m.State p.Vars.length p.Cells.length&&(decide ((m.Done.length:Int)=3)&&(!m.Done.any (fun n=>!decide (0≤n∧n≤100000))&&decide ((m.Out.length:Int)≤1500))))
theorem KE(l:List Int)(hl:l.length≤2097152):Bo l=some (l.any (fun n=>!decide (0≤n∧n≤100000)),()):=by
 rw[V7,Wi]
 obtain⟨k,e,e1,_⟩:=iz (fun i=>po l (l.length:Int) i) () l.length (fun i=>!decide (0≤l.getD i 0∧l.getD i 0≤100000)) (fun i hi=>by
  show po l _ i=_
  rw[JV,an,al,ci hi (by omega),af,NY,eL,aa,aa]) (by
  show po l _ _=_
  rw[JV,bo (by simp)])
 rw[e,aa]
 dsimp only
 rw[e1,eY l 0 (fun n=>!decide (0≤n∧n≤100000))]
theorem N0(p:bD)(m:bA)(hp:hU p)(hs:fg m.State)(hd:m.Done.length≤2097152):xE p m=some (fH p m,()):=by
 rw[NZ,xJ p hp,xL _ _ _ hs,KE _ hd]
 simp only[aa]
 unfold fH
 cases fd p <;> cases eS m.State p.Vars.length p.Cells.length <;> cases decide ((m.Done.length:Int)=3) <;> cases m.Done.any (fun n=>!decide (0≤n∧n≤100000)) <;> rfl
theorem Tl(p:bD)(m:bA)(hp:hU p)(hs:fg m.State)(hd:m.Done.length≤2097152):Aj p m=some (fH p m,()):=by
 rw[Tk]
 have f:=gh (fun i=>oR i p m) m.Done.length (fun i=>!decide (0≤m.Done.getD i 0∧m.Done.getD i 0≤100000)) (some (false,())) (some (fd p&&(eS m.State p.Vars.length p.Cells.length&&(decide ((m.Done.length:Int)=3)&&decide ((m.Out.length:Int)≤1500))),())) (fun i hi=>by
  show oR i p m=_
  rw[Hy,an,al,ci hi (by omega),af,dN,aa]) (by
  show oR _ p m=_
  rw[Hy,bo (by simp),Tt p hp,TA _ _ _ hs,aa,aa]
  cases fd p <;> cases eS m.State p.Vars.length p.Cells.length <;> cases decide ((m.Done.length:Int)=3) <;> rfl)
 rw[f,eY m.Done 0 (fun n=>!decide (0≤n∧n≤100000))]
 unfold fH
 cases fd p <;> cases eS m.State p.Vars.length p.Cells.length <;> cases decide ((m.Done.length:Int)=3) <;> cases m.Done.any (fun n=>!decide (0≤n∧n≤100000)) <;> rfl
def ei(n:Nat):List Int:=(Lib.decDigits n).map fun b=>(b.toNat:Int)
theorem sH{n:Nat}(h:n<10):ei n=[48+(n:Int)]:=by
 unfold ei
 rw[Lib.decDigits,dif_pos h]
 have:(UInt8.ofNat (48+n)).toNat=48+n:=by rw[UInt8.toNat_ofNat'];omega
 simp only[bc,List.map_nil,this]
 congr 1
theorem w6{n:Nat}(h:¬ n<10):ei n=ei (n/10)++[48+((n%10:Nat):Int)]:=by
 unfold ei
 rw[Lib.decDigits,dif_neg h]
 have:(UInt8.ofNat (48+n%10)).toNat=48+n%10:=by rw[UInt8.toNat_ofNat'];omega
 simp only[List.map_append,bc,List.map_nil,this]
 congr 2
theorem PR(n:Nat):jP (n:Int)=ei n:=by
 unfold jP Lib.itoa ei
 rw[am,af]
theorem AllD.app{l m:List Int}(h:AllD l)(g:AllD m):AllD (l++m):=fun x hx=>(aA.1 hx).elim (h x) (g x)
theorem CI(n:Nat):AllD (ei n)∧dv 0 (ei n)=n∧ei n≠[]∧(0<n→∃ c r,ei n=c::r∧49≤c):=by
 induction n using Nat.strongRecOn with
 | ind n ih =>
  by_cases h:n<10
  ·rw[sH h]
   refine⟨fun x hx=>?_,?_,by simp,fun h0=>⟨_,_,rfl,by omega⟩⟩
   ·rw[aJ.1 hx];omega
   ·simp only[dv,List.foldl_cons,List.foldl_nil];omega
  ·obtain⟨h1,h2,h3,h4⟩:=ih (n/10) (by omega)
   rw[w6 h]
   refine⟨h1.app fun x hx=>?_,?_,by simp,fun _=>?_⟩
   ·rw[aJ.1 hx];omega
   ·rw[xc,h2];simp only[dv,List.foldl_cons,List.foldl_nil];omega
   ·obtain⟨c,r,e,hc⟩:=h4 (by omega)
    rw[e]
    exact⟨c,r++_,rfl,hc⟩
theorem sG{n k:Nat}(h:n<10 ^ k)(hk:0<k):(ei n).length≤k:=by
 induction k generalizing n with
 | zero=>omega
 | succ k ih =>
  by_cases h9:n<10
  ·rw[sH h9];simp
  ·rw[w6 h9,ag,bj]
   have hk0:0<k:=by
    rcases Nat.eq_zero_or_pos k with h0 | h0
    ·subst h0;omega
    ·exact h0
   have:=ih (n:=n/10) (by rw[Nat.pow_succ]at h;omega) hk0
   omega
theorem w7{r:Nat}(h:r<1000000):∃ l,ei (1000000+r)=49::l∧l.length=6∧AllD l∧dv 0 l=r:=by
 obtain⟨h1,h2,h3,h4⟩:=CI (1000000+r)
 obtain⟨c,l,e,hc⟩:=h4 (by omega)
 have hlen:=sG (n:=1000000+r) (k:=7) (by omega) (by omega)
 rw[e]at h1 h2 hlen
 have hl:=xd l h1.tail
 have hn:=kC l 0 h1.tail (Int.le_refl 0)
 have hc9:=h1.head
 rw[iV,kD]at h2
 simp only[aR]at hlen
 have h6:l.length=6:=by
  by_cases h6:l.length=6
  ·exact h6
  ·exfalso
   have h5:(10:Int) ^ l.length≤10 ^ 5:=by
    have:(10:Nat) ^ l.length≤10 ^ 5:=Nat.pow_le_pow_right (by omega) (by omega)
    exact_mod_cast this
   have:(10*0+(c-48))*10 ^ l.length≤9*10 ^ 5:=Int.mul_le_mul (by omega) h5 (Int.le_of_lt (Int.pow_pos (by omega))) (by omega)
   omega
 rw[h6]at h2 hl
 have hc1:c=49:=by omega
 subst hc1
 exact⟨l,e,h6,h1.tail,by omega⟩
theorem PX(n:Nat):∀ acc:List Int,acc.length+n≤9223372036854775807→uT (n:Int) acc=some ((if n=0 then []else ei n)++acc,()):=by
 induction n using Nat.strongRecOn with
 | ind n ih =>
  intro acc hb
  rw[Um]
  by_cases h0:n=0
  ·rw[ap,bn h0];rfl
  ·have e1:Int.tdiv (n:Int) 10=((n/10:Nat):Int):=rfl
   have e2:Int.tmod (n:Int) 10=((n%10:Nat):Int):=rfl
   have e3:w8 (w64 (48+((n%10:Nat):Int)))=48+((n%10:Nat):Int):=by rw[aq,Be (by omega) (by omega)]
   rw[an,e1,e2,e3,bn (by rw[bj];omega),aq,bo h0,ih (n/10) (by omega) _ (by rw[ag,bj];omega)]
   by_cases h9:n<10
   ·rw[al,sH h9,Nat.mod_eq_of_lt h9];rfl
   ·rw[am,w6 h9,ah]
theorem Fi(n:Nat)(h:n≤9223372036854775807):uS (n:Int)=some (ei n,()):=by
 rw[Un]
 by_cases h0:n=0
 ·subst h0
  rw[an,sH (by omega)];rfl
 ·rw[ap,PX n [] (by simpa using h),bo h0,aH]
def eU(c:Int)(l:List Int):List Int:=(l.reverse.dropWhile (fun x=>decide (x=c))).reverse
theorem Bb(c:Int)(l:List Int):eU c (l++[c])=eU c l:=by
 unfold eU
 rw[List.reverse_append,List.reverse_singleton,List.singleton_append,List.dropWhile_cons_of_pos (by simp)]
theorem Ba{c x:Int}(h:x≠c)(l:List Int):eU c (l++[x])=l++[x]:=by
 unfold eU
 rw[List.reverse_append,List.reverse_singleton,List.singleton_append,List.dropWhile_cons_of_neg (by simpa using h),List.reverse_cons,List.reverse_reverse]
theorem vx{l:List Int}{n:Nat}(h:l.length=n+1):l=l.take (l.length-1)++[l[l.length-1]]:=by
 have h1:=List.take_append_drop (l.length-1) l
 have h2:l.drop (l.length-1)=[l[l.length-1]]:=by
  rw[ai (by omega),aW (by omega)]
 rw[h2]at h1
 exact h1.symm
theorem Je(c:Int):∀ (n:Nat) (l:List Int),l.length=n→∃ k,l=eU c l++List.replicate k c∧((∃ x∈l,x≠c)→eU c l≠[])
 | 0,l,h=>by
  have:l=[]:=List.eq_nil_of_length_eq_zero h
  subst this
  exact⟨0,rfl,fun⟨x,hx,_⟩=>by cases hx⟩
 | n+1,l,h=>by
  have hs:=vx h
  generalize hA:l.take (l.length-1)=A at hs
  generalize l[l.length-1]=x at hs
  have hAl:A.length=n:=by rw[← hA,aP];omega
  subst hs
  by_cases hx:x=c
  ·subst hx
   obtain⟨k,e,g⟩:=Je x n A hAl
   rw[Bb]
   refine⟨k+1,?_,fun⟨y,hy,hne⟩=>g ⟨y,?_,hne⟩⟩
   ·rw[List.replicate_succ',← ah,← e]
   ·rcases aA.1 hy with hy | hy
    ·exact hy
    ·exact absurd (aJ.1 hy) hne
  ·rw[Ba hx]
   exact⟨0,by simp,fun _=>by simp⟩
theorem A9(c:Int)(l:List Int):(eU c l).length≤l.length:=by
 obtain⟨k,e,_⟩:=Je c l.length l rfl
 have:=congrArg List.length e
 rw[ag]at this
 omega
theorem Jf(c:Int):∀ (n:Nat) (l:List Int),l.length=n→l.length≤4294967296→nu l c=some (eU c l,())
 | 0,l,hl,h=>by
  have:l=[]:=List.eq_nil_of_length_eq_zero hl
  subst this
  rw[v8,bo (by simp)];rfl
 | n+1,l,hl,h=>by
  rw[v8,an,aq,al,show((l.length:Int)-1).toNat=l.length-1 by omega,cF (by omega)]
  have hs:=vx hl
  have e:List.take (l.length-1-0) (List.drop 0 l)=l.take (l.length-1):=rfl
  by_cases hx:l[l.length-1]=c
  ·rw[ak hx,al,e,Jf c n _ (by rw[aP];omega) (by rw[aP];omega)]
   rw[hx]at hs
   generalize l.take (l.length-1)=A at *
   subst hs
   rw[Bb]
  ·rw[aj hx]
   have:eU c l=l:=by
    generalize hA:l.take (l.length-1)=A at hs
    generalize l[l.length-1]=x at hs hx
    rw[hs];exact Ba hx _
   rw[this]
theorem Kw(l:List Int)(h:l.length≤4294967296):BA l [48]=some (eU 48 l,()):=by
 rw[Wv]
 by_cases h0:l=[]
 ·rw[ak h0,h0];rfl
 ·rw[aj h0,bo (by simp),bn (by simp),bn (by simp),bn (by simp),bn (by simp),Kd]
  show Option.bind (nu l 48) _=_
  rw[Jf 48 _ l rfl h];rfl
theorem Iu(t0:Int)(t4:List Int)(h4:t4.length≤1000):∀ (n:Nat) (l:List Int),l.length=n→l.length≤1000→(∃ x∈l,x≠48)→uC t0 t4 l=q9 t0 (t4++[46]++eU 48 l)
 | 0,l,hl,_,⟨x,hx,_⟩=>by
  have:l=[]:=List.eq_nil_of_length_eq_zero hl
  subst this
  cases hx
 | n+1,l,hl,h,hne=>by
  rw[Tc,aq,al,show((l.length:Int)-1).toNat=l.length-1 by omega,cF (by omega)]
  have hs:=vx hl
  have e:List.take (l.length-1-0) (List.drop 0 l)=l.take (l.length-1):=rfl
  by_cases hx:l[l.length-1]=48
  ·rw[ak hx,al,e]
   rw[hx]at hs
   obtain⟨x,hx1,hx2⟩:=hne
   have hx3:x∈l.take (l.length-1):=by
    rw[hs]at hx1
    rcases aA.1 hx1 with h1 | h1
    ·exact h1
    ·exact absurd (aJ.1 h1) hx2
   rw[Iu t0 t4 h4 n _ (by rw[aP];omega) (by rw[aP];omega) ⟨x,hx3,hx2⟩]
   have:eU 48 l=eU 48 (l.take (l.length-1)):=by
    generalize l.take (l.length-1)=A at *
    rw[hs];exact Bb 48 A
   rw[this]
  ·rw[aj hx,bn (by simp only[bj];omega),bn (by rw[ag];simp only[bj];omega)]
   have:eU 48 l=l:=by
    generalize hA:l.take (l.length-1)=A at hs
    generalize l[l.length-1]=x at hs hx
    rw[hs];exact Ba hx _
   rw[this]
def nJ(r:Nat):List Int:=if 0<r then 46::eU 48 ((ei (1000000+r)).drop 1)else []
def l9(n:Nat):List Int:=ei (n/1000000)++nJ (n%1000000)
def ju(n:Int):List Int:=if -9000000000000≤n∧n≤9000000000000 then(if n<0 then [45]else [])++l9 n.natAbs else []
theorem MN{r:Nat}(h:r<1000000):(nJ r).length≤7:=by
 unfold nJ
 obtain⟨l,e,h6,_⟩:=w7 h
 split
 ·rw[e,List.drop_one,List.tail_cons,aR]
  have:=A9 48 l
  omega
 ·simp
theorem LY{n:Nat}(h:n≤9000000000000):(l9 n).length≤14:=by
 unfold l9
 have h1:=sG (n:=n/1000000) (k:=7) (by omega) (by omega)
 have h2:=MN (r:=n%1000000) (by omega)
 rw[ag];omega
theorem L0(n:Int):(ju n).length≤15:=by
 unfold ju
 split
 ·rename_i h
  have:=LY (n:=n.natAbs) (by omega)
  rw[ag]
  split
  ·simp only[bj];omega
  ·simp only[List.length_nil];omega
 ·simp
theorem Fe(n:Nat):vZ (n:Int)=some (ei n,()):=by rw[Wp,PR]
theorem DT(n:Nat)(h:n≤9000000000000)(t:List Int)(ht:t.length≤1):s4 (n:Int) t=some (t++l9 n,()):=by
 have e1:Int.tdiv (n:Int) 1000000=((n/1000000:Nat):Int):=rfl
 have e2:Int.tmod (n:Int) 1000000=((n%1000000:Nat):Int):=rfl
 have h1:=sG (n:=n/1000000) (k:=7) (by omega) (by omega)
 rw[NP,e1,e2,aq,Fe,aa]
 dsimp only
 rw[al]
 unfold l9 nJ
 by_cases h0:0<n%1000000
 ·have e3:w64 (1000000+((n%1000000:Nat):Int))=((1000000+n%1000000:Nat):Int):=by rw[aq];omega
  obtain⟨l,e,h6,_⟩:=w7 (r:=n%1000000) (by omega)
  have e4:List.take ((49::l).length-1) (List.drop 1 (49::l))=l:=by simp
  have h7:=A9 48 l
  rw[an,e3,Fe,aa,bn h0]
  dsimp only
  rw[e,e4,bn (by rw[aR];omega),Kw l (by omega),aa]
  dsimp only
  rw[bn (by rw[bj];omega),bn (by simp only[ag,bj];omega),ah,List.drop_one,List.tail_cons]
  rfl
 ·rw[ap,bo h0,aH]
theorem NR(n:Int):xA n=some (ju n,()):=by
 rw[NQ,eK,aa]
 dsimp only
 unfold ju
 by_cases h:-9000000000000≤n∧n≤9000000000000
 ·rw[ac h,bo (by decide),bn h]
  by_cases h0:n<0
  ·rw[ak h0,bn h0,aq,show(0:Int)-n=((n.natAbs:Nat):Int) by omega,DT _ (by omega) _ (by simp)]
  ·have e:n=((n.natAbs:Nat):Int):=by omega
   rw[aj h0,bo h0]
   have:=DT n.natAbs (by omega) [] (by simp)
   rw[← e]at this
   exact this
 ·rw[ae h,bn (by decide),bo h]
theorem Hx(n:Int)(t:List Int)(h:t.length≤1000):q9 n t=some ((if n<0 then [45]else [])++t,()):=by
 rw[Td]
 by_cases h0:n<0
 ·rw[ak h0,bn h0,bn (by rw[bj];omega)]
 ·rw[aj h0,bo h0];rfl
theorem jg(n:Int):fL n=some (decide (-9000000000000≤n∧n≤9000000000000),()):=by
 rw[Hv,H7]
 by_cases h:n ≥ -9000000000000
 ·rw[ak h]
  simp[show -9000000000000≤n from h]
 ·rw[aj h]
  simp[show ¬ -9000000000000≤n from h]
theorem Tf(n:Int):Ae n=some (ju n,()):=by
 rw[Te,jg,aa]
 dsimp only
 unfold ju
 by_cases h:-9000000000000≤n∧n≤9000000000000
 ·rw[ac h,bo (by decide),bn h]
  have ea:o7 n=some (((n.natAbs:Nat):Int),()):=by
   rw[H6]
   by_cases h0:n<0
   ·rw[ak h0,aq,show(0:Int)-n=((n.natAbs:Nat):Int) by omega]
   ·rw[aj h0,show((n.natAbs:Nat):Int)=n by omega]
  rw[ea,aa]
  dsimp only
  generalize hm:n.natAbs=m
  have e1:Int.tdiv (m:Int) 1000000=((m/1000000:Nat):Int):=rfl
  have e2:Int.tmod (m:Int) 1000000=((m%1000000:Nat):Int):=rfl
  have h1:=sG (n:=m/1000000) (k:=7) (by omega) (by omega)
  rw[e1,e2,aq,Fi _ (by omega),aa]
  dsimp only
  unfold l9 nJ
  by_cases h0:0<m%1000000
  ·have e3:w64 (1000000+((m%1000000:Nat):Int))=((1000000+m%1000000:Nat):Int):=by rw[aq];omega
   obtain⟨l,e,h6,hd,hv⟩:=w7 (r:=m%1000000) (by omega)
   have e4:List.take ((49::l).length-1) (List.drop 1 (49::l))=l:=by simp
   have h7:=A9 48 l
   have hne:∃ x∈l,x≠48:=by
    by_cases hh:∃ x∈l,x≠48
    ·exact hh
    ·exfalso
     have hall:∀ x∈l,x=48:=fun x hx=>by
      by_cases hx48:x=48
      ·exact hx48
      ·exact absurd ⟨x,hx,hx48⟩ hh
     rw[List.eq_replicate_of_mem hall,xe]at hv
     omega
   rw[an,e3,Fi _ (by omega),aa,bn h0]
   dsimp only
   rw[e,e4,bn (by rw[aR];omega),Iu n _ (by omega) _ l rfl (by omega) hne,Hx _ _ (by simp only[ag,bj];omega),List.drop_one,List.tail_cons,ah (ei _)]
   rfl
  ·rw[ap,bo h0,aH,Hx _ _ (by omega)]
 ·rw[ae h,bn (by decide),bo h]
def sq(v:bG):Prop:=v.S.length≤100000∧Bt v.S
def cw(v:bG):List Int:=if v.Kind=1 then ju v.N else v.S
theorem fD(v:bG):d6 v=some (cw v,()):=by
 rw[Od]
 unfold cw
 by_cases h:v.Kind=1
 ·rw[ak h,bn h,NR];rfl
 ·rw[aj h,bo h]
theorem fM(v:bG):eQ v=some (cw v,()):=by
 rw[TB]
 unfold cw
 by_cases h:v.Kind=1
 ·rw[ak h,bn h,Tf];rfl
 ·rw[aj h,bo h]
theorem Jc{v:bG}(h:sq v):∃ n,fU v=some (n,())∧eE v=some (n,()):=by
 obtain⟨x,e,k1,k2,_⟩:=wX v.S (by have:=h.1;omega) h.2
 have key:∀ b:Bool,∃ n,qk v.Kind b v=some (n,())∧rg v.Kind b v=some (n,()):=fun b=>by
  rw[Ee,HL,k1,k2]
  cases b with
  | true=>exact⟨_,rfl,rfl⟩
  | false =>
   by_cases h2:v.Kind=2
   ·rw[bo (by decide),ak h2];exact⟨_,rfl,rfl⟩
   ·rw[bo (by decide),aj h2];exact⟨_,rfl,rfl⟩
 rw[Ef,HM]
 split
 ·exact key _
 ·exact key _
theorem I2(a b:List Int):lM a b=some (du a b,()):=by
 rw[J6,Ju,Jz];rfl
theorem Ge:∀ a b:List Int,ltS a b=true→ltS b a=false
 | a,[],h=>by cases a <;> cases h
 | [],y::b,h=>rfl
 | x::a,y::b,h=>by
  unfold ltS at h ⊢
  rw[aU,az,ab,ab]at h
  rcases h with h | ⟨h1,h2⟩
  ·rw[ae (by omega),ae (by omega)];rfl
  ·subst h1
   rw[Ge a b h2];simp
theorem LF(a b:List Int):du b a=0-du a b:=by
 unfold du
 cases h:ltS a b with
 | true=>rw[Ge a b h];rfl
 | false =>
  cases h2:ltS b a with
  | true=>rfl
  | false=>rfl
theorem Cg(b:Bool):mS b=some (if b=true then 1 else 0,()):=by rw[AG];cases b <;> rfl
theorem LN{a b:bG}(ha:sq a)(hb:sq b):∃ c,nM a b=some (c,())∧uz a b=some (c,())∧nM b a=some (0-c,())∧(-1≤c∧c≤1):=by
 obtain⟨x,x1,x2⟩:=Jc ha
 obtain⟨y,y1,y2⟩:=Jc hb
 have htext:∃ c,((d6 a).bind fun(r0:(List Int)×Unit)=>(d6 b).bind fun(r1:(List Int)×Unit)=>(lM r0.1 r1.1).bind fun(r2:Int×Unit)=>some (r2.1,()))=some (c,()) ∧
   (if(ltS (cw a) (cw b))=true then some ((-1),()) else(mS (ltS (cw b) (cw a))).bind fun(r9:Int×Unit)=>some (r9.1,()))=some (c,()) ∧
   ((d6 b).bind fun(r0:(List Int)×Unit)=>(d6 a).bind fun(r1:(List Int)×Unit)=>(lM r0.1 r1.1).bind fun(r2:Int×Unit)=>some (r2.1,()))=some (0-c,())∧(-1≤c∧c≤1):=by
  refine⟨du (cw a) (cw b),?_,?_,?_,Cs _ _⟩
  ·rw[fD,fD,aa,aa,I2];rfl
  ·rw[Cg]
   unfold du
   cases ltS (cw a) (cw b) <;> cases ltS (cw b) (cw a) <;> rfl
  ·rw[fD,fD,aa,aa,I2,LF];rfl
 obtain⟨c,c1,c2,c3,c4⟩:=htext
 rw[DL a b,SY,DL b a,fM,fM]
 simp only[aa]
 by_cases ka:a.Kind=2
 ·have a1:decide (a.Kind=2)=true:=ac ka
  have a2:¬ (!decide (a.Kind=2))=true:=by rw[a1];decide
  rw[bo a2]
  by_cases kb:b.Kind=2
  ·have b1:decide (b.Kind=2)=true:=ac kb
   rw[bn a1,bn b1];exact⟨c,c1,c2,c3,c4⟩
  ·have b1:¬ decide (b.Kind=2)=true:=by rw[ab];exact kb
   rw[bn a1,bo b1,bn a1];exact⟨c,c1,c2,c3,c4⟩
 ·have a1:¬ decide (a.Kind=2)=true:=by rw[ab];exact ka
  have a2:(!decide (a.Kind=2))=true:=by rw[aS]at a1;rw[a1];rfl
  rw[bo a1,bn a2]
  by_cases kb:b.Kind=2
  ·have b1:decide (b.Kind=2)=true:=ac kb
   have b2:¬ (!decide (b.Kind=2))=true:=by rw[b1];decide
   rw[bn b1,bo b2,bn b1];exact⟨c,c1,c2,c3,c4⟩
  ·have b1:¬ decide (b.Kind=2)=true:=by rw[ab];exact kb
   have b2:(!decide (b.Kind=2))=true:=by rw[aS]at b1;rw[b1];rfl
   rw[bo b1,bn b2,bo b1,bo a1,x1,x2,y1,y2]
   simp only[aa,Cg,ab]
   by_cases l1:x<y
   ·refine⟨-1,by rw[bn l1],by rw[bn l1],?_,by omega,by omega⟩
    rw[am,al];rfl
   ·by_cases l2:x>y
    ·refine⟨1,by rw[bo l1,bn l2],by rw[bo l1,bn l2],?_,by omega,by omega⟩
     rw[al];rfl
    ·refine⟨0,by rw[bo l1,bo l2],by rw[bo l1,bo l2],?_,by omega,by omega⟩
     rw[am,am];rfl
theorem ef{n:Int}(h:0≤n)(h':n≤18446744073709551615):b6 n=n:=by
 show IntKind.u64.wrap n=n
 rw[IntKind.wrap_u64];omega
theorem ki(n:Int):b6 n=n%18446744073709551616:=by
 show IntKind.u64.wrap n=_
 rw[IntKind.wrap_u64]
theorem ro(n:Int):iE n=some (if -9000000000000≤n∧n≤9000000000000 then(n,true,()) else(0,false,())):=by
 rw[Uk,jg,aa]
 dsimp only
 by_cases c:-9000000000000≤n∧n≤9000000000000
 ·rw[ac c,bn c];rfl
 ·rw[ae c,bo c];rfl
def Dc(n:Int):Prop:=-9000000000000≤n∧n≤9000000000000
theorem Kz(a b:Int):z8 a b=nN a b:=by
 rw[SZ,DM,jg,jg,eK,eK,ro,qz]
theorem Vi(a b:Int):Ad a b=sZ a b:=by
 rw[Tb,DS,jg,jg,eK,eK,ro,qz]
theorem Mb(a b:Int):Aa a b=qf a b:=by
 rw[S4,DN,jg,jg,eK,eK,ro,qz]
theorem pJ{n:Int}(h:0≤n)(h':n≤18446744073709551615):Go.bits .and .u64 n 4294967295=n%4294967296 :=
 bits_mask .u64 64 (by decide) (fun n h₀ h₁=>ef h₀ (by omega)) 32 (by decide) n h (by omega)
theorem AZ{n:Int}:eb .u64 n 44=(n*17592186044416)%18446744073709551616:=ki _
theorem U8{n:Int}:dg .u64 n 20=n/1048576:=by
 show n.fdiv 1048576=_
 rw[Int.fdiv_eq_ediv_of_nonneg _ (by decide)]
theorem rF{n:Int}:dg .u64 n 32=n/4294967296:=by
 show n.fdiv 4294967296=_
 rw[Int.fdiv_eq_ediv_of_nonneg _ (by decide)]
theorem RH{h l:Int}(h0:0≤h)(h1:h<1048576)(l0:0≤l)(l1:l<17592186044416):Go.bits .or .u64 (h*17592186044416) l=h*17592186044416+l:=by
 obtain⟨a,rfl⟩:=Int.eq_ofNat_of_zero_le h0
 obtain⟨b,rfl⟩:=Int.eq_ofNat_of_zero_le l0
 have e:=(bits_nat .u64 64 (by decide) (fun n h₀ h₁=>ef h₀ (by omega)) (a*17592186044416) b (by omega) (by omega)).2
 have e2:=Nat.two_pow_add_eq_or_of_lt (i:=44) (b:=b) (by omega) a
 have e3:((a*17592186044416:Nat):Int)=(a:Int)*17592186044416:=by omega
 rw[← e3,e]
 have e4:2 ^ 44*a=a*17592186044416:=by omega
 rw[e4]at e2
 rw[← e2,Int.natCast_add]
theorem Rj{x y:Int}(x0:0≤x)(x1:x≤9000000000000)(y0:0≤y)(y1:y≤9000000000000):vV x y=some (x*y/18446744073709551616,x*y%18446744073709551616,()):=by
 rw[VZ]
 have hx:x=4294967296*(x/4294967296)+x%4294967296:=by omega
 have hy:y=4294967296*(y/4294967296)+y%4294967296:=by omega
 rw[rF,rF,pJ x0 (by omega),pJ y0 (by omega)]
 have a0:0≤x/4294967296:=by omega
 have a1:x/4294967296≤2100:=by omega
 have b0:0≤x%4294967296:=by omega
 have b1:x%4294967296≤4294967295:=by omega
 have c0:0≤y/4294967296:=by omega
 have c1:y/4294967296≤2100:=by omega
 have d0:0≤y%4294967296:=by omega
 have d1:y%4294967296≤4294967295:=by omega
 have hp:x*y=(x/4294967296*(y/4294967296))*18446744073709551616+(x/4294967296*(y%4294967296))*4294967296+(x%4294967296*(y/4294967296))*4294967296+x%4294967296*(y%4294967296):=by
  generalize x/4294967296=a at *
  generalize x%4294967296=b at *
  generalize y/4294967296=c at *
  generalize y%4294967296=d at *
  subst hx;subst hy
  grind
 rw[hp]
 have m1:=Int.mul_nonneg a0 c0
 have m2:=Int.mul_nonneg a0 d0
 have m3:=Int.mul_nonneg b0 c0
 have m4:=Int.mul_nonneg b0 d0
 have n1:=Int.mul_le_mul a1 c1 c0 (by decide)
 have n2:=Int.mul_le_mul a1 d1 d0 (by decide)
 have n3:=Int.mul_le_mul b1 c1 c0 (by decide)
 have n4:=Int.mul_le_mul b1 d1 d0 (by decide)
 generalize x/4294967296*(y/4294967296)=p11 at *
 generalize x/4294967296*(y%4294967296)=p10 at *
 generalize x%4294967296*(y/4294967296)=p01 at *
 generalize x%4294967296*(y%4294967296)=p00 at *
 clear hp hx hy a0 a1 b0 b1 c0 c1 d0 d1 x0 x1 y0 y1
 simp only[rF]
 rw[ef m1 (by omega),ef m2 (by omega),ef m3 (by omega),ef m4 (by omega)]
 rw[ef (n:=p10+p00/4294967296) (by omega) (by omega),pJ (by omega) (by omega),ef (n:=(p10+p00/4294967296)%4294967296+p01) (by omega) (by omega),
  ef (n:=p11+(p10+p00/4294967296)/4294967296) (by omega) (by omega),ef (n:=p11+(p10+p00/4294967296)/4294967296+((p10+p00/4294967296)%4294967296+p01)/4294967296) (by omega) (by omega),ki]
 congr 2
 omega
theorem Q7:Bh 1000000=some (44,()):=by
 rw[VV,VY,bo (by decide),VW,bn (by decide),VX,bo (by decide),bn (by decide)]
 rfl
theorem Ma{p:Int}(p0:0≤p)(p1:p/18446744073709551616<1000000):∃ r,vP (p/18446744073709551616) (p%18446744073709551616) 1000000=some (p/1000000%18446744073709551616,r,()):=by
 have hh0:0≤p/18446744073709551616:=by omega
 have hl0:0≤p%18446744073709551616:=by omega
 have hl1:p%18446744073709551616≤18446744073709551615:=by omega
 have hpp:p=p/18446744073709551616*18446744073709551616+p%18446744073709551616:=by omega
 generalize p/18446744073709551616=h at *
 generalize p%18446744073709551616=l at *
 subst hpp
 rw[VU,bo (by decide),VO,ap,VP]
 by_cases c:h=0
 ·subst c
  rw[bn (by decide),bn (by decide),bn (by decide),ba hl0,ki,Int.zero_mul,Int.zero_add]
  exact⟨_,rfl⟩
 ·rw[aj c,Q7,aa]
  dsimp only
  have k1:b6 44=44:=ef (by decide) (by decide)
  have k2:b6 (64-44)=20:=ef (by decide) (by decide)
  have k3:eb .u64 1000000 44=17592186044416000000:=by rw[AZ];rfl
  have k4:dg .u64 17592186044416000000 32=4096000000:=by rw[rF];rfl
  have k5:Go.bits .and .u64 17592186044416000000 4294967295=0:=by rw[pJ (by decide) (by decide)];rfl
  have k6:eb .u64 h 44=h*17592186044416:=by rw[AZ];omega
  have k7:Go.bits .or .u64 (eb .u64 h 44) (dg .u64 l 20)=h*17592186044416+l/1048576:=by rw[k6,U8,RH hh0 (by omega) (by omega) (by omega)]
  have k8:eb .u64 l 44=(l%1048576)*17592186044416:=by rw[AZ];omega
  have k9:dg .u64 ((l%1048576)*17592186044416) 32=(l%1048576)*4096:=by rw[rF];omega
  have k10:Go.bits .and .u64 ((l%1048576)*17592186044416) 4294967295=0:=by rw[pJ (by omega) (by omega)];omega
  rw[k1,k2,bn (by decide),bn (by decide),bn (by decide),bn (by decide),k3,k4,k5,k7,k8,k9,k10,bn (by decide)]
  have u0:0≤h*17592186044416+l/1048576:=by omega
  have u1:h*17592186044416+l/1048576<17592186044416000000:=by omega
  have t0:0≤(l%1048576)*4096:=by omega
  have t1:(l%1048576)*4096<4294967296:=by omega
  have hN:(h*17592186044416+l/1048576)*4294967296+(l%1048576)*4096=(h*18446744073709551616+l)*4096:=by omega
  generalize h*17592186044416+l/1048576=u at *
  generalize (l%1048576)*4096=v at *
  generalize h*18446744073709551616+l=P at *
  clear k6 k7 k8 k9 k10 k1 k2 k3 k4 k5
  rw[ba u0]
  have q0:b6 (u/4096000000)=u/4096000000:=ef (by omega) (by omega)
  have q1:b6 (u/4096000000*4096000000)=u/4096000000*4096000000:=ef (by omega) (by omega)
  have q2:b6 (u-u/4096000000*4096000000)=u%4096000000:=by rw[ef (by omega) (by omega)];omega
  rw[q0,q1,q2,VQ,ap,Int.mul_zero,ki 0,bo (by rw[ab,ki];omega),VR,bn (by decide)]
  have q3:b6 (b6 (b6 (u*4294967296)+v)-b6 (u/4096000000*17592186044416000000))=(u%4096000000)*4294967296+v:=by
   simp only[ki];omega
  rw[q3]
  have w0:0≤(u%4096000000)*4294967296+v:=by omega
  have w1:(u%4096000000)*4294967296+v<17592186044416000000:=by omega
  have w2:(u/4096000000)*4294967296+((u%4096000000)*4294967296+v)/4096000000=P/1000000:=by omega
  generalize hW:(u%4096000000)*4294967296+v=W at *
  rw[ba w0]
  have r0:b6 (W/4096000000)=W/4096000000:=ef (by omega) (by omega)
  have r1:b6 (W/4096000000*4096000000)=W/4096000000*4096000000:=ef (by omega) (by omega)
  have r2:b6 (W-W/4096000000*4096000000)=W%4096000000:=by rw[ef (by omega) (by omega)];omega
  rw[r0,r1,r2,VS,ap,Int.mul_zero,ki 0,bo (by rw[ab,ki];omega),VT,bn (by decide)]
  rw[ef (n:=u/4096000000*4294967296) (by omega) (by omega),ki (_+_),w2]
  exact⟨_,rfl⟩
theorem sv{a:Int}(h:Dc a):te a=some (if a<0 then 0-a else a,()):=by
 unfold Dc at h
 rw[Oh]
 by_cases c:a<0
 ·rw[ak c,bn c,aq,ef (by omega) (by omega)]
 ·rw[aj c,bo c,ef (by omega) (by omega)]
theorem BU{a:Int}(h:Dc a):o7 a=some (if a<0 then 0-a else a,()):=by
 unfold Dc at h
 rw[H6]
 by_cases c:a<0
 ·rw[ak c,bn c,aq]
 ·rw[aj c,bo c]
def oD(x y:Int)(n:Bool):Option (Int×Bool×Unit):=if x*y/1000000>9000000000000 then some (0,false,())else if n=true then some (0-x*y/1000000,true,())else some (x*y/1000000,true,())
theorem Gk{x y:Int}(x0:0≤x)(x1:x≤9000000000000)(y0:0≤y)(y1:y≤9000000000000)(n:Bool) :
  ((vV x y).bind fun(r4:Int×Int×Unit) =>
   if(decide (r4.1≥1000000))=true then
    some (0,false,())
   else
    (vP r4.1 r4.2.1 1000000).bind fun(r5:Int×Int×Unit) =>
    if(decide (r5.1>9000000000000))=true then
     some (0,false,())
    else
     if n=true then
      some ((w64 (0-(w64 r5.1))),true,())
     else
      some ((w64 r5.1),true,()))=oD x y n:=by
 have p0:=Int.mul_nonneg x0 y0
 rw[Rj x0 x1 y0 y1,aa]
 dsimp only
 unfold oD
 generalize x*y=p at *
 by_cases c:p/18446744073709551616≥1000000
 ·rw[ak c,al]
 ·obtain⟨r,e⟩:=Ma p0 (by omega)
  rw[aj c,e,aa]
  dsimp only
  have hm:p/1000000%18446744073709551616=p/1000000:=by omega
  rw[hm]
  by_cases d:p/1000000>9000000000000
  ·rw[ak d,bn d]
  ·rw[aj d,bo d,aq (n:=p/1000000),aq]
theorem Gl{x y:Int}(x0:0≤x)(x1:x≤9000000000000)(y0:0≤y)(y1:y≤9000000000000)(hw:x/1000000*y≤9000000000000) :
  w64 ((w64 ((w64 (Int.tdiv x 1000000))*y))+(w64 (Int.tdiv (w64 ((Int.tmod x 1000000)*y)) 1000000)))=x*y/1000000∧x*y/1000000≤18100000000000:=by
 have hx:x=1000000*(x/1000000)+x%1000000:=by omega
 have hp:x*y=1000000*(x/1000000*y)+x%1000000*y:=by
  generalize x/1000000=a at *
  generalize x%1000000=b at *
  subst hx
  grind
 have m0:0≤x/1000000*y:=Int.mul_nonneg (by omega) y0
 have r0:0≤x%1000000*y:=Int.mul_nonneg (by omega) y0
 have r1:x%1000000*y≤999999*9000000000000:=Int.mul_le_mul (by omega) y1 y0 (by decide)
 rw[ba x0,Int.tmod_eq_emod_of_nonneg x0,aq (n:=x/1000000),hp]
 generalize x/1000000*y=a at *
 generalize x%1000000*y=b at *
 rw[aq (n:=a),aq (n:=b),ba r0,aq (n:=b/1000000),aq]
 omega
theorem Gm{x y:Int}(n:Bool)(h0:0≤x*y/1000000)(h1:x*y/1000000≤18100000000000) :
  (if n=true then(iE (w64 (0-(x*y/1000000)))).bind fun(r4:Int×Bool×Unit)=>some (r4.1,r4.2.1,()) else(iE (x*y/1000000)).bind fun(r5:Int×Bool×Unit)=>some (r5.1,r5.2.1,()))=oD x y n:=by
 unfold oD
 generalize x*y/1000000=q at *
 rw[ro,ro,aq]
 have h2:(q>9000000000000)∨(q≤9000000000000):=by omega
 rcases h2 with c | c
 ·have d1:¬ (-9000000000000≤0-q∧0-q≤9000000000000):=by omega
  have d2:¬ (-9000000000000≤q∧q≤9000000000000):=by omega
  simp only[bn c,bo d1,bo d2,aa,ite_self]
 ·have c':¬ q>9000000000000:=by omega
  have d1:-9000000000000≤0-q∧0-q≤9000000000000:=by omega
  have d2:-9000000000000≤q∧q≤9000000000000:=by omega
  simp only[bo c',bn d1,bn d2,aa]
theorem Rk(a b:Int):Ac a b=sY a b:=by
 rw[Ta,DP,jg,jg,eK,eK]
 simp only[aa]
 by_cases ha:Dc a
 ·have ha':=ha
  unfold Dc at ha'
  simp only[ac ha',Bool.not_true,Bool.false_eq_true,if_false]
  by_cases hb:Dc b
  ·have hb':=hb
   unfold Dc at hb'
   simp only[ac hb',Bool.not_true,Bool.false_eq_true,if_false,BU ha,BU hb,sv ha,sv hb,aa]
   have x0:0≤(if a<0 then 0-a else a):=by split <;> omega
   have x1:(if a<0 then 0-a else a)≤9000000000000:=by split <;> omega
   have y0:0≤(if b<0 then 0-b else b):=by split <;> omega
   have y1:(if b<0 then 0-b else b)≤9000000000000:=by split <;> omega
   generalize (if a<0 then 0-a else a)=x at *
   generalize (if b<0 then 0-b else b)=y at *
   generalize (!(decide ((decide (a<0))=(decide (b<0)))))=n
   rw[Gk x0 x1 y0 y1 n]
   have p0:=Int.mul_nonneg x0 y0
   by_cases c:y>0
   ·have hx:x=1000000*(x/1000000)+x%1000000:=by omega
    have hp:x*y=1000000*(x/1000000*y)+x%1000000*y:=by
     generalize x/1000000=a at *
     generalize x%1000000=b at *
     subst hx
     grind
    have r0:0≤x%1000000*y:=Int.mul_nonneg (by omega) y0
    have hM:(0:Int)≤9000000000000/y:=Int.ediv_nonneg (by decide) y0
    have hM1:9000000000000/y≤9000000000000:=Int.ediv_le_self _ (by decide)
    rw[ak c,al,ba (a:=x) x0,ba (a:=9000000000000) (by decide),aq (n:=x/1000000),aq (n:=9000000000000/y)]
    by_cases d:x/1000000>9000000000000/y
    ·rw[ak d]
     have:¬ (x/1000000*y≤9000000000000):=fun h=>by
      have:=(Int.le_ediv_iff_mul_le c).2 h
      omega
     unfold oD
     rw[bn]
     rw[hp];omega
    ·have hw:=(Int.le_ediv_iff_mul_le c).1 (show x/1000000≤9000000000000/y by omega)
     obtain⟨e1,e2⟩:=Gl x0 x1 y0 y1 hw
     rw[ba (a:=x) x0,aq (n:=x/1000000)]at e1
     rw[aj d,e1]
     exact Gm n (by omega) e2
   ·have hy:y=0:=by omega
    obtain⟨e1,e2⟩:=Gl x0 x1 y0 y1 (by rw[hy];simp)
    rw[aj c,e1]
    exact Gm n (by omega) e2
  ·have hb':=hb
   unfold Dc at hb'
   simp only[ae hb',Bool.not_false,if_true]
 ·have ha':=ha
  unfold Dc at ha'
  simp only[ae ha',Bool.not_false,if_true]
def spl:List Int→List (List Int)
 | []=>[[]]
 | c::l=>if c=32 then []::spl l else((c::(spl l).getD 0 [])::(spl l).drop 1)
def pre(w:List Int):List (List Int)→List (List Int)
 | []=>[w]
 | x::xs=>(w++x)::xs
def ne(w:List Int):Bool:=!decide (w=[])
def dj(l:List Int):List (List Int):=(spl l).filter ne
theorem vy(l:List Int):∃ x xs,spl l=x::xs:=by
 cases l with
 | nil=>exact⟨_,_,rfl⟩
 | cons c l=>rw[spl];split <;> exact⟨_,_,rfl⟩
theorem rI{c:Int}(h:c≠32)(l:List Int):spl (c::l)=pre [c] (spl l):=by
 obtain⟨x,xs,e⟩:=vy l
 rw[spl,bo h,e];rfl
theorem R0(a b:List Int)(l:List (List Int)):pre a (pre b l)=pre (a++b) l:=by
 cases l with
 | nil=>rfl
 | cons x xs=>show(a++(b++x))::xs=_;rw[← ah];rfl
theorem GU(l:List Int):pre [] (spl l)=spl l:=by
 obtain⟨x,xs,e⟩:=vy l
 rw[e];rfl
theorem vz:∀ l:List Int,(spl l).length=l.count 32+1
 | []=>rfl
 | c::l=>by
  by_cases h:c=32
  ·subst h;rw[spl,bn rfl,aR,vz l,List.count_cons_self]
  ·obtain⟨x,xs,e⟩:=vy l
   rw[rI h,List.count_cons_of_ne h,← vz l,e];rfl
theorem uc{w:List Int}(h:w≠[]):ne w=true:=by unfold ne;rw[ae h];rfl
theorem TJ(t:List Int)(ht:t.length≤4294967290):∀ (d i f:Nat) (acc:List (List Int)),i+d=t.length→f≤i→acc.length≤i→jh t acc (f:Int) (i:Int)=some (acc++(pre ((t.drop f).take (i-f)) (spl (t.drop i))).filter ne,()):=by
 have fin:∀ (acc:List (List Int)) (a:Int) (b:Nat),t.length<b→jh t acc a (b:Int)=some (acc,()):=fun acc a b hb=>by rw[Ag,ap]
 intro d
 induction d with
 | zero =>
  intro i f acc hi hf ha
  have hw:w64 ((i:Int)+1)=((i+1:Nat):Int):=by rw[aq];omega
  rw[Ag,an,ap,hw,aW (i:=i) (by omega)]
  show _=some (acc++List.filter ne [(t.drop f).take (i-f)++[]],())
  rw[aH]
  by_cases c:f<i
  ·have hne:(t.drop f).take (i-f)≠[]:=fun e=>by
    have:=congrArg List.length e
    rw[aP,aQ]at this
    simp only[List.length_nil]at this
    omega
   rw[an,al,bn (by rw[ch];omega),fin _ _ _ (by omega),List.filter_cons_of_pos (uc hne),af,af]
   rfl
  ·rw[ap,fin _ _ _ (by omega),show i-f=0 by omega,List.take_zero,List.filter_cons_of_neg (by decide)]
   rw[List.filter_nil,aH]
 | succ d ih =>
  intro i f acc hi hf ha
  have hi':i<t.length:=by omega
  have hw:w64 ((i:Int)+1)=((i+1:Nat):Int):=ci hi' (by omega)
  rw[Ag,an,an,al,ck hi',hw,ai hi']
  have hstep:(t.drop f).take (i+1-f)=(t.drop f).take (i-f)++[t[i]]:=by
   rw[show i+1-f=(i-f)+1 by omega,List.take_add_one,List.getElem?_drop,show f+(i-f)=i by omega,List.getElem?_eq_getElem hi'];rfl
  by_cases c:t[i]=32
  ·rw[bo (by rw[c];decide),c,spl,bn rfl]
   show _=some (acc++List.filter ne (((t.drop f).take (i-f)++[])::spl (t.drop (i+1))),())
   rw[aH]
   have hrec:∀ acc:List (List Int),acc.length≤i+1→jh t acc ((i+1:Nat):Int) ((i+1:Nat):Int)=some (acc++(spl (t.drop (i+1))).filter ne,()):=fun acc ha=>by
    have:=ih (i+1) (i+1) acc (by omega) (aG _) ha
    rwa [Nat.sub_self,List.take_zero,GU]at this
   by_cases c2:f<i
   ·have hne:(t.drop f).take (i-f)≠[]:=fun e=>by
     have:=congrArg List.length e
     rw[aP,aQ]at this
     simp only[List.length_nil]at this
     omega
    rw[an,al,bn (by rw[ch];omega),List.filter_cons_of_pos (uc hne),af,af]
    have:=hrec (acc++[(t.drop f).take (i-f)]) (by simp;omega)
    rw[ah]at this
    exact this
   ·rw[ap,show i-f=0 by omega,List.take_zero,List.filter_cons_of_neg (by decide)]
    exact hrec acc (by omega)
  ·rw[bn (by simp[c]),rI c,R0,← hstep]
   exact ih (i+1) f acc (by omega) (by omega) (by omega)
theorem TK(t:List Int)(ht:t.length≤4294967290):Af t=some (dj t,()):=by
 rw[Tg]
 have:=TJ t ht t.length 0 0 [] (by omega) (aG _) (aG _)
 rw[aM,Nat.sub_zero,List.take_zero,GU,bg]at this
 exact this
theorem yq:∀ l:List Int,(32∉l∧cE l [32] = -1∧spl l=[l])∨(∃ w r,l=w++32::r∧cE l [32]=(w.length:Int)∧spl l=w::spl r∧l.count 32=r.count 32+1)
 | []=>.inl ⟨by simp,rfl,rfl⟩
 | c::l=>by
  by_cases h:c=32
  ·subst h
   refine .inr ⟨[],l,rfl,?_,?_,?_⟩
   ·unfold cE;rw[bn (by simp[List.isPrefixOf])];rfl
   ·rw[spl,bn rfl]
   ·rw[List.count_cons_self]
  ·have hp:¬ ([32]:List Int).isPrefixOf (c::l)=true:=by
    rw[List.isPrefixOf_iff_prefix,List.cons_prefix_cons]
    exact fun e=>h e.1.symm
   rcases yq l with ⟨h1,h2,h3⟩ | ⟨w,r,h1,h2,h3,h4⟩
   ·refine .inl ⟨by simp[h1];exact fun e=>h e.symm,?_,?_⟩
    ·unfold cE;rw[bo hp,bn h2]
    ·rw[rI h,h3];rfl
   ·refine .inr ⟨c::w,r,by rw[h1];rfl,?_,?_,?_⟩
    ·unfold cE;rw[bo hp,am,h2];simp
    ·rw[rI h,h3];rfl
    ·rw[List.count_cons_of_ne h,h4]
theorem MP(n:Nat)(hn:n≤4294967290):∀ (k:Nat) (s:List Int) (done:List (List Int)),s.count 32=k→s.length≤4294967000→done.length+k+1=n→rU s [32] 0 ((n-1:Nat):Int) (done++List.replicate (k+1) []) (done.length:Int)=some (done++spl s,()):=by
 intro k
 induction k with
 | zero =>
  intro s done hk hs hd
  have hw:w64 ((done.length:Int)+1)=((done.length+1:Nat):Int):=by rw[aq];omega
  have hset:(done++List.replicate (0+1) ([]:List Int)).set done.length s=done++[s]:=by
   rw[List.set_append_right _ _ (aG _),Nat.sub_self];rfl
  have hsp:spl s=[s]:=by
   rcases yq s with ⟨_,_,h⟩ | ⟨w,r,_,_,_,h⟩
   ·exact h
   ·omega
  rw[Ka,ap,af,hset,hw,bn (by simp;omega),bn (by simp;omega),af,a8 (by simp),hsp]
 | succ k ih =>
  intro s done hk hs hd
  have hw:w64 ((done.length:Int)+1)=((done.length+1:Nat):Int):=by rw[aq];omega
  rcases yq s with ⟨h,_,_⟩ | ⟨w,r,h1,h2,h3,h4⟩
  ·have:=List.count_eq_zero.2 h;omega
  ·have hsl:s.length=w.length+1+r.length:=by rw[h1];simp;omega
   have hw2:w64 ((w.length:Int)+0)=(w.length:Int):=by rw[aq];omega
   have hw3:w64 ((w.length:Int)+(([32]:List Int).length:Int))=((w.length+1:Nat):Int):=by rw[bW (by simp;omega) (by simp;omega)];simp
   have hset:∀ x:List Int,(done++List.replicate (k+1+1) ([]:List Int)).set done.length x=(done++[x])++List.replicate (k+1) []:=fun x=>by
    rw[List.set_append_right _ _ (aG _),Nat.sub_self,List.replicate_succ,ah];rfl
   have ht:List.take (w.length-0) (List.drop 0 s)=w:=by rw[h1];simp
   have hdr:List.take (s.length-(w.length+1)) (List.drop (w.length+1) s)=r:=by
    rw[h1,show w++32::r=(w++[32])++r by simp,List.drop_left' (by simp)]
    exact a8 (by simp;omega)
   rw[Ka,an,Bw,al,aa,h2]
   dsimp only
   rw[ap,hw2,al,bn (by simp;omega),hw3,al,af,af,af,hset,ht,hdr,hw]
   have:=ih r (done++[w]) (by omega) (by omega) (by simp;omega)
   rw[ag,bj]at this
   rw[this,h3,ah]
   rfl
theorem Vd(t:List Int)(ht:t.length≤4294967000):Bx t [32]=some (spl t,()):=by
 have hc:=List.count_le_length (a:=(32:Int)) (l:=t)
 rw[Wt,Wz,bo (by decide),bo (by decide),bn (by decide),Ws,bo (by simp),bn (by simp),bn (by simp),VL,aa,aa]
 dsimp only
 have hcv:eh t (List.getD [32] 0 0)=(t.count 32:Nat):=rfl
 have hw:w64 (((t.count 32:Nat):Int)+1)=((t.count 32+1:Nat):Int):=by rw[aq];omega
 have hw2:w64 ((t.length:Int)+1)=((t.length+1:Nat):Int):=by rw[aq];omega
 have hmn:mnI ((t.count 32+1:Nat):Int) ((t.length+1:Nat):Int)=((t.count 32+1:Nat):Int):=by unfold mnI;rw[am]
 have hw3:w64 (((t.count 32+1:Nat):Int)-1)=((t.count 32+1-1:Nat):Int):=by rw[aq];omega
 rw[hcv,hw,Wy,hw2,hmn,bn ⟨by omega,by omega,by rw[ch];omega⟩,hw3,af]
 have:=MP (t.count 32+1) (by omega) (t.count 32) t [] rfl ht (by simp)
 rw[bg,bg]at this
 have h0:rU t [32] 0 ((t.count 32+1-1:Nat):Int) (List.replicate (t.count 32+1) []) 0=some (spl t,()):=this
 rw[h0];rfl
theorem WV{α:Type}(lo hi:Nat)(z:α)(l:List α)(h:lo≤hi)(hl:hi=l.length):(hJ lo hi z l).take lo=l.take lo∧(hJ lo hi z l).length=l.length:=by
 unfold hJ
 have e:List.append (List.append (List.take lo l) (List.replicate (hi-lo) z)) (List.drop hi l)=(l.take lo++List.replicate (hi-lo) z)++l.drop hi:=rfl
 rw[e]
 constructor
 ·rw[ah,List.take_left' (by rw[aP];omega)]
 ·simp;omega
theorem L6(n:Nat)(hn:n≤4294967296):∀ (d j i:Nat) (t:List (List Int)),j+d=n→i<j→t.length=n→rS t (i:Int) (j:Int)=some (t.take i++(t.drop j).filter ne,()):=by
 intro d
 induction d with
 | zero =>
  intro j i t hj hi ht
  obtain⟨z1,z2⟩:=WV i t.length ([]:List Int) t (by omega) rfl
  rw[JI,ap,al,af,z2,al,z1,aW (by omega),List.filter_nil,aH]
 | succ d ih =>
  intro j i t hj hi ht
  have hj':j<t.length:=by omega
  rw[JI,an,al,ck hj',DU,aa,ci hj' (by omega),ci (show i<t.length by omega) (by omega)]
  dsimp only
  rw[ai hj']
  by_cases c:t[j]=[]
  ·rw[bo (by simp[c]),List.filter_cons_of_neg (by rw[c];decide)]
   exact ih (j+1) i t (by omega) (by omega) ht
  ·rw[bn (by simp[c]),al,List.filter_cons_of_pos (uc c),af,ih (j+1) (i+1) _ (by omega) (by omega) (by rw[aX];exact ht)]
   congr 2
   have h1:(t.set i t[j]).take (i+1)=t.take i++[t[j]]:=by
    rw[List.take_add_one,List.take_set_of_le (aG _),List.getElem?_set_self (by omega)];rfl
   rw[h1,List.drop_set_of_lt (by omega),ah];rfl
theorem C2{l:List (List Int)}(h:∀ w∈l,w≠[]):l.filter ne=l:=List.filter_eq_self.2 fun w hw=>uc (h w hw)
theorem w5(t:List (List Int))(ht:t.length≤4294967296):Br t=some (t.filter ne,()):=by
 obtain⟨k,e1,e2,e3,e4,e5⟩:=iz (fun i=>nn t (t.length:Int) i) () t.length (fun i=>decide (t.getD i []=[]))
  (fun i hi=>by
   show nn t _ _=_
   rw[JX,an,al,ck hi,DU,aa,cF hi,ci hi (by omega)])
  (by show nn t _ _=_;rw[JX,bo (by simp)])
 have e1':nn t (t.length:Int) 0=some (k,()):=e1
 rw[Wb,Wj,e1',aa]
 dsimp only
 by_cases c:k = -1
 ·rw[ak c,C2]
  intro w hw e
  have:dW (fun i=>decide (t.getD i []=[])) t.length=true:=by
   obtain⟨i,hi,rfl⟩:=bk.1 hw
   exact anyB_iff.2 ⟨i,hi,by rw[cF hi,e];rfl⟩
  rw[← e2,ab]at this
  omega
 ·have hk:0≤k:=by
   rcases Int.lt_or_le k 0 with h | h
   ·exact absurd (e5 h) c
   ·exact h
  obtain⟨f1,f2⟩:=e4 hk
  have hkn:k=((k.toNat:Nat):Int):=by omega
  have hkl:k.toNat<t.length:=by omega
  rw[aj c,hkn,ci hkl (by omega),L6 t.length ht (t.length-(k.toNat+1)) (k.toNat+1) k.toNat t (by omega) (by omega) rfl]
  congr 2
  have hs:t=t.take k.toNat++(t[k.toNat]::t.drop (k.toNat+1)):=by rw[← ai hkl,List.take_append_drop]
  have hz:t[k.toNat]=[]:=by have:=f1;rw[cF hkl,ab]at this;exact this
  have hpre:(t.take k.toNat).filter ne=t.take k.toNat:=C2 fun w hw e=>by
   obtain⟨i,hi,rfl⟩:=bk.1 hw
   rw[aP]at hi
   have:=f2 i (by omega)
   rw[List.getElem_take]at e
   rw[cF (by omega),e]at this
   cases this
  rw (occs:=.pos [3]) [hs]
  rw[List.filter_append,List.filter_cons_of_neg (by rw[hz];decide),hpre]
theorem Eo(t:List Int)(ht:t.length≤4294967000):s5 t=some (dj t,()):=by
 have hc:=List.count_le_length (a:=(32:Int)) (l:=t)
 have:=vz t
 rw[NS,Vd t ht,aa]
 dsimp only
 rw[w5 _ (by omega)]
 rfl
theorem p7(t:List Int):(dj t).length≤t.length+1:=by
 have hc:=List.count_le_length (a:=(32:Int)) (l:=t)
 have:=vz t
 have:=List.length_filter_le ne (spl t)
 unfold dj
 omega
theorem IW:∀ (l:List Int) (P:Int→Prop),(∀ x∈l,P x)→∀ w∈spl l,(∀ x∈w,P x)∧w.length≤l.length
 | [],P,h,w,hw=>by rw[aJ.1 hw];exact⟨fun x hx=>(by cases hx),aG _⟩
 | c::l,P,h,w,hw=>by
  have ih:=IW l P fun x hx=>h x (aE _ hx)
  by_cases hc:c=32
  ·rw[spl,bn hc]at hw
   rcases aK.1 hw with rfl | hw
   ·exact⟨fun x hx=>(by cases hx),Nat.zero_le _⟩
   ·exact⟨(ih w hw).1,by have:=(ih w hw).2;rw[aR];omega⟩
  ·obtain⟨x,xs,e⟩:=vy l
   rw[rI hc,e]at hw
   rcases aK.1 (show w∈([c]++x)::xs from hw)with rfl | hw
   ·obtain⟨g1,g2⟩:=ih x (by rw[e];exact aD ..)
    refine⟨fun y hy=>?_,by simp;omega⟩
    rcases aK.1 (show y∈c::x from hy)with rfl | hy
    ·exact h _ (aD ..)
    ·exact g1 y hy
   ·obtain⟨g1,g2⟩:=ih w (by rw[e];exact aE _ hw)
    exact⟨g1,by rw[aR];omega⟩
theorem CX{l:List Int}{P:Int→Prop}(h:∀ x∈l,P x){w:List Int}(hw:w∈dj l):(∀ x∈w,P x)∧w.length≤l.length:=IW l P h w (List.mem_filter.1 hw).1
def VG(v:bG):Prop:=dQ v=true∧Bt v.S
theorem VG.bd{v:bG}(h:VG v):Dc v.N∧v.S.length≤300:=by
 have h1:=h.1
 unfold dQ at h1
 rw[az,az,ab,Bool.not_eq_true',decide_eq_false_iff_not]at h1
 exact⟨h1.1.1,by have:=h1.1.2;omega⟩
theorem VG.drawn{v:bG}(h:VG v):sq v:=⟨by have:=h.bd.2;omega,h.2⟩
theorem ig{n:Int}(h:Dc n):VG ⟨1,n,[]⟩:=by
 refine⟨?_,fun x hx=>by cases hx⟩
 unfold dQ
 unfold Dc at h
 simp[h]
theorem pH{s:List Int}(h:s.length≤300)(hb:Bt s):VG ⟨2,0,s⟩:=by
 refine⟨?_,hb⟩
 unfold dQ
 simp;omega
theorem sr:VG ⟨0,0,[]⟩:=by
 refine⟨?_,fun x hx=>by cases hx⟩
 unfold dQ
 simp
noncomputable def cK(v:bG):Int:=match fU v with
 | some (n,_)=>n
 | none=>0
theorem dD{v:bG}(h:VG v):fU v=some (cK v,())∧eE v=some (cK v,())∧Dc (cK v):=by
 have key:∃ n,fU v=some (n,())∧eE v=some (n,())∧Dc n:=by
  obtain⟨hn,hs⟩:=h.bd
  obtain⟨x,e,k1,k2,_,k3⟩:=wX v.S (by omega) h.2
  rw[Ef,HM]
  have key:∀ b:Bool,∃ n,qk v.Kind b v=some (n,())∧rg v.Kind b v=some (n,())∧Dc n:=fun b=>by
   rw[Ee,HL,k1,k2]
   cases b with
   | true=>exact⟨_,rfl,rfl,hn⟩
   | false =>
    by_cases h2:v.Kind=2
    ·rw[bo (by decide),ak h2];exact⟨_,rfl,rfl,k3⟩
    ·rw[bo (by decide),aj h2];exact⟨_,rfl,rfl,by unfold Dc;omega⟩
  by_cases h1:v.Kind=1
  ·rw[ak h1,ak h1];exact key _
  ·rw[aj h1,aj h1];exact key _
 obtain⟨n,e1,e2,e3⟩:=key
 have:cK v=n:=by unfold cK;rw[e1]
 rw[this]
 exact⟨e1,e2,e3⟩
theorem CH(n:Nat):Bt (ei n):=fun x hx=>by have:=(CI n).1 x hx;omega
theorem Vt(c:Int)(l:List Int):∀ x∈eU c l,x∈l:=fun x hx=>by
 unfold eU at hx
 rw[List.mem_reverse]at hx
 have:=(List.dropWhile_sublist _).subset hx
 rwa [List.mem_reverse]at this
theorem LZ(n:Int):Bt (ju n):=by
 intro x hx
 unfold ju at hx
 split at hx
 ·rcases aA.1 hx with hx | hx
  ·split at hx
   ·rw[aJ.1 hx];omega
   ·cases hx
  ·unfold l9 at hx
   rcases aA.1 hx with hx | hx
   ·exact CH _ x hx
   ·unfold nJ at hx
    split at hx
    ·rcases aK.1 hx with rfl | hx
     ·omega
     ·exact CH _ x (List.mem_of_mem_drop (Vt _ _ x hx))
    ·cases hx
 ·cases hx
theorem eT{v:bG}(h:VG v):(cw v).length≤300∧Bt (cw v):=by
 unfold cw
 split
 ·have:=L0 v.N;exact⟨by omega,LZ _⟩
 ·exact⟨h.bd.2,h.2⟩
def lH(v:bG):Bool:=if v.Kind=1∨v.Kind=3 then !decide (v.N=0)else if v.Kind=2 then !decide (v.S=[])else false
theorem ph(v:bG):ql v=some (lH v,())∧rh v=some (lH v,()):=by
 rw[Of,TE]
 simp only[Oe,TC]
 unfold lH
 by_cases c1:v.Kind=1
 ·simp[c1]
 by_cases c3:v.Kind=3
 ·simp[c3]
 by_cases c2:v.Kind=2
 ·simp[c2]
 simp[c1,c2,c3]
noncomputable def fS(a b:bG):Int:=match nM a b with
 | some (n,_)=>n
 | none=>0
theorem Cu{a b:bG}(ha:VG a)(hb:VG b):nM a b=some (fS a b,())∧uz a b=some (fS a b,()):=by
 obtain⟨c,e1,e2,_⟩:=LN ha.drawn hb.drawn
 have:fS a b=c:=by unfold fS;rw[e1]
 rw[this];exact⟨e1,e2⟩
noncomputable def lt(s:List Int):bG:=match mm s with
 | some (v,_)=>v
 | none=>bV
theorem oK{s:List Int}(hs:s.length≤9223372036854775807)(hb:Bt s):mm s=some (lt s,())∧mP s=some (lt s,())∧VG (lt s):=by
 obtain⟨w,k1,k2⟩:=Sj s hs hb
 have:lt s=w:=by unfold lt;rw[k2]
 rw[this]
 have hbt:Bt (s.take 300):=fun x hx=>hb x (List.mem_of_mem_take hx)
 have hl:(s.take 300).length≤300:=by rw[aP];omega
 have hd:decide (((s.take 300).length:Int)>300)=false:=ae (by omega)
 obtain⟨v,ok,l1,l2,l3⟩:=wY (s.take 300) (by omega) hbt
 refine⟨k2,k1,?_⟩
 rw[D9,wW s hs,aa]at k2
 dsimp only at k2
 rw[l2,aa]at k2
 dsimp only at k2
 have e:jc (s.take 300)=(v,ok):=by unfold jc;rw[l1]
 cases ok with
 | true =>
  have hw:bG.mk 3 v (s.take 300)=w:=congrArg Prod.fst (aN k2)
  subst hw
  refine⟨?_,hbt⟩
  unfold dQ
  dsimp only
  rw[ac l3,e,hd,ac (show(v,true).1=v from rfl)]
  rfl
 | false =>
  rw[bo (by decide),kW,aa]at k2
  have hw:bG.mk 2 0 (s.take 300)=w:=congrArg Prod.fst (aN k2)
  subst hw
  refine⟨?_,hbt⟩
  unfold dQ
  dsimp only
  rw[ac (show(-9000000000000:Int)≤0∧(0:Int)≤9000000000000 by omega),hd]
  rfl
def fj(v:bG):List Int:=(cw v).take 300
theorem Fg(v:bG):(fj v).length≤300:=by unfold fj;rw[aP];omega
theorem i7{v:bG}(h:VG v):kN (cw v)=some (fj v,())∧oX v=some (fj v,()):=by
 have hl:=(eT h).1
 refine⟨wW _ (by omega),?_⟩
 rw[TW,fM,aa]
 dsimp only
 unfold fj
 rw[ap,a8 hl]
theorem Ja{n:Int}(h:Dc n):-9000000≤Int.tdiv n 1000000∧Int.tdiv n 1000000≤9000000:=by
 unfold Dc at h
 rcases Int.lt_or_le n 0 with c | c
 ·have e:Int.tdiv n 1000000 = -(Int.tdiv (-n) 1000000):=by rw[Int.neg_tdiv,Int.neg_neg]
  rw[e,ba (by omega)];omega
 ·rw[ba c];omega
theorem Vs{n:Int}(h:Dc n):-1000000<Int.tmod n 1000000∧Int.tmod n 1000000<1000000:=by
 have h1:=Int.tmod_lt_of_pos n (show(0:Int)<1000000 by decide)
 have h2:-1000000<Int.tmod n 1000000:=by
  have h3:=Int.tmod_lt_of_pos (-n) (show(0:Int)<1000000 by decide)
  rw[Int.neg_tmod]at h3
  omega
 exact⟨h2,h1⟩
theorem sF{n:Int}(h:Dc n):sX n=some (Int.tdiv n 1000000*1000000,())∧Ab n=some (Int.tdiv n 1000000*1000000,())∧Dc (Int.tdiv n 1000000*1000000):=by
 have hb:=Ja h
 have hm:=Vs h
 have hd:1000000*Int.tdiv n 1000000+Int.tmod n 1000000=n:=Int.mul_tdiv_add_tmod n 1000000
 have hsame:0≤n→0≤Int.tmod n 1000000:=fun h0=>Int.tmod_nonneg _ h0
 have hneg:n≤0→Int.tmod n 1000000≤0:=fun h0=>by
  have:Int.tmod n 1000000 = -(Int.tmod (-n) 1000000):=by rw[Int.neg_tmod,Int.neg_neg]
  rw[this]
  have:=Int.tmod_nonneg (a:=-n) 1000000 (by omega)
  omega
 unfold Dc at h ⊢
 rw[NN,S8,aq (n:=Int.tdiv n 1000000),aq (n:=Int.tdiv n 1000000*1000000),show n-Int.tmod n 1000000=Int.tdiv n 1000000*1000000 by omega,aq]
 exact⟨rfl,rfl,by omega⟩
noncomputable def dF(v:bG):Int:=Int.tdiv (cK v) 1000000
theorem pi{v:bG}(h:VG v):qD v=some (dF v,())∧w64 (Int.tdiv (cK v) 1000000)=dF v∧(-9000000≤dF v∧dF v≤9000000):=by
 obtain⟨e1,e2,e3⟩:=dD h
 have hb:=Ja e3
 have e4:=(sF e3).1
 unfold dF
 refine⟨?_,aq,hb⟩
 rw[Pv,e1,aa]
 dsimp only
 rw[e4,aa]
 dsimp only
 rw[Int.mul_tdiv_cancel _ (by decide),aq]
noncomputable def pZ(line:List Int)(n:Int):bG :=
 if n=0 then lt line else if 1≤n∧n≤((dj line).length:Int)then lt ((dj line).getD (n-1).toNat [])else lt []
theorem CW{line:List Int}(hl:line.length≤4294967000)(hb:Bt line)(n:Int):xT line n=some (pZ line n,())∧VG (pZ line n):=by
 have hf:=p7 line
 obtain⟨r1,_,r3⟩:=oK (s:=line) (by omega) hb
 obtain⟨z1,_,z3⟩:=oK (s:=[]) (by simp) (fun x hx=>by cases hx)
 rw[Oz]
 unfold pZ
 by_cases c:n=0
 ·rw[ak c,bn c,r1];exact⟨rfl,r3⟩
 ·rw[aj c,bo c,Eo line hl,aa,eL,aa]
  dsimp only
  by_cases d:1≤n∧n≤((dj line).length:Int)
  ·have hi:(n-1).toNat<(dj line).length:=by omega
   obtain⟨g1,g2⟩:=CX (P:=fun x=>0≤x∧x≤255) hb (aV hi)
   obtain⟨q1,_,q3⟩:=oK (s:=(dj line)[(n-1).toNat]) (by omega) g1
   rw[ak d,bn d,aq,al,cF hi,q1]
   exact⟨rfl,q3⟩
  ·rw[aj d,bo d,z1];exact⟨rfl,z3⟩
theorem zn:∀ a b:List Int,ltS a b=false→ltS b a=false→a=b
 | [],[],_,_=>rfl
 | [],y::b,h,_=>by cases h
 | x::a,[],_,h=>by cases h
 | x::a,y::b,h,g=>by
  unfold ltS at h g
  rw[Bool.or_eq_false_iff,decide_eq_false_iff_not]at h g
  have e:x=y:=by omega
  subst e
  rw[ac rfl,Bool.true_and]at h g
  rw[zn a b h.2 g.2]
theorem Gf:∀ a b c:List Int,ltS a b=true→ltS b c=true→ltS a c=true
 | a,[],c,h,_=>by cases a <;> cases h
 | a,y::b,[],_,h=>by cases h
 | [],y::b,z::c,_,_=>rfl
 | x::a,y::b,z::c,h,g=>by
  unfold ltS at h g ⊢
  rw[aU,az,ab,ab]at h g ⊢
  rcases h with h | ⟨h1,h2⟩
  ·rcases g with g | ⟨g1,g2⟩
   ·exact .inl (by omega)
   ·exact .inl (by omega)
  ·rcases g with g | ⟨g1,g2⟩
   ·exact .inl (by omega)
   ·exact .inr ⟨by omega,Gf a b c h2 g2⟩
theorem wN{a b:bq}:dl a b=true↔a.Name<b.Name∨(a.Name=b.Name∧ltS a.Key b.Key=true):=by
 unfold dl
 rw[aU,az,ab,ab]
theorem wO{a b c:bq}(h:dl a b=true)(g:dl b c=true):dl a c=true:=by
 rw[wN]at *
 rcases h with h | ⟨h1,h2⟩
 ·rcases g with g | ⟨g1,g2⟩
  ·exact .inl (by omega)
  ·exact .inl (by omega)
 ·rcases g with g | ⟨g1,g2⟩
  ·exact .inl (by omega)
  ·exact .inr ⟨by omega,Gf _ _ _ h2 g2⟩
theorem Lm{a b:bq}(h:dl a b=false)(hk:¬ (a.Name=b.Name∧a.Key=b.Key)):dl b a=true:=by
 rw[wN]
 have h':¬ (a.Name<b.Name∨(a.Name=b.Name∧ltS a.Key b.Key=true)):=by rw[← wN,h];decide
 by_cases c:b.Name<a.Name
 ·exact .inl c
 ·have e:b.Name=a.Name:=by
   rcases Int.lt_trichotomy a.Name b.Name with h | h | h
   ·exact absurd (.inl h) h'
   ·exact h.symm
   ·omega
  refine .inr ⟨e,?_⟩
  cases g:ltS b.Key a.Key with
  | true=>rfl
  | false =>
   have g2:ltS a.Key b.Key=false:=by
    cases g3:ltS a.Key b.Key with
    | false=>rfl
    | true=>exact absurd (.inr ⟨e.symm,g3⟩) h'
   exact absurd ⟨e.symm,zn _ _ g2 g⟩ hk
theorem KV(a b:bq)(hk:¬ (a.Name=b.Name∧a.Key=b.Key)):∃ k,qn a b=some (k,())∧decide (k>0) = !dl a b:=by
 rw[El,I3,aa]
 unfold dl
 by_cases h:a.Name<b.Name
 ·rw[ak h,ac h];exact⟨_,rfl,rfl⟩
 ·rw[aj h,ae h]
  by_cases g:a.Name>b.Name
  ·rw[ak g,ae (by omega)];exact⟨_,rfl,rfl⟩
  ·have e:a.Name=b.Name:=by omega
   rw[aj g,ac e]
   refine⟨_,rfl,?_⟩
   dsimp only
   unfold du
   cases h1:ltS a.Key b.Key with
   | true=>rfl
   | false =>
    cases h2:ltS b.Key a.Key with
    | true=>rfl
    | false=>exact absurd ⟨e,zn _ _ h1 h2⟩ hk
def atP(n:Int)(k:List Int)(c:bq):Bool:=decide (c.Name=n)&&decide (c.Key=k)
theorem atP_iff{n:Int}{k:List Int}{c:bq}:atP n k c=true↔c.Name=n∧c.Key=k:=by
 unfold atP;rw[az,ab,ab]
def atV(l:List bq)(n:Int)(k:List Int):Int:=if l.any (atP n k)=true then(l.findIdx (atP n k):Int)else -1
theorem xk{α:Type}{l:List α}{p:α→Bool}{z:α}{k:Int}(h0:0≤k)(hl:k<(l.length:Int))(h1:p (l.getD k.toNat z)=true)(h2:∀ j:Nat,(j:Int)<k→p (l.getD j z)=false):(l.findIdx p:Int)=k:=by
 have hk:k.toNat<l.length:=by omega
 have h3:l.findIdx p=k.toNat:=by
  rw[List.findIdx_eq hk]
  refine⟨by rw[← cF hk z];exact h1,fun j hj=>?_⟩
  rw[← cF (by omega) z]
  exact h2 j (by omega)
 rw[h3];omega
theorem xO(s:bF)(n:Int)(k:List Int)(hl:s.Cells.length≤100000):qm s n k=some (atV s.Cells n k,()):=by
 obtain⟨v,e1,e2,e3,e4,e5⟩:=iz (fun i=>nk s.Cells (s.Cells.length:Int) i n k) (n,k,()) s.Cells.length (fun i=>atP n k (s.Cells.getD i cj))
  (fun i hi=>by
   show nk s.Cells _ _ n k=_
   rw[JN,an,al,ck hi,Oo,cF hi,ci hi (by omega)]
   unfold atP
   by_cases c:s.Cells[i].Name=n
   ·rw[ac c,bn rfl,aa,Bool.true_and]
   ·rw[ae c,bo (by decide),aa,Bool.false_and])
  (by show nk s.Cells _ _ n k=_;rw[JN,bo (by simp)])
 have e1':nk s.Cells (s.Cells.length:Int) 0 n k=some (v,n,k,()):=e1
 rw[Oq,We,e1',aa]
 dsimp only
 congr 2
 unfold atV
 rw[eY s.Cells cj (atP n k)]at e2
 by_cases c:0≤v
 ·rw[← e2,ak c]
  exact(xk c e3 (e4 c).1 (e4 c).2).symm
 ·rw[← e2,aj c]
  exact e5 (by omega)
theorem As(s:bF)(n:Int)(k:List Int)(hl:s.Cells.length≤100000):ri s n k=some (atV s.Cells n k,()):=by
 obtain⟨v,e1,e2,e3,e4,e5⟩:=iz (fun i=>lB n k i s) () s.Cells.length (fun i=>atP n k (s.Cells.getD i cj))
  (fun i hi=>by
   show lB n k _ s=_
   rw[HP,an,al,ck hi,cF hi,ci hi (by omega)]
   unfold atP
   by_cases c:s.Cells[i].Name=n
   ·rw[ac c,bn rfl,al,Bool.true_and]
   ·rw[ae c,bo (by decide),Bool.false_and,bo (by decide)])
  (by show lB n k _ s=_;rw[HP,bo (by simp)])
 have e1':lB n k 0 s=some (v,()):=e1
 rw[TO,e1']
 congr 2
 unfold atV
 rw[eY s.Cells cj (atP n k)]at e2
 by_cases c:0≤v
 ·rw[← e2,ak c]
  exact(xk c e3 (e4 c).1 (e4 c).2).symm
 ·rw[← e2,aj c]
  exact e5 (by omega)
theorem l5(l:List bq)(n:Int)(k:List Int):(atV l n k = -1∧∀ c∈l,¬ (c.Name=n∧c.Key=k))∨(0≤atV l n k∧atV l n k<(l.length:Int)):=by
 unfold atV
 by_cases c:l.any (atP n k)=true
 ·rw[bn c]
  have:=List.findIdx_lt_length_of_exists (xs:=l) (p:=atP n k) (by obtain⟨x,hx,e⟩:=List.any_eq_true.1 c;exact⟨x,hx,e⟩)
  exact .inr (by omega)
 ·rw[bo c]
  refine .inl ⟨rfl,fun x hx h=>c (List.any_eq_true.2 ⟨x,hx,atP_iff.2 h⟩)⟩
def iW(l:List bq)(n:Int)(k:List Int):bG:=if atV l n k<0 then bV else(l.getD (atV l n k).toNat cj).Val
theorem sR(s:bF)(n:Int)(k:List Int)(hl:s.Cells.length≤100000):sU s n k=some (iW s.Cells n k,())∧uw s n k=some (iW s.Cells n k,()):=by
 rw[ND,ST,xO s n k hl,As s n k hl]
 simp only[aa]
 unfold iW
 rcases l5 s.Cells n k with ⟨h,_⟩ | h
 ·rw[an,bn (c:=atV s.Cells n k<0) (by omega)];exact⟨rfl,rfl⟩
 ·rw[ap,bn h,bo (c:=atV s.Cells n k<0) (by omega)];exact⟨rfl,rfl⟩
def eO(l:List bq)(c:bq):Nat:=l.findIdx fun x=>!dl x c
def jf(l:List bq)(n:Int)(k:List Int)(v:bG):Option (List bq) :=
 if 0≤atV l n k then some (l.set (atV l n k).toNat ⟨(l.getD (atV l n k).toNat cj).Name,(l.getD (atV l n k).toNat cj).Key,v⟩)
 else if 40≤l.length then none else some (eM l (eO l ⟨n,k,v⟩) [⟨n,k,v⟩])
theorem pU{s:bF}(hv:s.Vars.length≤100000)(hc:s.Cells.length≤100000):lC s=some (s,()):=by
 rw[HQ,bn (by rw[ch];omega),bn (by rw[ch];omega)];rfl
theorem Lz(l:List bG)(h:l.length≤100000):pj l=some (l,()):=by
 rw[vW]
 cases l with
 | nil=>rw[bn (c:=Nat.beq (List.length ([]:List bG)) 0=true) rfl,bn (by rw[ch];simp)];exact lZ _
 | cons v l=>rw[bo (c:=Nat.beq (List.length (v::l)) 0=true) (show ¬ (false=true) by decide),bn (by rw[ch];omega)];rfl
theorem Ly(l:List bq)(h:l.length≤100000):rQ l=some (l,()):=by
 rw[Bk]
 cases l with
 | nil=>rw[bn (c:=Nat.beq (List.length ([]:List bq)) 0=true) rfl,bn (by rw[ch];simp)];exact lZ _
 | cons v l=>rw[bo (c:=Nat.beq (List.length (v::l)) 0=true) (show ¬ (false=true) by decide),bn (by rw[ch];omega)];rfl
theorem pT{s:bF}(hv:s.Vars.length≤100000)(hc:s.Cells.length≤100000):gN s=some (s,()):=by
 rw[xQ,Lz _ hv,Ly _ hc];rfl
theorem GZ(l:List bq)(c:bq):eO l c≤l.length:=List.findIdx_le_length
theorem Sd(s:bF)(n:Int)(k:List Int)(v:bG)(hv:s.Vars.length≤100000)(hl:s.Cells.length≤100000) :
  xw s n k v=some (match jf s.Cells n k v with | some C=>(⟨s.Vars,C,s.Nr,s.Err⟩,true,()) | none=>(s,false,())):=by
 rw[NF,pT hv hl,xO s n k hl,aa,aa]
 dsimp only
 unfold jf
 rcases l5 s.Cells n k with ⟨h,hno⟩ | h
 ·rw[ap,bo (c:=0≤atV s.Cells n k) (by omega)]
  by_cases c:40≤s.Cells.length
  ·rw[an,bn c]
  ·rw[ap,bo c]
   obtain⟨j,e1,e2,e3,e4,e5⟩:=iz (fun i=>nj s.Cells (s.Cells.length:Int) i ⟨n,k,v⟩) ((⟨n,k,v⟩:bq),()) s.Cells.length (fun i=>!dl (s.Cells.getD i cj) ⟨n,k,v⟩)
    (fun i hi=>by
     show nj s.Cells _ _ _=_
     obtain⟨q,g1,g2⟩:=KV s.Cells[i] ⟨n,k,v⟩ (hno _ (aV hi))
     rw[JL,an,al,ck hi,NE,g1,aa,aa,cF hi,ci hi (by omega)]
     dsimp only
     rw[g2])
    (by show nj s.Cells _ _ _=_;rw[JL,bo (by simp)])
   have e1':nj s.Cells (s.Cells.length:Int) 0 ⟨n,k,v⟩=some (j,⟨n,k,v⟩,()):=e1
   rw[Wd,e1',aa]
   dsimp only
   rw[eY s.Cells cj (fun x=>!dl x ⟨n,k,v⟩)]at e2
   have hins:∀ q:Int,q=(eO s.Cells ⟨n,k,v⟩:Int)→vY s.Cells q [⟨n,k,v⟩]=some (eM s.Cells (eO s.Cells ⟨n,k,v⟩) [⟨n,k,v⟩],()):=fun q hq=>by
    have:=GZ s.Cells ⟨n,k,v⟩
    subst hq
    rw[Wn]
    unfold oa
    rw[bn ⟨⟨by omega,by omega⟩,rfl,by omega⟩,af]
   by_cases c2:j<0
   ·have hz:(s.Cells.any fun x=>!dl x ⟨n,k,v⟩)=false:=by rw[← e2];exact ae (by omega)
    have hp:eO s.Cells ⟨n,k,v⟩=s.Cells.length:=by
     unfold eO
     rw[List.findIdx_eq_length]
     intro x hx
     have:=List.any_eq_false.1 hz x hx
     simpa using this
    rw[ak c2,hins _ (by rw[hp])];rfl
   ·have hp:(eO s.Cells ⟨n,k,v⟩:Int)=j:=xk (p:=fun x=>!dl x ⟨n,k,v⟩) (z:=cj) (by omega) e3 (e4 (by omega)).1 (e4 (by omega)).2
    rw[aj c2,hins _ hp.symm];rfl
 ·rw[an,bn h,bn h.1]
theorem Se(s:bF)(n:Int)(k:List Int)(v:bG)(hv:s.Vars.length≤100000)(hl:s.Cells.length≤100000) :
  z6 s n k v=some (match jf s.Cells n k v with | some C=>(⟨s.Vars,C,s.Nr,s.Err⟩,true,()) | none=>(s,false,())):=by
 rw[SU,pU hv hl,As s n k hl,aa,aa]
 dsimp only
 unfold jf
 rcases l5 s.Cells n k with ⟨h,hno⟩ | h
 ·rw[ap,bo (c:=0≤atV s.Cells n k) (by omega)]
  by_cases c:40≤s.Cells.length
  ·rw[an,bn c]
  ·rw[ap,bo c]
   have fin:∀ i:Nat,i≤s.Cells.length→(List.append (List.append (List.append [] (List.take ((i:Int).toNat-0) (List.drop 0 s.Cells))) [(bq.mk n k v)]) (List.take ((List.length s.Cells)-(i:Int).toNat) (List.drop (i:Int).toNat s.Cells)))=eM s.Cells i [⟨n,k,v⟩]:=fun i hi=>by
    unfold eM
    simp only[af,Nat.sub_zero,aM]
    rw[a8 (i:=s.Cells.length-i) (by rw[aQ];omega)]
    show([]++s.Cells.take i)++[(⟨n,k,v⟩:bq)]++s.Cells.drop i=_
    simp
   have key:∀ (d i:Nat),i+d=s.Cells.length→(∀ j,j<i→dl (s.Cells.getD j cj) ⟨n,k,v⟩=true)→ux n k (i:Int) s v lN s=some (⟨s.Vars,eM s.Cells (eO s.Cells ⟨n,k,v⟩) [⟨n,k,v⟩],s.Nr,s.Err⟩,true,()):=by
    intro d
    induction d with
    | zero =>
     intro i hi hj
     have hp:eO s.Cells ⟨n,k,v⟩=i:=by
      rw[show i=s.Cells.length by omega]
      unfold eO
      rw[List.findIdx_eq_length]
      intro x hx
      obtain⟨j,hj',rfl⟩:=bk.1 hx
      have:=hj j (by omega)
      rw[cF hj']at this
      rw[this];rfl
     rw[Hp,ap,al,bn (by rw[ch];simp;omega),bn (by rw[ch];simp;omega),al,bn (by rw[ch];simp;omega),fin i (by omega),hp]
    | succ d ih =>
     intro i hi hj
     have hi':i<s.Cells.length:=by omega
     rw[Hp,an,al,ck hi',HR,aa]
     dsimp only
     rw[show(decide (s.Cells[i].Name<n)||(decide (s.Cells[i].Name=n)&&ltS s.Cells[i].Key k))=dl s.Cells[i] ⟨n,k,v⟩from rfl]
     cases c3:dl s.Cells[i] ⟨n,k,v⟩ with
     | true =>
      rw[bn rfl,ci hi' (by omega)]
      refine ih (i+1) (by omega) fun j hji=>?_
      by_cases e:j=i
      ·subst e;rw[cF hi'];exact c3
      ·exact hj j (by omega)
     | false =>
      have hp:eO s.Cells ⟨n,k,v⟩=i:=by
       unfold eO
       rw[List.findIdx_eq hi']
       refine⟨by rw[c3];rfl,fun j hji=>?_⟩
       have:=hj j hji
       rw[cF (by omega)]at this
       rw[this];rfl
      rw[bo (by decide),al,bn (by rw[ch];simp;omega),bn (by rw[ch];simp;omega),al,bn (by rw[ch];simp;omega),fin i (by omega),hp]
   exact key s.Cells.length 0 (by omega) fun j hj=>absurd hj (by omega)
 ·rw[an,bn h,bn h.1]
def nF(l:List bq)(n:Int)(k:List Int):List bq:=if 0≤atV l n k then gK l (atV l n k).toNat ((atV l n k).toNat+1)else l
theorem CO(s:bF)(n:Int)(k:List Int)(hv:s.Vars.length≤100000)(hl:s.Cells.length≤100000):xv s n k=some (⟨s.Vars,nF s.Cells n k,s.Nr,s.Err⟩,())∧zZ s n k=some (⟨s.Vars,nF s.Cells n k,s.Nr,s.Err⟩,()):=by
 rw[NC,SS,pT hv hl,pU hv hl,xO s n k hl,As s n k hl]
 simp only[aa]
 unfold nF
 rcases l5 s.Cells n k with ⟨h,hno⟩ | h
 ·have h1:¬ decide (atV s.Cells n k≥0)=true:=by rw[ab];omega
  rw[bo h1,bo h1,bo (c:=0≤atV s.Cells n k) (by omega)];exact⟨rfl,rfl⟩
 ·have h1:decide (atV s.Cells n k≥0)=true:=ac (by omega)
  have hw:w64 (atV s.Cells n k+1)=atV s.Cells n k+1:=aq
  rw[bn h1,bn h1,bn h.1,hw]
  have e0:(atV s.Cells n k+1).toNat=(atV s.Cells n k).toNat+1:=by omega
  constructor
  ·rw[Wc]
   unfold nD
   rw[al,e0];rfl
  ·rw[al,bn (by rw[ch];simp;omega),al,bn (by rw[ch];simp;omega),e0]
   congr 3
   unfold gK
   rw[a8 (i:=s.Cells.length-((atV s.Cells n k).toNat+1)) (by rw[aQ];omega),Nat.sub_zero,aM]
   rfl
def CG(nc:Int)(l:List bq):Prop:=l.length≤40∧(∀ c∈l,0≤c.Name∧c.Name<nc∧c.Key.length≤300∧VG c.Val)∧l.Pairwise fun a b=>dl a b=true
theorem sQ{nc:Int}{l:List bq}(h:CG nc l)(n:Int)(k:List Int):VG (iW l n k):=by
 unfold iW
 split
 ·exact sr
 ·rcases l5 l n k with h1 | h1
  ·omega
  ·rw[cF (by omega)];exact(h.2.1 _ (aV _)).2.2.2
theorem Sc{nc:Int}{l l':List bq}(h:CG nc l){n:Int}{k:List Int}{v:bG}(hn:0≤n∧n<nc)(hk:k.length≤300)(hv:VG v)(e:jf l n k v=some l'):CG nc l':=by
 obtain⟨h1,h2,h3⟩:=h
 unfold jf at e
 by_cases c:0≤atV l n k
 ·rw[bn c]at e
  have e:=aN e
  have hb:(atV l n k).toNat<l.length:=by
   rcases l5 l n k with h | h <;> omega
  rw[cF hb]at e
  subst e
  refine⟨by rw[aX];exact h1,fun x hx=>?_,?_⟩
  ·rcases List.mem_or_eq_of_mem_set hx with hx | hx
   ·exact h2 x hx
   ·obtain⟨g1,g2,g3,g4⟩:=h2 _ (aV hb)
    rw[hx];exact⟨g1,g2,g3,hv⟩
  ·rw[List.pairwise_iff_getElem]at h3 ⊢
   intro i j hi hj hij
   rw[aX]at hi hj
   have hcong:∀ (q:Nat) (hq:q<l.length),((l.set (atV l n k).toNat ⟨l[(atV l n k).toNat].Name,l[(atV l n k).toNat].Key,v⟩)[q]'(by rw[aX];exact hq)).Name=l[q].Name∧((l.set (atV l n k).toNat ⟨l[(atV l n k).toNat].Name,l[(atV l n k).toNat].Key,v⟩)[q]'(by rw[aX];exact hq)).Key=l[q].Key:=fun q hq=>by
    rw[List.getElem_set]
    split
    ·rename_i hqe;subst hqe;exact⟨rfl,rfl⟩
    ·exact⟨rfl,rfl⟩
   have:=h3 i j hi hj hij
   unfold dl at this ⊢
   rw[(hcong i hi).1,(hcong i hi).2,(hcong j hj).1,(hcong j hj).2]
   exact this
 ·rw[bo c]at e
  by_cases d:40≤l.length
  ·rw[bn d]at e;cases e
  ·rw[bo d]at e
   have e:=aN e
   subst e
   have hp:=GZ l ⟨n,k,v⟩
   have hno:∀ x∈l,¬ (x.Name=n∧x.Key=k):=by
    rcases l5 l n k with h | h
    ·exact h.2
    ·omega
   refine⟨by rw[E6 hp];simp;omega,fun x hx=>?_,?_⟩
   ·unfold eM at hx
    rcases aA.1 hx with hx | hx
    ·exact h2 x (List.mem_of_mem_take hx)
    ·rcases aA.1 hx with hx | hx
     ·rw[aJ.1 hx];exact⟨hn.1,hn.2,hk,hv⟩
     ·exact h2 x (List.mem_of_mem_drop hx)
   ·unfold eM
    have hA:∀ x∈l.take (eO l ⟨n,k,v⟩),dl x ⟨n,k,v⟩=true:=fun x hx=>by
     obtain⟨i,hi,rfl⟩:=bk.1 hx
     rw[aP]at hi
     rw[List.getElem_take]
     have:=List.not_of_lt_findIdx (xs:=l) (p:=fun x=>!dl x ⟨n,k,v⟩) (i:=i) (by unfold eO at hi;omega)
     simpa using this
    have hB:∀ x∈l.drop (eO l ⟨n,k,v⟩),dl ⟨n,k,v⟩ x=true:=fun x hx=>by
     obtain⟨i,hi,rfl⟩:=bk.1 hx
     rw[aQ]at hi
     rw[List.getElem_drop]
     have hlt:eO l ⟨n,k,v⟩<l.length:=by omega
     have h0:dl l[eO l ⟨n,k,v⟩] ⟨n,k,v⟩=false:=by
      have h5:(!dl l[eO l ⟨n,k,v⟩] ⟨n,k,v⟩)=true:=List.findIdx_getElem (xs:=l) (p:=fun x=>!dl x ⟨n,k,v⟩) (w:=hlt)
      rwa [Bool.not_eq_true']at h5
     have h4:=Lm h0 (hno _ (aV hlt))
     by_cases e0:i=0
     ·subst e0;exact h4
     ·exact wO h4 (List.pairwise_iff_getElem.1 h3 _ _ hlt (by omega) (by omega))
    rw[List.pairwise_append]
    refine⟨h3.sublist (List.take_sublist _ _),?_,fun x hx y hy=>?_⟩
    ·show List.Pairwise _ ((⟨n,k,v⟩:bq)::l.drop _)
     rw[List.pairwise_cons]
     exact⟨hB,h3.sublist (List.drop_sublist _ _)⟩
    ·rcases aA.1 hy with hy | hy
     ·rw[aJ.1 hy];exact hA x hx
     ·exact wO (hA x hx) (hB y hy)
theorem Mg{nc:Int}{l:List bq}(h:CG nc l)(n:Int)(k:List Int):CG nc (nF l n k):=by
 unfold nF
 split
 ·have hs:(gK l (atV l n k).toNat ((atV l n k).toNat+1)).Sublist l:=by
   unfold gK
   have h1:(l.take (atV l n k).toNat++l.drop ((atV l n k).toNat+1)).Sublist (l.take (atV l n k).toNat++l.drop (atV l n k).toNat):=(List.Sublist.refl _).append (by rw[← List.drop_drop];exact List.drop_sublist _ _)
   rwa [List.take_append_drop]at h1
  exact⟨Nat.le_trans hs.length_le h.1,fun c hc=>h.2.1 c (hs.subset hc),h.2.2.sublist hs⟩
 ·exact h
mutual
def cB:bE→Nat
 | ⟨_,_,_,_,ks⟩=>1+cz ks
def cz:List bE→Nat
 | []=>0
 | k::ks=>cB k+cz ks
end
def wy(st:List Int)(nt:Bool):Prop:=st.Pairwise (· < ·)∧(93∈st→∃ a b,st=a++([92,93,94]++b))∧st≠[]∧(nt=true∨st≠[94])∧st.length≤256∧∀ b∈st,0≤b∧b≤255
mutual
def SG:bE→Prop
 | ⟨op,_,st,nt,ks⟩=>((op=3∧wy st nt)∨(op≠3∧st=[]∧nt=false))∧SGL ks
def SGL:List bE→Prop
 | []=>True
 | k::ks=>SG k∧SGL ks
end
theorem zw:∀ (l m:List bE),cz (l++m)=cz l+cz m
 | [],m=>by simp[cz]
 | k::l,m=>by rw[List.cons_append,cz,cz,zw l m];omega
theorem ww:∀ (l m:List bE),SGL (l++m)↔SGL l∧SGL m
 | [],m=>by simp[SGL]
 | k::l,m=>by rw[List.cons_append,SGL,SGL,ww l m,and_assoc]
theorem sn:∀ {l:List bE} {x:bE},SGL l→x∈l→SG x
 | k::l,x,h,hx=>by
  rw[SGL]at h
  rcases aK.1 hx with rfl | hx
  ·exact h.1
  ·exact sn h.2 hx
theorem qS:∀ {l:List bE} {x:bE},x∈l→cB x≤cz l
 | k::l,x,hx=>by
  rw[cz]
  rcases aK.1 hx with rfl | hx
  ·omega
  ·have:=qS hx;omega
theorem mE(x:bE):1≤cB x:=by obtain⟨a,b,c,d,ks⟩:=x;rw[cB];omega
theorem qQ:∀ (l:List bE),l.length≤cz l
 | []=>Nat.zero_le _
 | k::l=>by rw[cz,aR];have:=qQ l;have:=mE k;omega
theorem p8(n:Nat):∀ (f:List Bool) (j i:Nat),i<f.length→(ez f j n).getD i false=(decide (j≤i∧i<j+n)||f.getD i false):=by
 induction n with
 | zero=>intro f j i hi;rw[show decide (j≤i∧i<j+0)=false from ae (by omega)];rfl
 | succ n ih =>
  intro f j i hi
  unfold ez
  rw[ih _ _ _ (by rw[aX];exact hi)]
  by_cases h:j=i
  ·subst h
   rw[nK hi,Bool.or_true,show decide (j≤j∧j<j+(n+1))=true from ac (by omega),Bool.true_or]
  ·rw[List.getD_eq_getElem?_getD,List.getElem?_set_ne h,← List.getD_eq_getElem?_getD]
   congr 1
   exact decide_eq_decide.2 (by omega)
theorem U1(n:Nat):∀ (l:List Int) (f:List Bool) (b:Bool) (i:Nat),i<f.length→f.getD i false=true→(cT n l f b).1.getD i false=true:=by
 induction n with
 | zero=>intro l f b i hi h;exact h
 | succ n ih =>
  intro l f b i hi h
  have go:∀ (t:List Int) (j k:Nat) (b':Bool),(cT n t (ez f j k) b').1.getD i false=true:=fun t j k b' =>
   ih _ _ _ _ (by rw[iq];exact hi) (by rw[p8 _ _ _ _ hi,h,Bool.or_true])
  match l with
  | []=>exact h
  | [lo]=>exact go _ _ _ _
  | [lo,d]=>exact go _ _ _ _
  | lo::d::hi'::u =>
   show(if d=45 then _ else _:List Bool×Bool).1.getD i false=true
   split
   ·exact go _ _ _ _
   ·exact go _ _ _ _
theorem UZ(n:Nat):∀ (l:List Int) (f:List Bool),(cT n l f true).2=true:=by
 induction n with
 | zero=>intro l f;rfl
 | succ n ih =>
  intro l f
  match l with
  | []=>rfl
  | [lo]=>exact ih _ _
  | [lo,d]=>exact ih _ _
  | lo::d::hi'::u =>
   show(if d=45 then _ else _:List Bool×Bool).2=true
   split
   ·exact ih _ _
   ·exact ih _ _
theorem U0(n:Nat)(lo:Int)(t:List Int)(f:List Bool)(hf:f.length=256)(h0:0≤lo)(h1:lo≤255)(hb:(cT (n+1) (lo::t) f false).2=false):(cT (n+1) (lo::t) f false).1.getD lo.toNat false=true:=by
 have go:∀ (t:List Int) (k:Nat) (b':Bool),0<k→(cT n t (ez f lo.toNat k) b').1.getD lo.toNat false=true:=fun t k b' hk =>
  U1 n _ _ _ _ (by rw[iq];omega) (by rw[p8 _ _ _ _ (by omega),ac (by omega),Bool.true_or])
 match t,hb with
 | [],hb=>exact go _ _ _ (by omega)
 | [d],hb=>exact go _ _ _ (by omega)
 | d::hi::u,hb =>
  by_cases c:d=45
  ·subst c
   rw[vo]at hb ⊢
   by_cases c2:hi<lo
   ·rw[ac c2,Bool.or_true,UZ]at hb;cases hb
   ·exact go _ _ _ (by omega)
  ·rw[vt _ _ _ _ _ (fun hi' u' e=>c (aL e).1)]at hb ⊢
   exact go _ _ _ (by omega)
def Nb(f:List Bool):Prop:=f.getD 93 false=true→f.getD 92 false=true∧f.getD 94 false=true
theorem MC{f:List Bool}(hf:f.length=256)(h:Nb f){lo hi:Int}(h0:0≤lo)(h1:lo≠93)(h2:hi≠93):Nb (ez f lo.toNat (hi+1-lo).toNat):=by
 intro h3
 rw[p8 _ _ _ _ (by omega),aU,ab]at h3
 rw[p8 _ _ _ _ (by omega),p8 _ _ _ _ (by omega)]
 rcases h3 with h3 | h3
 ·rw[ac (by omega),ac (by omega)];exact⟨rfl,rfl⟩
 ·rw[(h h3).1,(h h3).2,Bool.or_true,Bool.or_true];exact⟨rfl,rfl⟩
theorem U2(n:Nat):∀ (l:List Int) (f:List Bool) (b:Bool),f.length=256→(∀ x∈l,0≤x∧x≠93)→Nb f→Nb (cT n l f b).1:=by
 induction n with
 | zero=>intro l f b hf hl h;exact h
 | succ n ih =>
  intro l f b hf hl h
  have go:∀ (lo hi:Int) (t:List Int) (b':Bool),lo∈l→hi∈l→(∀ x∈t,x∈l)→Nb (cT n t (ez f lo.toNat (hi+1-lo).toNat) b').1:=fun lo hi t b' h1 h2 h3 =>
   ih _ _ _ (by rw[iq];exact hf) (fun x hx=>hl x (h3 x hx)) (MC hf h (hl _ h1).1 (hl _ h1).2 (hl _ h2).2)
  match l with
  | []=>exact h
  | [lo]=>exact go lo lo _ _ (by simp) (by simp) (by simp)
  | [lo,d]=>exact go lo lo _ _ (by simp) (by simp) (by simp)
  | lo::d::hi'::u =>
   by_cases c:d=45
   ·subst c
    rw[vo]
    exact go lo hi' _ _ (by simp) (by simp) (fun x hx=>by simp[hx])
   ·rw[vt _ _ _ _ _ (fun hi'' u' e=>c (aL e).1)]
    exact go lo lo _ _ (by simp) (by simp) (fun x hx=>aE _ hx)
def marks(f:List Bool)(j n:Nat):List Int:=((List.range' j n).filter fun i=>f.getD i false).map Int.ofNat
theorem LJ(f:List Bool):∀ (n j:Nat) (t:List Int),j+n≤256→kz f j n t=t++marks f j n:=by
 intro n
 induction n with
 | zero=>intro j t h;show t=t++[];simp
 | succ n ih =>
  intro j t h
  unfold kz
  rw[ih _ _ (by omega)]
  unfold marks
  rw[List.range'_succ,List.filter_cons]
  split
  ·rw[bc,Be (by omega) (by omega),ah];rfl
  ·rfl
theorem marks_mem{f:List Bool}{j n:Nat}{x:Int}:x∈marks f j n ↔ ∃ i:Nat,x=i∧j≤i∧i<j+n∧f.getD i false=true:=by
 unfold marks
 rw[List.mem_map]
 constructor
 ·rintro ⟨i,hi,rfl⟩
  rw[List.mem_filter,List.mem_range'_1]at hi
  exact⟨i,rfl,hi.1.1,hi.1.2,hi.2⟩
 ·rintro ⟨i,rfl,h1,h2,h3⟩
  exact⟨i,List.mem_filter.2 ⟨List.mem_range'_1.2 ⟨h1,h2⟩,h3⟩,rfl⟩
theorem Gh(f:List Bool)(j n:Nat):(marks f j n).length≤n:=by
 unfold marks
 rw[bh]
 exact Nat.le_trans (List.length_filter_le ..) (by rw[List.length_range'];exact aG _)
theorem zq(f:List Bool)(j n:Nat):(marks f j n).Pairwise (· < ·):=by
 unfold marks
 rw[List.pairwise_map]
 exact((List.pairwise_lt_range' (s:=j) (n:=n)).filter _).imp fun h=>by show(_:Int)<_;exact Int.ofNat_lt.2 h
theorem zr(f:List Bool)(j n m:Nat):marks f j (n+m)=marks f j n++marks f (j+n) m:=by
 unfold marks
 rw[← List.range'_append_1,List.filter_append,List.map_append]
theorem UX{u:List Int}{nt:Bool}(hb:∀ b∈u,0≤b∧b≤255)(hn:nt=false→∀ v,u≠94::v)(hg:(fv u nt).2.bad=false):cB (fv u nt).1=1∧SG (fv u nt).1∧(fv u nt).2.s.length+2≤u.length:=by
 unfold fv at hg ⊢
 by_cases c:(cg u).length=u.length∨cg u=[]
 ·rw[bn c]at hg;cases hg
 ·rw[bo c]at hg ⊢
  have c1:¬ (cg u).length=u.length:=fun h=>c (.inl h)
  have c2:cg u≠[]:=fun h=>c (.inr h)
  have hl:=wG u
  have hl1:0<(cg u).length:=List.length_pos_iff.2 c2
  refine⟨rfl,?_,by rw[aQ];omega⟩
  rw[SG]
  refine⟨.inl ⟨rfl,?_⟩,trivial⟩
  rw[LJ _ _ _ _ (by omega),bg]
  have hbB:∀ x∈cg u,0≤x∧x≤255:=fun x hx=>hb x ((List.takeWhile_sublist _).subset hx)
  have h93:∀ x∈cg u,x≠93:=fun x hx=>by
   have:=List.all_eq_true.1 (List.all_takeWhile (p:=n93) (l:=u)) x hx
   unfold n93 at this
   simpa using this
  have hnb:=U2 (cg u).length (cg u) (List.replicate 256 false) false a7 (fun x hx=>⟨(hbB x hx).1,h93 x hx⟩) (fun h=>absurd h (by decide))
  obtain⟨lo,t,e⟩:=List.exists_cons_of_ne_nil c2
  have hfirst:(cT (cg u).length (cg u) (List.replicate 256 false) false).1.getD lo.toNat false=true:=by
   rw[e,aR]
   have hlo:=hbB lo (by rw[e];exact aD ..)
   refine U0 _ _ _ _ a7 hlo.1 hlo.2 ?_
   rw[e,aR]at hg
   exact hg
  generalize (cT (cg u).length (cg u) (List.replicate 256 false) false).1=f at hnb hfirst
  have hlo:=hbB lo (by rw[e];exact aD ..)
  have hlom:lo∈marks f 0 256:=marks_mem.2 ⟨lo.toNat,by omega,by omega,by omega,hfirst⟩
  refine⟨zq _ _ _,fun h=>?_,(fun h=>by rw[h]at hlom;cases hlom),?_,Gh _ _ _,fun b hb=>by obtain⟨i,rfl,h1,h2,_⟩:=marks_mem.1 hb;omega⟩
  ·obtain⟨i,e1,_,_,e2⟩:=marks_mem.1 h
   have:i=93:=by omega
   subst this
   have h2:=hnb e2
   refine⟨marks f 0 92,marks f 95 161,?_⟩
   rw[show 256=92+(3+161)from rfl,zr,zr]
   congr 1
   congr 1
   unfold marks
   simp only[List.range',List.filter_cons,h2.1,h2.2,e2,if_true]
   rfl
  ·cases nt with
   | true=>exact .inl rfl
   | false =>
    refine .inr fun h=>?_
    rw[h,aJ]at hlom
    subst hlom
    have:u=94::u.drop 1:=by
     match u,e with
     | a::u',e =>
      by_cases ha:a=93
      ·rw[ha,l6]at e;cases e
      ·rw[jr ha]at e;rw[(aL e).1];rfl
    exact hn rfl _ this
theorem Pi(s:List Int)(h:By s){x:bE}{r:bH}(e:nT ⟨s,false⟩=some (x,r,()))(hg:r.bad=false):cB x=1∧SG x∧r.s.length+2≤s.length:=by
 obtain⟨nt,k,e1,hk⟩:=A6 s
 have hu:By (s.drop k):=h.suf (List.drop_suffix _ _)
 have e2:=yh _ nt hu.1 hu.2 s e1
 rw[e2]at e
 obtain⟨rfl,rfl⟩:(fv (s.drop k) nt).1=x∧(fv (s.drop k) nt).2=r:=by
  have:=aN e
  exact⟨congrArg Prod.fst this,congrArg (fun z=>z.2.1) this⟩
 have h3:=UX hu.2 (fun hn v hv=>by
  rcases hk with ⟨h1,_⟩ | ⟨_,h2,h3⟩
  ·rw[hn]at h1;cases h1
  ·subst h2;exact h3 v hv) hg
 exact⟨h3.1,h3.2.1,by have:=h3.2.2;rw[aQ]at this;omega⟩
def GP(F:bH→Option (bE×bH×Unit))(s:List Int)(k:Nat):Prop :=
 ∀ x r,F ⟨s,false⟩=some (x,r,())→r.bad=false→cB x+2*r.s.length+2*k≤2*s.length+1∧SG x
theorem ff{α β:Type}{a a':α}{b b':β}(h:some (a,b,())=some (a',b',())):a=a'∧b=b':=by
 have:=aN h
 exact⟨congrArg Prod.fst this,congrArg (fun z=>z.2.1) this⟩
theorem lU{op c:Int}(h:op≠3):SG ⟨op,c,[],false,[]⟩:=by rw[SG];exact⟨.inr ⟨h,rfl,rfl⟩,trivial⟩
theorem Gu{op c:Int}{st:List Int}{nt:Bool}:cB ⟨op,c,st,nt,[]⟩=1:=rfl
theorem Oi(b:Int)(s:List Int)(h:By (b::s))(hp:GP gk s 0)(ht:dY gk s false 0):GP jH (b::s) 1:=by
 have hs:By s:=h.suf (List.suffix_cons b s)
 intro x r e hg
 rw[yb,fm,aa]at e
 dsimp only at e
 rw[bn (by simp;omega),mb]at e
 have leaf:∀ (y:bE) (bad:Bool),some (y,(⟨s,bad⟩:bH),())=some (x,r,())→(bad=false→cB y=1∧SG y)→cB x+2*r.s.length+2*1≤2*(b::s).length+1∧SG x:=fun y bad e1 h1=>by
  obtain⟨rfl,rfl⟩:=ff e1
  obtain⟨h2,h3⟩:=h1 hg
  rw[h2,aR]
  exact⟨by dsimp only;omega,h3⟩
 by_cases c1:b=40
 ·rw[ak c1]at e
  obtain⟨y,r1,f,f1,f2,f3,f4⟩:=ht
  have hp1:=hp y r1 f
  rw[f,aa]at e
  dsimp only at e
  rcases gW r1 with hr | ⟨a,t,hr⟩
  ·rw[gA hr,aa]at e;dsimp only at e
   rw[bn (by simp)]at e
   obtain⟨rfl,rfl⟩:=ff e
   cases hg
  ·subst hr
   by_cases ha:a=41
   ·subst ha
    rw[kc,aa]at e;dsimp only at e
    rw[bo (by simp)]at e
    obtain⟨rfl,rfl⟩:=ff e
    obtain⟨g1,g2⟩:=hp1 rfl
    refine⟨?_,g2⟩
    simp only[aR]at g1 ⊢;omega
   ·rw[j9 ha,aa]at e;dsimp only at e
    rw[bn (by simp)]at e
    obtain⟨rfl,rfl⟩:=ff e
    cases hg
 rw[aj c1]at e
 by_cases c2:b=46
 ·rw[ak c2]at e;exact leaf _ _ e fun _=>⟨rfl,lU (by decide)⟩
 rw[aj c2]at e
 by_cases c3:b=94
 ·rw[ak c3]at e;exact leaf _ _ e fun _=>⟨rfl,lU (by decide)⟩
 rw[aj c3]at e
 by_cases c4:b=36
 ·rw[ak c4]at e;exact leaf _ _ e fun _=>⟨rfl,lU (by decide)⟩
 rw[aj c4]at e
 by_cases c5:b=91
 ·rw[ak c5]at e
  obtain⟨y,r1,f,f1,f2⟩:=EO s hs
  have hp1:=Pi s hs f
  rw[f,aa]at e
  dsimp only at e
  obtain⟨rfl,rfl⟩:=ff e
  obtain⟨g1,g2,g3⟩:=hp1 hg
  refine⟨?_,g2⟩
  rw[g1,aR];omega
 rw[aj c5]at e
 by_cases c6:b=92
 ·rw[ak c6]at e
  cases s with
  | nil =>
   rw[eo (.inl rfl),aa]at e;dsimp only at e;rw[bn (by simp)]at e
   exact leaf _ _ e fun h=>by cases h
  | cons a t =>
   rw[fm,aa]at e;dsimp only at e
   rw[bo (by simp),bn (by simp;omega),pV]at e
   obtain⟨rfl,rfl⟩:=ff e
   exact⟨by rw[Gu];simp only[aR];omega,lU (by decide)⟩
 rw[aj c6]at e
 have l1:∀ (t:Bool),nR b t ⟨s,false⟩ cf=some (x,r,())→cB x+2*r.s.length+2*1≤2*(b::s).length+1∧SG x:=fun t e=>by
  rw[nS]at e
  cases t with
  | true=>rw[bn rfl]at e;exact leaf _ _ e fun h=>by cases h
  | false=>rw[bo (by simp)]at e;exact leaf _ _ e fun _=>⟨rfl,lU (by decide)⟩
 by_cases c7:b=42
 ·rw[ak c7]at e;exact l1 _ e
 rw[aj c7]at e
 by_cases c8:b=43
 ·rw[ak c8]at e;exact l1 _ e
 rw[aj c8]at e
 exact l1 _ e
theorem Kt{x:bE}{op:Int}(h:op≠3)(hx:SG x):SG ⟨op,0,[],false,[x]⟩:=by rw[SG,SGL,SGL];exact⟨.inr ⟨h,rfl,rfl⟩,hx,trivial⟩
theorem O1(z:bE):∀ (n:Nat) (r r':bH) (x y:bE),r.s.length≤n→kR r z x=some (y,r',())→r'.bad=false→SG x→cB y+2*r'.s.length≤cB x+2*r.s.length∧SG y:=by
 intro n
 induction n with
 | zero =>
  intro r r' x y hn e hg hx
  rw[jK,eo (.inl (aZ.1 (by omega))),aa]at e
  dsimp only at e
  rw[bn (by simp)]at e
  obtain⟨rfl,rfl⟩:=ff e
  exact⟨aG _,hx⟩
 | succ n ih =>
  intro r r' x y hn e hg hx
  rw[jK]at e
  rcases gW r with hr | ⟨b,s,rfl⟩
  ·rw[eo hr,aa]at e
   dsimp only at e
   rw[bn (by simp)]at e
   obtain⟨rfl,rfl⟩:=ff e
   exact⟨aG _,hx⟩
  ·obtain⟨v,e0,hv⟩:=uq b
   rw[fm,aa]at e
   dsimp only at e
   rw[bo (by simp),e0,aa]at e
   dsimp only at e
   by_cases c:v=0
   ·rw[ak c]at e
    obtain⟨rfl,rfl⟩:=ff e
    exact⟨aG _,hx⟩
   ·rw[aj c,bn (by simp;omega),aa]at e
    dsimp only at e
    rw[mb]at e
    obtain⟨g1,g2⟩:=ih ⟨s,false⟩ r' _ y (by simp at hn ⊢;omega) e hg (Kt (by rcases hv with h | h | h | h <;> omega) hx)
    refine⟨?_,g2⟩
    rw[cB,cz,cz]at g1
    simp only[aR]at g1 ⊢;omega
theorem O4(b:Int)(s:List Int)(h:GP jH (b::s) 1)(ht:dY jH (b::s) false 1):GP gn (b::s) 1:=by
 intro x r e hg
 obtain⟨y,r1,f,f1,f2,f3,f4⟩:=ht
 rw[yc,f,aa]at e
 have hb:r1.bad=false:=by
  obtain⟨y',r',q1,q2,q3⟩:=ED cf _ r1 y (aG _)
  rw[q1]at e
  obtain⟨rfl,rfl⟩:=ff e
  cases hb:r1.bad with
  | false=>rfl
  | true=>rw[q3 hb]at hg;cases hg
 obtain⟨g1,g2⟩:=h y r1 f hb
 obtain⟨g3,g4⟩:=O1 cf _ r1 r y x (aG _) e hg g2
 exact⟨by omega,g4⟩
theorem Dl{l:List bE}(hl:l.length=1):l=[l.getD 0 cf]:=by
 match l,hl with
 | [x],_=>rfl
theorem GG{l:List bE}(h:SGL l):cB (gx l)≤cz l+1∧SG (gx l):=by
 unfold gx
 by_cases c:l.length=0
 ·rw[bn c];exact⟨by rw[Gu];omega,lU (by decide)⟩
 ·rw[bo c]
  by_cases d:l.length=1
  ·rw[bn d]
   have e:=Dl d
   have e1:cz l=cB (l.getD 0 cf):=by rw[e,cz,cz];rfl
   exact⟨by omega,by rw[e,SGL]at h;exact h.1⟩
  ·rw[bo d];exact⟨by rw[cB];omega,by rw[SG];exact⟨.inr ⟨by decide,rfl,rfl⟩,h⟩⟩
theorem GK{l:List bE}(hl:1≤l.length)(h:SGL l):cB (fW l)≤cz l+1∧(2≤l.length∨cB (fW l)=cz l)∧SG (fW l):=by
 unfold fW
 by_cases d:l.length=1
 ·rw[bn d]
  have e:=Dl d
  have e1:cz l=cB (l.getD 0 cf):=by rw[e,cz,cz];rfl
  exact⟨by omega,.inr e1.symm,by rw[e,SGL]at h;exact h.1⟩
 ·rw[bo d];exact⟨by rw[cB];omega,.inl (by omega),by rw[SG];exact⟨.inr ⟨by decide,rfl,rfl⟩,h⟩⟩
theorem wC{a b:Bool}(h:a=true→b=true)(hb:b=false):a=false:=by
 cases a with
 | false=>rfl
 | true=>rw[h rfl]at hb;cases hb
theorem OY(z:bE)(N:Nat)(hp:∀ b s,(b::s).length≤N→By (b::s)→GP gn (b::s) 1)(S:Nat) :
  ∀ (n:Nat) (r r':bH) (l:List bE) (y:bE),r.s.length≤n→n≤N→By r.s→l.length+n≤60→kP l r z=some (y,r',())→r'.bad=false→SGL l→cz l+l.length+2*r.s.length≤2*S→cB y+2*r'.s.length≤2*S+1∧SG y:=by
 intro n
 induction n with
 | zero =>
  intro r r' l y hn hN hb hl e hg hx hs
  rw[jI,eo (.inl (aZ.1 (by omega))),aa]at e
  dsimp only at e
  rw[bn (by simp),d8]at e
  obtain⟨rfl,rfl⟩:=ff e
  obtain⟨g1,g3⟩:=GG hx
  exact⟨by omega,g3⟩
 | succ n ih =>
  intro r r' l y hn hN hb hl e hg hx hs
  rw[jI]at e
  have stop:∀ r,some (gx l,r,())=some (y,r',())→cz l+l.length+2*r.s.length≤2*S→cB y+2*r'.s.length≤2*S+1∧SG y:=fun r e hs=>by
   obtain⟨rfl,rfl⟩:=ff e
   obtain⟨g1,g3⟩:=GG hx
   exact⟨by omega,g3⟩
  rcases gW r with hr | ⟨b,s,rfl⟩
  ·rw[eo hr,aa]at e
   dsimp only at e
   rw[bn (by simp),d8]at e
   exact stop _ e hs
  ·rw[fm,aa]at e
   dsimp only at e
   rw[bo (by simp)]at e
   by_cases c1:b=124
   ·rw[ak c1,d8]at e;exact stop _ e hs
   rw[aj c1]at e
   by_cases c2:b=41
   ·rw[ak c2,d8]at e;exact stop _ e hs
   rw[aj c2]at e
   obtain⟨x1,r1,f,f1,f2,f3,f4⟩:=(kM _).1 b s (aG _) hb
   have g:=hp b s (by have:(b::s).length≤n+1:=hn;omega) hb x1 r1 f
   rw[f,aa]at e
   dsimp only at e
   rw[bn (by rw[ch];omega)]at e
   have hn':(b::s).length≤n+1:=hn
   have h2:r1.s.length≤n:=by omega
   have hll:(List.append l [x1]).length=l.length+1:=by show(l++[x1]).length=_;simp
   obtain⟨y2,r2,q1,q2,q3⟩:=GI z r1 (hb.suf f1) (List.append l [x1]) (by omega)
   rw[q1]at e
   obtain⟨rfl,rfl⟩:=ff e
   obtain⟨g1,g2⟩:=g (wC q3 hg)
   refine ih r1 r2 _ y2 h2 (by omega) (hb.suf f1) (by omega) q1 hg ((ww l [x1]).2 ⟨hx,by rw[SGL];exact⟨g2,trivial⟩⟩) ?_
   rw[hll,show cz (List.append l [x1])=cz l+(cB x1+0)from zw l [x1]]
   have hs':cz l+l.length+2*(b::s).length≤2*S:=hs
   omega
theorem OZ(z:bE)(N:Nat)(hp:∀ s,s.length≤N→By s→GP gP s 0)(S:Nat) :
  ∀ (n:Nat) (r r':bH) (l:List bE) (y:bE),r.s.length≤n→n≤N→By r.s→1≤l.length→l.length+n≤61→kQ l r z=some (y,r',())→r'.bad=false→SGL l→cz l+(l.length-1)+2*r.s.length≤2*S+1→cB y+2*r'.s.length≤2*S+1∧SG y:=by
 intro n
 induction n with
 | zero =>
  intro r r' l y hn hN hb h1 hl e hg hx hs
  rw[jJ,gA (.inl (aZ.1 (by omega))),aa]at e
  dsimp only at e
  rw[bo (by simp),fp]at e
  obtain⟨rfl,rfl⟩:=ff e
  obtain⟨g1,g2,g3⟩:=GK h1 hx
  exact⟨by omega,g3⟩
 | succ n ih =>
  intro r r' l y hn hN hb h1 hl e hg hx hs
  rw[jJ]at e
  have stop:∀ r,some (fW l,r,())=some (y,r',())→cz l+(l.length-1)+2*r.s.length≤2*S+1→cB y+2*r'.s.length≤2*S+1∧SG y:=fun r e hs=>by
   obtain⟨rfl,rfl⟩:=ff e
   obtain⟨g1,g2,g3⟩:=GK h1 hx
   exact⟨by omega,g3⟩
  rcases gW r with hr | ⟨b,s,rfl⟩
  ·rw[gA hr,aa]at e
   dsimp only at e
   rw[bo (by simp),fp]at e
   exact stop _ e hs
  ·by_cases c1:b=124
   ·subst c1
    rw[kc,aa]at e
    dsimp only at e
    have hbs:By s:=hb.suf (List.suffix_cons _ _)
    have hn':s.length≤n:=by have:(124::s).length≤n+1:=hn;simp only[aR]at this;omega
    obtain⟨x1,r1,f,f1,f2,f3,f4⟩:=(kM _).2 s false (aG _) hbs
    have g:=hp s (by omega) hbs x1 r1 f
    rw[bn rfl,f,aa]at e
    dsimp only at e
    rw[bn (by rw[ch];omega)]at e
    have hll:(List.append l [x1]).length=l.length+1:=by show(l++[x1]).length=_;simp
    obtain⟨y2,r2,q1,q2,q3⟩:=ui z r1 (hbs.suf f1) (List.append l [x1]) (by omega)
    rw[q1]at e
    obtain⟨rfl,rfl⟩:=ff e
    obtain⟨g1,g2⟩:=g (wC q3 hg)
    refine ih r1 r2 _ y2 (by omega) (by omega) (hbs.suf f1) (by omega) (by omega) q1 hg ((ww l [x1]).2 ⟨hx,by rw[SGL];exact⟨g2,trivial⟩⟩) ?_
    rw[hll,show cz (List.append l [x1])=cz l+(cB x1+0)from zw l [x1]]
    have hs':cz l+(l.length-1)+2*(s.length+1)≤2*S+1:=hs
    omega
   ·rw[j9 c1,aa]at e
    dsimp only at e
    rw[bo (by simp),fp]at e
    exact stop _ e hs
theorem EA(N:Nat)(hp:∀ b s,(b::s).length≤N→By (b::s)→GP gn (b::s) 1)(s:List Int)(h:s.length≤N)(hs:By s):GP gP s 0:=by
 intro x r e hg
 rw[qw]at e
 obtain⟨g1,g2⟩:=OY cf N hp s.length s.length ⟨s,false⟩ r [] x (aG _) h hs (by have:=hs.1;simp;omega) e hg trivial (by simp[cz])
 exact⟨by omega,g2⟩
theorem EC(N:Nat)(hp:∀ s,s.length≤N→By s→GP gP s 0)(s:List Int)(h:s.length≤N)(hs:By s):GP gk s 0:=by
 intro x r e hg
 have h60:=hs.1
 obtain⟨x1,r1,f,f1,f2,f3,f4⟩:=(kM _).2 s false (aG _) hs
 rw[tu,f,aa]at e
 dsimp only at e
 obtain⟨y2,r2,q1,q2,q3⟩:=ui cf r1 (hs.suf f1) [x1] (by simp;omega)
 rw[q1]at e
 obtain⟨rfl,rfl⟩:=ff e
 obtain⟨g1,g2⟩:=hp s h hs x1 r1 f (wC q3 hg)
 obtain⟨g3,g4⟩:=OZ cf N hp s.length r1.s.length r1 r2 [x1] y2 (aG _) (by omega) (hs.suf f1) (aG _) (by simp;omega) q1 hg (by rw[SGL];exact⟨g2,trivial⟩) (by rw[cz,cz];simp;omega)
 exact⟨by omega,g4⟩
theorem O0:∀ (n:Nat) (s:List Int),s.length≤n→By s→GP gk s 0:=by
 intro n
 induction n with
 | zero =>
  intro s hn hs
  exact EC 0 (fun s h hs=>EA 0 (fun b s h=>by simp at h) s h hs) s hn hs
 | succ n ih =>
  intro s hn hs
  have hpiece:∀ b s,(b::s).length≤n+1→By (b::s)→GP gn (b::s) 1:=fun b s h hs=>by
   have hs':By s:=hs.suf (List.suffix_cons _ _)
   have ht:=qC _ s false (aG _) hs'
   exact O4 b s (Oi b s hs (ih s (by simpa using h) hs') ht) (tg b s hs ht)
  exact EC (n+1) (fun s h hs=>EA (n+1) hpiece s h hs) s hn hs
theorem Sx(S:List Int)(hB:∀ b∈S,0≤b∧b≤255)(hl:S.length≤9223372036854775807):∃ x ok,mQ S=some (x,ok,())∧nP S=some (x,ok,())∧cB x≤121∧SG x∧Small x∧∃ v,v≤12∧jj x=some (v,())∧iY x=some (v,()):=by
 obtain⟨x,ok,e1,e2⟩:=He S hB hl
 refine⟨x,ok,e1,e2,?_⟩
 have hz:cB cf≤121∧SG cf∧Small cf:=⟨by decide,lU (by decide),rH rfl⟩
 have hzd:∃ v,v≤12∧jj cf=some (v,())∧iY cf=some (v,()):=by
  obtain⟨v,d1,d2⟩:=wZ hz.2.2
  refine⟨v,?_,d1,d2⟩
  rw[H9,AJ,bo (by decide)]at d1
  have:=congrArg Prod.fst (aN d1)
  revert this
  show(w64 (0+1)=v→v≤12)
  rw[aq];omega
 rw[Ea]at e2
 by_cases c:(S.length:Int)>60
 ·rw[ak c]at e2
  have:=congrArg Prod.fst (aN e2)
  dsimp only at this
  rw[← this];exact⟨hz.1,hz.2.1,hz.2.2,hzd⟩
 have n1:¬ (decide ((S.length:Int)>60)=true):=by rw[ab];exact c
 have hS:By S:=⟨by omega,hB⟩
 obtain⟨y,r,g,g1,g2,g3,g4⟩:=qC _ S false (aG _) hS
 have gg:=O0 _ S (aG _) hS y r g
 rw[bo n1,g,aa]at e2
 dsimp only at e2
 have zz:∀ ok',some (cf,ok',())=some (x,ok,())→cB x≤121∧SG x∧Small x∧∃ v,v≤12∧jj x=some (v,())∧iY x=some (v,()):=fun ok' h=>by
  have:=congrArg Prod.fst (aN h)
  dsimp only at this
  rw[← this];exact⟨hz.1,hz.2.1,hz.2.2,hzd⟩
 by_cases c1:r.bad=true
 ·rw[bn c1]at e2;exact zz _ e2
 rw[bo c1]at e2
 by_cases c2:(!(decide (r.s=[])))=true
 ·rw[bn c2]at e2;exact zz _ e2
 obtain⟨v,d1,d2⟩:=wZ g4
 rw[bo c2,d2,aa]at e2
 dsimp only at e2
 by_cases hv:v>12
 ·rw[ak hv]at e2;exact zz _ e2
 ·rw[aj hv]at e2
  have:=congrArg Prod.fst (aN e2)
  dsimp only at this
  subst this
  obtain⟨h1,h2⟩:=gg (by simpa using c1)
  exact⟨by have:=hS.1;omega,h2,g4,v,by omega,d1,d2⟩
theorem yu(t:List Int):∀ l:List Int,0≤cE l t↔t <:+: l
 | []=>by
  unfold cE
  cases t with
  | nil=>simp
  | cons a t=>simp
 | b::l=>by
  have ih:=yu t l
  have hb:=kX l t
  unfold cE
  rw[List.infix_cons_iff]
  by_cases c:t.isPrefixOf (b::l)=true
  ·rw[bn c];exact⟨fun _=>.inl (List.isPrefixOf_iff_prefix.1 c),fun _=>Int.le_refl _⟩
  ·rw[bo c]
   have c':¬ t <+: b::l:=fun h=>c (List.isPrefixOf_iff_prefix.2 h)
   by_cases d:cE l t = -1
   ·rw[bn d]
    exact⟨fun h=>by omega,fun h=>by rcases h with h | h;exact absurd h c';exact absurd (ih.2 h) (by omega)⟩
   ·rw[bo d]
    exact⟨fun h=>.inr (ih.1 (by omega)),fun h=>by rcases h with h | h;exact absurd h c';have:=ih.2 h;omega⟩
theorem wU(l t:List Int)(h:l.length≤1000000):rT l t=some (decide (t <:+: l),()):=by
 rw[Wq,Bw,al,aa]
 dsimp only
 congr 2
 exact decide_eq_decide.2 (yu t l)
mutual
def dp:bE→Nat
 | ⟨_,_,_,_,ks⟩=>1+dpL ks
def dpL:List bE→Nat
 | []=>0
 | k::ks=>max (dp k) (dpL ks)
end
theorem xa(x:bE):dp x=1+dpL x.Kids:=by obtain⟨a,b,c,d,ks⟩:=x;rw[dp]
theorem qR(x:bE):cB x=1+cz x.Kids:=by obtain⟨a,b,c,d,ks⟩:=x;rw[cB]
theorem wx(x:bE):SG x↔((x.Op=3∧wy x.Set x.Not)∨(x.Op≠3∧x.Set=[]∧x.Not=false))∧SGL x.Kids:=by obtain⟨a,b,c,d,ks⟩:=x;rw[SG]
theorem w9:∀ {l:List bE} {x:bE},x∈l→dp x≤dpL l
 | k::l,x,hx=>by
  rw[dpL]
  rcases aK.1 hx with rfl | hx
  ·omega
  ·have:=w9 hx;omega
theorem Me:∀ (n:Nat) (x:bE),cB x≤n→n≤1000000→iY x=some ((dp x:Int),()):=by
 intro n
 induction n with
 | zero=>intro x h;have:=mE x;omega
 | succ n ih =>
  intro x h hn
  rw[qR]at h
  have hlen:=qQ x.Kids
  have hdp:∀ l:List bE,dpL l≤cz l:=fun l=>by
   have:∀ (m:Nat),(∀ x:bE,cB x≤m→dp x≤cB x)∧∀ l:List bE,cz l≤m→dpL l≤cz l:=by
    intro m
    induction m with
    | zero=>exact⟨fun x h=>by have:=mE x;omega,fun l h=>by cases l with | nil=>exact aG _ | cons k l=>rw[cz]at h;have:=mE k;omega⟩
    | succ m ihm =>
     have h1:∀ x:bE,cB x≤m+1→dp x≤cB x:=fun x h=>by
      rw[qR]at h ⊢;rw[xa];have:=ihm.2 x.Kids (by omega);omega
     refine⟨h1,fun l=>?_⟩
     induction l with
     | nil=>intro h;exact aG _
     | cons k l ihl=>intro h;rw[cz]at h;rw[cz,dpL];have:=h1 k (by omega);have:=ihl (by omega);omega
   exact(this _).2 l (aG _)
  have key:∀ (d i:Nat) (t:Nat),i+d=x.Kids.length→t≤1000000→qv (t:Int) x.Kids (x.Kids.length:Int) (i:Int)=some (((max t (dpL (x.Kids.drop i))+1:Nat):Int),()):=by
   intro d
   induction d with
   | zero =>
    intro i t hi ht
    rw[tt,ap,aW (by omega),dpL,aq]
    congr 2;omega
   | succ d ihd =>
    intro i t hi ht
    have hi':i<x.Kids.length:=by omega
    have hm:=aV hi'
    have hk:=qS hm
    have h1:=ih x.Kids[i] (by omega) (by omega)
    have h2:=w9 hm
    have h3:=hdp x.Kids
    rw[tt,an,al,ck hi',h1,aa]
    dsimp only
    rw[ci hi' (by omega),show mxI (t:Int) (dp x.Kids[i]:Int)=((max t (dp x.Kids[i]):Nat):Int) by rw[Gp];split <;> omega,ihd (i+1) _ (by omega) (by omega),ai hi',dpL]
    congr 3;omega
  rw[EH,xa]
  have:=key x.Kids.length 0 0 (by omega) (by omega)
  rw[aM]at this
  rw[show(0:Int)=((0:Nat):Int)from rfl,this]
  congr 2;omega
def mD(x:bE):Bool :=
 if x.Op=1 then decide (0≤x.C∧x.C≤255)&&decide (x.Kids.length=0)
 else if x.Op=2∨x.Op=3∨x.Op=4∨x.Op=5∨x.Op=11 then decide (x.C=0)&&decide (x.Kids.length=0)
 else if x.Op=6∨x.Op=7 then decide (x.C=0)&&decide (2≤x.Kids.length)
 else if x.Op=8∨x.Op=9∨x.Op=10 then decide (x.C=0)&&decide (x.Kids.length=1)
 else false
mutual
def rx:bE→Bool
 | ⟨a,b,c,d,ks⟩=>mD ⟨a,b,c,d,ks⟩&&rxL ks
def rxL:List bE→Bool
 | []=>true
 | k::ks=>rx k&&rxL ks
end
theorem zY(x:bE):rx x=(mD x&&rxL x.Kids):=by obtain⟨a,b,c,d,ks⟩:=x;rw[rx]
theorem zX:∀ l:List bE,rxL l = !l.any fun x=>!rx x
 | []=>rfl
 | k::l=>by rw[rxL,zX l,List.any_cons];cases rx k <;> simp
theorem Jk{st:List Int}(h:st.Pairwise (· < ·)){i:Nat}(h0:0<i)(h1:i<st.length):st[i-1]<st[i] :=
 List.pairwise_iff_getElem.1 h (i-1) i (by omega) h1 (by omega)
theorem UU{st:List Int}(h:st.Pairwise (· < ·))(hl:st.length≤256):AO st=some (true,()):=by
 have key:∀ (d i:Nat),i+d=st.length→0<i→vh st (i:Int)=some (true,()):=by
  intro d
  induction d with
  | zero=>intro i hi h0;rw[AP,ap]
  | succ d ih =>
   intro i hi h0
   have hi':i<st.length:=by omega
   have:=Jk h h0 hi'
   have w:w64 ((i:Int)-1)=((i-1:Nat):Int):=by rw[aq];omega
   rw[AP,an,w,al,al,ck hi',ck (by omega),ap,ci hi' (by omega)]
   exact ih (i+1) (by omega) (by omega)
 rw[Ux]
 by_cases c:st.length=0
 ·rw[AP,ap]
 ·exact key (st.length-1) 1 (by omega) (by omega)
theorem Ph{x:bE}(h:wy x.Set x.Not):yg x=some (true,()):=by
 obtain⟨h1,h2,h3,h4,h5,h6⟩:=h
 have key:∀ (d i:Nat),i+d=x.Set.length→qA (x.Set.length:Int) (i:Int) x=some (true,()):=by
  intro d
  induction d with
  | zero =>
   intro i hi
   rw[EN,ap,wU _ _ (by omega),wU _ _ (by omega),aa,aa]
   dsimp only
   have fin:(if(!(decide (x.Set=[])))=true then(if x.Not=true then some (true,())else some ((!(decide (x.Set=[94]))),()))else some (false,()))=some (true,()):=by
    rw[bn (by simp[h3])]
    rcases h4 with h4 | h4
    ·rw[bn h4]
    ·cases x.Not with
     | true=>rfl
     | false=>rw[bo (by decide),ae h4];rfl
   by_cases c:[93] <:+: x.Set
   ·rw[ak c]
    obtain⟨a,b,e⟩:=h2 (List.singleton_sublist.1 (List.IsInfix.sublist c))
    rw[ac (p:=[92,93,94] <:+: x.Set) ⟨a,b,by rw[e,ah]⟩,bo (by decide)]
    exact fin
   ·rw[aj c]
    exact fin
  | succ d ih =>
   intro i hi
   have hi':i<x.Set.length:=by omega
   rw[EN,an,ci hi' (by omega)]
   by_cases c:0<i
   ·have:=Jk h1 c hi'
    have w:w64 ((i:Int)-1)=((i-1:Nat):Int):=by rw[aq];omega
    rw[an,w,al,al,ck hi',ck (by omega),ap]
    exact ih (i+1) (by omega)
   ·rw[ap]
    exact ih (i+1) (by omega)
 rw[Pg]
 exact key x.Set.length 0 (by omega)
theorem Sv(l:List bE)(d:Int)(hl:l.length≤4294967296)(h:∀ x∈l,qy x (w64 (d-1))=some (rx x,())):vX l d=some (!rxL l,d,()):=by
 rw[V5,Wg]
 obtain⟨k,e1,e2,_⟩:=iz (fun i=>nl l (l.length:Int) i d) (d,()) l.length (fun i=>!rx (l.getD i cf))
  (fun i hi=>by
   show nl l _ _ d=_
   rw[JR,an,al,ck hi,Pa,h _ (aV hi),aa,aa,ci hi (by omega),cF hi])
  (by show nl l _ _ d=_;rw[JR,bo (by simp)])
 have e1':nl l (l.length:Int) 0 d=some (k,d,()):=e1
 rw[e1',aa]
 dsimp only
 rw[e2,eY l cf (fun x=>!rx x),zX,Bool.not_not]
theorem Pd:∀ (n:Nat) (x:bE),cB x≤n→n≤1000000→SG x→∀ d:Int,(dp x:Int)≤d→d≤12→qy x d=some (rx x,()):=by
 intro n
 induction n with
 | zero=>intro x h;have:=mE x;omega
 | succ n ih =>
  intro x h hn hs d hd hd2
  rw[qR]at h
  rw[xa]at hd
  have hlen:=qQ x.Kids
  obtain⟨hs1,hs2⟩:=(wx x).1 hs
  have hk:vX x.Kids d=some (!rxL x.Kids,d,()):=Sv _ d (by omega) fun y hy=>by
   have h1:=qS hy
   have h2:=w9 hy
   exact ih y (by omega) (by omega) (sn hs2 hy) _ (by rw[aq];omega) (by rw[aq];omega)
  have hL1:∀ b:Bool,em b x d=some (b&&rxL x.Kids,()):=fun b=>by
   rw[Pb,hk,aa]
   cases b with
   | true=>rw[bn rfl,Bool.not_not,Bool.true_and]
   | false=>rw[bo (by decide),Bool.false_and]
  rw[Pc,ap,zY]
  rw[eL]
  have e0:decide ((List.length x.Kids:Int)=0)=decide (x.Kids.length=0):=decide_eq_decide.2 (by omega)
  have e1:decide ((List.length x.Kids:Int)=1)=decide (x.Kids.length=1):=decide_eq_decide.2 (by omega)
  have e2:decide ((List.length x.Kids:Int)>1)=decide (2≤x.Kids.length):=decide_eq_decide.2 (by omega)
  unfold mD
  rcases hs1 with ⟨h3,hset⟩ | ⟨h3,hst,hnt⟩
  ·have hsr:=Ph hset
   by_cases hc:x.C=0
   ·simp[h3,hc,iy,hsr,hL1,e0]
   ·simp[h3,hc]
  ·by_cases c1:x.Op=1
   ·simp only[c1,hst,hnt,aa,decide_true,Bool.not_true,Bool.not_false,decide_false,if_true,Bool.false_eq_true,if_false,hL1,e0,(by decide:decide ((1:Int)=3)=false)]
    by_cases hc:0≤x.C∧x.C≤255
    ·simp[hc]
    ·simp[hc]
   ·by_cases hc:x.C=0
    ·by_cases c2:x.Op=2
     ·simp[c2,hc,hst,hnt,iy,hL1,e0]
     by_cases c4:x.Op=4
     ·simp[c4,hc,hst,hnt,iy,hL1,e0]
     by_cases c5:x.Op=5
     ·simp[c5,hc,hst,hnt,iy,hL1,e0]
     by_cases c11:x.Op=11
     ·simp[c11,hc,hst,hnt,iy,hL1,e0]
     by_cases c6:x.Op=6
     ·simp[c6,hc,hst,hnt,iy,nV,hL1,e2]
     by_cases c7:x.Op=7
     ·simp[c7,hc,hst,hnt,iy,nV,hL1,e2]
     by_cases c8:x.Op=8
     ·simp[c8,hc,hst,hnt,iy,nV,hL1,e1]
     by_cases c9:x.Op=9
     ·simp[c9,hc,hst,hnt,iy,nV,hL1,e1]
     by_cases c10:x.Op=10
     ·simp[c10,hc,hst,hnt,iy,nV,hL1,e1]
     simp[c1,h3,c2,c4,c5,c6,c7,c8,c9,c10,c11,hc,hst,hnt,iy,nV,hL1]
    ·simp[c1,hc]
theorem Ut:∀ (n:Nat) (x:bE),cB x≤n→n≤1000000→SG x→u7 x=some (rx x,()):=by
 intro n
 induction n with
 | zero=>intro x h;have:=mE x;omega
 | succ n ih =>
  intro x h hn hs
  rw[qR]at h
  have hlen:=qQ x.Kids
  obtain⟨hs1,hs2⟩:=(wx x).1 hs
  have key:∀ (d i:Nat),i+d=x.Kids.length→u9 (i:Int) x=some (mD x&&rxL (x.Kids.drop i),()):=by
   intro d
   induction d with
   | zero =>
    intro i hi
    rw[Ia,ap,aW (by omega),rxL,Bool.and_true,dN]
    have e0:decide ((List.length x.Kids:Int)=0)=decide (x.Kids.length=0):=decide_eq_decide.2 (by omega)
    have e1:decide ((List.length x.Kids:Int)=1)=decide (x.Kids.length=1):=decide_eq_decide.2 (by omega)
    have e2:decide ((List.length x.Kids:Int)≥2)=decide (2≤x.Kids.length):=decide_eq_decide.2 (by omega)
    unfold mD
    rcases hs1 with ⟨h3,hset⟩ | ⟨h3,hst,hnt⟩
    ·have hsr:=UU hset.1 hset.2.2.2.2.1
     have hne:=hset.2.2.1
     by_cases hc:x.C=0
     ·simp[h3,hc,hsr,hne,e0]
     ·simp[h3,hc]
    ·by_cases c1:x.Op=1
     ·by_cases hc:0≤x.C∧x.C≤255
      ·simp[c1,hst,hnt,hc,e0]
      ·simp[c1,hst,hnt,hc,e0]
     ·have hin:dE x.Op 2 11=some (decide (2≤x.Op∧x.Op≤11),()):=dN ..
      by_cases hc:x.C=0
      ·by_cases c2:x.Op=2
       ·simp[c2,hc,hst,hnt,iH,j3,e0,dN]
       by_cases c4:x.Op=4
       ·simp[c4,hc,hst,hnt,iH,j3,e0,dN]
       by_cases c5:x.Op=5
       ·simp[c5,hc,hst,hnt,iH,j3,e0,dN]
       by_cases c11:x.Op=11
       ·simp[c11,hc,hst,hnt,iH,j3,e0,dN]
       by_cases c6:x.Op=6
       ·simp[c6,hc,hst,hnt,iH,e2]
       by_cases c7:x.Op=7
       ·simp[c7,hc,hst,hnt,iH,e2]
       by_cases c8:x.Op=8
       ·simp[c8,hc,hst,hnt,iH,j3,e1]
       by_cases c9:x.Op=9
       ·simp[c9,hc,hst,hnt,iH,j3,e1]
       by_cases c10:x.Op=10
       ·simp[c10,hc,hst,hnt,iH,j3,e1]
       have hno:¬ (2≤x.Op∧x.Op≤11):=by omega
       simp[c1,h3,c2,c4,c5,c6,c7,c8,c9,c10,c11,iH,j3,dN,hno]
      ·simp only[c1,h3,decide_false,Bool.false_eq_true,if_false,iH,j3,dN,hc,aa,Bool.false_and]
       simp
   | succ d ihd =>
    intro i hi
    have hi':i<x.Kids.length:=by omega
    have hm:=aV hi'
    have hk:=qS hm
    rw[Ia,an,al,ck hi',ih _ (by omega) (by omega) (sn hs2 hm),aa]
    dsimp only
    rw[ci hi' (by omega),ihd (i+1) (by omega),ai hi',rxL]
    cases rx x.Kids[i] with
    | true=>rw[bo (by decide),Bool.true_and]
    | false=>rw[bn (by decide),Bool.false_and,Bool.and_false]
  rw[Us,zY]
  have:=key x.Kids.length 0 (by omega)
  rwa [aM]at this
theorem Sw{x:bE}(hn:cB x≤121)(hs:SG x)(hd:∃ v,v≤12∧jj x=some (v,())∧iY x=some (v,())):xK x=some (rx x,())∧Ap x=some (rx x,()):=by
 obtain⟨v,hv,e1,e2⟩:=hd
 have e3:=Me 121 x hn (by decide)
 rw[e2]at e3
 have e4:=congrArg Prod.fst (aN e3)
 dsimp only at e4
 constructor
 ·rw[Oa,Pd 121 x hn (by decide) hs 12 (by omega) (by omega)];rfl
 ·rw[Tx,e1,aa]
  dsimp only
  rw[ak hv,Ut 121 x hn (by decide) hs];rfl
end Go.Proofs.YthgknhkeifcflaaGreatDoor.E.TD
