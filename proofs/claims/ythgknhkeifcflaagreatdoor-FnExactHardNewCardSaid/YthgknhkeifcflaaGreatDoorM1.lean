/- What the pure statement needs (1). No condition. -/
import Derived.Test.YthgknhkeifcflaaGreatDoorEG4
import Derived.Laws.BitsLemmas
import Derived.Test.YthgknhkeifcflaaGreatDoorTGe1
import Derived.Test.YthgknhkeifcflaaGreatDoorTGe2
import Derived.Test.YthgknhkeifcflaaGreatDoorTGe3
namespace Go.Proofs.YthgknhkeifcflaaGreatDoor.E
set_option linter.unusedVariables false
theorem aa{α β:Type _}(a:α)(f:α→Option β):(some a).bind f=f a:=rfl
theorem ab{p:Prop}[Decidable p]:(decide p=true)=p:=decide_eq_true_eq
theorem ac{p:Prop}[Decidable p](a:p):decide p=true:=decide_eq_true a
theorem ae{p:Prop}[Decidable p](a:¬p):decide p=false:=decide_eq_false a
theorem af(n:Nat):((n:Int)).toNat=n:=Int.toNat_natCast n
theorem ag{α:Type _}{x y:List α}:(x++y).length=x.length+y.length:=List.length_append
theorem ah{α:Type _}(x y z:List α):x++y++z=x++(y++z):=List.append_assoc x y z
theorem ai{α:Type _}{i:Nat}{l:List α}(h:i<l.length):l.drop i=l[i]::l.drop (i+1):=List.drop_eq_getElem_cons h
theorem aj{α:Sort _}{p:Prop}[Decidable p]{a b:α}(h:¬p):(if decide p=true then a else b)=b:=if_neg (by rw[decide_eq_true_eq];exact h)
theorem ak{α:Sort _}{p:Prop}[Decidable p]{a b:α}(h:p):(if decide p=true then a else b)=a:=if_pos (decide_eq_true h)
theorem al{α:Sort _}{c:Prop}[Decidable c]{a b:α}(h:c:=by omega):(if c then a else b)=a:=if_pos h
theorem am{α:Sort _}{c:Prop}[Decidable c]{a b:α}(h:¬c:=by omega):(if c then a else b)=b:=if_neg h
theorem an{α:Sort _}{p:Prop}[Decidable p]{a b:α}(h:p:=by omega):(if decide p=true then a else b)=a:=if_pos (decide_eq_true h)
theorem ap{α:Sort _}{p:Prop}[Decidable p]{a b:α}(h:¬p:=by omega):(if decide p=true then a else b)=b:=if_neg (by rw[decide_eq_true_eq];exact h)
theorem bV{n:Int}(h:-9223372036854775808≤n)(h':n≤9223372036854775807):w64 n=n:=by
 show IntKind.i64.wrap n=n
 rw[IntKind.wrap_i64];omega
theorem aq{n:Int}(h:-9223372036854775808≤n:=by omega)(h':n≤9223372036854775807:=by omega):w64 n=n:=bV h h'
theorem Ag{n:Int}(h:0≤n)(h':n≤255):w8 n=n:=by
 show IntKind.u8.wrap n=n
 rw[IntKind.wrap_u8];omega
theorem Ts(n:Int):0≤w8 n∧w8 n≤255:=by
 show 0≤IntKind.u8.wrap n∧IntKind.u8.wrap n≤255
 rw[IntKind.wrap_u8];omega
theorem ci{i:Nat}{n:Nat}(h:i<n)(hn:n≤9223372036854775807):w64 ((i:Int)+1)=((i+1:Nat):Int):=by
 rw[aq];omega
theorem cg:room=4294967296:=rfl
theorem AW{ρ:Type}(a:Option ρ):amb a a=a:=by unfold amb;rw[bm rfl]
theorem cG{α:Type}{l:List α}{i:Nat}(h:i<l.length)(z:α):l.getD i z=l[i]:=by
 rw[List.getD_eq_getElem?_getD,List.getElem?_eq_getElem h];rfl
theorem cl{α:Type}{l:List α}{i:Nat}(h:i<l.length)(z:α):l.getD (i:Int).toNat z=l[i]:=by
 rw[af];exact cG h z
theorem HI{α β:Type}(L:List β→Int→Option (List β×Unit))(f:α→β)(l:List α)
  (step:∀ (acc:List β) (i:Nat) (h:i<l.length),acc.length=l.length→L acc i=L (acc.set i (f l[i])) ((i+1:Nat):Int))
  (stop:∀ acc:List β,acc.length=l.length→L acc (l.length:Int)=some (acc,())) (acc:List β) (ha:acc.length=l.length):L acc 0=some (l.map f,()):=by
 have key:∀ (d i:Nat) (acc:List β),acc.length=l.length→i+d=l.length→(∀ j (hj:j<i) (h:j<l.length),acc[j]? = some (f l[j]))→L acc (i:Int)=some (l.map f,()):=by
  intro d
  induction d with
  | zero =>
   intro i acc ha hd hj
   have hi:i=l.length:=by omega
   subst hi
   rw[stop acc ha]
   congr 2
   apply List.ext_getElem?
   intro j
   by_cases h:j<l.length
   ·rw[hj j h h,List.getElem?_map,List.getElem?_eq_getElem h];rfl
   ·rw[List.getElem?_eq_none (by omega),List.getElem?_eq_none (by rw[bh];omega)]
  | succ d ih =>
   intro i acc ha hd hj
   have hi:i<l.length:=by omega
   rw[step acc i hi ha]
   refine ih (i+1) _ (by rw[aX];exact ha) (by omega) fun j hji h=>?_
   by_cases e:i=j
   ·subst e
    rw[List.getElem?_set_self (by omega)]
   ·rw[List.getElem?_set_ne e]
    exact hj j (by omega) h
 exact key l.length 0 acc ha (by omega) fun j hj _=>absurd hj (by omega)
theorem na{ρ α:Type}(L:Int→Option ρ)(l:List α)(y:Option ρ)(step:∀ (i:Nat) (h:i<l.length),L i=L ((i+1:Nat):Int))(stop:L (l.length:Int)=y):L 0=y:=by
 have key:∀ (d i:Nat),i+d=l.length→L (i:Int)=y:=by
  intro d
  induction d with
  | zero=>intro i hd;rw[show i=l.length by omega];exact stop
  | succ d ih=>intro i hd;rw[step i (by omega)];exact ih (i+1) (by omega)
 exact key l.length 0 (by omega)
theorem lR{α:Type}{l:List α}{i:Nat}(h:i<l.length)(a z:α):(l.set i a).getD i z=a:=by
 rw[List.getD_eq_getElem?_getD,List.getElem?_set_self h];rfl
set_option linter.defProp false
def aV:=@List.getElem_mem
def eb(p:Nat→Bool)(n:Nat):Bool:=(List.range n).any p
theorem anyB_iff{p:Nat→Bool}{n:Nat}:eb p n=true ↔ ∃ i,i<n∧p i=true:=by
 unfold eb
 rw[List.any_eq_true]
 constructor
 ·rintro ⟨i,h,e⟩;exact⟨i,List.mem_range.1 h,e⟩
 ·rintro ⟨i,h,e⟩;exact⟨i,List.mem_range.2 h,e⟩
theorem anyB_false{p:Nat→Bool}{n:Nat}:eb p n=false ↔ ∀ i,i<n→p i=false:=by
 rw[← aS,anyB_iff]
 constructor
 ·intro h i hi
  cases e:p i with
  | false=>rfl
  | true=>exact absurd ⟨i,hi,e⟩ h
 ·rintro h ⟨i,hi,e⟩
  rw[h i hi]at e;cases e
theorem Jb(p q:Nat→Bool)(n:Nat):eb (fun i=>p i||q i) n=(eb p n||eb q n):=by
 cases h:eb p n with
 | true =>
  obtain⟨i,hi,e⟩:=anyB_iff.1 h
  rw[Bool.true_or,anyB_iff];exact⟨i,hi,by rw[e];rfl⟩
 | false =>
  rw[Bool.false_or]
  have h':=anyB_false.1 h
  cases g:eb q n with
  | true =>
   obtain⟨i,hi,e⟩:=anyB_iff.1 g
   rw[anyB_iff];exact⟨i,hi,by rw[e,Bool.or_true]⟩
  | false=>rw[anyB_false];intro i hi;rw[h' i hi,anyB_false.1 g i hi];rfl
theorem ja{ρ:Type}(F:Int→Option ρ)(n:Nat)(p:Nat→Bool)(x y:Option ρ)
  (step:∀ i:Nat,i<n→F i=if p i=true then x else F ((i+1:Nat):Int)) (stop:F (n:Int)=y):F 0=if eb p n=true then x else y:=by
 have key:∀ (d i:Nat),i+d=n→(∀ j,j<i→p j=false)→F (i:Int)=if eb p n=true then x else y:=by
  intro d
  induction d with
  | zero =>
   intro i hd hj
   have hi:i=n:=by omega
   subst hi
   rw[stop,anyB_false.2 hj];rfl
  | succ d ih =>
   intro i hd hj
   rw[step i (by omega)]
   cases e:p i with
   | true=>rw[bm rfl,anyB_iff.2 ⟨i,by omega,e⟩,bm rfl]
   | false =>
    rw[bn (by simp)]
    refine ih (i+1) (by omega) fun j h=>?_
    by_cases h':j=i
    ·subst h';exact e
    ·exact hj j (by omega)
 exact key n 0 (by omega) (fun j h=>absurd h (by omega))
theorem jp{σ:Type}(F:Int→Option (Int×σ))(s:σ)(n:Nat)(p:Nat→Bool)
  (step:∀ i:Nat,i<n→F i=if p i=true then some ((i:Int),s)else F ((i+1:Nat):Int)) (stop:F (n:Int)=some (-1,s)) :
  ∃ k:Int,F 0=some (k,s)∧decide (k≥0)=eb p n∧k<n∧(0≤k→p k.toNat=true∧∀ j:Nat,(j:Int)<k→p j=false)∧(k<0→k = -1):=by
 have key:∀ (d i:Nat),i+d=n→(∀ j,j<i→p j=false)→∃ k:Int,F (i:Int)=some (k,s)∧decide (k≥0)=eb p n∧k<n∧(0≤k→p k.toNat=true∧∀ j:Nat,(j:Int)<k→p j=false)∧(k<0→k = -1):=by
  intro d
  induction d with
  | zero =>
   intro i hd hj
   have hi:i=n:=by omega
   subst hi
   exact⟨-1,stop,by rw[anyB_false.2 hj];rfl,by omega,fun h=>by omega,fun _=>rfl⟩
  | succ d ih =>
   intro i hd hj
   rw[step i (by omega)]
   cases e:p i with
   | true=>rw[bm rfl];exact⟨i,rfl,by rw[anyB_iff.2 ⟨i,by omega,e⟩];exact ac (by omega),by omega,fun _=>⟨by rw[af];exact e,fun j h=>hj j (by omega)⟩,fun h=>by omega⟩
   | false =>
    rw[bn (by simp)]
    refine ih (i+1) (by omega) fun j h=>?_
    by_cases h':j=i
    ·subst h';exact e
    ·exact hj j (by omega)
 exact key n 0 (by omega) (fun j h=>absurd h (by omega))
theorem fQ{α:Type}(l:List α)(z:α)(p:α→Bool):eb (fun i=>p (l.getD i z)) l.length=l.any p:=by
 cases h:l.any p with
 | true =>
  obtain⟨x,hx,e⟩:=List.any_eq_true.1 h
  obtain⟨i,hi,rfl⟩:=bk.1 hx
  exact anyB_iff.2 ⟨i,hi,by rw[cG hi];exact e⟩
 | false =>
  rw[anyB_false]
  intro i hi
  rw[cG hi]
  cases e:p l[i] with
  | false=>rfl
  | true =>
   have:l.any p=true:=List.any_eq_true.2 ⟨l[i],aV hi,e⟩
   rw[h]at this;cases this
theorem EC{α:Type}(L:List α→Int→Int→Option (Int×Unit))(P:α→Prop)(b:Nat)(bd:Int)
  (stop:∀ a k,L a k (a.length:Int)=some (k,()))
  (step:∀ (a:List α) (k:Int) (i:Nat) (h:i<a.length),a.length≤4294967296→P a[i]→0≤k→k+b≤bd→∃ y k',L a k i=L (a.set i y) k' ((i+1:Nat):Int)∧k≤k'∧k'≤k+b)
  (l:List α) (k:Int) (hl:l.length≤4294967296) (hP:∀ x∈l,P x) (hk:0≤k) (hb:k+b*l.length≤bd) :
  ∃ k',L l k 0=some (k',())∧k≤k'∧k'≤k+b*l.length:=by
 have hs:∀ d:Nat,(b*((d+1:Nat):Int):Int)=b*d+b:=fun d=>by rw[Int.natCast_add,Int.mul_add];simp
 have hz:∀ d:Nat,(0:Int)≤b*d:=fun d=>by exact_mod_cast Nat.zero_le (b*d)
 have key:∀ (d i:Nat) (a:List α) (k:Int),i+d=a.length→a.length≤4294967296→(∀ j (h:j<a.length),i≤j→P a[j])→0≤k→k+b*d≤bd →
   ∃ k',L a k (i:Int)=some (k',())∧k≤k'∧k'≤k+b*d:=by
  intro d
  induction d with
  | zero =>
   intro i a k hd hl hp hk hb
   have hi:i=a.length:=by omega
   subst hi
   exact⟨k,stop a k,Int.le_refl k,by simp⟩
  | succ d ih =>
   intro i a k hd hl hp hk hb
   have hi:i<a.length:=by omega
   have h0:=hz d
   rw[hs]at hb
   obtain⟨y,k1,e1,e2,e3⟩:=step a k i hi hl (hp i hi (aG i)) hk (by omega)
   obtain⟨k',f1,f2,f3⟩:=ih (i+1) (a.set i y) k1 (by rw[aX];omega) (by rw[aX];exact hl)
    (fun j hj hij=>by rw[List.getElem_set_ne (by omega)];exact hp j (by rw[aX]at hj;exact hj) (by omega)) (by omega) (by omega)
   exact⟨k',e1.trans f1,by omega,by rw[hs];omega⟩
 exact key l.length 0 l k (by omega) hl (fun j hj _=>hP _ (aV hj)) hk hb
end Go.Proofs.YthgknhkeifcflaaGreatDoor.E
namespace Go.Proofs.YthgknhkeifcflaaGreatDoor.E.TG
open Go.Proofs.YthgknhkeifcflaaGreatDoor.E
set_option linter.unusedVariables false
theorem fS(a b c:Int):cZ a b c=some (decide (b≤a∧a≤c),()):=by
 rw[My]
 by_cases h:a≥b
 ·rw[bm (by simp[h])];simp[show b≤a from h]
 ·rw[bn (by simp[h])];simp[show ¬ b≤a from h]
theorem en(a b c:Int):dU a b c=some (decide (b≤a∧a≤c),()):=by
 rw[GI]
 by_cases h:b≤a
 ·rw[bm (by simp[h])];simp[h]
 ·rw[bn (by simp[h])];simp[h]
set_option linter.defProp false
def aZ:=@List.length_eq_zero_iff
inductive Small:bD→Prop
 | mk (x:bD):x.Kids.length≤100→(∀ k∈x.Kids,Small k)→Small x
theorem qV{x:bD}(h:x.Kids=[]):Small x:=.mk x (by rw[h];decide) (fun k hk=>by rw[h]at hk;cases hk)
theorem EK(a b:Int):mxI a b=if a>b then a else b:=by unfold mxI;split <;> split <;> omega
theorem v8{x:bD}(h:Small x):∃ v,iK x=some (v,())∧iy x=some (v,()):=by
 induction h with
 | mk x hl hs ih =>
  rw[GK,Ds]
  have key:∀ (n i:Nat) (t:Int),i+n=x.Kids.length→∃ v,ub t i x=some (v,())∧pT t x.Kids x.Kids.length i=some (v,()):=by
   intro n
   induction n with
   | zero =>
    intro i t hi
    rw[zH,sI,ap,ap]
    exact⟨_,rfl,rfl⟩
   | succ n ihn =>
    intro i t hi
    have hi':i<x.Kids.length:=by omega
    obtain⟨v,e1,e2⟩:=ih x.Kids[i] (aV hi')
    rw[zH,an,al,sI,an,al,cl hi',e1,e2,aa,aa]
    dsimp only
    rw[zG,EK,ci hi' (by omega)]
    by_cases c:t>v
    ·rw[ak c,bm c,aa];exact ihn (i+1) t (by omega)
    ·rw[aj c,bn c,aa];exact ihn (i+1) v (by omega)
  exact key x.Kids.length 0 0 (by omega)
theorem EQ{c:bR}{b:Int}(h:c.bad=true):ic c b=some (false,c,()):=by rw[zI,bn (by simp[h])]
theorem iE{S:List Int}{p:Nat}{b:Int}(h:S.length≤p):ic ⟨S,p,false⟩ b=some (false,⟨S,p,false⟩,()):=by
 rw[zI,bm (by simp),aj (by simp;omega)]
theorem ml{S:List Int}{p:Nat}{b:Int}(h:p<S.length):ic ⟨S,p,false⟩ b=some (decide (S[p]=b),⟨S,p,false⟩,()):=by
 rw[zI];dsimp only
 rw[bm (by simp),an,al,cl h]
theorem em{r:bG}(h:r.s=[]∨r.bad=true):kv r=some (0,false,r,()):=by
 rw[Dt]
 by_cases h1:r.s=[]
 ·rw[ak h1]
 ·rw[aj h1,bm (h.resolve_left h1)]
theorem eZ{b:Int}{s:List Int}:kv ⟨b::s,false⟩=some (b,true,⟨b::s,false⟩,()):=by
 rw[Dt,bn (by simp),bn (by simp),bm (by simp)]
 rfl
theorem pn(b:Int)(s:List Int):List.take ((b::s).length-1) (List.drop 1 (b::s))=s:=by simp
theorem ga{r:bG}{b:Int}(h:r.s=[]∨r.bad=true):jo r b=some (false,r,()):=by
 rw[xh,em h,aa,bm (by simp)]
theorem jR{b:Int}{s:List Int}:jo ⟨b::s,false⟩ b=some (true,⟨s,false⟩,()):=by
 rw[xh,eZ,aa,bn (by simp),bn (by simp),bm (by simp;omega)]
 dsimp only
 rw[pn]
theorem jQ{a b:Int}{s:List Int}(h:a≠b):jo ⟨a::s,false⟩ b=some (false,⟨a::s,false⟩,()):=by
 rw[xh,eZ,aa,bn (by simp),bm (by simp[h])]
theorem gy(r:bG):(r.s=[]∨r.bad=true)∨∃ b s,r=⟨b::s,false⟩:=by
 obtain⟨s,bad⟩:=r
 cases s with
 | nil=>exact .inl (.inl rfl)
 | cons b s=>cases bad with
  | true=>exact .inl (.inr rfl)
  | false=>exact .inr ⟨b,s,rfl⟩
def er(f:List Bool)(j:Nat):Nat→List Bool
 | 0=>f
 | n+1=>er (f.set j true) (j+1) n
theorem gU(n:Nat):∀ (f:List Bool) (j:Nat),(er f j n).length=f.length:=by
 induction n with
 | zero=>intro f j;rfl
 | succ n ih=>intro f j;unfold er;rw[ih,aX]
theorem KN{k hi:Int}(c:bR)(z w:bD)(hh:hi≤255):∀ (n:Nat) (f:List Bool) (j:Nat),f.length=256→(hi+1-j).toNat=n→qL f k hi j c z w=li (er f j n) (w64 (k+1)) c z w:=by
 intro n
 induction n with
 | zero=>intro f j hf hn;rw[GQ,ap];rfl
 | succ n ih =>
  intro f j hf hn
  rw[GQ,bm (by rw[ab];omega),al,aq (n:=(j:Int)+1),af]
  exact ih (f.set j true) (j+1) (by rw[aX];exact hf) (by omega)
theorem KL{t:List Int}{k hi:Int}(c:bG)(z w:bD)(hh:hi≤255):∀ (n:Nat) (f:List Bool) (j:Nat),f.length=256→(hi+1-j).toNat=n→pV t f k hi j c z w=nC t (er f j n) (w64 (k+1)) c z w:=by
 intro n
 induction n with
 | zero=>intro f j hf hn;rw[Dw,ap];rfl
 | succ n ih =>
  intro f j hf hn
  rw[Dw,bm (by rw[ab];omega),al,aq (n:=(j:Int)+1),af]
  exact ih (f.set j true) (j+1) (by rw[aX];exact hf) (by omega)
def cR:Nat→List Int→List Bool→Bool→List Bool×Bool
 | 0,_,f,b=>(f,b)
 | _+1,[],f,b=>(f,b)
 | n+1,lo::t,f,b=>match t with
  | d::hi::u=>if d=45 then cR n u (er f lo.toNat (hi+1-lo).toNat) (b||decide (hi<lo))else cR n t (er f lo.toNat (lo+1-lo).toNat) b
  | _=>cR n t (er f lo.toNat (lo+1-lo).toNat) b
theorem Hf(n:Nat):∀ (l:List Int) (f:List Bool) (b:Bool),(cR n l f b).1.length=f.length:=by
 induction n with
 | zero=>intro l f b;rfl
 | succ n ih =>
  intro l f b
  match l with
  | []=>rfl
  | [lo]=>show(cR n [] _ b).1.length=_;rw[ih,gU]
  | [lo,d]=>show(cR n [d] _ b).1.length=_;rw[ih,gU]
  | lo::d::hi::u =>
   show(if d=45 then _ else _:List Bool×Bool).1.length=_
   split
   ·rw[ih,gU]
   ·rw[ih,gU]
def j8(f:List Bool):Nat→Nat→List Int→List Int
 | _,0,t=>t
 | j,n+1,t=>j8 f (j+1) n (if f.getD j false=true then t++[w8 j]else t)
theorem J8(c:bR)(z w:bD){f:List Bool}(hf:f.length=256):∀ (n j:Nat) (t:List Int),j+n=256→t.length≤j→qK f t j c z w=some (⟨w.Op,w.C,j8 f j n t,w.Not,w.Kids⟩,c,()):=by
 intro n
 induction n with
 | zero=>intro j t hj ht;rw[GO,ap];rfl
 | succ n ih =>
  intro j t hj ht
  rw[GO,bm (by rw[ab];omega),al,aq (n:=(j:Int)+1),af]
  unfold j8
  by_cases c:f.getD j false=true
  ·rw[bm c,bm c,bm (by rw[cg];omega)]
   exact ih (j+1) _ (by omega) (by simp;omega)
  ·rw[bn c,bn c]
   exact ih (j+1) _ (by omega) (by omega)
theorem J7(c:bG)(z w:bD){f:List Bool}(hf:f.length=256):∀ (n j:Nat) (t:List Int),j+n=256→t.length≤j→kA t f 256 j c z w=some (⟨w.Op,w.C,j8 f j n t,w.Not,w.Kids⟩,c,()):=by
 intro n
 induction n with
 | zero=>intro j t hj ht;rw[Dv,ap];rfl
 | succ n ih =>
  intro j t hj ht
  rw[Dv,bm (by rw[ab];omega),al,aq (n:=(j:Int)+1),af]
  unfold j8
  by_cases c:f.getD j false=true
  ·rw[bm c,bm c,bm (by rw[cg];omega)]
   exact ih (j+1) _ (by omega) (by simp;omega)
  ·rw[bn c,bn c]
   exact ih (j+1) _ (by omega) (by omega)
theorem uw(n:Nat)(lo:Int)(f:List Bool)(b:Bool):∀ (t:List Int),(∀ hi u,t≠45::hi::u)→cR (n+1) (lo::t) f b=cR n t (er f lo.toNat (lo+1-lo).toNat) b
 | [],_=>rfl
 | [_],_=>rfl
 | d::hi::u,h=>by
  show(if d=45 then _ else _:List Bool×Bool)=_
  rw[bn (fun e=>h hi u (by rw[e]))]
theorem uv(n:Nat)(lo hi:Int)(u:List Int)(f:List Bool)(b:Bool):cR (n+1) (lo::45::hi::u) f b=cR n u (er f lo.toNat (hi+1-lo).toNat) (b||decide (hi<lo)):=by
 rw[cR]
 exact bm rfl
theorem qR(n:Nat)(f:List Bool)(b:Bool):cR n [] f b=(f,b):=by cases n <;> rfl
def n93(x:Int):Bool:=!decide (x=93)
def cf(l:List Int):List Int:=l.takeWhile n93
theorem Jv:cf []=[]:=rfl
theorem lK{l:List Int}:cf (93::l)=[]:=rfl
theorem iW{a:Int}{l:List Int}(h:a≠93):cf (a::l)=a::cf l:=List.takeWhile_cons_of_pos (by unfold n93;simp[h])
theorem vL(l:List Int):(cf l).length≤l.length:=(List.takeWhile_sublist _).length_le
theorem BZ{k lo hi:Int}(c:bR)(z w:bD)(hh:hi≤255)(hl:0≤lo)(f:List Bool)(hf:f.length=256):qL f k hi lo c z w=li (er f lo.toNat (hi+1-lo).toNat) (w64 (k+1)) c z w:=by
 have:=KN (k:=k) c z w hh _ f lo.toNat hf rfl
 rwa [Int.toNat_of_nonneg hl]at this
theorem BX{t:List Int}{k lo hi:Int}(c:bG)(z w:bD)(hh:hi≤255)(hl:0≤lo)(f:List Bool)(hf:f.length=256):pV t f k hi lo c z w=nC t (er f lo.toNat (hi+1-lo).toNat) (w64 (k+1)) c z w:=by
 have:=KL (t:=t) (k:=k) c z w hh _ f lo.toNat hf rfl
 rwa [Int.toNat_of_nonneg hl]at this
theorem SM(z w:bD){S:List Int}(hS:S.length≤60)(hB:∀ b∈S,0≤b∧b≤255):∀ (n p:Nat) (f:List Bool) (k:Int) (b:Bool),f.length=256→p≤S.length→(cf (S.drop p)).length≤n→0≤k→k≤p →
  li f k ⟨S,p,b⟩ z w=ig (cR n (cf (S.drop p)) f b).1 ⟨S,(p+(cf (S.drop p)).length:Nat),(decide (S.length≤p+(cf (S.drop p)).length)||(decide (k=0)&&decide (cf (S.drop p)=[])))||(cR n (cf (S.drop p)) f b).2⟩ z w:=by
 intro n
 induction n with
 | zero =>
  intro p f k b hf hp hn hk hkp
  have hn0:cf (S.drop p)=[]:=aZ.1 (by omega)
  rw[hn0,qR,uk]
  simp only[List.length_nil,Nat.add_zero,decide_true,Bool.and_true]
  by_cases h:p<S.length
  ·have h93:S[p]=93:=by
    rw[ai h]at hn0
    apply Classical.byContradiction
    intro hne
    rw[iW hne]at hn0
    cases hn0
   rw[bm (by rw[ab];omega),al,cl h,h93,bn (by simp),ap]
   by_cases hk0:k=0
   ·rw[ak hk0,ac hk0];simp
   ·rw[aj hk0,ae hk0,ae (p:=S.length≤p) (by omega)];simp
  ·rw[ap,bm (by rw[ab];omega),ac (p:=S.length≤p) (by omega)];simp
 | succ n ih =>
  intro p f k b hf hp hn hk hkp
  by_cases h:p<S.length
  ·by_cases h93:S[p]=93
   ·have hn0:cf (S.drop p)=[]:=by rw[ai h,h93,lK]
    rw[hn0,qR,uk]
    simp only[List.length_nil,Nat.add_zero,decide_true,Bool.and_true]
    rw[bm (by rw[ab];omega),al,cl h,h93,bn (by simp),ap]
    by_cases hk0:k=0
    ·rw[ak hk0,ac hk0];simp
    ·rw[aj hk0,ae hk0,ae (p:=S.length≤p) (by omega)];simp
   ·have hlo:=hB _ (aV h)
    have e0:cf (S.drop p)=S[p]::cf (S.drop (p+1)):=by rw[ai h,iW h93]
    have hstep:∀ (t:List Int) (q:Nat) (f':List Bool) (b':Bool),f'.length=256→q≤S.length→p<q→(cf (S.drop q)).length≤n→p+(cf (S.drop p)).length=q+(cf (S.drop q)).length→cR (n+1) (cf (S.drop p)) f b=cR n (cf (S.drop q)) f' b' →
      li f' (w64 (k+1)) ⟨S,q,b'⟩ z w=ig (cR (n+1) (cf (S.drop p)) f b).1 ⟨S,(p+(cf (S.drop p)).length:Nat),(decide (S.length≤p+(cf (S.drop p)).length)||(decide (k=0)&&decide (cf (S.drop p)=[])))||(cR (n+1) (cf (S.drop p)) f b).2⟩ z w:=by
     intro t q f' b' hf' hq hpq hb he hr
     rw[hr,he,ih q f' _ b' hf' hq hb (by rw[aq];omega) (by rw[aq];omega)]
     have z1:decide (w64 (k+1)=0)=false:=by rw[aq];exact ae (by omega)
     have z2:decide (cf (S.drop p)=[])=false:=ae (by rw[e0];exact List.cons_ne_nil _ _)
     rw[z1,z2];simp
    have hno:mC f k (w64 S[p]) (w64 S[p]) ⟨S,(w64 ((p:Int)+1)),b⟩ z w=li (er f S[p].toNat (S[p]+1-S[p]).toNat) (w64 (k+1)) ⟨S,(p+1:Nat),b⟩ z w:=by
     rw[aq (n:=S[p]),GM,ap,GN,BZ _ z w hlo.2 hlo.1 f hf,aq (n:=(p:Int)+1)]
     rfl
    rw[uk];dsimp only
    rw[bm (by rw[ab];omega),al,cl h,bm (by simp[h93]),al]
    have hl1:p+(cf (S.drop p)).length=p+1+(cf (S.drop (p+1))).length:=by rw[e0];simp;omega
    have hn1:(cf (S.drop (p+1))).length≤n:=by rw[e0]at hn;simpa using hn
    have hel:(∀ hi u,cf (S.drop (p+1))≠45::hi::u)→mC f k (w64 S[p]) (w64 S[p]) ⟨S,(w64 ((p:Int)+1)),b⟩ z w=ig (cR (n+1) (cf (S.drop p)) f b).1 ⟨S,(p+(cf (S.drop p)).length:Nat),(decide (S.length≤p+(cf (S.drop p)).length)||(decide (k=0)&&decide (cf (S.drop p)=[])))||(cR (n+1) (cf (S.drop p)) f b).2⟩ z w:=fun hne=>by
     rw[hno]
     exact hstep [] (p+1) _ b (by rw[gU];exact hf) (by omega) (by omega) hn1 hl1 (by rw[e0];exact uw n _ f b _ hne)
    have w2:w64 (w64 ((p:Int)+1)+1)=((p+2:Nat):Int):=by rw[aq (n:=(p:Int)+1),aq];omega
    have w1:w64 ((p:Int)+1)=((p+1:Nat):Int):=by rw[aq (n:=(p:Int)+1)];omega
    by_cases h2:p+2<S.length
    ·have h1:p+1<S.length:=by omega
     rw[w2,bm (by rw[ab];omega),bm (by rw[w1];omega)]
     have g1:List.getD S (w64 ((p:Int)+1)).toNat 0=S[p+1]:=by rw[w1,cl h1]
     have g2:List.getD S ((p+2:Nat):Int).toNat 0=S[p+2]:=cl h2 0
     rw[g1,g2]
     by_cases c1:S[p+1]=45
     ·rw[ak c1,al]
      by_cases c2:S[p+2]=93
      ·rw[bn (by simp[c2])]
       refine hel fun hi u hu=>?_
       rw[ai h1,c1,iW (by decide),ai h2,c2,lK]at hu
       cases hu
      ·have hhi:=hB _ (aV h2)
       rw[bm (by simp[c2]),al]
       have e1:cf (S.drop (p+1))=45::S[p+2]::cf (S.drop (p+3)):=by
        rw[ai h1,c1,iW (by decide),ai h2,iW c2]
       have w3:w64 (w64 ((p:Int)+1)+2)=((p+3:Nat):Int):=by rw[w1,aq];omega
       rw[w3,aq (n:=S[p]),aq (n:=S[p+2]),GM]
       have hfin:∀ b',b'=(b||decide (S[p+2]<S[p]))→ul f k S[p] S[p+2] ⟨S,((p+3:Nat):Int),b'⟩ z w=ig (cR (n+1) (cf (S.drop p)) f b).1 ⟨S,(p+(cf (S.drop p)).length:Nat),(decide (S.length≤p+(cf (S.drop p)).length)||(decide (k=0)&&decide (cf (S.drop p)=[])))||(cR (n+1) (cf (S.drop p)) f b).2⟩ z w:=fun b' hb'=>by
        rw[GN,BZ _ z w hhi.2 hlo.1 f hf]
        refine hstep [] (p+3) _ b' (by rw[gU];exact hf) (by omega) (by omega) (by rw[e1]at hn1;simp at hn1;omega) (by rw[hl1,e1];simp;omega) ?_
        rw[e0,e1,uv,hb']
       by_cases c3:S[p+2]<S[p]
       ·rw[ak c3];exact hfin true (by rw[ac c3,Bool.or_true])
       ·rw[aj c3];exact hfin b (by rw[ae c3,Bool.or_false])
     ·rw[aj c1]
      refine hel fun hi u hu=>?_
      rw[ai h1]at hu
      by_cases c9:S[p+1]=93
      ·rw[c9,lK]at hu;cases hu
      ·rw[iW c9]at hu;exact c1 (aL hu).1
    ·rw[w2,ap]
     refine hel fun hi u hu=>?_
     have:=vL (S.drop (p+1))
     rw[hu,aQ]at this
     simp at this
     omega
  ·have hd:S.drop p=[]:=aW (by omega)
   rw[hd,Jv,qR,uk]
   simp only[List.length_nil,Nat.add_zero,decide_true,Bool.and_true]
   rw[ap,bm (by rw[ab];omega),ac (p:=S.length≤p) (by omega)];simp
theorem SL(z w:bD){s t:List Int}(ht:t.length≤60)(hB:∀ b∈t,0≤b∧b≤255):∀ (n i:Nat) (f:List Bool) (b:Bool),f.length=256→i≤t.length→(t.drop i).length≤n →
  nC t f i ⟨s,b⟩ z w=kA [] (cR n (t.drop i) f b).1 256 0 ⟨s,(cR n (t.drop i) f b).2⟩ z w:=by
 intro n
 induction n with
 | zero =>
  intro i f b hf hi hn
  have hd:t.drop i=[]:=aZ.1 (by omega)
  rw[aQ]at hn
  rw[hd,qR,xg,ap,hf]
  rfl
 | succ n ih =>
  intro i f b hf hi hn
  rw[aQ]at hn
  by_cases h:i<t.length
  ·have hlo:=hB _ (aV h)
   rw[xg,bm (by rw[ab];omega),al,al,cl h]
   have e0:t.drop i=t[i]::t.drop (i+1):=ai h
   have hel:(∀ hi u,t.drop (i+1)≠45::hi::u)→ma t f i (w64 t[i]) (w64 t[i]) ⟨s,b⟩ z w=kA [] (cR (n+1) (t.drop i) f b).1 256 0 ⟨s,(cR (n+1) (t.drop i) f b).2⟩ z w:=fun hne=>by
    rw[Du,aq (n:=t[i]),BX _ z w hlo.2 hlo.1 f hf,e0,uw n _ f b _ hne,ci h (by omega)]
    exact ih (i+1) _ b (by rw[gU];exact hf) (by omega) (by rw[aQ];omega)
   have w1:w64 ((i:Int)+1)=((i+1:Nat):Int):=ci h (by omega)
   have w2:w64 ((i:Int)+2)=((i+2:Nat):Int):=by rw[aq];omega
   by_cases h2:i+2<t.length
   ·have h1:i+1<t.length:=by omega
    rw[w2,bm (by rw[ab];omega),w1,al,cl h1]
    by_cases c1:t[i+1]=45
    ·have hhi:=hB _ (aV h2)
     rw[ak c1,al,cl h2,aq (n:=t[i]),aq (n:=t[i+2])]
     have e1:t.drop (i+1)=45::t[i+2]::t.drop (i+3):=by rw[ai h1,c1,ai h2]
     have hfin:∀ b',b'=(b||decide (t[i+2]<t[i]))→ma t f ((i+2:Nat):Int) t[i] t[i+2] ⟨s,b'⟩ z w=kA [] (cR (n+1) (t.drop i) f b).1 256 0 ⟨s,(cR (n+1) (t.drop i) f b).2⟩ z w:=fun b' hb'=>by
      rw[Du,BX _ z w hhi.2 hlo.1 f hf,e0,e1,uv,hb',ci h2 (by omega)]
      exact ih (i+3) _ _ (by rw[gU];exact hf) (by omega) (by rw[aQ];omega)
     cases b with
     | true=>rw[bm rfl];exact hfin true (by simp)
     | false=>rw[bn (by simp)];exact hfin _ (by simp)
    ·rw[aj c1]
     refine hel fun hi' u hu=>c1 ?_
     rw[ai h1]at hu
     exact(aL hu).1
   ·rw[w2,ap]
    refine hel fun hi' u hu=>?_
    have:=congrArg List.length hu
    rw[aQ]at this
    simp at this
    omega
  ·have hd:t.drop i=[]:=aW (by omega)
   rw[hd,qR,xg,ap,hf]
   rfl
set_option linter.defProp false
def bf:=@List.suffix_refl
theorem DJ:∀ l:List Int,(dk l 93 = -1∧cf l=l)∨(dk l 93=(cf l).length∧(cf l).length<l.length)
 | []=>.inl ⟨rfl,rfl⟩
 | b::l=>by
  by_cases h:b=93
  ·subst h
   refine .inr ⟨?_,?_⟩
   ·rw[dk,bm rfl,lK];rfl
   ·rw[lK];simp
  ·rw[dk,bn h,iW h]
   rcases DJ l with ⟨e1,e2⟩ | ⟨e1,e2⟩
   ·rw[bm e1,e2];exact .inl ⟨rfl,rfl⟩
   ·rw[am,e1];refine .inr ⟨by simp,by simp;omega⟩
theorem Be:∀ l:List Int,l.take (cf l).length=cf l
 | []=>rfl
 | b::l=>by
  by_cases h:b=93
  ·subst h;rw[lK];rfl
  ·rw[iW h,aR,List.take_succ_cons,Be l]
def fd(u:List Int)(nt:Bool):bD×bG :=
 if(cf u).length=u.length∨cf u=[] then(⟨0,0,[],false,[]⟩,⟨u,true⟩)
 else(⟨3,0,j8 (cR (cf u).length (cf u) (List.replicate 256 false) false).1 0 256 [],nt,[]⟩,⟨u.drop ((cf u).length+1),(cR (cf u).length (cf u) (List.replicate 256 false) false).2⟩)
theorem xk(u:List Int)(nt:Bool)(hu:u.length≤60)(hb:∀ b∈u,0≤b∧b≤255)(s:List Int)(ht:jo ⟨s,false⟩ 94=some (nt,⟨u,false⟩,())) :
  nB ⟨s,false⟩=some ((fd u nt).1,(fd u nt).2,()):=by
 rw[M5,ht,aa]
 dsimp only
 rw[ID,H9,H2,aa,aa,aa]
 dsimp only
 unfold fd
 rcases DJ u with ⟨e1,e2⟩ | ⟨e1,e2⟩
 ·rw[e1,e2,bm (by decide),bm (.inl rfl)]
 ·by_cases h0:cf u=[]
  ·rw[e1,h0,bm (by simp),bm (.inr rfl)]
  ·have hl:0<(cf u).length:=List.length_pos_iff.2 h0
   have w1:w64 (((cf u).length:Int)+1)=(((cf u).length+1:Nat):Int):=by rw[aq];omega
   rw[e1,ap,al,w1,al,bn (fun h=>h.elim (by omega) h0)]
   dsimp only
   rw[af,af,Nat.sub_zero,aM,Be,a8 (by simp)]
   have hi:=SL (s:=u.drop ((cf u).length+1)) (b9) ⟨3,0,[],nt,[]⟩ (t:=cf u) (by omega) (fun b hx=>hb b ((List.takeWhile_sublist _).subset hx)) (cf u).length 0 (List.replicate 256 false) false a7 (by omega) (by rw[aM];exact aG _)
   rw[aM]at hi
   exact hi.trans (J7 _ _ _ (by rw[Hf];exact a7) 256 0 [] rfl (Nat.zero_le _))
theorem z7(s:List Int):∃ nt,∃ k:Nat,jo ⟨s,false⟩ 94=some (nt,⟨s.drop k,false⟩,())∧((nt=true∧k=1∧∃ u,s=94::u)∨(nt=false∧k=0∧∀ u,s≠94::u)):=by
 cases s with
 | nil=>exact⟨false,0,ga (.inl rfl),.inr ⟨rfl,rfl,fun u h=>by cases h⟩⟩
 | cons b u =>
  by_cases h:b=94
  ·subst h;exact⟨true,1,jR,.inl ⟨rfl,rfl,u,rfl⟩⟩
  ·exact⟨false,0,jQ h,.inr ⟨rfl,rfl,fun v hv=>h (aL hv).1⟩⟩
theorem SE(u:List Int)(nt:Bool):(fd u nt).2.s <:+ u∧(fd u nt).1.Kids=[]:=by
 unfold fd
 split
 ·exact⟨bf _,rfl⟩
 ·exact⟨List.drop_suffix _ _,rfl⟩
def By(s:List Int):Prop:=s.length≤60∧∀ b∈s,0≤b∧b≤255
theorem By.suf{s t:List Int}(h:By s)(ht:t <:+ s):By t:=⟨Nat.le_trans ht.length_le h.1,fun b hb=>h.2 b (ht.subset hb)⟩
theorem Dz(s:List Int)(h:By s):∃ y r,nB ⟨s,false⟩=some (y,r,())∧r.s <:+ s∧Small y:=by
 obtain⟨nt,k,e,_⟩:=z7 s
 have hu:By (s.drop k):=h.suf (List.drop_suffix _ _)
 have hr:=SE (s.drop k) nt
 exact⟨_,_,xk _ nt hu.1 hu.2 s e,hr.1.trans (List.drop_suffix _ _),qV hr.2⟩
def dP(F:bG→Option (bD×bG×Unit))(s:List Int)(b:Bool)(k:Nat):Prop :=
 ∃ y r,F ⟨s,b⟩=some (y,r,())∧r.s <:+ s∧r.s.length+k≤s.length∧(b=true→r.bad=true)∧Small y
theorem lP{b:Int}{s:List Int}:(⟨List.take ((b::s).length-1) (List.drop 1 (b::s)),false⟩:bG)=⟨s,false⟩:=by rw[pn]
theorem jP{b:Int}{s t:List Int}(h:t <:+ s):t <:+ b::s:=h.trans (List.suffix_cons b s)
theorem sw(b:Int)(s:List Int)(h:By (b::s))(hp:dP fU s false 0):dP jk (b::s) false 1:=by
 have hs:By s:=h.suf (List.suffix_cons b s)
 unfold dP
 rw[xe,eZ,aa]
 dsimp only
 rw[bm (by simp;omega),lP]
 have leaf:∀ (x:bD) (bad:Bool),x.Kids=[]→∃ y r,some (x,(⟨s,bad⟩:bG),())=some (y,r,())∧r.s <:+ b::s∧r.s.length+1≤(b::s).length∧(false=true→r.bad=true)∧Small y :=
  fun x bad hx=>⟨_,_,rfl,List.suffix_cons b s,by simp,(fun h=>by cases h),qV hx⟩
 by_cases c1:b=40
 ·rw[ak c1]
  obtain⟨y,r,e,e1,e2,e3,e4⟩:=hp
  rw[e,aa]
  dsimp only
  rcases gy r with hr | ⟨a,t,hr⟩
  ·rw[ga hr,aa];dsimp only
   rw[bm (by simp)]
   exact⟨_,_,rfl,jP e1,by simp;omega,(fun h=>by cases h),e4⟩
  ·subst hr
   by_cases ha:a=41
   ·subst ha
    rw[jR,aa];dsimp only
    rw[bn (by simp)]
    refine⟨_,_,rfl,jP ((List.suffix_cons 41 t).trans e1),?_,(fun h=>by cases h),e4⟩
    simp at e2 ⊢;omega
   ·rw[jQ ha,aa];dsimp only
    rw[bm (by simp)]
    refine⟨_,_,rfl,jP e1,?_,(fun h=>by cases h),e4⟩
    simp at e2 ⊢;omega
 rw[aj c1]
 by_cases c2:b=46
 ·rw[ak c2];exact leaf _ _ rfl
 rw[aj c2]
 by_cases c3:b=94
 ·rw[ak c3];exact leaf _ _ rfl
 rw[aj c3]
 by_cases c4:b=36
 ·rw[ak c4];exact leaf _ _ rfl
 rw[aj c4]
 by_cases c5:b=91
 ·rw[ak c5]
  obtain⟨y,r,e,e1,e2⟩:=Dz s hs
  rw[e,aa]
  exact⟨_,_,rfl,jP e1,by have:=e1.length_le;simp;omega,(fun h=>by cases h),e2⟩
 rw[aj c5]
 by_cases c6:b=92
 ·rw[ak c6]
  cases s with
  | nil=>rw[em (.inl rfl),aa];dsimp only;rw[bm (by simp)];exact leaf _ _ rfl
  | cons a t =>
   rw[eZ,aa];dsimp only
   rw[bn (by simp),bm (by simp;omega),pn]
   exact⟨_,_,rfl,jP (List.suffix_cons a t),by simp,(fun h=>by cases h),qV rfl⟩
 rw[aj c6]
 have l1:∀ (t:Bool),∃ y r,nz b t ⟨s,false⟩ b9=some (y,r,())∧r.s <:+ b::s∧r.s.length+1≤(b::s).length∧(false=true→r.bad=true)∧Small y:=fun t=>by
  rw[nA]
  cases t with
  | true=>rw[bm rfl];exact leaf _ _ rfl
  | false=>rw[bn (by simp)];exact leaf _ _ rfl
 by_cases c7:b=42
 ·rw[ak c7];exact l1 _
 rw[aj c7]
 by_cases c8:b=43
 ·rw[ak c8];exact l1 _
 rw[aj c8]
 exact l1 _
theorem tu(b:Int):∃ v,sH b=some (v,())∧((v=8∧b=42)∨(v=9∧b=43)∨(v=10∧b=63)∨(v=0∧b≠42∧b≠43∧b≠63)):=by
 rw[M4]
 by_cases c1:b=42
 ·rw[ak c1];exact⟨_,rfl,.inl ⟨rfl,c1⟩⟩
 rw[aj c1]
 by_cases c2:b=43
 ·rw[ak c2];exact⟨_,rfl,.inr (.inl ⟨rfl,c2⟩)⟩
 rw[aj c2]
 by_cases c3:b=63
 ·rw[ak c3];exact⟨_,rfl,.inr (.inr (.inl ⟨rfl,c3⟩))⟩
 rw[aj c3];exact⟨_,rfl,.inr (.inr (.inr ⟨rfl,c1,c2,c3⟩))⟩
theorem SS{x:bD}(op:Int)(h:Small x):Small ⟨op,0,[],false,[x]⟩:=.mk _ (by simp) fun k hk=>by rw[aJ.1 hk];exact h
theorem MY(z:bD):∀ (n:Nat) (r:bG) (x:bD),r.s.length≤n→Small x→∃ y r',kz r z x=some (y,r',())∧r'.s <:+ r.s∧(r.bad=true→r'.bad=true)∧Small y:=by
 intro n
 induction n with
 | zero =>
  intro r x hn hx
  rw[jn,em (.inl (aZ.1 (by omega))),aa]
  dsimp only
  rw[bm (by simp)]
  exact⟨_,_,rfl,bf _,fun h=>h,hx⟩
 | succ n ih =>
  intro r x hn hx
  rw[jn]
  rcases gy r with hr | ⟨b,s,rfl⟩
  ·rw[em hr,aa]
   dsimp only
   rw[bm (by simp)]
   exact⟨_,_,rfl,bf _,fun h=>h,hx⟩
  ·obtain⟨v,e,hv⟩:=tu b
   rw[eZ,aa]
   dsimp only
   rw[bn (by simp),e,aa]
   dsimp only
   by_cases c:v=0
   ·rw[ak c];exact⟨_,_,rfl,bf _,fun h=>h,hx⟩
   ·rw[aj c,bm (by simp;omega),aa]
    dsimp only
    rw[lP]
    obtain⟨y,r',e1,e2,e3,e4⟩:=ih ⟨s,false⟩ _ (by simp at hn ⊢;omega) (SS v hx)
    exact⟨y,r',e1,jP e2,(fun h=>by cases h),e4⟩
theorem Dn(z:bD):∀ (n:Nat) (r:bG) (x:bD),r.s.length≤n→∃ y r',kz r z x=some (y,r',())∧r'.s <:+ r.s∧(r.bad=true→r'.bad=true):=by
 intro n
 induction n with
 | zero =>
  intro r x hn
  rw[jn,em (.inl (aZ.1 (by omega))),aa]
  dsimp only
  rw[bm (by simp)]
  exact⟨_,_,rfl,bf _,fun h=>h⟩
 | succ n ih =>
  intro r x hn
  rw[jn]
  rcases gy r with hr | ⟨b,s,rfl⟩
  ·rw[em hr,aa]
   dsimp only
   rw[bm (by simp)]
   exact⟨_,_,rfl,bf _,fun h=>h⟩
  ·obtain⟨v,e,hv⟩:=tu b
   rw[eZ,aa]
   dsimp only
   rw[bn (by simp),e,aa]
   dsimp only
   by_cases c:v=0
   ·rw[ak c];exact⟨_,_,rfl,bf _,fun h=>h⟩
   ·rw[aj c,bm (by simp;omega),aa]
    dsimp only
    rw[lP]
    obtain⟨y,r',e1,e2,e3⟩:=ih ⟨s,false⟩ _ (by simp at hn ⊢;omega)
    exact⟨y,r',e1,jP e2,(fun h=>by cases h)⟩
theorem Dq(b:Int)(s:List Int)(h:dP jk (b::s) false 1):dP fV (b::s) false 1:=by
 obtain⟨y,r,e,e1,e2,e3,e4⟩:=h
 unfold dP
 rw[xf,e,aa]
 obtain⟨y',r',f1,f2,f3,f4⟩:=MY b9 _ r y (aG _) e4
 exact⟨y',r',f1,f2.trans e1,by have:=f2.length_le;omega,(fun h=>by cases h),f4⟩
theorem Ho{l:List bD}(op:Int)(hl:l.length≤100)(h:∀ x∈l,Small x):Small ⟨op,0,[],false,l⟩:=.mk _ hl h
def f8(l:List bD):bD:=if l.length=0 then⟨11,0,[],false,[]⟩else if l.length=1 then l.getD 0 b9 else⟨6,0,[],false,l⟩
def fH(l:List bD):bD:=if l.length=1 then l.getD 0 b9 else⟨7,0,[],false,l⟩
theorem dZ{α:Type}(l:List bD)(r:α) :
  (if(decide ((List.length l:Int)=0))=true then some ((bD.mk 11 0 [] false []),r,()) else
   if(decide ((List.length l:Int)=1))=true then if(0:Int)≤0∧(0:Int)<(List.length l:Int)then some ((List.getD l 0 b9),r,())else none
   else some ((bD.mk 6 0 [] false l),r,()))=some (f8 l,r,()):=by
 unfold f8
 by_cases c:l.length=0
 ·rw[an,bm c]
 ·rw[ap,bn c]
  by_cases d:l.length=1
  ·rw[an,al,bm d]
  ·rw[ap,bn d]
theorem fa{α:Type}(l:List bD)(r:α) :
  (if(decide ((List.length l:Int)=1))=true then if(0:Int)≤0∧(0:Int)<(List.length l:Int)then some ((List.getD l 0 b9),r,())else none
   else some ((bD.mk 7 0 [] false l),r,()))=some (fH l,r,()):=by
 unfold fH
 by_cases d:l.length=1
 ·rw[an,al,bm d]
 ·rw[ap,bn d]
theorem Cl{l:List bD}(h:∀ x∈l,Small x)(hl:l.length=1):Small (l.getD 0 b9):=by
 match l,hl with
 | [x],_=>exact h x (aJ.2 rfl)
theorem E5{l:List bD}(hl:l.length≤100)(h:∀ x∈l,Small x):Small (f8 l):=by
 unfold f8
 split
 ·exact qV rfl
 ·split
  ·exact Cl h ‹_›
  ·exact Ho 6 hl h
theorem E9{l:List bD}(hl:l.length≤100)(h:∀ x∈l,Small x):Small (fH l):=by
 unfold fH
 split
 ·exact Cl h ‹_›
 ·exact Ho 7 hl h
theorem Hn{l:List bD}{x:bD}(h:∀ y∈l,Small y)(hx:Small x):∀ y∈List.append l [x],Small y:=by
 intro y hy
 rcases aA.1 hy with hy | hy
 ·exact h y hy
 ·rw[aJ.1 hy];exact hx
theorem xc(z:bD)(N:Nat)(hp:∀ b s,(b::s).length≤N→By (b::s)→dP fV (b::s) false 1):∀ (n:Nat) (r:bG) (l:List bD),r.s.length≤n→n≤N→By r.s→l.length+n≤60→(∀ x∈l,Small x) →
  ∃ y r',kx l r z=some (y,r',())∧r'.s <:+ r.s∧(r.bad=true→r'.bad=true)∧Small y:=by
 intro n
 induction n with
 | zero =>
  intro r l hn hN hb hl hx
  rw[jl,em (.inl (aZ.1 (by omega))),aa]
  dsimp only
  rw[bm (by simp),dZ]
  exact⟨_,_,rfl,bf _,fun h=>h,E5 (by omega) hx⟩
 | succ n ih =>
  intro r l hn hN hb hl hx
  rw[jl]
  have stop:∃ y r',some (f8 l,r,())=some (y,r',())∧r'.s <:+ r.s∧(r.bad=true→r'.bad=true)∧Small y:=⟨_,_,rfl,bf _,fun h=>h,E5 (by omega) hx⟩
  rcases gy r with hr | ⟨b,s,rfl⟩
  ·rw[em hr,aa]
   dsimp only
   rw[bm (by simp),dZ]
   exact stop
  ·rw[eZ,aa]
   dsimp only
   rw[bn (by simp)]
   by_cases c1:b=124
   ·rw[ak c1,dZ];exact stop
   rw[aj c1]
   by_cases c2:b=41
   ·rw[ak c2,dZ];exact stop
   rw[aj c2]
   obtain⟨y,r,e,e1,e2,e3,e4⟩:=hp b s (by have:(b::s).length≤n+1:=hn;omega) hb
   rw[e,aa]
   dsimp only
   rw[bm (by rw[cg];omega)]
   have h2:r.s.length≤n:=by simp only[aR]at e2 hn;omega
   obtain⟨y',r',f1,f2,f3,f4⟩:=ih r _ h2 (by omega) (hb.suf e1) (by show(l++[y]).length+n≤60;simp;omega) (Hn hx e4)
   exact⟨y',r',f1,f2.trans e1,(fun h=>by cases h),f4⟩
theorem Dl(z:bD)(N:Nat)(hp:∀ s b,s.length≤N→By s→dP gu s b 0):∀ (n:Nat) (r:bG) (l:List bD),r.s.length≤n→n≤N→By r.s→l.length+n≤61→(∀ x∈l,Small x) →
  ∃ y r',ky l r z=some (y,r',())∧r'.s <:+ r.s∧(r.bad=true→r'.bad=true)∧Small y:=by
 intro n
 induction n with
 | zero =>
  intro r l hn hN hb hl hx
  rw[jm,ga (.inl (aZ.1 (by omega))),aa]
  dsimp only
  rw[bn (by simp),fa]
  exact⟨_,_,rfl,bf _,fun h=>h,E9 (by omega) hx⟩
 | succ n ih =>
  intro r l hn hN hb hl hx
  rw[jm]
  have stop:∃ y r',some (fH l,r,())=some (y,r',())∧r'.s <:+ r.s∧(r.bad=true→r'.bad=true)∧Small y:=⟨_,_,rfl,bf _,fun h=>h,E9 (by omega) hx⟩
  rcases gy r with hr | ⟨b,s,rfl⟩
  ·rw[ga hr,aa]
   dsimp only
   rw[bn (by simp),fa]
   exact stop
  ·by_cases c1:b=124
   ·subst c1
    rw[jR,aa]
    dsimp only
    have hbs:By s:=hb.suf (List.suffix_cons _ _)
    have hn':s.length≤n:=by simp only[aR]at hn;omega
    obtain⟨y,r,e,e1,e2,e3,e4⟩:=hp s false (by omega) hbs
    rw[bm rfl,e,aa]
    dsimp only
    rw[bm (by rw[cg];omega)]
    obtain⟨y',r',f1,f2,f3,f4⟩:=ih r _ (by omega) (by omega) (hbs.suf e1) (by show(l++[y]).length+n≤61;simp;omega) (Hn hx e4)
    exact⟨y',r',f1,jP (f2.trans e1),(fun h=>by cases h),f4⟩
   ·rw[jQ c1,aa]
    dsimp only
    rw[bn (by simp),fa]
    exact stop
theorem p7:∀ (n:Nat) (s:List Int) (b:Bool),s.length≤n→By s→dP fU s b 0:=by
 intro n
 induction n with
 | zero =>
  intro s b hn hs
  have hpart:∀ s b,s.length≤0→By s→dP gu s b 0:=fun s b h hs=>by
   unfold dP
   rw[pU]
   obtain⟨y,r',f1,f2,f3,f4⟩:=xc b9 0 (fun b s h=>by simp at h) 0 ⟨s,b⟩ [] h (aG _) hs (by simp) (fun x hx=>by cases hx)
   exact⟨y,r',f1,f2,f2.length_le,f3,f4⟩
  unfold dP
  obtain⟨y,r,e,e1,e2,e3,e4⟩:=hpart s b hn hs
  rw[sJ,e,aa]
  obtain⟨y',r',f1,f2,f3,f4⟩:=Dl b9 0 hpart 0 r [y] (by have:=e1.length_le;omega) (aG _) (hs.suf e1) (by simp) (fun x hx=>by rw[aJ.1 hx];exact e4)
  exact⟨y',r',f1,f2.trans e1,by have:=(f2.trans e1).length_le;omega,fun h=>f3 (e3 h),f4⟩
 | succ n ih =>
  intro s b hn hs
  have hpiece:∀ b s,(b::s).length≤n+1→By (b::s)→dP fV (b::s) false 1:=fun b s h hs =>
   Dq b s (sw b s hs (ih s false (by simpa using h) (hs.suf (List.suffix_cons _ _))))
  have hpart:∀ s b,s.length≤n+1→By s→dP gu s b 0:=fun s b h hs=>by
   unfold dP
   rw[pU]
   obtain⟨y,r',f1,f2,f3,f4⟩:=xc b9 (n+1) hpiece s.length ⟨s,b⟩ [] (aG _) h hs (by have:=hs.1;simp;omega) (fun x hx=>by cases hx)
   exact⟨y,r',f1,f2,f2.length_le,f3,f4⟩
  unfold dP
  obtain⟨y,r,e,e1,e2,e3,e4⟩:=hpart s b hn hs
  rw[sJ,e,aa]
  have h60:=hs.1
  obtain⟨y',r',f1,f2,f3,f4⟩:=Dl b9 (n+1) hpart s.length r [y] (by have:=e1.length_le;omega) hn (hs.suf e1) (by simp;omega) (fun x hx=>by rw[aJ.1 hx];exact e4)
  exact⟨y',r',f1,f2.trans e1,by have:=(f2.trans e1).length_le;omega,fun h=>f3 (e3 h),f4⟩
def Res(S:List Int)(p:Nat)(d:Int)(lo:Nat)(x:bD)(c:bR)(y:bD)(r:bG):Prop :=
 (∃ q:Nat,p+lo≤q∧q≤S.length∧c=⟨S,(q:Int),false⟩∧r=⟨S.drop q,false⟩∧x=y)∨(c.bad=true∧(r.bad=false→(r.s.length:Int)+82≤S.length+d))
def Sim(S:List Int)(p:Nat)(d:Int)(lo:Nat)(fs:Option (bD×bR×Unit))(fi:Option (bD×bG×Unit)):Prop :=
 ∃ x c y r,fs=some (x,c,())∧fi=some (y,r,())∧Res S p d lo x c y r
theorem mM{p:Nat}(h:p≤1000):w64 ((p:Int)+1)=((p+1:Nat):Int):=by rw[aq];omega
theorem Hg{S:List Int}(hS:By S)(q:Nat)(hq:q≤S.length)(nt:Bool)(d:Int) :
  ∃ x c,uj ⟨S,(q:Int),false⟩ b9 ⟨3,0,[],nt,[]⟩=some (x,c,())∧Res S q d 0 x c (fd (S.drop q) nt).1 (fd (S.drop q) nt).2:=by
 have h60:=hS.1
 have hl:=vL (S.drop q)
 rw[aQ]at hl
 rw[Sa,SM b9 _ hS.1 hS.2 (cf (S.drop q)).length q _ 0 false a7 hq (aG _) (Int.le_refl _) (by omega),Sb]
 dsimp only
 have hc:=fun c=>J8 c b9 ⟨3,0,[],nt,[]⟩ (f:=(cR (cf (S.drop q)).length (cf (S.drop q)) (List.replicate 256 false) false).1) (by rw[Hf];exact a7) 256 0 [] rfl (Nat.zero_le _)
 rw[show((0:Nat):Int)=0 from rfl]at hc
 rw[mM (by omega),hc]
 refine⟨_,_,rfl,?_⟩
 unfold fd
 split
 ·rename_i h
  refine .inr ⟨?_,fun h=>by cases h⟩
  dsimp only
  rcases h with h | h
  ·rw[aQ]at h
   rw[ac (p:=S.length≤q+(cf (S.drop q)).length) (by omega)];rfl
  ·rw[h,ac (p:=(0:Int)=0) rfl,ac (p:=([]:List Int)=[]) rfl,Bool.and_true,Bool.or_true,Bool.true_or]
 ·rename_i h
  have h1:¬ (cf (S.drop q)).length=(S.drop q).length:=fun e=>h (.inl e)
  have h2:¬ cf (S.drop q)=[]:=fun e=>h (.inr e)
  rw[aQ]at h1
  dsimp only
  rw[ae (p:=S.length≤q+(cf (S.drop q)).length) (by omega),ae h2,Bool.and_false,Bool.or_false,Bool.false_or,List.drop_drop]
  cases (cR (cf (S.drop q)).length (cf (S.drop q)) (List.replicate 256 false) false).2 with
  | true=>exact .inr ⟨rfl,fun h=>by cases h⟩
  | false=>exact .inl ⟨q+(cf (S.drop q)).length+1,by omega,by omega,rfl,rfl,rfl⟩
theorem SN{S:List Int}(hS:By S)(p:Nat)(hp:p≤S.length)(d:Int):Sim S p d 0 (zL ⟨S,(p:Int),false⟩) (nB ⟨S.drop p,false⟩):=by
 have h60:=hS.1
 obtain⟨nt,k,e,hk⟩:=z7 (S.drop p)
 have hu:By ((S.drop p).drop k):=hS.suf ((List.drop_suffix _ _).trans (List.drop_suffix _ _))
 have hi:=xk _ nt hu.1 hu.2 _ e
 rw[Sc]
 rcases hk with ⟨rfl,rfl,u,hu'⟩ | ⟨rfl,rfl,hu'⟩
 ·have hlt:p<S.length:=by
   have:=congrArg List.length hu'
   rw[aQ]at this
   simp at this;omega
  have h94:S[p]=94:=by
   rw[ai hlt]at hu'
   exact(aL hu').1
  rw[ml hlt,aa]
  dsimp only
  rw[ak h94,mM (by omega)]
  obtain⟨x,c,e1,e2⟩:=Hg hS (p+1) (by omega) true d
  rw[List.drop_drop]at hi
  refine⟨x,c,_,_,e1,hi,?_⟩
  rcases e2 with ⟨q,a,b⟩ | h
  ·exact .inl ⟨q,by omega,b⟩
  ·exact .inr h
 ·have hn:ic ⟨S,(p:Int),false⟩ 94=some (false,⟨S,(p:Int),false⟩,()):=by
   by_cases hlt:p<S.length
   ·rw[ml hlt]
    have:¬ S[p]=94:=fun h=>hu' (S.drop (p+1)) (by rw[ai hlt,h])
    rw[ae this]
   ·exact iE (by omega)
  rw[hn,aa]
  dsimp only
  rw[bn (by simp)]
  obtain⟨x,c,e1,e2⟩:=Hg hS p hp false d
  exact⟨x,c,_,_,e1,hi,e2⟩
theorem Jk{S:List Int}(hS:By S)(p:Nat)(hp:p<S.length)(d:Int)(hd:0≤d)(hdp:d≤p)
  (hpat:Sim S (p+1) (d+1) 0 (mB ⟨S,((p+1:Nat):Int),false⟩ (d+1)) (fU ⟨S.drop (p+1),false⟩)) :
  Sim S p d 1 (tZ ⟨S,(p:Int),false⟩ d) (jk ⟨S.drop p,false⟩):=by
 have h60:=hS.1
 have hdrop:=ai hp
 unfold Sim
 rw[R4]
 dsimp only
 rw[bn (by simp),ap]
 by_cases h40:d>40
 ·rw[ak h40]
  have hb:=hS.suf (List.drop_suffix p S)
  rw[hdrop]at hb ⊢
  obtain⟨y,r,e,e1,e2,e3,e4⟩:=sw S[p] _ hb (p7 _ _ false (aG _) (hS.suf (List.drop_suffix (p+1) S)))
  refine⟨_,_,_,_,rfl,e,.inr ⟨rfl,fun _=>?_⟩⟩
  simp only[aR,aQ]at e2
  omega
 rw[aj h40,al,cl hp,mM (by omega),aq (n:=d+1),hdrop,xe,eZ,aa]
 dsimp only
 rw[bm (c:=(0:Int)≤1∧(1:Int)≤((S[p]::S.drop (p+1)).length:Int)) (by simp;omega),lP]
 by_cases c1:S[p]=40
 ·rw[ak c1,ak c1]
  obtain⟨x,c,y,r,e1,e2,e3⟩:=hpat
  rw[e1,e2,aa,aa]
  dsimp only
  rcases e3 with ⟨q,q1,q2,rfl,rfl,rfl⟩ | ⟨hc,hr⟩
  ·by_cases hq:q<S.length
   ·rw[ml hq,aa,ai hq]
    dsimp only
    by_cases ha:S[q]=41
    ·rw[ha,jR,aa,bn (by simp),mM (by omega)]
     dsimp only
     rw[bn (by simp)]
     exact⟨_,_,_,_,rfl,rfl,.inl ⟨q+1,by omega,by omega,rfl,rfl,rfl⟩⟩
    ·rw[jQ ha,aa,bm (by simp[ha])]
     dsimp only
     rw[bm (by simp)]
     exact⟨_,_,_,_,rfl,rfl,.inr ⟨rfl,fun h=>by cases h⟩⟩
   ·rw[iE (by omega),aa,aW (by omega),ga (.inl rfl),aa]
    dsimp only
    rw[bm (by simp),bm (by simp)]
    exact⟨_,_,_,_,rfl,rfl,.inr ⟨rfl,fun h=>by cases h⟩⟩
  ·rw[EQ hc,aa]
   dsimp only
   rw[bm (by simp)]
   rcases gy r with hr' | ⟨a,t,rfl⟩
   ·rw[ga hr',aa]
    dsimp only
    rw[bm (by simp)]
    exact⟨_,_,_,_,rfl,rfl,.inr ⟨rfl,fun h=>by cases h⟩⟩
   ·have:=hr rfl
    simp only[aR]at this
    by_cases ha:a=41
    ·subst ha
     rw[jR,aa]
     dsimp only
     rw[bn (by simp)]
     exact⟨_,_,_,_,rfl,rfl,.inr ⟨rfl,fun h=>by dsimp only;omega⟩⟩
    ·rw[jQ ha,aa]
     dsimp only
     rw[bm (by simp)]
     exact⟨_,_,_,_,rfl,rfl,.inr ⟨rfl,fun h=>by cases h⟩⟩
 have n1:¬ (decide (S[p]=40)=true):=by rw[ab];exact c1
 rw[bn n1,bn n1]
 have good:∀ x:bD,∃ x' c' y' r',some (x,(⟨S,((p+1:Nat):Int),false⟩:bR),())=some (x',c',())∧some (x,(⟨S.drop (p+1),false⟩:bG),())=some (y',r',())∧Res S p d 1 x' c' y' r' :=
  fun x=>⟨_,_,_,_,rfl,rfl,.inl ⟨p+1,by omega,by omega,rfl,rfl,rfl⟩⟩
 have bad:∀ (x y:bD) (a:Int) (s:List Int),∃ x' c' y' r',some (x,(⟨S,a,true⟩:bR),())=some (x',c',())∧some (y,(⟨s,true⟩:bG),())=some (y',r',())∧Res S p d 1 x' c' y' r' :=
  fun x y a s=>⟨_,_,_,_,rfl,rfl,.inr ⟨rfl,fun h=>by cases h⟩⟩
 by_cases c2:S[p]=46
 ·rw[ak c2,ak c2];exact good _
 have n2:¬ (decide (S[p]=46)=true):=by rw[ab];exact c2
 rw[bn n2,bn n2]
 by_cases c3:S[p]=94
 ·rw[ak c3,ak c3];exact good _
 have n3:¬ (decide (S[p]=94)=true):=by rw[ab];exact c3
 rw[bn n3,bn n3]
 by_cases c4:S[p]=36
 ·rw[ak c4,ak c4];exact good _
 have n4:¬ (decide (S[p]=36)=true):=by rw[ab];exact c4
 rw[bn n4,bn n4]
 by_cases c5:S[p]=91
 ·rw[ak c5,ak c5]
  obtain⟨x,c,y,r,e1,e2,e3⟩:=SN hS (p+1) (by omega) d
  rw[e1,e2,aa,aa]
  refine⟨_,_,_,_,rfl,rfl,?_⟩
  rcases e3 with ⟨q,a,b⟩ | h
  ·exact .inl ⟨q,by omega,b⟩
  ·exact .inr h
 have n5:¬ (decide (S[p]=91)=true):=by rw[ab];exact c5
 rw[bn n5,bn n5]
 by_cases c6:S[p]=92
 ·rw[ak c6,ak c6]
  by_cases hq:p+1<S.length
  ·rw[ap,al,cl hq,mM (by omega),ai hq,eZ,aa]
   dsimp only
   rw[bn (by simp),bm (by simp;omega),pn]
   exact⟨_,_,_,_,rfl,rfl,.inl ⟨p+1+1,by omega,by omega,rfl,rfl,rfl⟩⟩
  ·rw[an,aW (by omega),em (.inl rfl),aa]
   dsimp only
   rw[bm (by simp)]
   exact bad _ _ _ _
 have n6:¬ (decide (S[p]=92)=true):=by rw[ab];exact c6
 rw[bn n6,bn n6]
 by_cases c7:S[p]=42
 ·rw[ak c7,ak c7,ak c7,ua,nA,ak c7];exact bad _ _ _ _
 have n7:¬ (decide (S[p]=42)=true):=by rw[ab];exact c7
 rw[bn n7,bn n7]
 by_cases c8:S[p]=43
 ·rw[ak c8,ak c8,ak c8,ua,nA,ak c8];exact bad _ _ _ _
 have n8:¬ (decide (S[p]=43)=true):=by rw[ab];exact c8
 rw[bn n8,bn n8]
 by_cases c9:S[p]=63
 ·rw[ak c9,ua,nA,ak c9];exact bad _ _ _ _
 have n9:¬ (decide (S[p]=63)=true):=by rw[ab];exact c9
 rw[bn n9,ua,nA,bn n9]
 exact good _
theorem PP{c:bR}(z x:bD)(h:c.bad=true):qJ c z x=some (x,c,()):=by
 rw[ue,bn (by simp[h])]
theorem PQ{S:List Int}(hS:By S)(d:Int):∀ (n p:Nat) (x:bD),p≤S.length→S.length-p≤n→Sim S p d 0 (qJ ⟨S,(p:Int),false⟩ b9 x) (kz ⟨S.drop p,false⟩ b9 x):=by
 have h60:=hS.1
 have stop:∀ (p:Nat) (x:bD),p≤S.length→∃ x' c' y' r',some (x,(⟨S,(p:Int),false⟩:bR),())=some (x',c',())∧some (x,(⟨S.drop p,false⟩:bG),())=some (y',r',())∧Res S p d 0 x' c' y' r' :=
  fun p x hp=>⟨_,_,_,_,rfl,rfl,.inl ⟨p,by omega,hp,rfl,rfl,rfl⟩⟩
 intro n
 induction n with
 | zero =>
  intro p x hp hn
  unfold Sim
  rw[ue,bm (by simp),iE (by omega),aa]
  dsimp only
  rw[bn (by simp),iE (by omega),aa]
  dsimp only
  rw[bn (by simp),iE (by omega),aa]
  dsimp only
  rw[bn (by simp),uf,bm (by simp),jn,em (.inl (aW (by omega))),aa]
  dsimp only
  rw[bm (by simp)]
  exact stop p x hp
 | succ n ih =>
  intro p x hp hn
  by_cases hlt:p<S.length
  ·unfold Sim
   rw[ue,bm (by simp),ml hlt,aa]
   dsimp only
   rw[ml hlt,aa]
   dsimp only
   rw[ml hlt,aa,jn,ai hlt,eZ,aa]
   dsimp only
   obtain⟨v,e,hv⟩:=tu S[p]
   rw[bn (c:=(!true)=true) (by simp),e,aa]
   dsimp only
   rw[aa]
   dsimp only
   rw[bm (c:=(0:Int)≤1∧(1:Int)≤((S[p]::S.drop (p+1)).length:Int)) (by simp;omega),lP]
   have go:∀ v:Int,v≠0→Sim S p d 0 (oD v ⟨S,(p:Int),false⟩ b9 x) (kz ⟨S.drop (p+1),false⟩ b9 ⟨v,0,[],false,[x]⟩):=fun v hv=>by
    rw[uf,aj hv]
    dsimp only
    rw[mM (by omega)]
    obtain⟨x',c',y',r',f1,f2,f3⟩:=ih (p+1) ⟨v,0,[],false,[x]⟩ (by omega) (by omega)
    refine⟨x',c',y',r',f1,f2,?_⟩
    rcases f3 with ⟨q,a,b⟩ | h
    ·exact .inl ⟨q,by omega,b⟩
    ·exact .inr h
   rcases hv with ⟨rfl,h⟩ | ⟨rfl,h⟩ | ⟨rfl,h⟩ | ⟨rfl,h1,h2,h3⟩
   ·rw[ak h,bn (by simp)];exact go 8 (by decide)
   ·rw[bn (by rw[h];simp),ak h,bn (by simp)];exact go 9 (by decide)
   ·rw[bn (by rw[h];simp),bn (by rw[h];simp),ak h,bn (by simp)];exact go 10 (by decide)
   ·rw[aj h1,aj h2,aj h3,bm (by simp),uf,bm (by simp),← ai hlt]
    exact stop p x hp
  ·have hz:S.length-p≤0:=by omega
   unfold Sim
   rw[ue,bm (by simp),iE (by omega),aa]
   dsimp only
   rw[bn (by simp),iE (by omega),aa]
   dsimp only
   rw[bn (by simp),iE (by omega),aa]
   dsimp only
   rw[bn (by simp),uf,bm (by simp),jn,em (.inl (aW (by omega))),aa]
   dsimp only
   rw[bm (by simp)]
   exact stop p x hp
theorem PR{S:List Int}(hS:By S)(p:Nat)(d:Int)(h:Sim S p d 1 (tZ ⟨S,(p:Int),false⟩ d) (jk ⟨S.drop p,false⟩)) :
  Sim S p d 1 (ud ⟨S,(p:Int),false⟩ d) (fV ⟨S.drop p,false⟩):=by
 obtain⟨x,c,y,r,e1,e2,e3⟩:=h
 unfold Sim
 rw[R7,xf,e1,e2,aa,aa]
 dsimp only
 rcases e3 with ⟨q,q1,q2,rfl,rfl,rfl⟩ | ⟨hc,hr⟩
 ·obtain⟨x',c',y',r',f1,f2,f3⟩:=PQ hS d _ q x q2 (aG _)
  refine⟨x',c',y',r',f1,f2,?_⟩
  rcases f3 with ⟨q',a,b⟩ | h
  ·exact .inl ⟨q',by omega,b⟩
  ·exact .inr h
 ·rw[PP _ _ hc]
  obtain⟨y',r',f1,f2,f3⟩:=Dn b9 _ r y (aG _)
  refine⟨_,_,_,_,rfl,f1,.inr ⟨hc,fun h=>?_⟩⟩
  have:=f2.length_le
  have hb:r.bad=false:=by
   cases hb:r.bad with
   | false=>rfl
   | true=>rw[f3 hb]at h;cases h
  have:=hr hb
  omega
theorem PH{c:bR}(d:Int)(l:List bD)(z:bD)(h:c.bad=true):qH d l c z=some (f8 l,c,()):=by
 rw[zJ,bn (by simp[h]),dZ]
theorem yT{S:List Int}{p p' lo:Nat}{d:Int}{x:bD}{c:bR}{y:bD}{r:bG}(lo':Nat)(h:Res S p' d lo x c y r)(hp:p+lo'≤p'+lo):Res S p d lo' x c y r:=by
 rcases h with ⟨q,a,b⟩ | h
 ·exact .inl ⟨q,by omega,b⟩
 ·exact .inr h
theorem vF{r r':bG}{S:List Int}{d:Int}(hr:r.bad=false→(r.s.length:Int)+82≤S.length+d)(hs:r'.s <:+ r.s)(hb:r.bad=true→r'.bad=true) :
  r'.bad=false→(r'.s.length:Int)+82≤S.length+d:=by
 intro h
 have:=hs.length_le
 have hb':r.bad=false:=by
  cases hb':r.bad with
  | false=>rfl
  | true=>rw[hb hb']at h;cases h
 have:=hr hb'
 omega
theorem kt(n:Nat):(∀ b s,(b::s).length≤n→By (b::s)→dP fV (b::s) false 1)∧(∀ s b,s.length≤n→By s→dP gu s b 0):=by
 have hpiece:∀ b s,(b::s).length≤n→By (b::s)→dP fV (b::s) false 1:=fun b s h hs =>
  Dq b s (sw b s hs (p7 _ s false (aG _) (hs.suf (List.suffix_cons _ _))))
 refine⟨hpiece,fun s b h hs=>?_⟩
 unfold dP
 rw[pU]
 obtain⟨y,r',f1,f2,f3,f4⟩:=xc b9 n hpiece s.length ⟨s,b⟩ [] (aG _) h hs (by have:=hs.1;simp;omega) (fun x hx=>by cases hx)
 exact⟨y,r',f1,f2,f2.length_le,f3,f4⟩
theorem E6(z:bD)(r:bG)(hb:By r.s):∀ (l:List bD),l.length+r.s.length≤60→∃ y r',kx l r z=some (y,r',())∧r'.s <:+ r.s∧(r.bad=true→r'.bad=true):=by
 have key:∀ (n:Nat) (r:bG) (l:List bD),r.s.length≤n→By r.s→l.length+n≤60→∃ y r',kx l r z=some (y,r',())∧r'.s <:+ r.s∧(r.bad=true→r'.bad=true):=by
  intro n
  induction n with
  | zero =>
   intro r l hn hb hl
   rw[jl,em (.inl (aZ.1 (by omega))),aa]
   dsimp only
   rw[bm (by simp),dZ]
   exact⟨_,_,rfl,bf _,fun h=>h⟩
  | succ n ih =>
   intro r l hn hb hl
   rw[jl]
   have stop:∃ y r',some (f8 l,r,())=some (y,r',())∧r'.s <:+ r.s∧(r.bad=true→r'.bad=true):=⟨_,_,rfl,bf _,fun h=>h⟩
   rcases gy r with hr | ⟨b,s,rfl⟩
   ·rw[em hr,aa]
    dsimp only
    rw[bm (by simp),dZ]
    exact stop
   ·rw[eZ,aa]
    dsimp only
    rw[bn (by simp)]
    by_cases c1:b=124
    ·rw[ak c1,dZ];exact stop
    rw[aj c1]
    by_cases c2:b=41
    ·rw[ak c2,dZ];exact stop
    rw[aj c2]
    obtain⟨y,r,e,e1,e2,e3,e4⟩:=(kt _).1 b s (aG _) hb
    rw[e,aa]
    dsimp only
    rw[bm (by rw[cg];omega)]
    have h2:r.s.length≤n:=by have:(b::s).length≤n+1:=hn;omega
    obtain⟨y',r',f1,f2,f3⟩:=ih r _ h2 (hb.suf e1) (by show(l++[y]).length+n≤60;simp;omega)
    exact⟨y',r',f1,f2.trans e1,(fun h=>by cases h)⟩
 intro l hl
 exact key _ r l (aG _) hb hl
theorem tm(z:bD)(r:bG)(hb:By r.s):∀ (l:List bD),l.length+r.s.length≤61→∃ y r',ky l r z=some (y,r',())∧r'.s <:+ r.s∧(r.bad=true→r'.bad=true):=by
 have key:∀ (n:Nat) (r:bG) (l:List bD),r.s.length≤n→By r.s→l.length+n≤61→∃ y r',ky l r z=some (y,r',())∧r'.s <:+ r.s∧(r.bad=true→r'.bad=true):=by
  intro n
  induction n with
  | zero =>
   intro r l hn hb hl
   rw[jm,ga (.inl (aZ.1 (by omega))),aa]
   dsimp only
   rw[bn (by simp),fa]
   exact⟨_,_,rfl,bf _,fun h=>h⟩
  | succ n ih =>
   intro r l hn hb hl
   rw[jm]
   have stop:∃ y r',some (fH l,r,())=some (y,r',())∧r'.s <:+ r.s∧(r.bad=true→r'.bad=true):=⟨_,_,rfl,bf _,fun h=>h⟩
   rcases gy r with hr | ⟨b,s,rfl⟩
   ·rw[ga hr,aa]
    dsimp only
    rw[bn (by simp),fa]
    exact stop
   ·by_cases c1:b=124
    ·subst c1
     rw[jR,aa]
     dsimp only
     have hbs:By s:=hb.suf (List.suffix_cons _ _)
     have hn':s.length≤n:=by have:(124::s).length≤n+1:=hn;simp only[aR]at this;omega
     obtain⟨y,r,e,e1,e2,e3,e4⟩:=(kt _).2 s false (aG _) hbs
     rw[bm rfl,e,aa]
     dsimp only
     rw[bm (by rw[cg];omega)]
     obtain⟨y',r',f1,f2,f3⟩:=ih r _ (by omega) (hbs.suf e1) (by show(l++[y]).length+n≤61;simp;omega)
     exact⟨y',r',f1,jP (f2.trans e1),(fun h=>by cases h)⟩
    ·rw[jQ c1,aa]
     dsimp only
     rw[bn (by simp),fa]
     exact stop
 intro l hl
 exact key _ r l (aG _) hb hl
theorem PI{S:List Int}(hS:By S)(d:Int)(m:Nat)(hp:∀ p,p<S.length→S.length-p≤m→d≤p→Sim S p d 1 (ud ⟨S,(p:Int),false⟩ d) (fV ⟨S.drop p,false⟩)) :
  ∀ (n p:Nat) (l:List bD),p≤S.length→S.length-p≤n→n≤m→d≤p→l.length+n≤60→Sim S p d 0 (qH d l ⟨S,(p:Int),false⟩ b9) (kx l ⟨S.drop p,false⟩ b9):=by
 have h60:=hS.1
 intro n
 induction n with
 | zero =>
  intro p l h1 h2 h3 h4 h5
  unfold Sim
  rw[zJ]
  dsimp only
  rw[bm (by simp),ap,dZ,jl,em (.inl (aW (by omega))),aa]
  dsimp only
  rw[bm (by simp),dZ]
  exact⟨_,_,_,_,rfl,rfl,.inl ⟨p,by omega,h1,rfl,rfl,rfl⟩⟩
 | succ n ih =>
  intro p l h1 h2 h3 h4 h5
  unfold Sim
  have stop:∃ x' c' y' r',some (f8 l,(⟨S,(p:Int),false⟩:bR),())=some (x',c',())∧some (f8 l,(⟨S.drop p,false⟩:bG),())=some (y',r',())∧Res S p d 0 x' c' y' r' :=
   ⟨_,_,_,_,rfl,rfl,.inl ⟨p,by omega,h1,rfl,rfl,rfl⟩⟩
  rw[zJ]
  dsimp only
  by_cases hlt:p<S.length
  ·have hd:=ai hlt
   rw[bm (by simp),an,al,cl hlt,jl]
   obtain⟨x,c,y,r,e1,e2,e3⟩:=hp p hlt (by omega) h4
   rw[hd]at stop e2 ⊢
   rw[eZ,aa]
   dsimp only
   rw[bn (c:=(!true)=true) (by simp)]
   by_cases c1:S[p]=124
   ·rw[bn (by simp[c1]),dZ,ak c1,dZ];exact stop
   have n1:¬ (decide (S[p]=124)=true):=by rw[ab];exact c1
   rw[bm (by rw[ae c1];rfl),al,bn n1]
   by_cases c2:S[p]=41
   ·rw[bn (by simp[c2]),dZ,ak c2,dZ];exact stop
   have n2:¬ (decide (S[p]=41)=true):=by rw[ab];exact c2
   rw[bm (by rw[ae c2];rfl),bn n2,e1,e2,aa,aa]
   dsimp only
   rw[bm (by rw[cg];omega),bm (by rw[cg];omega)]
   have hl:∀ y:bD,(List.append l [y]).length=l.length+1:=fun y=>by show(l++[y]).length=_;simp
   rcases e3 with ⟨q,q1,q2,rfl,rfl,rfl⟩ | ⟨hc,hr⟩
   ·obtain⟨x',c',y',r',f1,f2,f3⟩:=ih q (List.append l [x]) q2 (by omega) (by omega) (by omega) (by rw[hl];omega)
    exact⟨x',c',y',r',f1,f2,yT 0 f3 (by omega)⟩
   ·rw[PH _ _ _ hc]
    have hb:=hS.suf (List.drop_suffix p S)
    rw[hd]at hb
    obtain⟨y2,r2,g,g1,g2,g3,g4⟩:=(kt _).1 S[p] _ (aG _) hb
    rw[e2]at g
    obtain⟨rfl,rfl⟩:y=y2∧r=r2:=by
     have:=aN g
     exact⟨congrArg Prod.fst this,congrArg (fun z=>z.2.1) this⟩
    simp only[aR,aQ]at g2
    obtain⟨y',r',f1,f2,f3⟩:=E6 b9 r (hb.suf g1) (List.append l [y]) (by rw[hl];omega)
    exact⟨_,_,_,_,rfl,f1,.inr ⟨hc,vF hr f2 f3⟩⟩
  ·rw[bm (by simp),ap,dZ,jl,em (.inl (aW (by omega))),aa]
   dsimp only
   rw[bm (by simp),dZ]
   exact stop
theorem Fe{c:bR}(d:Int)(l:List bD)(z:bD)(h:c.bad=true):qI d l c z=some (fH l,c,()):=by
 rw[uc,EQ h,aa]
 dsimp only
 rw[bn (by simp),fa]
theorem PK{S:List Int}(hS:By S)(d:Int)(m:Nat)(hp:∀ p,p≤S.length→S.length-p≤m→d≤p→Sim S p d 0 (qG ⟨S,(p:Int),false⟩ d) (gu ⟨S.drop p,false⟩)) :
  ∀ (n p:Nat) (l:List bD),p≤S.length→S.length-p≤n→n≤m→d≤p→l.length+n≤61→Sim S p d 0 (qI d l ⟨S,(p:Int),false⟩ b9) (ky l ⟨S.drop p,false⟩ b9):=by
 have h60:=hS.1
 intro n
 induction n with
 | zero =>
  intro p l h1 h2 h3 h4 h5
  unfold Sim
  rw[uc,iE (by omega),aa]
  dsimp only
  rw[bn (by simp),fa,jm,ga (.inl (aW (by omega))),aa]
  dsimp only
  rw[bn (by simp),fa]
  exact⟨_,_,_,_,rfl,rfl,.inl ⟨p,by omega,h1,rfl,rfl,rfl⟩⟩
 | succ n ih =>
  intro p l h1 h2 h3 h4 h5
  unfold Sim
  have stop:∃ x' c' y' r',some (fH l,(⟨S,(p:Int),false⟩:bR),())=some (x',c',())∧some (fH l,(⟨S.drop p,false⟩:bG),())=some (y',r',())∧Res S p d 0 x' c' y' r' :=
   ⟨_,_,_,_,rfl,rfl,.inl ⟨p,by omega,h1,rfl,rfl,rfl⟩⟩
  by_cases hlt:p<S.length
  ·have hd:=ai hlt
   rw[uc,ml hlt,aa,jm]
   dsimp only
   rw[hd]at stop ⊢
   by_cases c1:S[p]=124
   ·rw[c1,jR,aa,bm (by simp),mM (by omega)]
    dsimp only
    rw[bm rfl]
    obtain⟨x,c,y,r,e1,e2,e3⟩:=hp (p+1) (by omega) (by omega) (by omega)
    rw[e1,e2,aa,aa]
    dsimp only
    rw[bm (by rw[cg];omega),bm (by rw[cg];omega)]
    have hl:∀ y:bD,(List.append l [y]).length=l.length+1:=fun y=>by show(l++[y]).length=_;simp
    rcases e3 with ⟨q,q1,q2,rfl,rfl,rfl⟩ | ⟨hc,hr⟩
    ·obtain⟨x',c',y',r',f1,f2,f3⟩:=ih q (List.append l [x]) q2 (by omega) (by omega) (by omega) (by rw[hl];omega)
     exact⟨x',c',y',r',f1,f2,yT 0 f3 (by omega)⟩
    ·rw[Fe _ _ _ hc]
     have hb:=hS.suf (List.drop_suffix (p+1) S)
     obtain⟨y2,r2,g,g1,g2,g3,g4⟩:=(kt _).2 _ false (aG _) hb
     rw[e2]at g
     obtain⟨rfl,rfl⟩:y=y2∧r=r2:=by
      have:=aN g
      exact⟨congrArg Prod.fst this,congrArg (fun z=>z.2.1) this⟩
     simp only[aQ]at g2
     obtain⟨y',r',f1,f2,f3⟩:=tm b9 r (hb.suf g1) (List.append l [y]) (by rw[hl];omega)
     exact⟨_,_,_,_,rfl,f1,.inr ⟨hc,vF hr f2 f3⟩⟩
   ·rw[jQ c1,aa,aj c1,fa]
    dsimp only
    rw[bn (by simp),fa]
    exact stop
  ·rw[uc,iE (by omega),aa]
   dsimp only
   rw[bn (by simp),fa,jm,ga (.inl (aW (by omega))),aa]
   dsimp only
   rw[bn (by simp),fa]
   exact stop
theorem Fg{S:List Int}(hS:By S)(m:Nat)(p:Nat)(d:Int)(hpat:∀ p',p'<S.length→S.length-p'≤m→d≤p'→Sim S (p'+1) (d+1) 0 (mB ⟨S,((p'+1:Nat):Int),false⟩ (d+1)) (fU ⟨S.drop (p'+1),false⟩))
  (h1:p≤S.length) (h2:S.length-p≤m) (h3:0≤d) (h4:d≤p) (hm:m≤60):Sim S p d 0 (mB ⟨S,(p:Int),false⟩ d) (fU ⟨S.drop p,false⟩):=by
 have h60:=hS.1
 have hpart:∀ p,p≤S.length→S.length-p≤m→d≤p→Sim S p d 0 (qG ⟨S,(p:Int),false⟩ d) (gu ⟨S.drop p,false⟩):=fun p a b c=>by
  rw[R5,pU]
  exact PI hS d m (fun p' a' b' c'=>PR hS p' d (Jk hS p' a' d h3 c' (hpat p' a' b' c'))) m p [] a b (aG _) c (by simp;omega)
 unfold Sim
 obtain⟨x,c,y,r,e1,e2,e3⟩:=hpart p h1 h2 h4
 rw[R6,sJ,e1,e2,aa,aa]
 dsimp only
 rcases e3 with ⟨q,q1,q2,rfl,rfl,rfl⟩ | ⟨hc,hr⟩
 ·obtain⟨x',c',y',r',f1,f2,f3⟩:=PK hS d m hpart m q [x] q2 (by omega) (aG _) (by omega) (by simp;omega)
  exact⟨x',c',y',r',f1,f2,yT 0 f3 (by omega)⟩
 ·rw[Fe _ _ _ hc]
  have hb:=hS.suf (List.drop_suffix p S)
  obtain⟨y2,r2,g,g1,g2,g3,g4⟩:=(kt _).2 _ false (aG _) hb
  rw[e2]at g
  obtain⟨rfl,rfl⟩:y=y2∧r=r2:=by
   have:=aN g
   exact⟨congrArg Prod.fst this,congrArg (fun z=>z.2.1) this⟩
  simp only[aQ]at g2
  obtain⟨y',r',f1,f2,f3⟩:=tm b9 r (hb.suf g1) [y] (by simp;omega)
  exact⟨_,_,_,_,rfl,f1,.inr ⟨hc,vF hr f2 f3⟩⟩
theorem PL{S:List Int}(hS:By S):∀ (n p:Nat) (d:Int),p≤S.length→S.length-p≤n→0≤d→d≤p→Sim S p d 0 (mB ⟨S,(p:Int),false⟩ d) (fU ⟨S.drop p,false⟩):=by
 have h60:=hS.1
 intro n
 induction n with
 | zero =>
  intro p d h1 h2 h3 h4
  exact Fg hS 0 p d (fun p' h h' h''=>absurd h (by omega)) h1 h2 h3 h4 (by omega)
 | succ n ih =>
  intro p d h1 h2 h3 h4
  exact Fg hS (S.length-p) p d (fun p' h h' h''=>ih (p'+1) (d+1) (by omega) (by omega) (by omega) (by omega)) h1 (aG _) h3 h4 (by omega)
theorem FL(S:List Int)(hB:∀ b∈S,0≤b∧b≤255)(hl:S.length≤9223372036854775807):∃ x ok,mv S=some (x,ok,())∧nw S=some (x,ok,()):=by
 rw[Rg,CZ]
 by_cases c:(S.length:Int)>60
 ·rw[ak c,ak c];exact⟨_,_,rfl,rfl⟩
 have n1:¬ (decide ((S.length:Int)>60)=true):=by rw[ab];exact c
 have hS:By S:=⟨by omega,hB⟩
 obtain⟨x,c,y,r,e1,e2,e3⟩:=PL hS S.length 0 0 (Nat.zero_le _) (by omega) (Int.le_refl _) (Int.le_refl _)
 rw[aM]at e2
 rw[show((0:Nat):Int)=0 from rfl]at e1
 rw[bn n1,bn n1,e1,e2,aa,aa]
 dsimp only
 obtain⟨y2,r2,g,g1,g2,g3,g4⟩:=p7 _ S false (aG _) hS
 rw[e2]at g
 obtain⟨rfl,rfl⟩:y=y2∧r=r2:=by
  have:=aN g
  exact⟨congrArg Prod.fst this,congrArg (fun z=>z.2.1) this⟩
 rcases e3 with ⟨q,q1,q2,rfl,rfl,rfl⟩ | ⟨hc,hr⟩
 ·dsimp only
  rw[bn (c:=false=true) (by simp),bn (c:=false=true) (by simp)]
  by_cases hq:q=S.length
  ·have a1:¬ ((!(decide ((q:Int)=(S.length:Int))))=true):=by rw[ac (by omega)];decide
   have a2:¬ ((!(decide (S.drop q=[])))=true):=by rw[ac (aW (by omega))];decide
   obtain⟨v,d1,d2⟩:=v8 g4
   rw[bn a1,bn a2,d1,d2,aa]
   dsimp only
   by_cases hv:v>12
   ·rw[ak hv];exact⟨_,_,rfl,rfl⟩
   ·rw[aj hv];exact⟨_,_,rfl,rfl⟩
  ·have a1:(!(decide ((q:Int)=(S.length:Int))))=true:=by rw[ae (by omega)];rfl
   have a2:(!(decide (S.drop q=[])))=true:=by
    rw[ae (fun h=>by have:=congrArg List.length h;rw[aQ]at this;simp at this;omega)];rfl
   rw[bm a1,bm a2];exact⟨_,_,rfl,rfl⟩
 ·rw[bm hc]
  cases hb:r.bad with
  | true=>rw[bm rfl];exact⟨_,_,rfl,rfl⟩
  | false=>have:=hr hb;have:=hS.1;omega
def fp(x:Int):Bool:=(decide (97≤x)&&decide (x≤122))||(decide (65≤x)&&decide (x≤90))
theorem Da(x:Int):wX x=some (fp x,()):=by
 rw[C9]
 unfold fp
 by_cases c1:x≥97
 ·by_cases c2:x≤122
  ·rw[ak c1,ak c2,ac (show 97≤x from c1),ac c2];rfl
  ·rw[ak c1,aj c2,an,ae c2,Bool.and_false,Bool.false_or,ac (show 65≤x by omega),Bool.true_and]
 ·rw[aj c1,ae (show ¬ 97≤x from c1),Bool.false_and,Bool.false_or]
  by_cases c3:x≥65
  ·rw[ak c3,ac (show 65≤x from c3),Bool.true_and]
  ·rw[aj c3,ae (show ¬ 65≤x from c3),Bool.false_and]
theorem Su(x:Int):zT x=some (fp x,()):=by
 have:=Da x
 rw[C9]at this
 rw[Ss];exact this
theorem uI(l:List (List Int))(s:List Int)(hl:l.length≤4294967296):mE l s=some (decide (s∈l),()):=by
 rw[Sv]
 have:=ja (fun i=>oH l s i) l.length (fun i=>decide (l.getD i []=s)) (some (true,())) (some (false,())) (fun i hi=>by
  show oH l s i=_
  rw[GY,an,al,ci hi (by omega),af]) (by
  show oH l s _=_
  rw[GY,bn (by simp)])
 rw[this,fQ l [] (fun x=>decide (x=s))]
 have:l.any (fun x=>decide (x=s))=decide (s∈l):=by
  rw[Bool.eq_iff_iff,List.any_eq_true,ab]
  constructor
  ·rintro ⟨x,hx,e⟩;rw[ab]at e;subst e;exact hx
  ·intro h;exact⟨s,h,ac rfl⟩
 rw[this]
 cases decide (s∈l) <;> rfl
theorem vY(l:List (List Int))(s:List Int)(hl:l.length≤4294967296):rc l s=some (decide (s∈l),()):=by
 rw[TV,T5]
 obtain⟨k,e,e1,_⟩:=jp (fun i=>oP l s (l.length:Int) i) () l.length (fun i=>decide (s=l.getD i [])) (fun i hi=>by
  show oP l s _ i=_
  rw[Iy,an,al,ci hi (by omega),af]) (by
  show oP l s _ _=_
  rw[Iy,bn (by simp)])
 rw[e,aa]
 dsimp only
 rw[e1,fQ l [] (fun x=>decide (s=x))]
 congr 2
 rw[Bool.eq_iff_iff,List.any_eq_true,ab]
 constructor
 ·rintro ⟨x,hx,e⟩;rw[ab]at e;subst e;exact hx
 ·intro h;exact⟨s,h,ac rfl⟩
def kw1:List (List Int):=[[66,69,71,73,78],[112,114,105,110,116],[105,102],[101,108,115,101],[119,104,105,108,101],[110,101,120,116],[100,101,108,101,116,101],[78,82],[78,70]]
def kw2:List (List Int):=[[108,101,110,103,116,104],[115,117,98,115,116,114],[105,110,100,101,120],[105,110,116],[117,112,112,101,114],[108,111,119,101,114]]
def nM(s:List Int):Bool:=decide (s∈kw1)||decide (s∈kw2)
theorem Gs:ur=some (kw2,()):=Sr
theorem C4:sy=some (kw2,()):=Mm
theorem Q4(s:List Int):zi s=some (nM s,()):=by
 have e:mE [[66,69,71,73,78],[112,114,105,110,116],[105,102],[101,108,115,101],[119,104,105,108,101],[110,101,120,116],[100,101,108,101,116,101],[78,82],[78,70]] s=some (decide (s∈kw1),()):=uI kw1 s (by decide)
 rw[Q3,e,aa,Gs,aa]
 dsimp only
 rw[uI kw2 s (by decide),aa]
 unfold nM
 cases decide (s∈kw1) <;> rfl
theorem LU(s:List Int)(b:Bool):gX s b=some (b||decide (s∈kw2),()):=by
 rw[LT,C4,aa]
 dsimp only
 rw[vY kw2 s (by decide),aa]
 cases b <;> rfl
theorem LW(s:List Int):wF s=some (nM s,()):=by
 rw[LV]
 simp only[LU]
 have:decide (s∈kw1)=(decide (s=[66,69,71,73,78])||(decide (s=[112,114,105,110,116])||(decide (s=[105,102])||(decide (s=[101,108,115,101])||(decide (s=[119,104,105,108,101])||(decide (s=[110,101,120,116])||(decide (s=[100,101,108,101,116,101])||(decide (s=[78,82])||decide (s=[78,70]))))))))):=by
  rw[Bool.eq_iff_iff]
  simp only[ab,aU,kw1,aK,List.not_mem_nil,or_false]
 unfold nM
 rw[this]
 cases decide (s=[66,69,71,73,78]) <;> cases decide (s=[112,114,105,110,116]) <;> cases decide (s=[105,102]) <;> cases decide (s=[101,108,115,101]) <;> cases decide (s=[119,104,105,108,101]) <;> cases decide (s=[110,101,120,116]) <;> cases decide (s=[100,101,108,101,116,101]) <;> cases decide (s=[78,82]) <;> rfl
def g9(s:List Int):Bool:=(decide (1≤(s.length:Int)∧(s.length:Int)≤8)&&s.all fp) && !nM s
theorem G0(s:List Int)(hl:s.length≤4294967296):ut s=some (g9 s,()):=by
 rw[Sw]
 have:=ja (fun i=>oI s i) s.length (fun i=>!fp (s.getD i 0)) (some (false,())) (some (decide (1≤(s.length:Int)∧(s.length:Int)≤8) && !nM s,())) (fun i hi=>by
  show oI s i=_
  rw[GZ,an,al,ci hi (by omega),af,Su,aa]) (by
  show oI s _=_
  rw[GZ,bn (by simp),en,aa,Q4,aa]
  dsimp only
  cases decide (1≤(s.length:Int)∧(s.length:Int)≤8) <;> rfl)
 rw[this,fQ s 0 (fun x=>!fp x)]
 unfold g9
 have h:s.any (fun x=>!fp x) = !s.all fp:=by rw[← List.not_all_eq_any_not]
 rw[h]
 cases s.all fp <;> cases decide (1≤(s.length:Int)∧(s.length:Int)≤8) <;> rfl
theorem OR(s:List Int)(hl:s.length≤4294967296):∃ k:Int,w5 s 0=some (k,())∧decide (k=(s.length:Int))=s.all fp:=by
 rw[MD]
 have key:∀ (d i:Nat),i+d=s.length→(∀ j (h:j<s.length),j<i→fp s[j]=true)→∃ k:Int,sC s 0 (i:Int)=some (k,())∧decide (k=(s.length:Int))=s.all fp:=by
  intro d
  induction d with
  | zero =>
   intro i hd hj
   have hi:i=s.length:=by omega
   subst hi
   rw[Db,aq (n:=0+(s.length:Int)),bn (by simp)]
   refine⟨_,rfl,?_⟩
   rw[ac rfl,eq_comm,List.all_eq_true]
   intro x hx
   obtain⟨j,h,rfl⟩:=bk.1 hx
   exact hj j h h
  | succ d ih =>
   intro i hd hj
   have hi:i<s.length:=by omega
   rw[Db,aq (n:=0+(i:Int)),Int.zero_add,an,al,cl hi,Da,aa]
   dsimp only
   cases e:fp s[i] with
   | true =>
    rw[bm rfl,ci hi (by omega)]
    refine ih (i+1) (by omega) fun j h h'=>?_
    by_cases g:j=i
    ·subst g;exact e
    ·exact hj j h (by omega)
   | false =>
    rw[bn (by simp)]
    refine⟨_,rfl,?_⟩
    rw[ae (by omega),eq_comm]
    cases g:s.all fp with
    | false=>rfl
    | true=>have:=List.all_eq_true.1 g s[i] (aV hi);rw[e]at this;cases this
 exact key s.length 0 (by omega) (fun j _ h=>absurd h (by omega))
theorem MA(s:List Int)(hl:s.length≤4294967296):wY s=some (g9 s,()):=by
 obtain⟨k,e,e1⟩:=OR s hl
 rw[Mz,fS,aa,e,aa]
 dsimp only
 rw[e1,LW,aa]
 unfold g9
 cases s.all fp <;> cases decide (1≤(s.length:Int)∧(s.length:Int)≤8) <;> rfl
noncomputable def om(s:List Int):Bool:=match mv s with
 | some (_,ok,_)=>ok
 | none=>false
theorem FM(s:List Int)(hb:∀ b∈s,0≤b∧b≤255)(hl:s.length≤9223372036854775807):(∃ x,mv s=some (x,om s,())∧nw s=some (x,om s,())):=by
 obtain⟨x,ok,e1,e2⟩:=FL s hb hl
 have:om s=ok:=by unfold om;rw[e1]
 rw[this];exact⟨x,e1,e2⟩
noncomputable def opB(o:bA)(n v c:Int):Bool :=
 if o.Code=1 then decide (-9000000000000≤o.N∧o.N≤9000000000000)&&decide (o.S=[])
 else if o.Code=2 then decide (o.N=0)
 else if o.Code=3∨o.Code=4∨o.Code=5 then(decide (o.N≥0)&&decide (o.N<v))&&decide (o.S=[])
 else if o.Code=6∨o.Code=7∨o.Code=8∨o.Code=35 then(decide (o.N≥0)&&decide (o.N<c))&&decide (o.S=[])
 else if o.Code=24∨o.Code=25 then om o.S&&decide (o.N=0)
 else if o.Code=29 then decide (1≤o.N∧o.N≤3)&&decide (o.S∈kw2)
 else if o.Code=30∨o.Code=31 then decide (0≤o.N∧o.N≤w64 (n-1))&&decide (o.S=[])
 else if o.Code=33 then decide (0≤o.N∧o.N≤1)&&decide (o.S=[])
 else(decide (1≤o.Code∧o.Code≤36)&&decide (o.N=0))&&decide (o.S=[])
set_option linter.defProp false
def aY:=@Bool.and_assoc
theorem QU(n:Int):fI n=some (decide (-9000000000000≤n∧n≤9000000000000),()):=by rw[Gd,en];rfl
theorem LN(n:Int):dG n=some (decide (-9000000000000≤n∧n≤9000000000000),()):=by rw[CK,fS];rfl
theorem MC(s:List Int)(hb:∀ b∈s,0≤b∧b≤255)(hl:s.length≤9223372036854775807):wZ s=some (om s,()):=by
 obtain⟨x,e1,e2⟩:=FM s hb hl
 rw[MB,e2];rfl
theorem xD(a b:Bool):(if a=true then some (b,())else some (false,()))=some (a&&b,()):=by cases a <;> rfl
theorem in4(t1:Int)(c:Int)(b:Bool)(o:bA):tU t1 c b o=some (if b=true then decide (0≤o.N∧o.N≤w64 (t1-1))&&decide (o.S=[])else if c=33 then decide (0≤o.N∧o.N≤1)&&decide (o.S=[]) else(decide (1≤o.Code∧o.Code≤36)&&decide (o.N=0))&&decide (o.S=[]),()):=by
 rw[RK,en,en,en]
 simp only[aa,xD]
 cases b with
 | true=>rfl
 | false =>
  by_cases h:c=33
  ·simp[h]
  ·simp[h,aY]
theorem RM(o:bA)(n v c:Int)(hb:∀ b∈o.S,0≤b∧b≤255)(hl:o.S.length≤9223372036854775807):zv o n v c=some (opB o n v c,()):=by
 obtain⟨x,e1,e2⟩:=FM o.S hb hl
 rw[RL,QU]
 simp only[aa,xD,RH,RI,RJ,in4,e1,Gs,en,uI kw2 _ (by decide)]
 unfold opB
 by_cases c1:o.Code=1
 ·simp[c1,aY]
 by_cases c2:o.Code=2
 ·simp[c2,aY]
 by_cases c3:o.Code=3
 ·simp[c3,aY]
 by_cases c4:o.Code=4
 ·simp[c4,aY]
 by_cases c5:o.Code=5
 ·simp[c5,aY]
 by_cases c6:o.Code=6
 ·simp[c6,aY]
 by_cases c7:o.Code=7
 ·simp[c7,aY]
 by_cases c8:o.Code=8
 ·simp[c8,aY]
 by_cases c35:o.Code=35
 ·simp[c35,aY]
 by_cases c24:o.Code=24
 ·simp[c24,aY]
 by_cases c25:o.Code=25
 ·simp[c25,aY]
 by_cases c29:o.Code=29
 ·simp[c29,aY]
 by_cases c30:o.Code=30
 ·simp[c30,aY]
 by_cases c31:o.Code=31
 ·simp[c31,aY]
 by_cases c33:o.Code=33
 ·simp[c33,aY]
 simp[aY,c1,c2,c3,c4,c5,c6,c7,c8,c35,c24,c25,c29,c30,c31,c33]
def wv(c:Int):List Int:=if c=1 then [100]else if c=2∨c=24∨c=25 then [115]else if c=29 then [110,115]else if c=3∨c=4∨c=5∨c=6∨c=7∨c=8∨c=35∨c=30∨c=31∨c=33 then [110]else []
def opNames:List (List Int):=[[],[110,117,109],[116,101,120,116],[118,97,114],[115,101,116,118,97,114],[112,108,117,115,118,97,114],[99,101,108,108],[115,101,116,99,101,108,108],[112,108,117,115,99,101,108,108],[102,105,101,108,100],[110,114],[110,102],[97,100,100],[115,117,98],[109,117,108],[100,105,118],[109,111,100],[99,97,116],[108,101,115,115],[109,111,115,116],[109,111,114,101],[108,101,97,115,116],[115,97,109,101],[111,116,104,101,114],[102,105,116,115],[108,105,110,101],[110,111,116],[109,105,110,117,115],[98,111,111,108],[99,97,108,108],[106,117,109,112],[122,101,114,111],[112,111,112],[115,104,111,119],[101,110,100,108],[100,114,111,112],[110,101,120,116]]
theorem Ps(c:Int)(h:1≤c∧c≤36):opNames.getD c.toNat []≠[]:=by
 have:∀ n:Nat,n<37→1≤n→opNames.getD n []≠[]:=by decide
 exact this c.toNat (by omega) (by omega)
theorem Pq(c:Int)(f:List Int)(h:1≤c∧c≤36):l9 c opNames f=some (opNames.getD c.toNat [],f,()):=by
 rw[MI,bm (by show(0:Int)≤c∧c<37;omega)]
theorem Pr(c:Int):w6 c=some (if 1≤c∧c≤36 then opNames.getD c.toNat []else [],if 1≤c∧c≤36 then wv c else [],()):=by
 rw[ML,fS,aa]
 dsimp only
 by_cases h:1≤c∧c≤36
 ·rw[ac h,bn (by simp),bm h,bm h]
  have e:=fun f=>Pq c f h
  unfold opNames at e ⊢
  simp only[MJ,MK,e]
  unfold wv
  by_cases c1:c=1
  ·simp[c1]
  by_cases c2:c=2
  ·simp[c2]
  by_cases c24:c=24
  ·simp[c24]
  by_cases c25:c=25
  ·simp[c25]
  by_cases c29:c=29
  ·simp[c29]
  by_cases c3:c=3
  ·simp[c3]
  by_cases c4:c=4
  ·simp[c4]
  by_cases c5:c=5
  ·simp[c5]
  by_cases c6:c=6
  ·simp[c6]
  by_cases c7:c=7
  ·simp[c7]
  by_cases c8:c=8
  ·simp[c8]
  by_cases c35:c=35
  ·simp[c35]
  by_cases c30:c=30
  ·simp[c30]
  by_cases c31:c=31
  ·simp[c31]
  by_cases c33:c=33
  ·simp[c33]
  simp[c1,c2,c3,c4,c5,c6,c7,c8,c35,c24,c25,c29,c30,c31,c33]
 ·rw[ae h,bm (by simp),bn h,bn h]
theorem MR(o:bA)(n v c:Int)(hb:∀ b∈o.S,0≤b∧b≤255)(hl:o.S.length≤9223372036854775807):w7 o n v c=some (opB o n v c,()):=by
 rw[MQ,Pr,aa]
 dsimp only
 by_cases h:1≤o.Code∧o.Code≤36
 ·rw[bm h,bm h,aj (by exact Ps _ h)]
  simp only[LN,aa,xD,MM,MN,MO,MP,MC o.S hb hl,C4,fS,vY kw2 _ (by decide)]
  unfold opB wv
  by_cases c1:o.Code=1
  ·simp[c1,aY] <;> by_cases hN:o.N=0 <;> by_cases hS:o.S=[] <;> simp[hN,hS]
  by_cases c2:o.Code=2
  ·simp[c2,aY] <;> by_cases hN:o.N=0 <;> by_cases hS:o.S=[] <;> simp[hN,hS]
  by_cases c3:o.Code=3
  ·simp[c3,aY] <;> by_cases hN:o.N=0 <;> by_cases hS:o.S=[] <;> simp[hN,hS]
  by_cases c4:o.Code=4
  ·simp[c4,aY] <;> by_cases hN:o.N=0 <;> by_cases hS:o.S=[] <;> simp[hN,hS]
  by_cases c5:o.Code=5
  ·simp[c5,aY] <;> by_cases hN:o.N=0 <;> by_cases hS:o.S=[] <;> simp[hN,hS]
  by_cases c6:o.Code=6
  ·simp[c6,aY] <;> by_cases hN:o.N=0 <;> by_cases hS:o.S=[] <;> simp[hN,hS]
  by_cases c7:o.Code=7
  ·simp[c7,aY] <;> by_cases hN:o.N=0 <;> by_cases hS:o.S=[] <;> simp[hN,hS]
  by_cases c8:o.Code=8
  ·simp[c8,aY] <;> by_cases hN:o.N=0 <;> by_cases hS:o.S=[] <;> simp[hN,hS]
  by_cases c35:o.Code=35
  ·simp[c35,aY] <;> by_cases hN:o.N=0 <;> by_cases hS:o.S=[] <;> simp[hN,hS]
  by_cases c24:o.Code=24
  ·simp[c24,aY] <;> by_cases hN:o.N=0 <;> by_cases hS:o.S=[] <;> simp[hN,hS]
  by_cases c25:o.Code=25
  ·simp[c25,aY] <;> by_cases hN:o.N=0 <;> by_cases hS:o.S=[] <;> simp[hN,hS]
  by_cases c29:o.Code=29
  ·simp[c29,aY] <;> by_cases hN:o.N=0 <;> by_cases hS:o.S=[] <;> simp[hN,hS]
  by_cases c30:o.Code=30
  ·simp[c30,aY] <;> by_cases hN:o.N=0 <;> by_cases hS:o.S=[] <;> simp[hN,hS]
  by_cases c31:o.Code=31
  ·simp[c31,aY] <;> by_cases hN:o.N=0 <;> by_cases hS:o.S=[] <;> simp[hN,hS]
  by_cases c33:o.Code=33
  ·simp[c33,aY] <;> by_cases hN:o.N=0 <;> by_cases hS:o.S=[] <;> simp[hN,hS]
  simp[c1,c2,c3,c4,c5,c6,c7,c8,c35,c24,c25,c29,c30,c31,c33,h,aY]
  by_cases hN:o.N=0 <;> by_cases hS:o.S=[] <;> simp[hN,hS]
 ·rw[bn h,bn h,bm (by simp)]
  unfold opB
  rw[am,am,am,am,am,am,am,am,ae h]
  rfl
def isD(x:Int):Bool:=decide (48≤x)&&decide (x≤57)
theorem nK(x:Int):isD x=true↔48≤x∧x≤57:=by unfold isD;rw[az,ab,ab]
def cA(l:List Int):List Int:=l.takeWhile isD
theorem Kq{x:Int}{l:List Int}(h:isD x=true):cA (x::l)=x::cA l:=List.takeWhile_cons_of_pos h
theorem Kp{x:Int}{l:List Int}(h:isD x=false):cA (x::l)=[]:=List.takeWhile_cons_of_neg (by rw[h];decide)
theorem rQ{s:List Int}{i:Nat}(hi:i<s.length)(h:isD s[i]=true):cA (s.drop i)=s[i]::cA (s.drop (i+1)):=by rw[ai hi,Kq h]
theorem po{s:List Int}{i:Nat}(hi:i<s.length)(h:isD s[i]=false):cA (s.drop i)=[]:=by rw[ai hi,Kp h]
theorem ng{s:List Int}{i:Nat}(hi:s.length≤i):cA (s.drop i)=[]:=by rw[aW hi];rfl
def AllD(l:List Int):Prop:=∀ x∈l,48≤x∧x≤57
theorem lO(l:List Int):AllD (cA l):=fun x hx=>(nK x).1 (List.all_eq_true.1 (List.all_takeWhile ..) x hx)
theorem AllD.tail{c:Int}{l:List Int}(h:AllD (c::l)):AllD l:=fun x hx=>h x (aE _ hx)
theorem AllD.head{c:Int}{l:List Int}(h:AllD (c::l)):48≤c∧c≤57:=h c (aD ..)
theorem rR(l:List Int):(cA l).length≤l.length:=(List.takeWhile_sublist _).length_le
theorem BI(l:List Int):l.take (cA l).length=cA l:=by
 unfold cA
 have h:=List.takeWhile_append_dropWhile (p:=isD) (l:=l)
 have:l.take (l.takeWhile isD).length=(l.takeWhile isD++l.dropWhile isD).take (l.takeWhile isD).length:=by rw[h]
 rw[this,List.take_left]
def dv(a:Int)(l:List Int):Int:=l.foldl (fun n c=>10*n+(c-48)) a
theorem iw(a c:Int)(l:List Int):dv a (c::l)=dv (10*a+(c-48)) l:=rfl
theorem wg(a:Int)(l m:List Int):dv a (l++m)=dv (dv a l) m:=List.foldl_append ..
theorem ke:∀ (l:List Int) (a:Int),dv a l=a*10 ^ l.length+dv 0 l
 | [],a=>by simp[dv]
 | c::l,a=>by
  rw[iw,iw,ke l (10*a+(c-48)),ke l (10*0+(c-48)),aR,Int.pow_succ,Int.add_mul,Int.mul_zero,Int.zero_add,← Int.add_assoc]
  congr 2
  rw[Int.mul_comm 10 a,Int.mul_assoc,Int.mul_comm 10]
theorem kd:∀ (l:List Int) (a:Int),AllD l→0≤a→0≤dv a l
 | [],a,_,h=>h
 | c::l,a,hd,h=>kd l (10*a+(c-48)) hd.tail (by have:=hd.head;omega)
theorem BN:∀ (l:List Int),dv 0 (l.dropWhile (fun x=>decide (x=48)))=dv 0 l
 | []=>rfl
 | c::l=>by
  by_cases h:c=48
  ·rw[List.dropWhile_cons_of_pos (by simp[h]),BN l,iw,h];rfl
  ·rw[List.dropWhile_cons_of_neg (by simp[h])]
theorem wh:∀ (l:List Int),AllD l→dv 0 l<10 ^ l.length
 | [],_=>by simp[dv]
 | c::l,hd=>by
  have h1:=wh l hd.tail
  have h2:=hd.head
  rw[iw,ke,aR,Int.pow_succ]
  have:(10*0+(c-48))*10 ^ l.length≤9*10 ^ l.length:=Int.mul_le_mul_of_nonneg_right (by omega) (Int.le_of_lt (Int.pow_pos (by omega)))
  omega
theorem Kw{l:List Int}(hd:AllD l)(h0:∀ c r,l=c::r→c≠48)(h:7<l.length):10000000≤dv 0 l:=by
 cases l with
 | nil=>cases h
 | cons c r =>
  have h1:=hd.head
  have h2:=h0 c r rfl
  have h3:=kd r 0 hd.tail (Int.le_refl 0)
  rw[iw,ke]
  simp only[aR]at h
  have h4:(10:Int) ^ 7≤10 ^ r.length:=by
   have:(10:Nat) ^ 7≤10 ^ r.length:=Nat.pow_le_pow_right (by omega) (by omega)
   exact_mod_cast this
  have h5:1*(10:Int) ^ r.length≤(10*0+(c-48))*10 ^ r.length:=Int.mul_le_mul_of_nonneg_right (by omega) (Int.le_of_lt (Int.pow_pos (by omega)))
  omega
def fr:List Int→Int→Int
 | [],_=>0
 | c::l,u=>(c-48)*u+fr l (u/10)
theorem Cg:∀ l:List Int,fr l 0=0
 | []=>rfl
 | c::l=>by show(c-48)*0+fr l (0/10)=0;rw[Int.mul_zero,show(0:Int)/10=0 from rfl,Cg l];rfl
def uH:Nat→Int
 | 0=>0
 | k+1=>10 ^ k
theorem To(k:Nat):uH (k+1)/10=uH k:=by
 cases k with
 | zero=>rfl
 | succ k=>show(10:Int) ^ (k+1)/10=10 ^ k;rw[Int.pow_succ];omega
theorem wi:∀ k:Nat,dv 0 (List.replicate k 48)=0
 | 0=>rfl
 | k+1=>by rw[List.replicate_succ,iw];exact wi k
theorem ww:∀ (l:List Int) (k m:Nat),k≤m→fr l (uH k)=dv 0 ((l++List.replicate m 48).take k)
 | [],k,m,h=>by rw[bg,List.take_replicate,Nat.min_eq_left h,wi];rfl
 | c::l,0,m,h=>by rw[List.take_zero];exact Cg _
 | c::l,k+1,m,h=>by
  rw[List.cons_append,List.take_succ_cons,iw,ke,aP,ag,a7,Nat.min_eq_left (by omega),← ww l k m (by omega)]
  show(c-48)*10 ^ k+fr l (uH (k+1)/10)=_
  rw[To,Int.mul_zero,Int.zero_add]
theorem pA(l:List Int)(hd:AllD l):0≤fr l 100000∧fr l 100000<1000000:=by
 have e:fr l 100000=dv 0 ((l++List.replicate 6 48).take 6):=ww l 6 6 (aG 6)
 have hd':AllD ((l++List.replicate 6 48).take 6):=fun x hx=>by
  rcases aA.1 (List.mem_of_mem_take hx)with h | h
  ·exact hd x h
  ·rw[(List.mem_replicate.1 h).2];omega
 have h1:=wh _ hd'
 have h2:((l++List.replicate 6 48).take 6).length=6:=by rw[aP,ag,a7];omega
 rw[h2]at h1
 rw[e]
 exact⟨kd _ _ hd' (Int.le_refl 0),h1⟩
def sat:Int→List Int→Int
 | n,[]=>n
 | n,c::l=>if n≤9000000000000 then sat (10*n+(c-48)*1000000) l else sat n l
theorem G6:∀ (l:List Int) (n:Int),9000000000000<n→sat n l=n
 | [],n,_=>rfl
 | c::l,n,h=>by unfold sat;rw[am];exact G6 l n h
theorem G7:∀ (l:List Int) (a:Int),AllD l→0≤a→(sat (a*1000000) l=dv a l*1000000)∨(9000000000000<sat (a*1000000) l∧9000000000000<dv a l*1000000)
 | [],a,_,_=>.inl rfl
 | c::l,a,hd,h=>by
  have hc:=hd.head
  unfold sat
  rw[iw]
  by_cases hn:a*1000000≤9000000000000
  ·rw[bm hn,show 10*(a*1000000)+(c-48)*1000000=(10*a+(c-48))*1000000 by omega]
   exact G7 l _ hd.tail (by omega)
  ·rw[bn hn,G6 _ _ (by omega)]
   refine .inr ⟨by omega,?_⟩
   have h1:=kd l 0 hd.tail (Int.le_refl 0)
   have h2:a*1≤(10*a+(c-48))*10 ^ l.length:=Int.mul_le_mul (by omega) (by have:(0:Int)<10 ^ l.length:=Int.pow_pos (by omega);omega) (by omega) (by omega)
   rw[ke]
   omega
theorem Aa(c:Int):∀ l:List Int,l.length≤4294967296→oQ l c=some (l.dropWhile (fun x=>decide (x=c)),())
 | [],h=>by rw[IH,bn (by simp)];rfl
 | x::l,h=>by
  simp only[aR]at h
  rw[IH,ak ((by simp only[aR];omega)),bm (by simp only[aR];omega)]
  by_cases hx:x=c
  ·rw[bm (by simp[hx]),bm (by simp only[aR];omega),List.dropWhile_cons_of_pos (by simp[hx])]
   have:List.take ((x::l).length-1) (List.drop 1 (x::l))=l:=by simp
   rw[this]
   exact Aa c l (by omega)
  ·rw[bn (by simpa using hx),List.dropWhile_cons_of_neg (by simpa using hx)]
theorem AP(l:List Int)(c:Int)(hc:c<128)(h:l.length≤4294967296):u7 l [c]=some (l.dropWhile (fun x=>decide (x=c)),()):=by
 rw[Ud]
 by_cases h0:l=[]
 ·rw[ak h0,h0];rfl
 ·rw[aj h0,bn (by simp),bm (by simp),bm (by simp),bm (by simpa using hc),bm (by simp),II]
  show Option.bind (oQ l c) _=_
  rw[Aa c l h];rfl
theorem Tj(c:Int):∀ (n:Nat) (l:List Int),l.length=n→l.length≤4294967296→∃ r,mS l c=some (r,())∧r.length≤l.length∧((∀ x∈r,x=c) ↔ ∀ x∈l,x=c):=by
 intro n
 induction n with
 | zero =>
  intro l hl h
  have:l=[]:=List.eq_nil_of_length_eq_zero hl
  subst this
  exact⟨[],by rw[u9,bn (by simp)],aG _,Iff.rfl⟩
 | succ n ih =>
  intro l hl h
  rw[u9,an,aq,al,show((l.length:Int)-1).toNat=l.length-1 by omega,cG (by omega)]
  by_cases hx:l[l.length-1]=c
  ·rw[ak hx,al]
   have e:List.take (l.length-1-0) (List.drop 0 l)=l.take (l.length-1):=rfl
   rw[e]
   obtain⟨r,r1,r2,r3⟩:=ih (l.take (l.length-1)) (by rw[aP];omega) (by rw[aP];omega)
   have hs:l=l.take (l.length-1)++[c]:=by
    have h1:=List.take_append_drop (l.length-1) l
    have h2:l.drop (l.length-1)=[l[l.length-1]]:=by
     rw[ai (by omega),aW (by omega)]
    rw[h2,hx]at h1
    exact h1.symm
   rw[aP]at r2
   refine⟨r,r1,by omega,r3.trans ?_⟩
   constructor
   ·intro h5 x hx5
    rw[hs]at hx5
    rcases aA.1 hx5 with h6 | h6
    ·exact h5 x h6
    ·exact aJ.1 h6
   ·intro h5 x hx5
    exact h5 x (List.mem_of_mem_take hx5)
  ·rw[aj hx]
   exact⟨l,rfl,aG _,Iff.rfl⟩
theorem BK(c:Int):∀ l:List Int,l.dropWhile (fun x=>decide (x=c))=[] ↔ ∀ x∈l,x=c
 | []=>by simp
 | a::l=>by
  by_cases h:a=c
  ·rw[List.dropWhile_cons_of_pos (by simp[h]),BK c l]
   simp[h]
  ·rw[List.dropWhile_cons_of_neg (by simp[h])]
   simp[h]
theorem I5(l:List Int)(h:l.length≤4294967296):∃ r,Aw l [32]=some (r,())∧(r=[] ↔ ∀ x∈l,x=32):=by
 rw[Uf]
 by_cases h0:l=[]
 ·rw[ak h0];exact⟨l,rfl,by simp[h0]⟩
 ·obtain⟨r,r1,r2,r3⟩:=Tj 32 l.length l rfl h
  rw[aj h0,bn (by simp),bm (by simp),bm (by simp),bm (by simp),bm (by simp),IJ]
  show ∃ x,(Option.bind (mS l 32) _)=some (x,())∧_
  rw[r1,aa,bm (by simp),II]
  show ∃ x,(Option.bind (oQ r 32) _)=some (x,())∧_
  rw[Aa 32 r (by omega)]
  exact⟨_,rfl,(BK 32 r).trans r3⟩
theorem Ji(t:List Int)(ht:t.length≤18)(hd:AllD t)(h0:∀ c r,t=c::r→c≠45)(hne:t≠[]):∀ (d i:Nat) (n:Int),i+d=t.length→0≤n→n<10 ^ i→uO t n t (t.length:Int) (i:Int)=some (dv n (t.drop i),(),()):=by
 intro d
 induction d with
 | zero =>
  intro i n hi n0 n1
  rw[H6,ap,bm (by have:=List.length_pos_iff.2 hne;omega),aW (by omega)]
  cases t with
  | nil=>exact absurd rfl hne
  | cons c r=>rw[bn (by have:=h0 c r rfl;simpa using this)];rfl
 | succ d ih =>
  intro i n hi n0 n1
  have hlt:i<t.length:=by omega
  have hx:=hd _ (aV hlt)
  have hp:(10:Int) ^ i≤10 ^ 17:=by
   have:(10:Nat) ^ i≤10 ^ 17:=Nat.pow_le_pow_right (by omega) (by omega)
   exact_mod_cast this
  have hp1:(10:Int) ^ (i+1)=10 ^ i*10:=Int.pow_succ ..
  have e8:w8 (t[i]-48)=t[i]-48:=Ag (by omega) (by omega)
  rw[H6,an,al,cl hlt,e8,ap,aq (n:=n*10),aq (n:=t[i]-48),aq,ci hlt (by omega),ih (i+1) _ (by omega) (by omega) (by omega),ai hlt,iw,Int.mul_comm n 10]
theorem Jj(t:List Int)(ht:t.length≤18)(hd:AllD t)(hne:t≠[]):Ar t=some (dv 0 t,(),()):=by
 have hp:=List.length_pos_iff.2 hne
 have h0:∀ c r,t=c::r→c≠45∧c≠43:=fun c r h=>by
  subst h;have:=hd.head;omega
 have hg:∀ z,t.getD 0 z≠45∧t.getD 0 z≠43:=fun z=>by
  cases t with
  | nil=>exact absurd rfl hne
  | cons c r=>exact h0 c r rfl
 rw[T7,TC,an,an,al,aj (by exact(hg 0).1),al,aj (by exact(hg 0).2),TB,bm (by rw[cg];omega)]
 have:=Ji t ht hd (fun c r h=>(h0 c r h).1) hne t.length 0 0 (by omega) (by omega) (by simp)
 rw[show(((0:Nat)):Int)=0 from rfl,aM]at this
 rw[this];rfl
theorem eG(n:Int):dG n=some (decide (-9000000000000≤n∧n≤9000000000000),()):=by rw[CK,fS];rfl
theorem pX(n:Int):mb n=some (if -9000000000000≤n∧n≤9000000000000 then(n,true,()) else(0,false,())):=by
 rw[Na,eG,aa]
 by_cases h:-9000000000000≤n∧n≤9000000000000
 ·rw[ac h,bn (by simp),bm h]
 ·rw[ae h,bm (by simp),bn h]
theorem O7(w r:List Int)(hw:AllD w)(hr:AllD r)(lw:w.length≤1000000)(lr:r.length≤1000000):pM w r=some (if dv 0 w*1000000+fr r 100000≤9000000000000 then(dv 0 w*1000000+fr r 100000,true,()) else(0,false,())):=by
 rw[MF,AP _ _ (by omega) (by omega),aa]
 have hb:=pA r hr
 have hz:=BN w
 have hT:AllD (w.dropWhile (fun x=>decide (x=48))):=fun x hx=>hw x ((List.dropWhile_sublist _).subset hx)
 have hTl:(w.dropWhile (fun x=>decide (x=48))).length≤w.length:=(List.dropWhile_sublist _).length_le
 have hT0:∀ c r,w.dropWhile (fun x=>decide (x=48))=c::r→c≠48:=fun c r h=>by
  have:=List.head?_dropWhile_not (fun x=>decide (x=48)) w
  rw[h]at this
  simpa using this
 generalize w.dropWhile (fun x=>decide (x=48))=T at *
 rw[bm (by simp only[aR,List.length_nil];omega),bm (by rw[ag];simp only[aR,List.length_nil];omega)]
 by_cases h7:(T.length:Int)>7
 ·have:=Kw hT hT0 (by omega)
  rw[ak h7,am]
 ·have e6:List.take (6-0) (List.drop 0 (r++[48,48,48,48,48,48]))=(r++List.replicate 6 48).take 6:=rfl
  have hR:AllD ((r++List.replicate 6 48).take 6):=fun x hx=>by
   rcases aA.1 (List.mem_of_mem_take hx)with h | h
   ·exact hr x h
   ·rw[(List.mem_replicate.1 h).2];omega
  have hRl:((r++List.replicate 6 48).take 6).length=6:=by rw[aP,ag,a7];omega
  have hRv:dv 0 ((r++List.replicate 6 48).take 6)=fr r 100000:=(ww r 6 6 (aG 6)).symm
  rw[e6,aj h7]
  generalize (r++List.replicate 6 48).take 6=R at *
  rw[bm (by simp only[aR,List.length_nil];omega),bm (by simp only[ag,aR,List.length_nil];omega)]
  have hall:AllD (([48]++T)++R):=fun x hx=>by
   rcases aA.1 hx with h | h
   ·rcases aA.1 h with h | h
    ·rw[aJ.1 h];omega
    ·exact hT x h
   ·exact hR x h
  rw[Jj _ (by simp only[ag,aR,List.length_nil];omega) hall (by simp),aa]
  have ev:dv 0 (([48]++T)++R)=dv 0 w*1000000+fr r 100000:=by
   rw[wg,wg,ke,hRl,hRv,show dv 0 [48]=0 from rfl,hz];rfl
  have hn:=kd w 0 hw (Int.le_refl 0)
  rw[ev,pX,aa]
  by_cases hm:dv 0 w*1000000+fr r 100000≤9000000000000
  ·rw[bm hm,bm ⟨by omega,hm⟩]
  ·rw[bn hm,bn (fun x=>hm x.2)]
set_option linter.defProp false
def ba:=@Int.tdiv_eq_ediv_of_nonneg
def Bt(b:List Int):Prop:=∀ x∈b,0≤x∧x≤255
theorem xI(x:Int):mz x=some (isD x,()):=by
 rw[RZ]
 unfold isD
 by_cases h:x≥48
 ·rw[ak h,show decide (48≤x)=true from ac h,Bool.true_and]
 ·rw[aj h,show decide (48≤x)=false from ae h,Bool.false_and]
def fin(p:Int)(b:Bool)(n m:Int):Option (Int×Int×Unit):=if m=0 then some (0,0,())else if n>9000000000000 then some (0,0,())else some (if b=true then 0-n else n,p,())
theorem AK(p:Int)(b:Bool)(n m:Int)(h0:0≤n):fw p b n m=fin p b n m:=by
 rw[QP]
 unfold fin
 by_cases h1:m=0
 ·rw[ak h1,bm h1]
 ·rw[aj h1,bn h1]
  by_cases h2:n>9000000000000
  ·rw[ak h2,bm h2]
  ·rw[aj h2,bn h2,aq]
   cases b <;> rfl
theorem IY(s:List Int)(hs:s.length≤1000000)(b:Bool):∀ (d i:Nat) (n m u:Int),i+d=s.length→0≤n→0≤u→u≤100000→n≤200000000000000+1000000*i→0≤m→m≤2000000+i →
  ∃ n',oq s (i:Int) b n m u=fw ((i+(cA (s.drop i)).length:Nat):Int) b n' (m+(cA (s.drop i)).length)∧n'=n+fr (cA (s.drop i)) u:=by
 intro d
 induction d with
 | zero =>
  intro i n m u hd h0 hu hu2 hn hm hm2
  rw[ng (show s.length≤i by omega)]
  refine⟨n,?_,by show n=n+0;omega⟩
  rw[F8,ap]
  simp
 | succ d ih =>
  intro i n m u hd h0 hu hu2 hn hm hm2
  have hi:i<s.length:=by omega
  rw[F8,an,al,cl hi,xI,aa]
  cases hx:isD s[i] with
  | true =>
   have hxb:=(nK _).1 hx
   have hmul:0≤(s[i]-48)*u∧(s[i]-48)*u≤900000:=by
    have h1:(s[i]-48)*u≤9*u:=Int.mul_le_mul_of_nonneg_right (by omega) hu
    exact⟨Int.mul_nonneg (by omega) hu,by omega⟩
   rw[bm rfl,al,ba hu,aq (n:=s[i]),aq (n:=s[i]-48),aq (n:=(s[i]-48)*u),aq (n:=n+(s[i]-48)*u),aq (n:=m+1),aq (n:=u/10),ci hi (by omega)]
   obtain⟨n',e1,e2⟩:=ih (i+1) (n+(s[i]-48)*u) (m+1) (u/10) (by omega) (by omega) (by omega) (by omega) (by omega) (by omega) (by omega)
   rw[rQ hi hx,aR]
   refine⟨n',?_,?_⟩
   ·rw[e1]
    congr 1
    ·omega
    ·omega
   ·rw[e2]
    show _=n+((s[i]-48)*u+fr _ (u/10))
    omega
  | false =>
   rw[bn (by simp),po hi hx]
   exact⟨n,by simp,by show n=n+0;omega⟩
def di(s:List Int)(p:Nat):List Int:=if s[p]? = some 46 then cA (s.drop (p+1))else []
def gq(s:List Int)(p:Nat):Nat:=if di s p=[]then p else p+1+(di s p).length
theorem AJ(s:List Int)(hs:s.length≤1000000)(b:Bool)(p:Nat)(hp:p≤s.length)(n m:Int)(h0:0≤n)(hn:n≤100000000000000)(hm:0≤m)(hm2:m≤1000000) :
  (if(decide ((w64 ((p:Int)+1))<(List.length s:Int)))=true then
   if(0:Int)≤(p:Int)∧(p:Int)<(List.length s:Int) then
    if(decide ((List.getD s (p:Int).toNat 0)=46))=true then
     if(0:Int)≤(w64 ((p:Int)+1))∧(w64 ((p:Int)+1))<(List.length s:Int) then
      (mz (List.getD s (w64 ((p:Int)+1)).toNat 0)).bind fun(r2:Bool×Unit) =>
      if r2.1=true then
       oq s (w64 ((p:Int)+1)) b n m 100000
      else
       fw (p:Int) b n m
     else none
    else
     fw (p:Int) b n m
   else none
  else
   fw (p:Int) b n m)=fin (gq s p) b (n+fr (di s p) 100000) (m+(di s p).length):=by
 have hw:w64 ((p:Int)+1)=((p+1:Nat):Int):=ci (n:=1000001) (by omega) (by omega)
 rw[hw]
 have none:di s p=[]→fw (p:Int) b n m=fin (gq s p) b (n+fr (di s p) 100000) (m+(di s p).length):=by
  intro h
  unfold gq
  rw[h,bm rfl,AK _ _ _ _ h0]
  show fin p b n m=fin p b (n+0) (m+(0:Nat))
  congr 1
  ·omega
  ·omega
 by_cases h1:((p+1:Nat):Int)<(s.length:Int)
 ·have hp1:p<s.length:=by omega
  have hp2:p+1<s.length:=by omega
  rw[ak h1,al,cl hp1]
  by_cases h2:s[p]=46
  ·rw[ak h2,al,cl hp2,xI,aa]
   have hf:di s p=cA (s.drop (p+1)):=by unfold di;rw[List.getElem?_eq_getElem hp1,h2,bm rfl]
   cases hx:isD s[p+1] with
   | true =>
    rw[bm rfl]
    obtain⟨n',e1,e2⟩:=IY s hs b (s.length-(p+1)) (p+1) n m 100000 (by omega) h0 (by omega) (by omega) (by omega) hm (by omega)
    have hb:=pA _ (lO (s.drop (p+1)))
    have hne:di s p≠[]:=by
     rw[hf,rQ hp2 hx]
     exact List.cons_ne_nil _ _
    rw[e1,e2,AK _ _ _ _ (by omega),hf]
    unfold gq
    rw[bn hne,hf]
   | false =>
    rw[bn (by simp)]
    refine none ?_
    rw[hf,po hp2 hx]
  ·rw[aj h2]
   refine none ?_
   unfold di
   rw[List.getElem?_eq_getElem hp1,bn (by simpa using h2)]
 ·rw[aj h1]
  refine none ?_
  unfold di
  split
  ·exact ng (by omega)
  ·rfl
theorem IX(s:List Int)(hs:s.length≤1000000)(hb:Bt s)(b:Bool):∀ (d i:Nat) (n m:Int),i+d=s.length→0≤n→n≤100000000000000→0≤m→m≤i →
  qu s (i:Int) b n m=fin (gq s (i+(cA (s.drop i)).length)) b (sat n (cA (s.drop i))+fr (di s (i+(cA (s.drop i)).length)) 100000) (m+(cA (s.drop i)).length+(di s (i+(cA (s.drop i)).length)).length):=by
 intro d
 induction d with
 | zero =>
  intro i n m hd h0 hn hm hm2
  rw[F7,ap,AJ s hs b i (by omega) n m h0 hn hm (by omega),ng (show s.length≤i by omega)]
  simp[sat]
 | succ d ih =>
  intro i n m hd h0 hn hm hm2
  have hi:i<s.length:=by omega
  have hx0:=hb _ (aV hi)
  rw[F7,an,al]
  have hg:List.getD s (i:Int).toNat 0=s[i]:=cl hi 0
  rw[hg,xI,aa]
  cases hx:isD s[i] with
  | true =>
   have hxb:=(nK _).1 hx
   have hdg:cA (s.drop i)=s[i]::cA (s.drop (i+1)):=rQ hi hx
   rw[bm rfl,hdg]
   simp only[aR,sat]
   have el:i+((cA (s.drop (i+1))).length+1)=i+1+(cA (s.drop (i+1))).length:=by omega
   rw[el,ci hi (by omega),aq (n:=m+1)]
   by_cases hmx:n≤9000000000000
   ·rw[ak hmx,al,bm hmx,aq (n:=10*n),aq (n:=s[i]),aq (n:=s[i]-48),aq (n:=(s[i]-48)*1000000),aq (n:=10*n+(s[i]-48)*1000000),
     ih (i+1) _ (m+1) (by omega) (by omega) (by omega) (by omega) (by omega)]
    congr 1
    omega
   ·rw[aj hmx,bn hmx,ih (i+1) n (m+1) (by omega) h0 hn (by omega) (by omega)]
    congr 1
    omega
  | false =>
   have hdg:cA (s.drop i)=[]:=po hi hx
   rw[bn (by simp),hdg]
   have he:=AJ s hs b i (by omega) n m h0 hn hm (by omega)
   rw[hg]at he
   simp only[List.length_nil,Nat.add_zero,sat]
   rw[he]
   congr 1
   omega
theorem BH(s:List Int)(hs:s.length≤1000000):∀ (d p j:Nat),p+j+d=s.length+1→sA s (p:Int) (j:Int)=some (((j+(cA (s.drop (p+j))).length:Nat):Int),()):=by
 intro d
 induction d with
 | zero =>
  intro p j hd
  rw[C6,aq,ap,ng (by omega)]
  simp
 | succ d ih =>
  intro p j hd
  rw[C6,aq (n:=(p:Int)+j)]
  by_cases hlt:(p:Int)+j<(s.length:Int)
  ·have hi:p+j<s.length:=by omega
   have hg:List.getD s ((p:Int)+j).toNat 0=s[p+j]:=by
    rw[show((p:Int)+j).toNat=p+j by omega];exact cG hi 0
   rw[ak hlt,al,hg,ci (n:=1000001) (by omega) (by omega)]
   by_cases h1:s[p+j]≥48
   ·rw[ak h1,al]
    by_cases h2:s[p+j]≤57
    ·have hx:isD s[p+j]=true:=(nK _).2 ⟨h1,h2⟩
     rw[ak h2,ih p (j+1) (by omega),rQ hi hx,aR,show p+(j+1)=p+j+1 by omega]
     congr 3
     omega
    ·have hx:isD s[p+j]=false:=by
      cases h:isD s[p+j] with
      | false=>rfl
      | true=>exact absurd ((nK _).1 h).2 h2
     rw[aj h2,po hi hx]
     simp
   ·have hx:isD s[p+j]=false:=by
     cases h:isD s[p+j] with
     | false=>rfl
     | true=>exact absurd ((nK _).1 h).1 h1
    rw[aj h1,po hi hx]
    simp
  ·rw[aj hlt,ng (by omega)]
   simp
theorem CP(p:Int)(b:Bool)(w r:List Int)(hw:AllD w)(hr:AllD r)(lw:w.length≤1000000)(lr:r.length≤1000000):lY p b w r=fin p b (dv 0 w*1000000+fr r 100000) ((w.length:Int)+r.length):=by
 have hb:=pA r hr
 have hn:=kd w 0 hw (Int.le_refl 0)
 have tail:0<w.length+r.length→((pM w r).bind fun(r1:Int×Bool×Unit)=>if(!r1.2.1)=true then some ((0:Int),(0:Int),())else if b=true then some ((w64 (0-r1.1)),p,())else some (r1.1,p,()))=fin p b (dv 0 w*1000000+fr r 100000) ((w.length:Int)+r.length):=by
  intro hl
  rw[O7 w r hw hr lw lr,aa]
  unfold fin
  rw[bn (show ¬ (w.length:Int)+r.length=0 by omega)]
  by_cases h:dv 0 w*1000000+fr r 100000≤9000000000000
  ·rw[bm h]
   dsimp only
   rw[bn (show ¬ (!true)=true by decide),bn (show ¬ dv 0 w*1000000+fr r 100000>9000000000000 by omega),aq]
   cases b <;> rfl
  ·rw[bn h]
   dsimp only
   rw[bm (show(!false)=true by decide),al]
 rw[LJ]
 by_cases h1:w=[]
 ·rw[ak h1]
  by_cases h2:r=[]
  ·rw[ak h2,h1,h2];rfl
  ·rw[aj h2]
   exact tail (by have:=List.length_pos_iff.2 h2;omega)
 ·rw[aj h1]
  exact tail (by have:=List.length_pos_iff.2 h1;omega)
theorem CO(s:List Int)(hs:s.length≤1000000)(b:Bool)(i:Nat)(hi:i≤s.length) :
  gW s (i:Int) b=fin (gq s (i+(cA (s.drop i)).length)) b (dv 0 (cA (s.drop i))*1000000+fr (di s (i+(cA (s.drop i)).length)) 100000) ((cA (s.drop i)).length+(di s (i+(cA (s.drop i)).length)).length):=by
 have hdl:=rR (s.drop i)
 rw[aQ]at hdl
 have hD:=lO (s.drop i)
 rw[LI,C7,show(0:Int)=((0:Nat):Int)from rfl,BH s hs (s.length+1-i) i 0 (by omega),aa,Nat.zero_add,Nat.add_zero]
 dsimp only
 rw[aq]
 have hcut:List.take (((i:Int)+((cA (s.drop i)).length:Nat)).toNat-(i:Int).toNat) (List.drop (i:Int).toNat s)=cA (s.drop i):=by
  rw[show((i:Int)+((cA (s.drop i)).length:Nat)).toNat-(i:Int).toNat=(cA (s.drop i)).length by omega,af]
  exact BI _
 rw[hcut]
 generalize hDD:cA (s.drop i)=D at *
 have hz:(((0:Nat)):Int)=0:=rfl
 rw[hz,al]
 have hp:(i:Int)+(D.length:Nat)=((i+D.length:Nat):Int):=by omega
 rw[hp]
 generalize hP:i+D.length=P at *
 have none:di s P=[]→lY (P:Int) b D []=fin (gq s P) b (dv 0 D*1000000+fr (di s P) 100000) (D.length+(di s P).length):=by
  intro h
  rw[CP _ _ _ _ hD (fun x hx=>by cases hx) (by omega) (by simp)]
  unfold gq
  rw[h,bm rfl]
 by_cases h1:(P:Int)<(s.length:Int)
 ·have hP1:P<s.length:=by omega
  rw[ak h1,al,cl hP1]
  by_cases h2:s[P]=46
  ·have hw:w64 ((P:Int)+1)=((P+1:Nat):Int):=ci hP1 (by omega)
   have hf:di s P=cA (s.drop (P+1)):=by unfold di;rw[List.getElem?_eq_getElem hP1,h2,bm rfl]
   have hfl:=rR (s.drop (P+1))
   rw[aQ]at hfl
   have hF:=lO (s.drop (P+1))
   rw[ak h2,hw,C7,show(0:Int)=((0:Nat):Int)from rfl,BH s hs (s.length-P) (P+1) 0 (by omega),aa,Nat.zero_add,Nat.add_zero]
   dsimp only
   rw[hz,bV (n:=1+(((cA (s.drop (P+1))).length:Nat):Int)) (by omega) (by omega),bV (n:=((P+1:Nat):Int)+(((cA (s.drop (P+1))).length:Nat):Int)) (by omega) (by omega),bV (n:=(P:Int)+(1+(((cA (s.drop (P+1))).length:Nat):Int))) (by omega) (by omega)]
   have hcut2:List.take ((((P+1:Nat):Int)+((cA (s.drop (P+1))).length:Nat)).toNat-((P+1:Nat):Int).toNat) (List.drop ((P+1:Nat):Int).toNat s)=cA (s.drop (P+1)):=by
    rw[show(((P+1:Nat):Int)+((cA (s.drop (P+1))).length:Nat)).toNat-((P+1:Nat):Int).toNat=(cA (s.drop (P+1))).length by omega,af]
    exact BI _
   rw[hcut2]
   generalize hFF:cA (s.drop (P+1))=F at *
   by_cases h3:(F.length:Int)>0
   ·rw[ak h3,al,CP _ _ _ _ hD hF (by omega) (by omega)]
    unfold gq
    rw[hf,bn (fun h=>by rw[h]at h3;simp at h3)]
    congr 1
    omega
   ·rw[aj h3]
    exact none (by rw[hf];exact List.eq_nil_of_length_eq_zero (by omega))
  ·rw[aj h2]
   refine none ?_
   unfold di
   rw[List.getElem?_eq_getElem hP1,bn (by simpa using h2)]
 ·rw[aj h1]
  refine none ?_
  unfold di
  split
  ·exact ng (by omega)
  ·rfl
theorem tN(s:List Int)(hs:s.length≤1000000)(hb:Bt s)(b:Bool)(i:Nat)(hi:i≤s.length):eJ s (i:Int) b=gW s (i:Int) b:=by
 rw[QO,IX s hs hb b (s.length-i) i 0 0 (by omega) (by omega) (by omega) (by omega) (by omega),CO s hs b i hi]
 have hD:=lO (s.drop i)
 have hF:AllD (di s (i+(cA (s.drop i)).length)):=by
  unfold di
  split
  ·exact lO _
  ·intro x hx;cases hx
 generalize cA (s.drop i)=D at *
 generalize di s (i+D.length)=F at *
 have hfb:=pA F hF
 have hsat:=G7 D 0 hD (Int.le_refl 0)
 rw[Int.zero_mul]at hsat
 rcases hsat with h | ⟨h1,h2⟩
 ·rw[h,Int.zero_add]
 ·unfold fin
  rw[Int.zero_add]
  by_cases hm:((D.length:Nat):Int)+(F.length:Nat)=0
  ·rw[bm hm,bm hm]
  ·rw[bn hm,bn hm,al,al]
theorem KO{p:Int}{b:Bool}{n m:Int}(h0:0≤n):∃ v e,fin p b n m=some (v,e,())∧(e=0∨e=p)∧(-9000000000000≤v∧v≤9000000000000):=by
 unfold fin
 split
 ·exact⟨0,0,rfl,.inl rfl,by omega,by omega⟩
 ·split
  ·exact⟨0,0,rfl,.inl rfl,by omega,by omega⟩
  ·refine⟨_,p,rfl,.inr rfl,?_⟩
   split <;> omega
theorem Ky(s:List Int)(p:Nat)(hp:p≤s.length):gq s p≤s.length:=by
 unfold gq
 split
 ·exact hp
 ·rename_i h
  unfold di at h ⊢
  by_cases h46:s[p]? = some 46
  ·rw[bm h46]at h ⊢
   have:=rR (s.drop (p+1))
   rw[aQ]at this
   have hlt:p<s.length:=by
    by_cases h':p<s.length
    ·exact h'
    ·rw[List.getElem?_eq_none (by omega)]at h46;cases h46
   omega
  ·rw[bn h46]at h;exact absurd rfl h
theorem wG(s:List Int)(hs:s.length≤1000000)(b:Bool)(i:Nat)(hi:i≤s.length):∃ v e,gW s (i:Int) b=some (v,e,())∧(0≤e∧e≤(s.length:Int))∧(-9000000000000≤v∧v≤9000000000000):=by
 have hdl:=rR (s.drop i)
 rw[aQ]at hdl
 have hF:AllD (di s (i+(cA (s.drop i)).length)):=by
  unfold di
  split
  ·exact lO _
  ·intro x hx;cases hx
 rw[CO s hs b i hi]
 have h1:=kd _ 0 (lO (s.drop i)) (Int.le_refl 0)
 have h2:=pA _ hF
 have h3:=Ky s (i+(cA (s.drop i)).length) (by omega)
 obtain⟨v,e,k1,k2,k3⟩:=KO (p:=(gq s (i+(cA (s.drop i)).length):Nat)) (b:=b) (n:=dv 0 (cA (s.drop i))*1000000+fr (di s (i+(cA (s.drop i)).length)) 100000) (m:=((cA (s.drop i)).length+(di s (i+(cA (s.drop i)).length)).length)) (by omega)
 exact⟨v,e,k1,by rcases k2 with rfl | rfl <;> omega,k3⟩
def dH(l:List Int):Nat:=(l.takeWhile (fun x=>decide (x=32))).length
noncomputable def front(s:List Int)(p:Nat):Option (Int×Int×Unit) :=
 if s[p]? = some 45 then gW s ((p+1:Nat):Int) true else if s[p]? = some 43 then gW s ((p+1:Nat):Int) false else gW s (p:Int) false
theorem Ro(s:List Int)(hs:s.length≤1000000)(hb:Bt s):∀ (d i:Nat),i+d=s.length→tF s (i:Int)=front s (i+dH (s.drop i)):=by
 intro d
 induction d with
 | zero =>
  intro i hd
  rw[FZ,ap,ap,ap,tN s hs hb false i (by omega),aW (by omega)]
  rw[show i+dH []=i from rfl]
  unfold front
  rw[List.getElem?_eq_none (by omega),bn (by simp),bn (by simp)]
 | succ d ih =>
  intro i hd
  have hi:i<s.length:=by omega
  have c1:(i:Int)<(s.length:Int):=by omega
  have c2:(0:Int)≤(i:Int)∧(i:Int)<(s.length:Int):=by omega
  have hg:List.getD s (i:Int).toNat 0=s[i]:=cl hi 0
  have hdr:=ai hi
  rw[FZ,ak c1,bm c2,hg,ci hi (by omega)]
  by_cases h:s[i]=32
  ·rw[ak h,ih (i+1) (by omega),hdr]
   unfold dH
   rw[List.takeWhile_cons_of_pos (by simp[h]),aR,show i+1+(List.takeWhile (fun x=>decide (x=32)) (List.drop (i+1) s)).length=i+((List.takeWhile (fun x=>decide (x=32)) (List.drop (i+1) s)).length+1) by omega]
  ·have hl:dH (s.drop i)=0:=by
    unfold dH
    rw[hdr,List.takeWhile_cons_of_neg (by simpa using h)];rfl
   rw[aj h,ak c1,bm c2,ak c1,bm c2,hl,show i+0=i from rfl]
   unfold front
   rw[List.getElem?_eq_getElem hi]
   by_cases h1:s[i]=45
   ·rw[ak h1,bm (by rw[h1]),ac h1]
    exact tN s hs hb true (i+1) (by omega)
   ·rw[aj h1,bm c2,bn (show ¬ some s[i]=some 45 by simpa using h1),ae h1]
    by_cases h2:s[i]=43
    ·rw[ak h2,bm (by rw[h2])]
     exact tN s hs hb false (i+1) (by omega)
    ·rw[aj h2,bn (by simpa using h2)]
     exact tN s hs hb false i (by omega)
theorem OP(s:List Int):(s.length:Int)-(s.dropWhile (fun x=>decide (x=32))).length=dH s:=by
 have h:=congrArg List.length (List.takeWhile_append_dropWhile (p:=fun x=>decide (x=(32:Int))) (l:=s))
 rw[ag]at h
 unfold dH
 omega
theorem Eo(s:List Int):dH s≤s.length:=(List.takeWhile_sublist _).length_le
theorem Mx(s:List Int)(hs:s.length≤1000000):pD s=front s (dH s):=by
 have hL:=OP s
 have hle:=Eo s
 rw[LK,AP _ _ (by omega) (by omega),aa]
 dsimp only
 rw[hL,aq (n:=(dH s:Int))]
 unfold front
 by_cases c1:(dH s:Int)<(s.length:Int)
 ·have hi:dH s<s.length:=by omega
  have c2:(0:Int)≤(dH s:Int)∧(dH s:Int)<(s.length:Int):=by omega
  have hg:List.getD s (dH s:Int).toNat 0=s[dH s]:=cl hi 0
  rw[ak c1,bm c2,hg,ci hi (by omega),List.getElem?_eq_getElem hi]
  by_cases h2:s[dH s]=43
  ·rw[ak h2,bm c2,bn (by rw[h2];simp),bm (by rw[h2]),ae (by rw[h2];decide)]
  ·rw[aj h2,bm c2]
   by_cases h1:s[dH s]=45
   ·rw[ak h1,bm c2,bm (by rw[h1]),ac h1]
   ·rw[aj h1,bn (by simpa using h1),bn (by simpa using h2)]
 ·rw[aj c1,List.getElem?_eq_none (by omega),bn (by simp),bn (by simp)]
theorem v7(s:List Int)(hs:s.length≤1000000)(hb:Bt s):∃ v e,qt s=some (v,e,())∧pD s=some (v,e,())∧(0≤e∧e≤(s.length:Int))∧(-9000000000000≤v∧v≤9000000000000):=by
 have h1:qt s=front s (dH s):=by
  have:=Ro s hs hb s.length 0 (by omega)
  rw[show(((0:Nat)):Int)=0 from rfl,aM,Nat.zero_add]at this
  rw[QQ,this]
 rw[h1,Mx s hs]
 have hle:=Eo s
 have hlt:∀ c:Int,s[dH s]? = some c→dH s+1≤s.length:=fun c h=>by
  by_cases h':dH s<s.length
  ·exact h'
  ·rw[List.getElem?_eq_none (by omega)]at h;cases h
 unfold front
 split
 ·rename_i h
  obtain⟨v,e,k1,k2,k3⟩:=wG s hs true (dH s+1) (hlt _ h)
  exact⟨v,e,k1,k1,k2,k3⟩
 ·split
  ·rename_i h
   obtain⟨v,e,k1,k2,k3⟩:=wG s hs false (dH s+1) (hlt _ h)
   exact⟨v,e,k1,k1,k2,k3⟩
  ·obtain⟨v,e,k1,k2,k3⟩:=wG s hs false (dH s) hle
   exact⟨v,e,k1,k1,k2,k3⟩
theorem OX(s:List Int)(hs:s.length≤1000000)(v:Int):∀ (d i:Nat),i+d=s.length→tH s v (i:Int)=some (if ∀ x∈s.drop i,x=32 then(v,true,()) else(0,false,())):=by
 intro d
 induction d with
 | zero =>
  intro i hd
  rw[F9,ap,aW (by omega),bm (by simp)]
 | succ d ih =>
  intro i hd
  have hi:i<s.length:=by omega
  rw[F9,an,al,cl hi,ci hi (by omega),ih (i+1) (by omega),ai hi]
  by_cases h:s[i]=32
  ·rw[bn (by simp[h])]
   simp[h]
  ·rw[bm (by simp[h]),bn (fun hh=>h (hh _ (aD ..)))]
theorem BE(s:List Int)(hs:s.length≤1000000)(hb:Bt s):∃ v ok,tG s=some (v,ok,())∧wC s=some (v,ok,())∧(-9000000000000≤v∧v≤9000000000000):=by
 obtain⟨v,e,k1,k2,k3,k4⟩:=v7 s hs hb
 rw[QS,LM,k1,k2]
 simp only[aa]
 by_cases h:e=0
 ·rw[ak h,ak h];exact⟨0,false,rfl,rfl,by omega,by omega⟩
 ·obtain⟨n,rfl⟩:=Int.eq_ofNat_of_zero_le k3.1
  rw[aj h,aj h,bm k3,OX s hs v (s.length-n) n (by omega)]
  have hcut:List.take (s.length-(n:Int).toNat) (List.drop (n:Int).toNat s)=s.drop n:=by
   rw[af,a8 (by rw[aQ];omega)]
  rw[hcut]
  obtain⟨r,r1,r2⟩:=I5 (s.drop n) (by rw[aQ];omega)
  rw[r1,aa]
  by_cases hr:r=[]
  ·rw[bm (r2.1 hr),bn (by simp[hr])];exact⟨v,true,rfl,rfl,k4⟩
  ·rw[bn (fun hh=>hr (r2.2 hh)),bm (by simp[hr])];exact⟨0,false,rfl,rfl,by omega,by omega⟩
theorem v6(s:List Int)(hs:s.length≤9223372036854775807):ku s=some (s.take 300,()):=by
 rw[Mt]
 have hm:mnI (s.length:Int) 300=min (s.length:Int) 300:=by unfold mnI;split <;> omega
 rw[hm,al,aM,Nat.sub_zero]
 by_cases h:s.length≤300
 ·rw[a8 (by omega),a8 h]
 ·rw[show(min (s.length:Int) 300).toNat=300 by omega]
theorem Qd(s:List Int)(hs:s.length≤9223372036854775807)(hb:Bt s):∃ v,mu s=some (v,())∧l5 s=some (v,()):=by
 have hbt:Bt (s.take 300):=fun x hx=>hb x (List.mem_of_mem_take hx)
 obtain⟨v,ok,k1,k2,_⟩:=BE (s.take 300) (by rw[aP];omega) hbt
 have e1:mu s=tL (s.take 300) bU:=by
  rw[Re]
  by_cases h:(s.length:Int)>300
  ·rw[ak h,al];rfl
  ·rw[aj h,a8 (by omega)]
 rw[e1,Rd,CY,v6 s hs,k1,aa,aa]
 dsimp only
 rw[k2,aa]
 dsimp only
 cases ok with
 | true=>exact⟨_,rfl,rfl⟩
 | false=>rw[kE];exact⟨_,rfl,rfl⟩
noncomputable def ta(s:List Int):Int×Bool:=match tG s with
 | some (v,ok,_)=>(v,ok)
 | none=>(0,false)
noncomputable def iQ(v:bF):Bool:=(decide (-9000000000000≤v.N∧v.N≤9000000000000) && !decide ((v.S.length:Int)>300)) &&
 (if v.Kind=0 then decide (v.N=0)&&decide (v.S=[])else if v.Kind=1 then decide (v.S=[])else if v.Kind=2 then decide (v.N=0)else if v.Kind=3 then(ta v.S).2&&decide ((ta v.S).1=v.N)else false)
def dw(a b:bo):Bool:=decide (a.Name<b.Name)||(decide (a.Name=b.Name)&&ltS a.Key b.Key)
theorem Ru(a:bo)(n:Int)(k:List Int):zr a n k=some (decide (a.Name<n)||(decide (a.Name=n)&&ltS a.Key k),()):=by
 rw[Rt]
 cases decide (a.Name<n) <;> cases decide (a.Name=n) <;> rfl
theorem S5(a b:List Int):lq a b=some (dy a b,()):=by
 rw[IB,HZ,H4];rfl
noncomputable def vT(l:List bo)(c:Int)(i:Nat):Bool :=
 decide ((l.getD i cD).Name<0)||(decide ((l.getD i cD).Name≥c)||(decide (((l.getD i cD).Key.length:Int)>300)||(!iQ (l.getD i cD).Val||(decide ((i:Int)>0) && !dw (l.getD (i-1) cD) (l.getD i cD)))))
noncomputable def mG(s:bE)(v c:Int):Bool :=
 decide ((s.Vars.length:Int)=v)&&(!s.Vars.any (fun x=>!iQ x)&&(decide ((s.Cells.length:Int)≤40)&&(decide (0≤s.Nr∧s.Nr≤1000000)&&(decide (0≤s.Err∧s.Err≤7) && !eb (vT s.Cells c) s.Cells.length))))
def mV(s:bE):Prop:=(s.Vars.length≤2097152∧∀ v∈s.Vars,Bt v.S)∧s.Cells.length≤2097152∧∀ c∈s.Cells,Bt c.Val.S
def lv(l:List bA):Prop:=l.length≤2097152∧∀ o∈l,(∀ b∈o.S,0≤b∧b≤255)∧o.S.length≤2097152
def jX(p:bC):Prop:=(p.Vars.length≤2097152∧∀ s∈p.Vars,s.length≤2097152)∧(p.Cells.length≤2097152∧∀ s∈p.Cells,s.length≤2097152)∧lv p.Start∧lv p.Main
noncomputable def fZ(l:List bA)(v c:Int):Bool :=
 decide (1≤(l.length:Int)∧(l.length:Int)≤1500)&&(decide ((l.getD (l.length-1) cE).Code=36) && !l.any (fun o=>!opB o l.length v c))
theorem Gm(l:List bA)(v c:Int)(h:lv l):tK l v c=some (fZ l v c,()):=by
 have h1:=h.1
 rw[Ra,en,aa]
 dsimp only
 unfold fZ
 by_cases g:1≤(l.length:Int)∧(l.length:Int)≤1500
 ·have w1:w64 ((l.length:Int)-1)=((l.length-1:Nat):Int):=by rw[aq];omega
  have f:=ja (fun i=>ot l v c (l.length:Int) i) l.length (fun i=>!opB (l.getD i cE) l.length v c) (some (false,())) (some (true,())) (fun i hi=>by
   show ot l v c _ i=_
   rw[Gl,an,al,ci hi (by omega),af,RM _ _ _ _ (by rw[cG hi];exact(h.2 _ (aV hi)).1) (by rw[cG hi];have:=(h.2 _ (aV hi)).2;omega),aa]) (by
   show ot l v c _ _=_
   rw[Gl,bn (by simp)])
  rw[ac g,bn (by simp),w1,al,af,f,fQ l cE (fun o=>!opB o l.length v c)]
  cases decide ((l.getD (l.length-1) cE).Code=36) <;> cases l.any (fun o=>!opB o l.length v c) <;> rfl
 ·rw[ae g];rfl
theorem Jd(l:List bA)(v c:Int)(h:lv l):An l l v c=some (l.any (fun o=>!opB o l.length v c),l,v,c,()):=by
 have h1:=h.1
 rw[TR,T0]
 obtain⟨k,e,e1,_⟩:=jp (fun i=>oN l (l.length:Int) i l v c) (l,v,c,()) l.length (fun i=>!opB (l.getD i cE) l.length v c) (fun i hi=>by
  show oN l _ i l v c=_
  rw[Im,an,al,ci hi (by omega),af,L6,MR _ _ _ _ (by rw[cG hi];exact(h.2 _ (aV hi)).1) (by rw[cG hi];have:=(h.2 _ (aV hi)).2;omega),aa,aa]) (by
  show oN l _ _ l v c=_
  rw[Im,bn (by simp)])
 rw[e,aa]
 dsimp only
 rw[e1,fQ l cE (fun o=>!opB o l.length v c)]
theorem CW(l:List bA)(v c:Int)(h:lv l):sr l v c=some (fZ l v c,()):=by
 have h1:=h.1
 rw[L7,fS,aa]
 dsimp only
 unfold fZ
 by_cases g:1≤(l.length:Int)∧(l.length:Int)≤1500
 ·have w1:w64 ((l.length:Int)-1)=((l.length-1:Nat):Int):=by rw[aq];omega
  rw[ac g,bn (by simp),w1,al,af,Jd l v c h,aa]
  cases decide ((l.getD (l.length-1) cE).Code=36) <;> rfl
 ·rw[ae g];rfl
def hJ(l:List (List Int))(i:Nat):Bool:=!g9 (l.getD i [])||(decide ((i:Int)>0) && !ltS (l.getD (i-1) []) (l.getD i []))
def kI(l:List (List Int)):Bool:=!eb (hJ l) l.length&&decide ((l.length:Int)≤8)
theorem De(l:List (List Int))(hl:l.length≤2097152)(hs:∀ s∈l,s.length≤2097152):sE l=some (kI l,()):=by
 rw[MH]
 have f:=ja (fun i=>l8 l l (l.length:Int) i) l.length (hJ l) (some (false,())) (some (decide ((l.length:Int)≤8),())) (fun i hi=>by
  show l8 l l _ i=_
  rw[Dd,an,al,ci hi (by omega),af,MA _ (by rw[cG hi];have:=hs _ (aV hi);omega),aa]
  dsimp only
  unfold hJ
  by_cases h0:(i:Int)>0
  ·have w1:w64 ((i:Int)-1)=((i-1:Nat):Int):=by rw[aq];omega
   rw[ac h0,w1,af,bm (c:=(true=true)) rfl,bm (c:=0≤((i-1:Nat):Int)∧((i-1:Nat):Int)<(l.length:Int)) (by omega)]
   cases g9 (l.getD i []) <;> rfl
  ·rw[ae h0,bn (c:=(false=true)) (by simp)]
   cases g9 (l.getD i []) <;> rfl) (by
  show l8 l l _ _=_
  rw[Dd,bn (by simp)])
 rw[f]
 unfold kI
 cases eb (hJ l) l.length <;> rfl
noncomputable def fb(p:bC):Bool :=
 kI p.Vars&&(kI p.Cells&&(!p.Vars.any (fun s=>decide (s∈p.Cells))&&(fZ p.Start p.Vars.length p.Cells.length&&fZ p.Main p.Vars.length p.Cells.length)))
theorem Jc(p:bC)(h:jX p):Ao p.Vars p=some (p.Vars.any (fun s=>decide (s∈p.Cells)),p,()):=by
 have h1:=h.1.1
 have h2:=h.2.1.1
 rw[TT,T3]
 obtain⟨k,e,e1,_⟩:=jp (fun i=>oO p.Vars (p.Vars.length:Int) i p) (p,()) p.Vars.length (fun i=>decide (p.Vars.getD i []∈p.Cells)) (fun i hi=>by
  show oO p.Vars _ i p=_
  rw[Iu,an,al,ci hi (by omega),af,L8,vY _ _ (by omega),aa,aa]) (by
  show oO p.Vars _ _ p=_
  rw[Iu,bn (by simp)])
 rw[e,aa]
 dsimp only
 rw[e1,fQ p.Vars [] (fun s=>decide (s∈p.Cells))]
theorem wM(p:bC)(h:jX p):pH p=some (fb p,()):=by
 rw[L9,De _ h.1.1 h.1.2,De _ h.2.1.1 h.2.1.2,Jc p h]
 simp only[aa]
 rw[CW _ _ _ h.2.2.1,CW _ _ _ h.2.2.2]
 unfold fb
 cases kI p.Vars <;> cases kI p.Cells <;> cases p.Vars.any (fun s=>decide (s∈p.Cells)) <;> cases fZ p.Start p.Vars.length p.Cells.length <;> rfl
theorem Rc(p:bC)(h:jX p):zn p=some (fb p,()):=by
 have h1:=h.1.1
 have h2:=h.2.1.1
 rw[Rb]
 have f2:=ja (fun i=>kZ i p) p.Cells.length (hJ p.Cells) (some (false,())) (some (decide ((p.Vars.length:Int)≤8)&&(decide ((p.Cells.length:Int)≤8)&&(fZ p.Start p.Vars.length p.Cells.length&&fZ p.Main p.Vars.length p.Cells.length)),())) (fun i hi=>by
  show kZ i p=_
  rw[Gp,an,al,ci hi (by omega),af,G0 _ (by rw[cG hi];have:=h.2.1.2 _ (aV hi);omega),aa]
  dsimp only
  unfold hJ
  by_cases h0:(i:Int)>0
  ·have w1:w64 ((i:Int)-1)=((i-1:Nat):Int):=by rw[aq];omega
   rw[ac h0,w1,af,bm (c:=(true=true)) rfl,bm (c:=0≤((i-1:Nat):Int)∧((i-1:Nat):Int)<(p.Cells.length:Int)) (by omega),bm (c:=0≤(i:Int)∧(i:Int)<(p.Cells.length:Int)) (by omega)]
   cases g9 (p.Cells.getD i []) <;> rfl
  ·rw[ae h0,bn (c:=(false=true)) (by simp)]
   cases g9 (p.Cells.getD i []) <;> rfl) (by
  show kZ _ p=_
  rw[Gp,bn (by simp),Gm _ _ _ h.2.2.1,Gm _ _ _ h.2.2.2,aa,aa]
  cases decide ((p.Vars.length:Int)≤8) <;> cases decide ((p.Cells.length:Int)≤8) <;> cases fZ p.Start p.Vars.length p.Cells.length <;> rfl)
 have f1:=ja (fun i=>mt i p) p.Vars.length (fun i=>hJ p.Vars i||decide (p.Vars.getD i []∈p.Cells)) (some (false,())) (kZ 0 p) (fun i hi=>by
  show mt i p=_
  rw[Gn,an,al,ci hi (by omega),af,G0 _ (by rw[cG hi];have:=h.1.2 _ (aV hi);omega),aa,uI _ _ (by omega),aa]
  dsimp only
  rw[bm (c:=0≤(i:Int)∧(i:Int)<(p.Vars.length:Int)) (by omega)]
  unfold hJ
  by_cases h0:(i:Int)>0
  ·have w1:w64 ((i:Int)-1)=((i-1:Nat):Int):=by rw[aq];omega
   rw[ac h0,w1,af,bm (c:=(true=true)) rfl,bm (c:=0≤((i-1:Nat):Int)∧((i-1:Nat):Int)<(p.Vars.length:Int)) (by omega),bm (c:=0≤(i:Int)∧(i:Int)<(p.Vars.length:Int)) (by omega)]
   cases g9 (p.Vars.getD i []) <;> cases decide (p.Vars.getD i []∈p.Cells) <;> cases ltS (p.Vars.getD (i-1) []) (p.Vars.getD i []) <;> rfl
  ·rw[ae h0,bn (c:=(false=true)) (by simp)]
   cases g9 (p.Vars.getD i []) <;> cases decide (p.Vars.getD i []∈p.Cells) <;> rfl) (by
  show mt _ p=_
  rw[Gn,bn (by simp)])
 rw[f1,f2,Jb (hJ p.Vars) (fun i=>decide (p.Vars.getD i []∈p.Cells)),fQ p.Vars [] (fun s=>decide (s∈p.Cells))]
 unfold fb kI
 cases eb (hJ p.Vars) p.Vars.length <;> cases eb (hJ p.Cells) p.Cells.length <;> cases p.Vars.any (fun s=>decide (s∈p.Cells)) <;> cases decide ((p.Vars.length:Int)≤8) <;> cases decide ((p.Cells.length:Int)≤8) <;> rfl
noncomputable def tc(p:bC)(m:bz):Bool :=
 fb p&&(mG m.State p.Vars.length p.Cells.length&&(decide ((m.Done.length:Int)=3)&&(!m.Done.any (fun n=>!decide (0≤n∧n≤100000))&&decide ((m.Out.length:Int)≤1500))))
def eg(n:Nat):List Int:=(Lib.decDigits n).map fun b=>(b.toNat:Int)
theorem rP{n:Nat}(h:n<10):eg n=[48+(n:Int)]:=by
 unfold eg
 rw[Lib.decDigits,dif_pos h]
 have:(UInt8.ofNat (48+n)).toNat=48+n:=by rw[UInt8.toNat_ofNat'];omega
 simp only[bc,List.map_nil,this]
 congr 1
theorem wb{n:Nat}(h:¬ n<10):eg n=eg (n/10)++[48+((n%10:Nat):Int)]:=by
 unfold eg
 rw[Lib.decDigits,dif_neg h]
 have:(UInt8.ofNat (48+n%10)).toNat=48+n%10:=by rw[UInt8.toNat_ofNat'];omega
 simp only[List.map_append,bc,List.map_nil,this]
 congr 2
theorem NP(n:Nat):ju (n:Int)=eg n:=by
 unfold ju Lib.itoa eg
 rw[am,af]
theorem AllD.app{l m:List Int}(h:AllD l)(g:AllD m):AllD (l++m):=fun x hx=>(aA.1 hx).elim (h x) (g x)
theorem BG(n:Nat):AllD (eg n)∧dv 0 (eg n)=n∧eg n≠[]∧(0<n→∃ c r,eg n=c::r∧49≤c):=by
 induction n using Nat.strongRecOn with
 | ind n ih =>
  by_cases h:n<10
  ·rw[rP h]
   refine⟨fun x hx=>?_,?_,by simp,fun h0=>⟨_,_,rfl,by omega⟩⟩
   ·rw[aJ.1 hx];omega
   ·simp only[dv,List.foldl_cons,List.foldl_nil];omega
  ·obtain⟨h1,h2,h3,h4⟩:=ih (n/10) (by omega)
   rw[wb h]
   refine⟨h1.app fun x hx=>?_,?_,by simp,fun _=>?_⟩
   ·rw[aJ.1 hx];omega
   ·rw[wg,h2];simp only[dv,List.foldl_cons,List.foldl_nil];omega
   ·obtain⟨c,r,e,hc⟩:=h4 (by omega)
    rw[e]
    exact⟨c,r++_,rfl,hc⟩
theorem rO{n k:Nat}(h:n<10 ^ k)(hk:0<k):(eg n).length≤k:=by
 induction k generalizing n with
 | zero=>omega
 | succ k ih =>
  by_cases h9:n<10
  ·rw[rP h9];simp
  ·rw[wb h9,ag,bj]
   have hk0:0<k:=by
    rcases Nat.eq_zero_or_pos k with h0 | h0
    ·subst h0;omega
    ·exact h0
   have:=ih (n:=n/10) (by rw[Nat.pow_succ]at h;omega) hk0
   omega
theorem wc{r:Nat}(h:r<1000000):∃ l,eg (1000000+r)=49::l∧l.length=6∧AllD l∧dv 0 l=r:=by
 obtain⟨h1,h2,h3,h4⟩:=BG (1000000+r)
 obtain⟨c,l,e,hc⟩:=h4 (by omega)
 have hlen:=rO (n:=1000000+r) (k:=7) (by omega) (by omega)
 rw[e]at h1 h2 hlen
 have hl:=wh l h1.tail
 have hn:=kd l 0 h1.tail (Int.le_refl 0)
 have hc9:=h1.head
 rw[iw,ke]at h2
 simp only[aR]at hlen
 have h6:l.length=6:=by
  by_cases h6:l.length=6
  ·exact h6
  ·exfalso
   have h5:(10:Int) ^ l.length≤10 ^ 5:=by
    have:(10:Nat) ^ l.length≤10 ^ 5:=Nat.pow_le_pow_right (by omega) (by omega)
    exact_mod_cast this
   have:(10*0+(c-48))*10 ^ l.length≤9*10 ^ 5:=Int.mul_le_mul (by omega) h5 (Int.le_of_lt (Int.pow_pos (by omega))) (by omega)
   omega
 rw[h6]at h2 hl
 have hc1:c=49:=by omega
 subst hc1
 exact⟨l,e,h6,h1.tail,by omega⟩
theorem NV(n:Nat):∀ acc:List Int,acc.length+n≤9223372036854775807→tY (n:Int) acc=some ((if n=0 then []else eg n)++acc,()):=by
 induction n using Nat.strongRecOn with
 | ind n ih =>
  intro acc hb
  rw[R0]
  by_cases h0:n=0
  ·rw[ap,bm h0];rfl
  ·have e1:Int.tdiv (n:Int) 10=((n/10:Nat):Int):=rfl
   have e2:Int.tmod (n:Int) 10=((n%10:Nat):Int):=rfl
   have e3:w8 (w64 (48+((n%10:Nat):Int)))=48+((n%10:Nat):Int):=by rw[aq,Ag (by omega) (by omega)]
   rw[an,e1,e2,e3,bm (by rw[bj];omega),aq,bn h0,ih (n/10) (by omega) _ (by rw[ag,bj];omega)]
   by_cases h9:n<10
   ·rw[al,rP h9,Nat.mod_eq_of_lt h9];rfl
   ·rw[am,wb h9,ah]
theorem DY(n:Nat)(h:n≤9223372036854775807):tX (n:Int)=some (eg n,()):=by
 rw[R3]
 by_cases h0:n=0
 ·subst h0
  rw[an,rP (by omega)];rfl
 ·rw[ap,NV n [] (by simpa using h),bn h0,aH]
def eN(c:Int)(l:List Int):List Int:=(l.reverse.dropWhile (fun x=>decide (x=c))).reverse
theorem Ad(c:Int)(l:List Int):eN c (l++[c])=eN c l:=by
 unfold eN
 rw[List.reverse_append,List.reverse_singleton,List.singleton_append,List.dropWhile_cons_of_pos (by simp)]
theorem Ac{c x:Int}(h:x≠c)(l:List Int):eN c (l++[x])=l++[x]:=by
 unfold eN
 rw[List.reverse_append,List.reverse_singleton,List.singleton_append,List.dropWhile_cons_of_neg (by simpa using h),List.reverse_cons,List.reverse_reverse]
theorem uA{l:List Int}{n:Nat}(h:l.length=n+1):l=l.take (l.length-1)++[l[l.length-1]]:=by
 have h1:=List.take_append_drop (l.length-1) l
 have h2:l.drop (l.length-1)=[l[l.length-1]]:=by
  rw[ai (by omega),aW (by omega)]
 rw[h2]at h1
 exact h1.symm
theorem HK(c:Int):∀ (n:Nat) (l:List Int),l.length=n→∃ k,l=eN c l++List.replicate k c∧((∃ x∈l,x≠c)→eN c l≠[])
 | 0,l,h=>by
  have:l=[]:=List.eq_nil_of_length_eq_zero h
  subst this
  exact⟨0,rfl,fun⟨x,hx,_⟩=>by cases hx⟩
 | n+1,l,h=>by
  have hs:=uA h
  generalize hA:l.take (l.length-1)=A at hs
  generalize l[l.length-1]=x at hs
  have hAl:A.length=n:=by rw[← hA,aP];omega
  subst hs
  by_cases hx:x=c
  ·subst hx
   obtain⟨k,e,g⟩:=HK x n A hAl
   rw[Ad]
   refine⟨k+1,?_,fun⟨y,hy,hne⟩=>g ⟨y,?_,hne⟩⟩
   ·rw[List.replicate_succ',← ah,← e]
   ·rcases aA.1 hy with hy | hy
    ·exact hy
    ·exact absurd (aJ.1 hy) hne
  ·rw[Ac hx]
   exact⟨0,by simp,fun _=>by simp⟩
theorem Ab(c:Int)(l:List Int):(eN c l).length≤l.length:=by
 obtain⟨k,e,_⟩:=HK c l.length l rfl
 have:=congrArg List.length e
 rw[ag]at this
 omega
theorem HL(c:Int):∀ (n:Nat) (l:List Int),l.length=n→l.length≤4294967296→mS l c=some (eN c l,())
 | 0,l,hl,h=>by
  have:l=[]:=List.eq_nil_of_length_eq_zero hl
  subst this
  rw[u9,bn (by simp)];rfl
 | n+1,l,hl,h=>by
  rw[u9,an,aq,al,show((l.length:Int)-1).toNat=l.length-1 by omega,cG (by omega)]
  have hs:=uA hl
  have e:List.take (l.length-1-0) (List.drop 0 l)=l.take (l.length-1):=rfl
  by_cases hx:l[l.length-1]=c
  ·rw[ak hx,al,e,HL c n _ (by rw[aP];omega) (by rw[aP];omega)]
   rw[hx]at hs
   generalize l.take (l.length-1)=A at *
   subst hs
   rw[Ad]
  ·rw[aj hx]
   have:eN c l=l:=by
    generalize hA:l.take (l.length-1)=A at hs
    generalize l[l.length-1]=x at hs hx
    rw[hs];exact Ac hx _
   rw[this]
theorem I4(l:List Int)(h:l.length≤4294967296):Ax l [48]=some (eN 48 l,()):=by
 rw[Ue]
 by_cases h0:l=[]
 ·rw[ak h0,h0];rfl
 ·rw[aj h0,bn (by simp),bm (by simp),bm (by simp),bm (by simp),bm (by simp),IJ]
  show Option.bind (mS l 48) _=_
  rw[HL 48 _ l rfl h];rfl
theorem G5(t0:Int)(t4:List Int)(h4:t4.length≤1000):∀ (n:Nat) (l:List Int),l.length=n→l.length≤1000→(∃ x∈l,x≠48)→tI t0 t4 l=qv t0 (t4++[46]++eN 48 l)
 | 0,l,hl,_,⟨x,hx,_⟩=>by
  have:l=[]:=List.eq_nil_of_length_eq_zero hl
  subst this
  cases hx
 | n+1,l,hl,h,hne=>by
  rw[QW,aq,al,show((l.length:Int)-1).toNat=l.length-1 by omega,cG (by omega)]
  have hs:=uA hl
  have e:List.take (l.length-1-0) (List.drop 0 l)=l.take (l.length-1):=rfl
  by_cases hx:l[l.length-1]=48
  ·rw[ak hx,al,e]
   rw[hx]at hs
   obtain⟨x,hx1,hx2⟩:=hne
   have hx3:x∈l.take (l.length-1):=by
    rw[hs]at hx1
    rcases aA.1 hx1 with h1 | h1
    ·exact h1
    ·exact absurd (aJ.1 h1) hx2
   rw[G5 t0 t4 h4 n _ (by rw[aP];omega) (by rw[aP];omega) ⟨x,hx3,hx2⟩]
   have:eN 48 l=eN 48 (l.take (l.length-1)):=by
    generalize l.take (l.length-1)=A at *
    rw[hs];exact Ad 48 A
   rw[this]
  ·rw[aj hx,bm (by simp only[bj];omega),bm (by rw[ag];simp only[bj];omega)]
   have:eN 48 l=l:=by
    generalize hA:l.take (l.length-1)=A at hs
    generalize l[l.length-1]=x at hs hx
    rw[hs];exact Ac hx _
   rw[this]
def nl(r:Nat):List Int:=if 0<r then 46::eN 48 ((eg (1000000+r)).drop 1)else []
def lN(n:Nat):List Int:=eg (n/1000000)++nl (n%1000000)
def iY(n:Int):List Int:=if -9000000000000≤n∧n≤9000000000000 then(if n<0 then [45]else [])++lN n.natAbs else []
theorem KW{r:Nat}(h:r<1000000):(nl r).length≤7:=by
 unfold nl
 obtain⟨l,e,h6,_⟩:=wc h
 split
 ·rw[e,List.drop_one,List.tail_cons,aR]
  have:=Ab 48 l
  omega
 ·simp
theorem Ki{n:Nat}(h:n≤9000000000000):(lN n).length≤14:=by
 unfold lN
 have h1:=rO (n:=n/1000000) (k:=7) (by omega) (by omega)
 have h2:=KW (r:=n%1000000) (by omega)
 rw[ag];omega
theorem Kk(n:Int):(iY n).length≤15:=by
 unfold iY
 split
 ·rename_i h
  have:=Ki (n:=n.natAbs) (by omega)
  rw[ag]
  split
  ·simp only[bj];omega
  ·simp only[List.length_nil];omega
 ·simp
theorem DU(n:Nat):uY (n:Int)=some (eg n,()):=by rw[T8,NP]
theorem CM(n:Nat)(h:n≤9000000000000)(t:List Int)(ht:t.length≤1):sj (n:Int) t=some (t++lN n,()):=by
 have e1:Int.tdiv (n:Int) 1000000=((n/1000000:Nat):Int):=rfl
 have e2:Int.tmod (n:Int) 1000000=((n%1000000:Nat):Int):=rfl
 have h1:=rO (n:=n/1000000) (k:=7) (by omega) (by omega)
 rw[LO,e1,e2,aq,DU,aa]
 dsimp only
 rw[al]
 unfold lN nl
 by_cases h0:0<n%1000000
 ·have e3:w64 (1000000+((n%1000000:Nat):Int))=((1000000+n%1000000:Nat):Int):=by rw[aq];omega
  obtain⟨l,e,h6,_⟩:=wc (r:=n%1000000) (by omega)
  have e4:List.take ((49::l).length-1) (List.drop 1 (49::l))=l:=by simp
  have h7:=Ab 48 l
  rw[an,e3,DU,aa,bm h0]
  dsimp only
  rw[e,e4,bm (by rw[aR];omega),I4 l (by omega),aa]
  dsimp only
  rw[bm (by rw[bj];omega),bm (by simp only[ag,bj];omega),ah,List.drop_one,List.tail_cons]
  rfl
 ·rw[ap,bn h0,aH]
theorem LQ(n:Int):wD n=some (iY n,()):=by
 rw[LP,eG,aa]
 dsimp only
 unfold iY
 by_cases h:-9000000000000≤n∧n≤9000000000000
 ·rw[ac h,bn (by decide),bm h]
  by_cases h0:n<0
  ·rw[ak h0,bm h0,aq,show(0:Int)-n=((n.natAbs:Nat):Int) by omega,CM _ (by omega) _ (by simp)]
  ·have e:n=((n.natAbs:Nat):Int):=by omega
   rw[aj h0,bn h0]
   have:=CM n.natAbs (by omega) [] (by simp)
   rw[← e]at this
   exact this
 ·rw[ae h,bm (by decide),bn h]
theorem Ge(n:Int)(t:List Int)(h:t.length≤1000):qv n t=some ((if n<0 then [45]else [])++t,()):=by
 rw[QX]
 by_cases h0:n<0
 ·rw[ak h0,bm h0,bm (by rw[bj];omega)]
 ·rw[aj h0,bn h0];rfl
theorem iI(n:Int):fI n=some (decide (-9000000000000≤n∧n≤9000000000000),()):=by
 rw[Gd,GI]
 by_cases h:n ≥ -9000000000000
 ·rw[ak h]
  simp[show -9000000000000≤n from h]
 ·rw[aj h]
  simp[show ¬ -9000000000000≤n from h]
theorem QZ(n:Int):zg n=some (iY n,()):=by
 rw[QY,iI,aa]
 dsimp only
 unfold iY
 by_cases h:-9000000000000≤n∧n≤9000000000000
 ·rw[ac h,bn (by decide),bm h]
  have ea:oB n=some (((n.natAbs:Nat):Int),()):=by
   rw[GH]
   by_cases h0:n<0
   ·rw[ak h0,aq,show(0:Int)-n=((n.natAbs:Nat):Int) by omega]
   ·rw[aj h0,show((n.natAbs:Nat):Int)=n by omega]
  rw[ea,aa]
  dsimp only
  generalize hm:n.natAbs=m
  have e1:Int.tdiv (m:Int) 1000000=((m/1000000:Nat):Int):=rfl
  have e2:Int.tmod (m:Int) 1000000=((m%1000000:Nat):Int):=rfl
  have h1:=rO (n:=m/1000000) (k:=7) (by omega) (by omega)
  rw[e1,e2,aq,DY _ (by omega),aa]
  dsimp only
  unfold lN nl
  by_cases h0:0<m%1000000
  ·have e3:w64 (1000000+((m%1000000:Nat):Int))=((1000000+m%1000000:Nat):Int):=by rw[aq];omega
   obtain⟨l,e,h6,hd,hv⟩:=wc (r:=m%1000000) (by omega)
   have e4:List.take ((49::l).length-1) (List.drop 1 (49::l))=l:=by simp
   have h7:=Ab 48 l
   have hne:∃ x∈l,x≠48:=by
    by_cases hh:∃ x∈l,x≠48
    ·exact hh
    ·exfalso
     have hall:∀ x∈l,x=48:=fun x hx=>by
      by_cases hx48:x=48
      ·exact hx48
      ·exact absurd ⟨x,hx,hx48⟩ hh
     rw[List.eq_replicate_of_mem hall,wi]at hv
     omega
   rw[an,e3,DY _ (by omega),aa,bm h0]
   dsimp only
   rw[e,e4,bm (by rw[aR];omega),G5 n _ (by omega) _ l rfl (by omega) hne,Ge _ _ (by simp only[ag,bj];omega),List.drop_one,List.tail_cons,ah (eg _)]
   rfl
  ·rw[ap,bn h0,aH,Ge _ _ (by omega)]
 ·rw[ae h,bm (by decide),bn h]
def rA(v:bF):Prop:=v.S.length≤100000∧Bt v.S
def cr(v:bF):List Int:=if v.Kind=1 then iY v.N else v.S
theorem fj(v:bF):dX v=some (cr v,()):=by
 rw[Md]
 unfold cr
 by_cases h:v.Kind=1
 ·rw[ak h,bm h,LQ];rfl
 ·rw[aj h,bn h]
theorem fx(v:bF):eK v=some (cr v,()):=by
 rw[Ri]
 unfold cr
 by_cases h:v.Kind=1
 ·rw[ak h,bm h,QZ];rfl
 ·rw[aj h,bn h]
theorem HH{v:bF}(h:rA v):∃ n,fE v=some (n,())∧eB v=some (n,()):=by
 obtain⟨x,e,k1,k2,_⟩:=v7 v.S (by have:=h.1;omega) h.2
 have key:∀ b:Bool,∃ n,pI v.Kind b v=some (n,())∧qz v.Kind b v=some (n,()):=fun b=>by
  rw[C0,Gq,k1,k2]
  cases b with
  | true=>exact⟨_,rfl,rfl⟩
  | false =>
   by_cases h2:v.Kind=2
   ·rw[bn (by decide),ak h2];exact⟨_,rfl,rfl⟩
   ·rw[bn (by decide),aj h2];exact⟨_,rfl,rfl⟩
 rw[C1,Gr]
 split
 ·exact key _
 ·exact key _
theorem Hx(a b:List Int):lq a b=some (dy a b,()):=by
 rw[IB,HZ,H4];rfl
theorem EA:∀ a b:List Int,ltS a b=true→ltS b a=false
 | a,[],h=>by cases a <;> cases h
 | [],y::b,h=>rfl
 | x::a,y::b,h=>by
  unfold ltS at h ⊢
  rw[aU,az,ab,ab]at h
  rcases h with h | ⟨h1,h2⟩
  ·rw[ae (by omega),ae (by omega)];rfl
  ·subst h1
   rw[EA a b h2];simp
theorem J2(a b:List Int):dy b a=0-dy a b:=by
 unfold dy
 cases h:ltS a b with
 | true=>rw[EA a b h];rfl
 | false =>
  cases h2:ltS b a with
  | true=>rfl
  | false=>rfl
theorem Bd(b:Bool):my b=some (if b=true then 1 else 0,()):=by rw[zF];cases b <;> rfl
theorem Ka{a b:bF}(ha:rA a)(hb:rA b):∃ c,nn a b=some (c,())∧tE a b=some (c,())∧nn b a=some (0-c,())∧(-1≤c∧c≤1):=by
 obtain⟨x,x1,x2⟩:=HH ha
 obtain⟨y,y1,y2⟩:=HH hb
 have htext:∃ c,((dX a).bind fun(r0:(List Int)×Unit)=>(dX b).bind fun(r1:(List Int)×Unit)=>(lq r0.1 r1.1).bind fun(r2:Int×Unit)=>some (r2.1,()))=some (c,()) ∧
   (if(ltS (cr a) (cr b))=true then some ((-1),()) else(my (ltS (cr b) (cr a))).bind fun(r9:Int×Unit)=>some (r9.1,()))=some (c,()) ∧
   ((dX b).bind fun(r0:(List Int)×Unit)=>(dX a).bind fun(r1:(List Int)×Unit)=>(lq r0.1 r1.1).bind fun(r2:Int×Unit)=>some (r2.1,()))=some (0-c,())∧(-1≤c∧c≤1):=by
  refine⟨dy (cr a) (cr b),?_,?_,?_,Bo _ _⟩
  ·rw[fj,fj,aa,aa,Hx];rfl
  ·rw[Bd]
   unfold dy
   cases ltS (cr a) (cr b) <;> cases ltS (cr b) (cr a) <;> rfl
  ·rw[fj,fj,aa,aa,Hx,J2];rfl
 obtain⟨c,c1,c2,c3,c4⟩:=htext
 rw[CF a b,QL,CF b a,fx,fx]
 simp only[aa]
 by_cases ka:a.Kind=2
 ·have a1:decide (a.Kind=2)=true:=ac ka
  have a2:¬ (!decide (a.Kind=2))=true:=by rw[a1];decide
  rw[bn a2]
  by_cases kb:b.Kind=2
  ·have b1:decide (b.Kind=2)=true:=ac kb
   rw[bm a1,bm b1];exact⟨c,c1,c2,c3,c4⟩
  ·have b1:¬ decide (b.Kind=2)=true:=by rw[ab];exact kb
   rw[bm a1,bn b1,bm a1];exact⟨c,c1,c2,c3,c4⟩
 ·have a1:¬ decide (a.Kind=2)=true:=by rw[ab];exact ka
  have a2:(!decide (a.Kind=2))=true:=by rw[aS]at a1;rw[a1];rfl
  rw[bn a1,bm a2]
  by_cases kb:b.Kind=2
  ·have b1:decide (b.Kind=2)=true:=ac kb
   have b2:¬ (!decide (b.Kind=2))=true:=by rw[b1];decide
   rw[bm b1,bn b2,bm b1];exact⟨c,c1,c2,c3,c4⟩
  ·have b1:¬ decide (b.Kind=2)=true:=by rw[ab];exact kb
   have b2:(!decide (b.Kind=2))=true:=by rw[aS]at b1;rw[b1];rfl
   rw[bn b1,bm b2,bn b1,bn a1,x1,x2,y1,y2]
   simp only[aa,Bd,ab]
   by_cases l1:x<y
   ·refine⟨-1,by rw[bm l1],by rw[bm l1],?_,by omega,by omega⟩
    rw[am,al];rfl
   ·by_cases l2:x>y
    ·refine⟨1,by rw[bn l1,bm l2],by rw[bn l1,bm l2],?_,by omega,by omega⟩
     rw[al];rfl
    ·refine⟨0,by rw[bn l1,bn l2],by rw[bn l1,bn l2],?_,by omega,by omega⟩
     rw[am,am];rfl
theorem d6{n:Int}(h:0≤n)(h':n≤18446744073709551615):bZ n=n:=by
 show IntKind.u64.wrap n=n
 rw[IntKind.wrap_u64];omega
theorem jV(n:Int):bZ n=n%18446744073709551616:=by
 show IntKind.u64.wrap n=_
 rw[IntKind.wrap_u64]
theorem qF(n:Int):ib n=some (if -9000000000000≤n∧n≤9000000000000 then(n,true,()) else(0,false,())):=by
 rw[RY,iI,aa]
 dsimp only
 by_cases c:-9000000000000≤n∧n≤9000000000000
 ·rw[ac c,bm c];rfl
 ·rw[ae c,bn c];rfl
def Dc(n:Int):Prop:=-9000000000000≤n∧n≤9000000000000
theorem I7(a b:Int):zb a b=nq a b:=by
 rw[QM,CH,iI,iI,eG,eG,qF,pX]
theorem S6(a b:Int):zf a b=si a b:=by
 rw[QV,CL,iI,iI,eG,eG,qF,pX]
theorem Ks(a b:Int):zc a b=pC a b:=by
 rw[QN,CI,iI,iI,eG,eG,qF,pX]
theorem pd{n:Int}(h:0≤n)(h':n≤18446744073709551615):Go.bits .and .u64 n 4294967295=n%4294967296 :=
 bits_mask .u64 64 (by decide) (fun n h₀ h₁=>d6 h₀ (by omega)) 32 (by decide) n h (by omega)
theorem zU{n:Int}:d5 .u64 n 44=(n*17592186044416)%18446744073709551616:=jV _
theorem SQ{n:Int}:dd .u64 n 20=n/1048576:=by
 show n.fdiv 1048576=_
 rw[Int.fdiv_eq_ediv_of_nonneg _ (by decide)]
theorem qT{n:Int}:dd .u64 n 32=n/4294967296:=by
 show n.fdiv 4294967296=_
 rw[Int.fdiv_eq_ediv_of_nonneg _ (by decide)]
theorem PB{h l:Int}(h0:0≤h)(h1:h<1048576)(l0:0≤l)(l1:l<17592186044416):Go.bits .or .u64 (h*17592186044416) l=h*17592186044416+l:=by
 obtain⟨a,rfl⟩:=Int.eq_ofNat_of_zero_le h0
 obtain⟨b,rfl⟩:=Int.eq_ofNat_of_zero_le l0
 have e:=(bits_nat .u64 64 (by decide) (fun n h₀ h₁=>d6 h₀ (by omega)) (a*17592186044416) b (by omega) (by omega)).2
 have e2:=Nat.two_pow_add_eq_or_of_lt (i:=44) (b:=b) (by omega) a
 have e3:((a*17592186044416:Nat):Int)=(a:Int)*17592186044416:=by omega
 rw[← e3,e]
 have e4:2 ^ 44*a=a*17592186044416:=by omega
 rw[e4]at e2
 rw[← e2,Int.natCast_add]
theorem O8{x y:Int}(x0:0≤x)(x1:x≤9000000000000)(y0:0≤y)(y1:y≤9000000000000):uU x y=some (x*y/18446744073709551616,x*y%18446744073709551616,()):=by
 rw[TP]
 have hx:x=4294967296*(x/4294967296)+x%4294967296:=by omega
 have hy:y=4294967296*(y/4294967296)+y%4294967296:=by omega
 rw[qT,qT,pd x0 (by omega),pd y0 (by omega)]
 have a0:0≤x/4294967296:=by omega
 have a1:x/4294967296≤2100:=by omega
 have b0:0≤x%4294967296:=by omega
 have b1:x%4294967296≤4294967295:=by omega
 have c0:0≤y/4294967296:=by omega
 have c1:y/4294967296≤2100:=by omega
 have d0:0≤y%4294967296:=by omega
 have d1:y%4294967296≤4294967295:=by omega
 have hp:x*y=(x/4294967296*(y/4294967296))*18446744073709551616+(x/4294967296*(y%4294967296))*4294967296+(x%4294967296*(y/4294967296))*4294967296+x%4294967296*(y%4294967296):=by
  generalize x/4294967296=a at *
  generalize x%4294967296=b at *
  generalize y/4294967296=c at *
  generalize y%4294967296=d at *
  subst hx;subst hy
  grind
 rw[hp]
 have m1:=Int.mul_nonneg a0 c0
 have m2:=Int.mul_nonneg a0 d0
 have m3:=Int.mul_nonneg b0 c0
 have m4:=Int.mul_nonneg b0 d0
 have n1:=Int.mul_le_mul a1 c1 c0 (by decide)
 have n2:=Int.mul_le_mul a1 d1 d0 (by decide)
 have n3:=Int.mul_le_mul b1 c1 c0 (by decide)
 have n4:=Int.mul_le_mul b1 d1 d0 (by decide)
 generalize x/4294967296*(y/4294967296)=p11 at *
 generalize x/4294967296*(y%4294967296)=p10 at *
 generalize x%4294967296*(y/4294967296)=p01 at *
 generalize x%4294967296*(y%4294967296)=p00 at *
 clear hp hx hy a0 a1 b0 b1 c0 c1 d0 d1 x0 x1 y0 y1
 simp only[qT]
 rw[d6 m1 (by omega),d6 m2 (by omega),d6 m3 (by omega),d6 m4 (by omega)]
 rw[d6 (n:=p10+p00/4294967296) (by omega) (by omega),pd (by omega) (by omega),d6 (n:=(p10+p00/4294967296)%4294967296+p01) (by omega) (by omega),
  d6 (n:=p11+(p10+p00/4294967296)/4294967296) (by omega) (by omega),d6 (n:=p11+(p10+p00/4294967296)/4294967296+((p10+p00/4294967296)%4294967296+p01)/4294967296) (by omega) (by omega),jV]
 congr 2
 omega
theorem OZ:Aj 1000000=some (44,()):=by
 rw[TL,TO,bn (by decide),TM,bm (by decide),TN,bn (by decide),bm (by decide)]
 rfl
theorem Kr{p:Int}(p0:0≤p)(p1:p/18446744073709551616<1000000):∃ r,uP (p/18446744073709551616) (p%18446744073709551616) 1000000=some (p/1000000%18446744073709551616,r,()):=by
 have hh0:0≤p/18446744073709551616:=by omega
 have hl0:0≤p%18446744073709551616:=by omega
 have hl1:p%18446744073709551616≤18446744073709551615:=by omega
 have hpp:p=p/18446744073709551616*18446744073709551616+p%18446744073709551616:=by omega
 generalize p/18446744073709551616=h at *
 generalize p%18446744073709551616=l at *
 subst hpp
 rw[TK,bn (by decide),TD,ap,TE]
 by_cases c:h=0
 ·subst c
  rw[bm (by decide),bm (by decide),bm (by decide),ba hl0,jV,Int.zero_mul,Int.zero_add]
  exact⟨_,rfl⟩
 ·rw[aj c,OZ,aa]
  dsimp only
  have k1:bZ 44=44:=d6 (by decide) (by decide)
  have k2:bZ (64-44)=20:=d6 (by decide) (by decide)
  have k3:d5 .u64 1000000 44=17592186044416000000:=by rw[zU];rfl
  have k4:dd .u64 17592186044416000000 32=4096000000:=by rw[qT];rfl
  have k5:Go.bits .and .u64 17592186044416000000 4294967295=0:=by rw[pd (by decide) (by decide)];rfl
  have k6:d5 .u64 h 44=h*17592186044416:=by rw[zU];omega
  have k7:Go.bits .or .u64 (d5 .u64 h 44) (dd .u64 l 20)=h*17592186044416+l/1048576:=by rw[k6,SQ,PB hh0 (by omega) (by omega) (by omega)]
  have k8:d5 .u64 l 44=(l%1048576)*17592186044416:=by rw[zU];omega
  have k9:dd .u64 ((l%1048576)*17592186044416) 32=(l%1048576)*4096:=by rw[qT];omega
  have k10:Go.bits .and .u64 ((l%1048576)*17592186044416) 4294967295=0:=by rw[pd (by omega) (by omega)];omega
  rw[k1,k2,bm (by decide),bm (by decide),bm (by decide),bm (by decide),k3,k4,k5,k7,k8,k9,k10,bm (by decide)]
  have u0:0≤h*17592186044416+l/1048576:=by omega
  have u1:h*17592186044416+l/1048576<17592186044416000000:=by omega
  have t0:0≤(l%1048576)*4096:=by omega
  have t1:(l%1048576)*4096<4294967296:=by omega
  have hN:(h*17592186044416+l/1048576)*4294967296+(l%1048576)*4096=(h*18446744073709551616+l)*4096:=by omega
  generalize h*17592186044416+l/1048576=u at *
  generalize (l%1048576)*4096=v at *
  generalize h*18446744073709551616+l=P at *
  clear k6 k7 k8 k9 k10 k1 k2 k3 k4 k5
  rw[ba u0]
  have q0:bZ (u/4096000000)=u/4096000000:=d6 (by omega) (by omega)
  have q1:bZ (u/4096000000*4096000000)=u/4096000000*4096000000:=d6 (by omega) (by omega)
  have q2:bZ (u-u/4096000000*4096000000)=u%4096000000:=by rw[d6 (by omega) (by omega)];omega
  rw[q0,q1,q2,TF,ap,Int.mul_zero,jV 0,bn (by rw[ab,jV];omega),TH,bm (by decide)]
  have q3:bZ (bZ (bZ (u*4294967296)+v)-bZ (u/4096000000*17592186044416000000))=(u%4096000000)*4294967296+v:=by
   simp only[jV];omega
  rw[q3]
  have w0:0≤(u%4096000000)*4294967296+v:=by omega
  have w1:(u%4096000000)*4294967296+v<17592186044416000000:=by omega
  have w2:(u/4096000000)*4294967296+((u%4096000000)*4294967296+v)/4096000000=P/1000000:=by omega
  generalize hW:(u%4096000000)*4294967296+v=W at *
  rw[ba w0]
  have r0:bZ (W/4096000000)=W/4096000000:=d6 (by omega) (by omega)
  have r1:bZ (W/4096000000*4096000000)=W/4096000000*4096000000:=d6 (by omega) (by omega)
  have r2:bZ (W-W/4096000000*4096000000)=W%4096000000:=by rw[d6 (by omega) (by omega)];omega
  rw[r0,r1,r2,TI,ap,Int.mul_zero,jV 0,bn (by rw[ab,jV];omega),TJ,bm (by decide)]
  rw[d6 (n:=u/4096000000*4294967296) (by omega) (by omega),jV (_+_),w2]
  exact⟨_,rfl⟩
theorem rC{a:Int}(h:Dc a):sv a=some (if a<0 then 0-a else a,()):=by
 unfold Dc at h
 rw[Mg]
 by_cases c:a<0
 ·rw[ak c,bm c,aq,d6 (by omega) (by omega)]
 ·rw[aj c,bn c,d6 (by omega) (by omega)]
theorem AQ{a:Int}(h:Dc a):oB a=some (if a<0 then 0-a else a,()):=by
 unfold Dc at h
 rw[GH]
 by_cases c:a<0
 ·rw[ak c,bm c,aq]
 ·rw[aj c,bn c]
def nY(x y:Int)(n:Bool):Option (Int×Bool×Unit):=if x*y/1000000>9000000000000 then some (0,false,())else if n=true then some (0-x*y/1000000,true,())else some (x*y/1000000,true,())
theorem EG{x y:Int}(x0:0≤x)(x1:x≤9000000000000)(y0:0≤y)(y1:y≤9000000000000)(n:Bool) :
  ((uU x y).bind fun(r4:Int×Int×Unit) =>
   if(decide (r4.1≥1000000))=true then
    some (0,false,())
   else
    (uP r4.1 r4.2.1 1000000).bind fun(r5:Int×Int×Unit) =>
    if(decide (r5.1>9000000000000))=true then
     some (0,false,())
    else
     if n=true then
      some ((w64 (0-(w64 r5.1))),true,())
     else
      some ((w64 r5.1),true,()))=nY x y n:=by
 have p0:=Int.mul_nonneg x0 y0
 rw[O8 x0 x1 y0 y1,aa]
 dsimp only
 unfold nY
 generalize x*y=p at *
 by_cases c:p/18446744073709551616≥1000000
 ·rw[ak c,al]
 ·obtain⟨r,e⟩:=Kr p0 (by omega)
  rw[aj c,e,aa]
  dsimp only
  have hm:p/1000000%18446744073709551616=p/1000000:=by omega
  rw[hm]
  by_cases d:p/1000000>9000000000000
  ·rw[ak d,bm d]
  ·rw[aj d,bn d,aq (n:=p/1000000),aq]
theorem EH{x y:Int}(x0:0≤x)(x1:x≤9000000000000)(y0:0≤y)(y1:y≤9000000000000)(hw:x/1000000*y≤9000000000000) :
  w64 ((w64 ((w64 (Int.tdiv x 1000000))*y))+(w64 (Int.tdiv (w64 ((Int.tmod x 1000000)*y)) 1000000)))=x*y/1000000∧x*y/1000000≤18100000000000:=by
 have hx:x=1000000*(x/1000000)+x%1000000:=by omega
 have hp:x*y=1000000*(x/1000000*y)+x%1000000*y:=by
  generalize x/1000000=a at *
  generalize x%1000000=b at *
  subst hx
  grind
 have m0:0≤x/1000000*y:=Int.mul_nonneg (by omega) y0
 have r0:0≤x%1000000*y:=Int.mul_nonneg (by omega) y0
 have r1:x%1000000*y≤999999*9000000000000:=Int.mul_le_mul (by omega) y1 y0 (by decide)
 rw[ba x0,Int.tmod_eq_emod_of_nonneg x0,aq (n:=x/1000000),hp]
 generalize x/1000000*y=a at *
 generalize x%1000000*y=b at *
 rw[aq (n:=a),aq (n:=b),ba r0,aq (n:=b/1000000),aq]
 omega
theorem EI{x y:Int}(n:Bool)(h0:0≤x*y/1000000)(h1:x*y/1000000≤18100000000000) :
  (if n=true then(ib (w64 (0-(x*y/1000000)))).bind fun(r4:Int×Bool×Unit)=>some (r4.1,r4.2.1,()) else(ib (x*y/1000000)).bind fun(r5:Int×Bool×Unit)=>some (r5.1,r5.2.1,()))=nY x y n:=by
 unfold nY
 generalize x*y/1000000=q at *
 rw[qF,qF,aq]
 have h2:(q>9000000000000)∨(q≤9000000000000):=by omega
 rcases h2 with c | c
 ·have d1:¬ (-9000000000000≤0-q∧0-q≤9000000000000):=by omega
  have d2:¬ (-9000000000000≤q∧q≤9000000000000):=by omega
  simp only[bm c,bn d1,bn d2,aa,ite_self]
 ·have c':¬ q>9000000000000:=by omega
  have d1:-9000000000000≤0-q∧0-q≤9000000000000:=by omega
  have d2:-9000000000000≤q∧q≤9000000000000:=by omega
  simp only[bn c',bm d1,bm d2,aa]
theorem O9(a b:Int):ze a b=sg a b:=by
 rw[QT,CJ,iI,iI,eG,eG]
 simp only[aa]
 by_cases ha:Dc a
 ·have ha':=ha
  unfold Dc at ha'
  simp only[ac ha',Bool.not_true,Bool.false_eq_true,if_false]
  by_cases hb:Dc b
  ·have hb':=hb
   unfold Dc at hb'
   simp only[ac hb',Bool.not_true,Bool.false_eq_true,if_false,AQ ha,AQ hb,rC ha,rC hb,aa]
   have x0:0≤(if a<0 then 0-a else a):=by split <;> omega
   have x1:(if a<0 then 0-a else a)≤9000000000000:=by split <;> omega
   have y0:0≤(if b<0 then 0-b else b):=by split <;> omega
   have y1:(if b<0 then 0-b else b)≤9000000000000:=by split <;> omega
   generalize (if a<0 then 0-a else a)=x at *
   generalize (if b<0 then 0-b else b)=y at *
   generalize (!(decide ((decide (a<0))=(decide (b<0)))))=n
   rw[EG x0 x1 y0 y1 n]
   have p0:=Int.mul_nonneg x0 y0
   by_cases c:y>0
   ·have hx:x=1000000*(x/1000000)+x%1000000:=by omega
    have hp:x*y=1000000*(x/1000000*y)+x%1000000*y:=by
     generalize x/1000000=a at *
     generalize x%1000000=b at *
     subst hx
     grind
    have r0:0≤x%1000000*y:=Int.mul_nonneg (by omega) y0
    have hM:(0:Int)≤9000000000000/y:=Int.ediv_nonneg (by decide) y0
    have hM1:9000000000000/y≤9000000000000:=Int.ediv_le_self _ (by decide)
    rw[ak c,al,ba (a:=x) x0,ba (a:=9000000000000) (by decide),aq (n:=x/1000000),aq (n:=9000000000000/y)]
    by_cases d:x/1000000>9000000000000/y
    ·rw[ak d]
     have:¬ (x/1000000*y≤9000000000000):=fun h=>by
      have:=(Int.le_ediv_iff_mul_le c).2 h
      omega
     unfold nY
     rw[bm]
     rw[hp];omega
    ·have hw:=(Int.le_ediv_iff_mul_le c).1 (show x/1000000≤9000000000000/y by omega)
     obtain⟨e1,e2⟩:=EH x0 x1 y0 y1 hw
     rw[ba (a:=x) x0,aq (n:=x/1000000)]at e1
     rw[aj d,e1]
     exact EI n (by omega) e2
   ·have hy:y=0:=by omega
    obtain⟨e1,e2⟩:=EH x0 x1 y0 y1 (by rw[hy];simp)
    rw[aj c,e1]
    exact EI n (by omega) e2
  ·have hb':=hb
   unfold Dc at hb'
   simp only[ae hb',Bool.not_false,if_true]
 ·have ha':=ha
  unfold Dc at ha'
  simp only[ae ha',Bool.not_false,if_true]
def spl:List Int→List (List Int)
 | []=>[[]]
 | c::l=>if c=32 then []::spl l else((c::(spl l).getD 0 [])::(spl l).drop 1)
def pre(w:List Int):List (List Int)→List (List Int)
 | []=>[w]
 | x::xs=>(w++x)::xs
def ne(w:List Int):Bool:=!decide (w=[])
def dh(l:List Int):List (List Int):=(spl l).filter ne
theorem zZ(l:List Int):∃ x xs,spl l=x::xs:=by
 cases l with
 | nil=>exact⟨_,_,rfl⟩
 | cons c l=>rw[spl];split <;> exact⟨_,_,rfl⟩
theorem uC{c:Int}(h:c≠32)(l:List Int):spl (c::l)=pre [c] (spl l):=by
 obtain⟨x,xs,e⟩:=zZ l
 rw[spl,bn h,e];rfl
theorem uB:∀ l:List Int,(spl l).length=l.count 32+1
 | []=>rfl
 | c::l=>by
  by_cases h:c=32
  ·subst h;rw[spl,bm rfl,aR,uB l,List.count_cons_self]
  ·obtain⟨x,xs,e⟩:=zZ l
   rw[uC h,List.count_cons_of_ne h,← uB l,e];rfl
theorem EL{w:List Int}(h:w≠[]):ne w=true:=by unfold ne;rw[ae h];rfl
theorem xu:∀ l:List Int,(32∉l∧cC l [32] = -1∧spl l=[l])∨(∃ w r,l=w++32::r∧cC l [32]=(w.length:Int)∧spl l=w::spl r∧l.count 32=r.count 32+1)
 | []=>.inl ⟨by simp,rfl,rfl⟩
 | c::l=>by
  by_cases h:c=32
  ·subst h
   refine .inr ⟨[],l,rfl,?_,?_,?_⟩
   ·unfold cC;rw[bm (by simp[List.isPrefixOf])];rfl
   ·rw[spl,bm rfl]
   ·rw[List.count_cons_self]
  ·have hp:¬ ([32]:List Int).isPrefixOf (c::l)=true:=by
    rw[List.isPrefixOf_iff_prefix,List.cons_prefix_cons]
    exact fun e=>h e.1.symm
   rcases xu l with ⟨h1,h2,h3⟩ | ⟨w,r,h1,h2,h3,h4⟩
   ·refine .inl ⟨by simp[h1];exact fun e=>h e.symm,?_,?_⟩
    ·unfold cC;rw[bn hp,bm h2]
    ·rw[uC h,h3];rfl
   ·refine .inr ⟨c::w,r,by rw[h1];rfl,?_,?_,?_⟩
    ·unfold cC;rw[bn hp,am,h2];simp
    ·rw[uC h,h3];rfl
    ·rw[List.count_cons_of_ne h,h4]
theorem KY(n:Nat)(hn:n≤4294967290):∀ (k:Nat) (s:List Int) (done:List (List Int)),s.count 32=k→s.length≤4294967000→done.length+k+1=n→rf s [32] 0 ((n-1:Nat):Int) (done++List.replicate (k+1) []) (done.length:Int)=some (done++spl s,()):=by
 intro k
 induction k with
 | zero =>
  intro s done hk hs hd
  have hw:w64 ((done.length:Int)+1)=((done.length+1:Nat):Int):=by rw[aq];omega
  have hset:(done++List.replicate (0+1) ([]:List Int)).set done.length s=done++[s]:=by
   rw[List.set_append_right _ _ (aG _),Nat.sub_self];rfl
  have hsp:spl s=[s]:=by
   rcases xu s with ⟨_,_,h⟩ | ⟨w,r,_,_,_,h⟩
   ·exact h
   ·omega
  rw[IG,ap,af,hset,hw,bm (by simp;omega),bm (by simp;omega),af,a8 (by simp),hsp]
 | succ k ih =>
  intro s done hk hs hd
  have hw:w64 ((done.length:Int)+1)=((done.length+1:Nat):Int):=by rw[aq];omega
  rcases xu s with ⟨h,_,_⟩ | ⟨w,r,h1,h2,h3,h4⟩
  ·have:=List.count_eq_zero.2 h;omega
  ·have hsl:s.length=w.length+1+r.length:=by rw[h1];simp;omega
   have hw2:w64 ((w.length:Int)+0)=(w.length:Int):=by rw[aq];omega
   have hw3:w64 ((w.length:Int)+(([32]:List Int).length:Int))=((w.length+1:Nat):Int):=by rw[bV (by simp;omega) (by simp;omega)];simp
   have hset:∀ x:List Int,(done++List.replicate (k+1+1) ([]:List Int)).set done.length x=(done++[x])++List.replicate (k+1) []:=fun x=>by
    rw[List.set_append_right _ _ (aG _),Nat.sub_self,List.replicate_succ,ah];rfl
   have ht:List.take (w.length-0) (List.drop 0 s)=w:=by rw[h1];simp
   have hdr:List.take (s.length-(w.length+1)) (List.drop (w.length+1) s)=r:=by
    rw[h1,show w++32::r=(w++[32])++r by simp,List.drop_left' (by simp)]
    exact a8 (by simp;omega)
   rw[IG,an,Au,al,aa,h2]
   dsimp only
   rw[ap,hw2,al,bm (by simp;omega),hw3,al,af,af,af,hset,ht,hdr,hw]
   have:=ih r (done++[w]) (by omega) (by omega) (by simp;omega)
   rw[ag,bj]at this
   rw[this,h3,ah]
   rfl
theorem SV(t:List Int)(ht:t.length≤4294967000):Av t [32]=some (spl t,()):=by
 have hc:=List.count_le_length (a:=(32:Int)) (l:=t)
 rw[Uc,Ui,bn (by decide),bn (by decide),bm (by decide),Ub,bn (by simp),bm (by simp),bm (by simp),TA,aa,aa]
 dsimp only
 have hcv:ef t (List.getD [32] 0 0)=(t.count 32:Nat):=rfl
 have hw:w64 (((t.count 32:Nat):Int)+1)=((t.count 32+1:Nat):Int):=by rw[aq];omega
 have hw2:w64 ((t.length:Int)+1)=((t.length+1:Nat):Int):=by rw[aq];omega
 have hmn:mnI ((t.count 32+1:Nat):Int) ((t.length+1:Nat):Int)=((t.count 32+1:Nat):Int):=by unfold mnI;rw[am]
 have hw3:w64 (((t.count 32+1:Nat):Int)-1)=((t.count 32+1-1:Nat):Int):=by rw[aq];omega
 rw[hcv,hw,Uh,hw2,hmn,bm ⟨by omega,by omega,by rw[cg];omega⟩,hw3,af]
 have:=KY (t.count 32+1) (by omega) (t.count 32) t [] rfl ht (by simp)
 rw[bg,bg]at this
 have h0:rf t [32] 0 ((t.count 32+1-1:Nat):Int) (List.replicate (t.count 32+1) []) 0=some (spl t,()):=this
 rw[h0];rfl
theorem UD{α:Type}(lo hi:Nat)(z:α)(l:List α)(h:lo≤hi)(hl:hi=l.length):(gF lo hi z l).take lo=l.take lo∧(gF lo hi z l).length=l.length:=by
 unfold gF
 have e:List.append (List.append (List.take lo l) (List.replicate (hi-lo) z)) (List.drop hi l)=(l.take lo++List.replicate (hi-lo) z)++l.drop hi:=rfl
 rw[e]
 constructor
 ·rw[ah,List.take_left' (by rw[aP];omega)]
 ·simp;omega
theorem Kn(n:Nat)(hn:n≤4294967296):∀ (d j i:Nat) (t:List (List Int)),j+d=n→i<j→t.length=n→re t (i:Int) (j:Int)=some (t.take i++(t.drop j).filter ne,()):=by
 intro d
 induction d with
 | zero =>
  intro j i t hj hi ht
  obtain⟨z1,z2⟩:=UD i t.length ([]:List Int) t (by omega) rfl
  rw[Ie,ap,al,af,z2,al,z1,aW (by omega),List.filter_nil,aH]
 | succ d ih =>
  intro j i t hj hi ht
  have hj':j<t.length:=by omega
  rw[Ie,an,al,cl hj',CN,aa,ci hj' (by omega),ci (show i<t.length by omega) (by omega)]
  dsimp only
  rw[ai hj']
  by_cases c:t[j]=[]
  ·rw[bn (by simp[c]),List.filter_cons_of_neg (by rw[c];decide)]
   exact ih (j+1) i t (by omega) (by omega) ht
  ·rw[bm (by simp[c]),al,List.filter_cons_of_pos (EL c),af,ih (j+1) (i+1) _ (by omega) (by omega) (by rw[aX];exact ht)]
   congr 2
   have h1:(t.set i t[j]).take (i+1)=t.take i++[t[j]]:=by
    rw[List.take_add_one,List.take_set_of_le (aG _),List.getElem?_set_self (by omega)];rfl
   rw[h1,List.drop_set_of_lt (by omega),ah];rfl
theorem B1{l:List (List Int)}(h:∀ w∈l,w≠[]):l.filter ne=l:=List.filter_eq_self.2 fun w hw=>EL (h w hw)
theorem wa(t:List (List Int))(ht:t.length≤4294967296):Aq t=some (t.filter ne,()):=by
 obtain⟨k,e1,e2,e3,e4,e5⟩:=jp (fun i=>mQ t (t.length:Int) i) () t.length (fun i=>decide (t.getD i []=[]))
  (fun i hi=>by
   show mQ t _ _=_
   rw[Is,an,al,cl hi,CN,aa,cG hi,ci hi (by omega)])
  (by show mQ t _ _=_;rw[Is,bn (by simp)])
 have e1':mQ t (t.length:Int) 0=some (k,()):=e1
 rw[TW,T2,e1',aa]
 dsimp only
 by_cases c:k = -1
 ·rw[ak c,B1]
  intro w hw e
  have:eb (fun i=>decide (t.getD i []=[])) t.length=true:=by
   obtain⟨i,hi,rfl⟩:=bk.1 hw
   exact anyB_iff.2 ⟨i,hi,by rw[cG hi,e];rfl⟩
  rw[← e2,ab]at this
  omega
 ·have hk:0≤k:=by
   rcases Int.lt_or_le k 0 with h | h
   ·exact absurd (e5 h) c
   ·exact h
  obtain⟨f1,f2⟩:=e4 hk
  have hkn:k=((k.toNat:Nat):Int):=by omega
  have hkl:k.toNat<t.length:=by omega
  rw[aj c,hkn,ci hkl (by omega),Kn t.length ht (t.length-(k.toNat+1)) (k.toNat+1) k.toNat t (by omega) (by omega) rfl]
  congr 2
  have hs:t=t.take k.toNat++(t[k.toNat]::t.drop (k.toNat+1)):=by rw[← ai hkl,List.take_append_drop]
  have hz:t[k.toNat]=[]:=by have:=f1;rw[cG hkl,ab]at this;exact this
  have hpre:(t.take k.toNat).filter ne=t.take k.toNat:=B1 fun w hw e=>by
   obtain⟨i,hi,rfl⟩:=bk.1 hw
   rw[aP]at hi
   have:=f2 i (by omega)
   rw[List.getElem_take]at e
   rw[cG (by omega),e]at this
   cases this
  rw (occs:=.pos [3]) [hs]
  rw[List.filter_append,List.filter_cons_of_neg (by rw[hz];decide),hpre]
theorem C8(t:List Int)(ht:t.length≤4294967000):sk t=some (dh t,()):=by
 have hc:=List.count_le_length (a:=(32:Int)) (l:=t)
 have:=uB t
 rw[LR,SV t ht,aa]
 dsimp only
 rw[wa _ (by omega)]
 rfl
theorem rU(t:List Int):(dh t).length≤t.length+1:=by
 have hc:=List.count_le_length (a:=(32:Int)) (l:=t)
 have:=uB t
 have:=List.length_filter_le ne (spl t)
 unfold dh
 omega
theorem Hs:∀ (l:List Int) (P:Int→Prop),(∀ x∈l,P x)→∀ w∈spl l,(∀ x∈w,P x)∧w.length≤l.length
 | [],P,h,w,hw=>by rw[aJ.1 hw];exact⟨fun x hx=>(by cases hx),aG _⟩
 | c::l,P,h,w,hw=>by
  have ih:=Hs l P fun x hx=>h x (aE _ hx)
  by_cases hc:c=32
  ·rw[spl,bm hc]at hw
   rcases aK.1 hw with rfl | hw
   ·exact⟨fun x hx=>(by cases hx),Nat.zero_le _⟩
   ·exact⟨(ih w hw).1,by have:=(ih w hw).2;rw[aR];omega⟩
  ·obtain⟨x,xs,e⟩:=zZ l
   rw[uC hc,e]at hw
   rcases aK.1 (show w∈([c]++x)::xs from hw)with rfl | hw
   ·obtain⟨g1,g2⟩:=ih x (by rw[e];exact aD ..)
    refine⟨fun y hy=>?_,by simp;omega⟩
    rcases aK.1 (show y∈c::x from hy)with rfl | hy
    ·exact h _ (aD ..)
    ·exact g1 y hy
   ·obtain⟨g1,g2⟩:=ih w (by rw[e];exact aE _ hw)
    exact⟨g1,by rw[aR];omega⟩
theorem BV{l:List Int}{P:Int→Prop}(h:∀ x∈l,P x){w:List Int}(hw:w∈dh l):(∀ x∈w,P x)∧w.length≤l.length:=Hs l P h w (List.mem_filter.1 hw).1
def VG(v:bF):Prop:=iQ v=true∧Bt v.S
theorem VG.bd{v:bF}(h:VG v):Dc v.N∧v.S.length≤300:=by
 have h1:=h.1
 unfold iQ at h1
 rw[az,az,ab,Bool.not_eq_true',decide_eq_false_iff_not]at h1
 exact⟨h1.1.1,by have:=h1.1.2;omega⟩
theorem VG.drawn{v:bF}(h:VG v):rA v:=⟨by have:=h.bd.2;omega,h.2⟩
theorem gM{n:Int}(h:Dc n):VG ⟨1,n,[]⟩:=by
 refine⟨?_,fun x hx=>by cases hx⟩
 unfold iQ
 unfold Dc at h
 simp[h]
theorem pc{s:List Int}(h:s.length≤300)(hb:Bt s):VG ⟨2,0,s⟩:=by
 refine⟨?_,hb⟩
 unfold iQ
 simp;omega
theorem pb:VG ⟨0,0,[]⟩:=by
 refine⟨?_,fun x hx=>by cases hx⟩
 unfold iQ
 simp
noncomputable def cJ(v:bF):Int:=match fE v with
 | some (n,_)=>n
 | none=>0
theorem dz{v:bF}(h:VG v):fE v=some (cJ v,())∧eB v=some (cJ v,())∧Dc (cJ v):=by
 have key:∃ n,fE v=some (n,())∧eB v=some (n,())∧Dc n:=by
  obtain⟨hn,hs⟩:=h.bd
  obtain⟨x,e,k1,k2,_,k3⟩:=v7 v.S (by omega) h.2
  rw[C1,Gr]
  have key:∀ b:Bool,∃ n,pI v.Kind b v=some (n,())∧qz v.Kind b v=some (n,())∧Dc n:=fun b=>by
   rw[C0,Gq,k1,k2]
   cases b with
   | true=>exact⟨_,rfl,rfl,hn⟩
   | false =>
    by_cases h2:v.Kind=2
    ·rw[bn (by decide),ak h2];exact⟨_,rfl,rfl,k3⟩
    ·rw[bn (by decide),aj h2];exact⟨_,rfl,rfl,by unfold Dc;omega⟩
  by_cases h1:v.Kind=1
  ·rw[ak h1,ak h1];exact key _
  ·rw[aj h1,aj h1];exact key _
 obtain⟨n,e1,e2,e3⟩:=key
 have:cJ v=n:=by unfold cJ;rw[e1]
 rw[this]
 exact⟨e1,e2,e3⟩
theorem BF(n:Nat):Bt (eg n):=fun x hx=>by have:=(BG n).1 x hx;omega
theorem Ti(c:Int)(l:List Int):∀ x∈eN c l,x∈l:=fun x hx=>by
 unfold eN at hx
 rw[List.mem_reverse]at hx
 have:=(List.dropWhile_sublist _).subset hx
 rwa [List.mem_reverse]at this
theorem Kj(n:Int):Bt (iY n):=by
 intro x hx
 unfold iY at hx
 split at hx
 ·rcases aA.1 hx with hx | hx
  ·split at hx
   ·rw[aJ.1 hx];omega
   ·cases hx
  ·unfold lN at hx
   rcases aA.1 hx with hx | hx
   ·exact BF _ x hx
   ·unfold nl at hx
    split at hx
    ·rcases aK.1 hx with rfl | hx
     ·omega
     ·exact BF _ x (List.mem_of_mem_drop (Ti _ _ x hx))
    ·cases hx
 ·cases hx
theorem eM{v:bF}(h:VG v):(cr v).length≤300∧Bt (cr v):=by
 unfold cr
 split
 ·have:=Kk v.N;exact⟨by omega,Kj _⟩
 ·exact⟨h.bd.2,h.2⟩
def lk(v:bF):Bool:=if v.Kind=1∨v.Kind=3 then !decide (v.N=0)else if v.Kind=2 then !decide (v.S=[])else false
theorem oL(v:bF):pJ v=some (lk v,())∧qA v=some (lk v,()):=by
 rw[Mf,Rk]
 simp only[Me,Rj]
 unfold lk
 by_cases c1:v.Kind=1
 ·simp[c1]
 by_cases c3:v.Kind=3
 ·simp[c3]
 by_cases c2:v.Kind=2
 ·simp[c2]
 simp[c1,c2,c3]
noncomputable def fC(a b:bF):Int:=match nn a b with
 | some (n,_)=>n
 | none=>0
theorem Bq{a b:bF}(ha:VG a)(hb:VG b):nn a b=some (fC a b,())∧tE a b=some (fC a b,()):=by
 obtain⟨c,e1,e2,_⟩:=Ka ha.drawn hb.drawn
 have:fC a b=c:=by unfold fC;rw[e1]
 rw[this];exact⟨e1,e2⟩
noncomputable def kU(s:List Int):bF:=match l5 s with
 | some (v,_)=>v
 | none=>bU
theorem oh{s:List Int}(hs:s.length≤9223372036854775807)(hb:Bt s):l5 s=some (kU s,())∧mu s=some (kU s,())∧VG (kU s):=by
 obtain⟨w,k1,k2⟩:=Qd s hs hb
 have:kU s=w:=by unfold kU;rw[k2]
 rw[this]
 have hbt:Bt (s.take 300):=fun x hx=>hb x (List.mem_of_mem_take hx)
 have hl:(s.take 300).length≤300:=by rw[aP];omega
 have hd:decide (((s.take 300).length:Int)>300)=false:=ae (by omega)
 obtain⟨v,ok,l1,l2,l3⟩:=BE (s.take 300) (by omega) hbt
 refine⟨k2,k1,?_⟩
 rw[CY,v6 s hs,aa]at k2
 dsimp only at k2
 rw[l2,aa]at k2
 dsimp only at k2
 have e:ta (s.take 300)=(v,ok):=by unfold ta;rw[l1]
 cases ok with
 | true =>
  have hw:bF.mk 3 v (s.take 300)=w:=congrArg Prod.fst (aN k2)
  subst hw
  refine⟨?_,hbt⟩
  unfold iQ
  dsimp only
  rw[ac l3,e,hd,ac (show(v,true).1=v from rfl)]
  rfl
 | false =>
  rw[bn (by decide),kE,aa]at k2
  have hw:bF.mk 2 0 (s.take 300)=w:=congrArg Prod.fst (aN k2)
  subst hw
  refine⟨?_,hbt⟩
  unfold iQ
  dsimp only
  rw[ac (show(-9000000000000:Int)≤0∧(0:Int)≤9000000000000 by omega),hd]
  rfl
def eY(v:bF):List Int:=(cr v).take 300
theorem DW(v:bF):(eY v).length≤300:=by unfold eY;rw[aP];omega
theorem iA{v:bF}(h:VG v):ku (cr v)=some (eY v,())∧oy v=some (eY v,()):=by
 have hl:=(eM h).1
 refine⟨v6 _ (by omega),?_⟩
 rw[RB,fx,aa]
 dsimp only
 unfold eY
 rw[ap,a8 hl]
theorem HF{n:Int}(h:Dc n):-9000000≤Int.tdiv n 1000000∧Int.tdiv n 1000000≤9000000:=by
 unfold Dc at h
 rcases Int.lt_or_le n 0 with c | c
 ·have e:Int.tdiv n 1000000 = -(Int.tdiv (-n) 1000000):=by rw[Int.neg_tdiv,Int.neg_neg]
  rw[e,ba (by omega)];omega
 ·rw[ba c];omega
theorem Th{n:Int}(h:Dc n):-1000000<Int.tmod n 1000000∧Int.tmod n 1000000<1000000:=by
 have h1:=Int.tmod_lt_of_pos n (show(0:Int)<1000000 by decide)
 have h2:-1000000<Int.tmod n 1000000:=by
  have h3:=Int.tmod_lt_of_pos (-n) (show(0:Int)<1000000 by decide)
  rw[Int.neg_tmod]at h3
  omega
 exact⟨h2,h1⟩
theorem rN{n:Int}(h:Dc n):sf n=some (Int.tdiv n 1000000*1000000,())∧zd n=some (Int.tdiv n 1000000*1000000,())∧Dc (Int.tdiv n 1000000*1000000):=by
 have hb:=HF h
 have hm:=Th h
 have hd:1000000*Int.tdiv n 1000000+Int.tmod n 1000000=n:=Int.mul_tdiv_add_tmod n 1000000
 have hsame:0≤n→0≤Int.tmod n 1000000:=fun h0=>Int.tmod_nonneg _ h0
 have hneg:n≤0→Int.tmod n 1000000≤0:=fun h0=>by
  have:Int.tmod n 1000000 = -(Int.tmod (-n) 1000000):=by rw[Int.neg_tmod,Int.neg_neg]
  rw[this]
  have:=Int.tmod_nonneg (a:=-n) 1000000 (by omega)
  omega
 unfold Dc at h ⊢
 rw[LL,QR,aq (n:=Int.tdiv n 1000000),aq (n:=Int.tdiv n 1000000*1000000),show n-Int.tmod n 1000000=Int.tdiv n 1000000*1000000 by omega,aq]
 exact⟨rfl,rfl,by omega⟩
noncomputable def dA(v:bF):Int:=Int.tdiv (cJ v) 1000000
theorem oM{v:bF}(h:VG v):p8 v=some (dA v,())∧w64 (Int.tdiv (cJ v) 1000000)=dA v∧(-9000000≤dA v∧dA v≤9000000):=by
 obtain⟨e1,e2,e3⟩:=dz h
 have hb:=HF e3
 have e4:=(rN e3).1
 unfold dA
 refine⟨?_,aq,hb⟩
 rw[Nt,e1,aa]
 dsimp only
 rw[e4,aa]
 dsimp only
 rw[Int.mul_tdiv_cancel _ (by decide),aq]
noncomputable def pt(line:List Int)(n:Int):bF :=
 if n=0 then kU line else if 1≤n∧n≤((dh line).length:Int)then kU ((dh line).getD (n-1).toNat [])else kU []
theorem BU{line:List Int}(hl:line.length≤4294967000)(hb:Bt line)(n:Int):wW line n=some (pt line n,())∧VG (pt line n):=by
 have hf:=rU line
 obtain⟨r1,_,r3⟩:=oh (s:=line) (by omega) hb
 obtain⟨z1,_,z3⟩:=oh (s:=[]) (by simp) (fun x hx=>by cases hx)
 rw[Mv]
 unfold pt
 by_cases c:n=0
 ·rw[ak c,bm c,r1];exact⟨rfl,r3⟩
 ·rw[aj c,bn c,C8 line hl,aa,fS,aa]
  dsimp only
  by_cases d:1≤n∧n≤((dh line).length:Int)
  ·have hi:(n-1).toNat<(dh line).length:=by omega
   obtain⟨g1,g2⟩:=BV (P:=fun x=>0≤x∧x≤255) hb (aV hi)
   obtain⟨q1,_,q3⟩:=oh (s:=(dh line)[(n-1).toNat]) (by omega) g1
   rw[ak d,bm d,aq,al,cG hi,q1]
   exact⟨rfl,q3⟩
  ·rw[aj d,bn d,z1];exact⟨rfl,z3⟩
theorem yu:∀ a b:List Int,ltS a b=false→ltS b a=false→a=b
 | [],[],_,_=>rfl
 | [],y::b,h,_=>by cases h
 | x::a,[],_,h=>by cases h
 | x::a,y::b,h,g=>by
  unfold ltS at h g
  rw[Bool.or_eq_false_iff,decide_eq_false_iff_not]at h g
  have e:x=y:=by omega
  subst e
  rw[ac rfl,Bool.true_and]at h g
  rw[yu a b h.2 g.2]
theorem EB:∀ a b c:List Int,ltS a b=true→ltS b c=true→ltS a c=true
 | a,[],c,h,_=>by cases a <;> cases h
 | a,y::b,[],_,h=>by cases h
 | [],y::b,z::c,_,_=>rfl
 | x::a,y::b,z::c,h,g=>by
  unfold ltS at h g ⊢
  rw[aU,az,ab,ab]at h g ⊢
  rcases h with h | ⟨h1,h2⟩
  ·rcases g with g | ⟨g1,g2⟩
   ·exact .inl (by omega)
   ·exact .inl (by omega)
  ·rcases g with g | ⟨g1,g2⟩
   ·exact .inl (by omega)
   ·exact .inr ⟨by omega,EB a b c h2 g2⟩
theorem vU{a b:bo}:dw a b=true↔a.Name<b.Name∨(a.Name=b.Name∧ltS a.Key b.Key=true):=by
 unfold dw
 rw[aU,az,ab,ab]
theorem vV{a b c:bo}(h:dw a b=true)(g:dw b c=true):dw a c=true:=by
 rw[vU]at *
 rcases h with h | ⟨h1,h2⟩
 ·rcases g with g | ⟨g1,g2⟩
  ·exact .inl (by omega)
  ·exact .inl (by omega)
 ·rcases g with g | ⟨g1,g2⟩
  ·exact .inl (by omega)
  ·exact .inr ⟨by omega,EB _ _ _ h2 g2⟩
theorem JR{a b:bo}(h:dw a b=false)(hk:¬ (a.Name=b.Name∧a.Key=b.Key)):dw b a=true:=by
 rw[vU]
 have h':¬ (a.Name<b.Name∨(a.Name=b.Name∧ltS a.Key b.Key=true)):=by rw[← vU,h];decide
 by_cases c:b.Name<a.Name
 ·exact .inl c
 ·have e:b.Name=a.Name:=by
   rcases Int.lt_trichotomy a.Name b.Name with h | h | h
   ·exact absurd (.inl h) h'
   ·exact h.symm
   ·omega
  refine .inr ⟨e,?_⟩
  cases g:ltS b.Key a.Key with
  | true=>rfl
  | false =>
   have g2:ltS a.Key b.Key=false:=by
    cases g3:ltS a.Key b.Key with
    | false=>rfl
    | true=>exact absurd (.inr ⟨e.symm,g3⟩) h'
   exact absurd ⟨e.symm,yu _ _ g2 g⟩ hk
theorem Jp(a b:bo)(hk:¬ (a.Name=b.Name∧a.Key=b.Key)):∃ k,wS a b=some (k,())∧decide (k>0) = !dw a b:=by
 rw[Mp,S5,aa]
 unfold dw
 by_cases h:a.Name<b.Name
 ·rw[ak h,ac h];exact⟨_,rfl,rfl⟩
 ·rw[aj h,ae h]
  by_cases g:a.Name>b.Name
  ·rw[ak g,ae (by omega)];exact⟨_,rfl,rfl⟩
  ·have e:a.Name=b.Name:=by omega
   rw[aj g,ac e]
   refine⟨_,rfl,?_⟩
   dsimp only
   unfold dy
   cases h1:ltS a.Key b.Key with
   | true=>rfl
   | false =>
    cases h2:ltS b.Key a.Key with
    | true=>rfl
    | false=>exact absurd ⟨e,yu _ _ h1 h2⟩ hk
def atP(n:Int)(k:List Int)(c:bo):Bool:=decide (c.Name=n)&&decide (c.Key=k)
theorem atP_iff{n:Int}{k:List Int}{c:bo}:atP n k c=true↔c.Name=n∧c.Key=k:=by
 unfold atP;rw[az,ab,ab]
def atV(l:List bo)(n:Int)(k:List Int):Int:=if l.any (atP n k)=true then(l.findIdx (atP n k):Int)else -1
theorem wo{α:Type}{l:List α}{p:α→Bool}{z:α}{k:Int}(h0:0≤k)(hl:k<(l.length:Int))(h1:p (l.getD k.toNat z)=true)(h2:∀ j:Nat,(j:Int)<k→p (l.getD j z)=false):(l.findIdx p:Int)=k:=by
 have hk:k.toNat<l.length:=by omega
 have h3:l.findIdx p=k.toNat:=by
  rw[List.findIdx_eq hk]
  refine⟨by rw[← cG hk z];exact h1,fun j hj=>?_⟩
  rw[← cG (by omega) z]
  exact h2 j (by omega)
 rw[h3];omega
theorem wR(s:bE)(n:Int)(k:List Int)(hl:s.Cells.length≤100000):pL s n k=some (atV s.Cells n k,()):=by
 obtain⟨v,e1,e2,e3,e4,e5⟩:=jp (fun i=>mO s.Cells (s.Cells.length:Int) i n k) (n,k,()) s.Cells.length (fun i=>atP n k (s.Cells.getD i cD))
  (fun i hi=>by
   show mO s.Cells _ _ n k=_
   rw[Ik,an,al,cl hi,Mn,cG hi,ci hi (by omega)]
   unfold atP
   by_cases c:s.Cells[i].Name=n
   ·rw[ac c,bm rfl,aa,Bool.true_and]
   ·rw[ae c,bn (by decide),aa,Bool.false_and])
  (by show mO s.Cells _ _ n k=_;rw[Ik,bn (by simp)])
 have e1':mO s.Cells (s.Cells.length:Int) 0 n k=some (v,n,k,()):=e1
 rw[Mo,TZ,e1',aa]
 dsimp only
 congr 2
 unfold atV
 rw[fQ s.Cells cD (atP n k)]at e2
 by_cases c:0≤v
 ·rw[← e2,ak c]
  exact(wo c e3 (e4 c).1 (e4 c).2).symm
 ·rw[← e2,aj c]
  exact e5 (by omega)
theorem zq(s:bE)(n:Int)(k:List Int)(hl:s.Cells.length≤100000):qB s n k=some (atV s.Cells n k,()):=by
 obtain⟨v,e1,e2,e3,e4,e5⟩:=jp (fun i=>lf n k i s) () s.Cells.length (fun i=>atP n k (s.Cells.getD i cD))
  (fun i hi=>by
   show lf n k _ s=_
   rw[Gt,an,al,cl hi,cG hi,ci hi (by omega)]
   unfold atP
   by_cases c:s.Cells[i].Name=n
   ·rw[ac c,bm rfl,al,Bool.true_and]
   ·rw[ae c,bn (by decide),Bool.false_and,bn (by decide)])
  (by show lf n k _ s=_;rw[Gt,bn (by simp)])
 have e1':lf n k 0 s=some (v,()):=e1
 rw[Rr,e1']
 congr 2
 unfold atV
 rw[fQ s.Cells cD (atP n k)]at e2
 by_cases c:0≤v
 ·rw[← e2,ak c]
  exact(wo c e3 (e4 c).1 (e4 c).2).symm
 ·rw[← e2,aj c]
  exact e5 (by omega)
theorem lJ(l:List bo)(n:Int)(k:List Int):(atV l n k = -1∧∀ c∈l,¬ (c.Name=n∧c.Key=k))∨(0≤atV l n k∧atV l n k<(l.length:Int)):=by
 unfold atV
 by_cases c:l.any (atP n k)=true
 ·rw[bm c]
  have:=List.findIdx_lt_length_of_exists (xs:=l) (p:=atP n k) (by obtain⟨x,hx,e⟩:=List.any_eq_true.1 c;exact⟨x,hx,e⟩)
  exact .inr (by omega)
 ·rw[bn c]
  refine .inl ⟨rfl,fun x hx h=>c (List.any_eq_true.2 ⟨x,hx,atP_iff.2 h⟩)⟩
def ix(l:List bo)(n:Int)(k:List Int):bF:=if atV l n k<0 then bU else(l.getD (atV l n k).toNat cD).Val
theorem sa(s:bE)(n:Int)(k:List Int)(hl:s.Cells.length≤100000):sb s n k=some (ix s.Cells n k,())∧tB s n k=some (ix s.Cells n k,()):=by
 rw[LC,QI,wR s n k hl,zq s n k hl]
 simp only[aa]
 unfold ix
 rcases lJ s.Cells n k with ⟨h,_⟩ | h
 ·rw[an,bm (c:=atV s.Cells n k<0) (by omega)];exact⟨rfl,rfl⟩
 ·rw[ap,bm h,bn (c:=atV s.Cells n k<0) (by omega)];exact⟨rfl,rfl⟩
def eI(l:List bo)(c:bo):Nat:=l.findIdx fun x=>!dw x c
def iH(l:List bo)(n:Int)(k:List Int)(v:bF):Option (List bo) :=
 if 0≤atV l n k then some (l.set (atV l n k).toNat ⟨(l.getD (atV l n k).toNat cD).Name,(l.getD (atV l n k).toNat cD).Key,v⟩)
 else if 40≤l.length then none else some (eH l (eI l ⟨n,k,v⟩) [⟨n,k,v⟩])
theorem rJ{s:bE}(hv:s.Vars.length≤100000)(hc:s.Cells.length≤100000):ou s=some (s,()):=by
 rw[Rs,bm (by rw[cg];omega),bm (by rw[cg];omega)];rfl
theorem JY(l:List bF)(h:l.length≤100000):uV l=some (l,()):=by
 rw[Id]
 cases l with
 | nil=>rw[bm (c:=Nat.beq (List.length ([]:List bF)) 0=true) rfl,bm (by rw[cg];simp)];exact AW _
 | cons v l=>rw[bn (c:=Nat.beq (List.length (v::l)) 0=true) (show ¬ (false=true) by decide),bm (by rw[cg];omega)];rfl
theorem JX(l:List bo)(h:l.length≤100000):Am l=some (l,()):=by
 rw[TQ]
 cases l with
 | nil=>rw[bm (c:=Nat.beq (List.length ([]:List bo)) 0=true) rfl,bm (by rw[cg];simp)];exact AW _
 | cons v l=>rw[bn (c:=Nat.beq (List.length (v::l)) 0=true) (show ¬ (false=true) by decide),bm (by rw[cg];omega)];rfl
theorem rI{s:bE}(hv:s.Vars.length≤100000)(hc:s.Cells.length≤100000):nx s=some (s,()):=by
 rw[Mq,JY _ hv,JX _ hc];rfl
theorem Fz(l:List bo)(c:bo):eI l c≤l.length:=List.findIdx_le_length
theorem P7(s:bE)(n:Int)(k:List Int)(v:bF)(hv:s.Vars.length≤100000)(hl:s.Cells.length≤100000) :
  wA s n k v=some (match iH s.Cells n k v with | some C=>(⟨s.Vars,C,s.Nr,s.Err⟩,true,()) | none=>(s,false,())):=by
 rw[LE,rI hv hl,wR s n k hl,aa,aa]
 dsimp only
 unfold iH
 rcases lJ s.Cells n k with ⟨h,hno⟩ | h
 ·rw[ap,bn (c:=0≤atV s.Cells n k) (by omega)]
  by_cases c:40≤s.Cells.length
  ·rw[an,bm c]
  ·rw[ap,bn c]
   obtain⟨j,e1,e2,e3,e4,e5⟩:=jp (fun i=>mN s.Cells (s.Cells.length:Int) i ⟨n,k,v⟩) ((⟨n,k,v⟩:bo),()) s.Cells.length (fun i=>!dw (s.Cells.getD i cD) ⟨n,k,v⟩)
    (fun i hi=>by
     show mN s.Cells _ _ _=_
     obtain⟨q,g1,g2⟩:=Jp s.Cells[i] ⟨n,k,v⟩ (hno _ (aV hi))
     rw[Ii,an,al,cl hi,LD,g1,aa,aa,cG hi,ci hi (by omega)]
     dsimp only
     rw[g2])
    (by show mN s.Cells _ _ _=_;rw[Ii,bn (by simp)])
   have e1':mN s.Cells (s.Cells.length:Int) 0 ⟨n,k,v⟩=some (j,⟨n,k,v⟩,()):=e1
   rw[TY,e1',aa]
   dsimp only
   rw[fQ s.Cells cD (fun x=>!dw x ⟨n,k,v⟩)]at e2
   have hins:∀ q:Int,q=(eI s.Cells ⟨n,k,v⟩:Int)→uX s.Cells q [⟨n,k,v⟩]=some (eH s.Cells (eI s.Cells ⟨n,k,v⟩) [⟨n,k,v⟩],()):=fun q hq=>by
    have:=Fz s.Cells ⟨n,k,v⟩
    subst hq
    rw[T6]
    unfold nI
    rw[bm ⟨⟨by omega,by omega⟩,rfl,by omega⟩,af]
   by_cases c2:j<0
   ·have hz:(s.Cells.any fun x=>!dw x ⟨n,k,v⟩)=false:=by rw[← e2];exact ae (by omega)
    have hp:eI s.Cells ⟨n,k,v⟩=s.Cells.length:=by
     unfold eI
     rw[List.findIdx_eq_length]
     intro x hx
     have:=List.any_eq_false.1 hz x hx
     simpa using this
    rw[ak c2,hins _ (by rw[hp])];rfl
   ·have hp:(eI s.Cells ⟨n,k,v⟩:Int)=j:=wo (p:=fun x=>!dw x ⟨n,k,v⟩) (z:=cD) (by omega) e3 (e4 (by omega)).1 (e4 (by omega)).2
    rw[aj c2,hins _ hp.symm];rfl
 ·rw[an,bm h,bm h.1]
theorem P8(s:bE)(n:Int)(k:List Int)(v:bF)(hv:s.Vars.length≤100000)(hl:s.Cells.length≤100000) :
  za s n k v=some (match iH s.Cells n k v with | some C=>(⟨s.Vars,C,s.Nr,s.Err⟩,true,()) | none=>(s,false,())):=by
 rw[QJ,rJ hv hl,zq s n k hl,aa,aa]
 dsimp only
 unfold iH
 rcases lJ s.Cells n k with ⟨h,hno⟩ | h
 ·rw[ap,bn (c:=0≤atV s.Cells n k) (by omega)]
  by_cases c:40≤s.Cells.length
  ·rw[an,bm c]
  ·rw[ap,bn c]
   have fin:∀ i:Nat,i≤s.Cells.length→(List.append (List.append (List.append [] (List.take ((i:Int).toNat-0) (List.drop 0 s.Cells))) [(bo.mk n k v)]) (List.take ((List.length s.Cells)-(i:Int).toNat) (List.drop (i:Int).toNat s.Cells)))=eH s.Cells i [⟨n,k,v⟩]:=fun i hi=>by
    unfold eH
    simp only[af,Nat.sub_zero,aM]
    rw[a8 (i:=s.Cells.length-i) (by rw[aQ];omega)]
    show([]++s.Cells.take i)++[(⟨n,k,v⟩:bo)]++s.Cells.drop i=_
    simp
   have key:∀ (d i:Nat),i+d=s.Cells.length→(∀ j,j<i→dw (s.Cells.getD j cD) ⟨n,k,v⟩=true)→tC n k (i:Int) s v mT s=some (⟨s.Vars,eH s.Cells (eI s.Cells ⟨n,k,v⟩) [⟨n,k,v⟩],s.Nr,s.Err⟩,true,()):=by
    intro d
    induction d with
    | zero =>
     intro i hi hj
     have hp:eI s.Cells ⟨n,k,v⟩=i:=by
      rw[show i=s.Cells.length by omega]
      unfold eI
      rw[List.findIdx_eq_length]
      intro x hx
      obtain⟨j,hj',rfl⟩:=bk.1 hx
      have:=hj j (by omega)
      rw[cG hj']at this
      rw[this];rfl
     rw[FX,ap,al,bm (by rw[cg];simp;omega),bm (by rw[cg];simp;omega),al,bm (by rw[cg];simp;omega),fin i (by omega),hp]
    | succ d ih =>
     intro i hi hj
     have hi':i<s.Cells.length:=by omega
     rw[FX,an,al,cl hi',Ru,aa]
     dsimp only
     rw[show(decide (s.Cells[i].Name<n)||(decide (s.Cells[i].Name=n)&&ltS s.Cells[i].Key k))=dw s.Cells[i] ⟨n,k,v⟩from rfl]
     cases c3:dw s.Cells[i] ⟨n,k,v⟩ with
     | true =>
      rw[bm rfl,ci hi' (by omega)]
      refine ih (i+1) (by omega) fun j hji=>?_
      by_cases e:j=i
      ·subst e;rw[cG hi'];exact c3
      ·exact hj j (by omega)
     | false =>
      have hp:eI s.Cells ⟨n,k,v⟩=i:=by
       unfold eI
       rw[List.findIdx_eq hi']
       refine⟨by rw[c3];rfl,fun j hji=>?_⟩
       have:=hj j hji
       rw[cG (by omega)]at this
       rw[this];rfl
      rw[bn (by decide),al,bm (by rw[cg];simp;omega),bm (by rw[cg];simp;omega),al,bm (by rw[cg];simp;omega),fin i (by omega),hp]
   exact key s.Cells.length 0 (by omega) fun j hj=>absurd hj (by omega)
 ·rw[an,bm h,bm h.1]
def nh(l:List bo)(n:Int)(k:List Int):List bo:=if 0≤atV l n k then gm l (atV l n k).toNat ((atV l n k).toNat+1)else l
theorem BM(s:bE)(n:Int)(k:List Int)(hv:s.Vars.length≤100000)(hl:s.Cells.length≤100000):wz s n k=some (⟨s.Vars,nh s.Cells n k,s.Nr,s.Err⟩,())∧y9 s n k=some (⟨s.Vars,nh s.Cells n k,s.Nr,s.Err⟩,()):=by
 rw[LB,QH,rI hv hl,rJ hv hl,wR s n k hl,zq s n k hl]
 simp only[aa]
 unfold nh
 rcases lJ s.Cells n k with ⟨h,hno⟩ | h
 ·have h1:¬ decide (atV s.Cells n k≥0)=true:=by rw[ab];omega
  rw[bn h1,bn h1,bn (c:=0≤atV s.Cells n k) (by omega)];exact⟨rfl,rfl⟩
 ·have h1:decide (atV s.Cells n k≥0)=true:=ac (by omega)
  have hw:w64 (atV s.Cells n k+1)=atV s.Cells n k+1:=aq
  rw[bm h1,bm h1,bm h.1,hw]
  have e0:(atV s.Cells n k+1).toNat=(atV s.Cells n k).toNat+1:=by omega
  constructor
  ·rw[TX]
   unfold nf
   rw[al,e0];rfl
  ·rw[al,bm (by rw[cg];simp;omega),al,bm (by rw[cg];simp;omega),e0]
   congr 3
   unfold gm
   rw[a8 (i:=s.Cells.length-((atV s.Cells n k).toNat+1)) (by rw[aQ];omega),Nat.sub_zero,aM]
   rfl
def CG(nc:Int)(l:List bo):Prop:=l.length≤40∧(∀ c∈l,0≤c.Name∧c.Name<nc∧c.Key.length≤300∧VG c.Val)∧l.Pairwise fun a b=>dw a b=true
theorem rZ{nc:Int}{l:List bo}(h:CG nc l)(n:Int)(k:List Int):VG (ix l n k):=by
 unfold ix
 split
 ·exact pb
 ·rcases lJ l n k with h1 | h1
  ·omega
  ·rw[cG (by omega)];exact(h.2.1 _ (aV _)).2.2.2
theorem P6{nc:Int}{l l':List bo}(h:CG nc l){n:Int}{k:List Int}{v:bF}(hn:0≤n∧n<nc)(hk:k.length≤300)(hv:VG v)(e:iH l n k v=some l'):CG nc l':=by
 obtain⟨h1,h2,h3⟩:=h
 unfold iH at e
 by_cases c:0≤atV l n k
 ·rw[bm c]at e
  have e:=aN e
  have hb:(atV l n k).toNat<l.length:=by
   rcases lJ l n k with h | h <;> omega
  rw[cG hb]at e
  subst e
  refine⟨by rw[aX];exact h1,fun x hx=>?_,?_⟩
  ·rcases List.mem_or_eq_of_mem_set hx with hx | hx
   ·exact h2 x hx
   ·obtain⟨g1,g2,g3,g4⟩:=h2 _ (aV hb)
    rw[hx];exact⟨g1,g2,g3,hv⟩
  ·rw[List.pairwise_iff_getElem]at h3 ⊢
   intro i j hi hj hij
   rw[aX]at hi hj
   have hcong:∀ (q:Nat) (hq:q<l.length),((l.set (atV l n k).toNat ⟨l[(atV l n k).toNat].Name,l[(atV l n k).toNat].Key,v⟩)[q]'(by rw[aX];exact hq)).Name=l[q].Name∧((l.set (atV l n k).toNat ⟨l[(atV l n k).toNat].Name,l[(atV l n k).toNat].Key,v⟩)[q]'(by rw[aX];exact hq)).Key=l[q].Key:=fun q hq=>by
    rw[List.getElem_set]
    split
    ·rename_i hqe;subst hqe;exact⟨rfl,rfl⟩
    ·exact⟨rfl,rfl⟩
   have:=h3 i j hi hj hij
   unfold dw at this ⊢
   rw[(hcong i hi).1,(hcong i hi).2,(hcong j hj).1,(hcong j hj).2]
   exact this
 ·rw[bn c]at e
  by_cases d:40≤l.length
  ·rw[bm d]at e;cases e
  ·rw[bn d]at e
   have e:=aN e
   subst e
   have hp:=Fz l ⟨n,k,v⟩
   have hno:∀ x∈l,¬ (x.Name=n∧x.Key=k):=by
    rcases lJ l n k with h | h
    ·exact h.2
    ·omega
   refine⟨by rw[DQ hp];simp;omega,fun x hx=>?_,?_⟩
   ·unfold eH at hx
    rcases aA.1 hx with hx | hx
    ·exact h2 x (List.mem_of_mem_take hx)
    ·rcases aA.1 hx with hx | hx
     ·rw[aJ.1 hx];exact⟨hn.1,hn.2,hk,hv⟩
     ·exact h2 x (List.mem_of_mem_drop hx)
   ·unfold eH
    have hA:∀ x∈l.take (eI l ⟨n,k,v⟩),dw x ⟨n,k,v⟩=true:=fun x hx=>by
     obtain⟨i,hi,rfl⟩:=bk.1 hx
     rw[aP]at hi
     rw[List.getElem_take]
     have:=List.not_of_lt_findIdx (xs:=l) (p:=fun x=>!dw x ⟨n,k,v⟩) (i:=i) (by unfold eI at hi;omega)
     simpa using this
    have hB:∀ x∈l.drop (eI l ⟨n,k,v⟩),dw ⟨n,k,v⟩ x=true:=fun x hx=>by
     obtain⟨i,hi,rfl⟩:=bk.1 hx
     rw[aQ]at hi
     rw[List.getElem_drop]
     have hlt:eI l ⟨n,k,v⟩<l.length:=by omega
     have h0:dw l[eI l ⟨n,k,v⟩] ⟨n,k,v⟩=false:=by
      have h5:(!dw l[eI l ⟨n,k,v⟩] ⟨n,k,v⟩)=true:=List.findIdx_getElem (xs:=l) (p:=fun x=>!dw x ⟨n,k,v⟩) (w:=hlt)
      rwa [Bool.not_eq_true']at h5
     have h4:=JR h0 (hno _ (aV hlt))
     by_cases e0:i=0
     ·subst e0;exact h4
     ·exact vV h4 (List.pairwise_iff_getElem.1 h3 _ _ hlt (by omega) (by omega))
    rw[List.pairwise_append]
    refine⟨h3.sublist (List.take_sublist _ _),?_,fun x hx y hy=>?_⟩
    ·show List.Pairwise _ ((⟨n,k,v⟩:bo)::l.drop _)
     rw[List.pairwise_cons]
     exact⟨hB,h3.sublist (List.drop_sublist _ _)⟩
    ·rcases aA.1 hy with hy | hy
     ·rw[aJ.1 hy];exact hA x hx
     ·exact vV (hA x hx) (hB y hy)
theorem Kv{nc:Int}{l:List bo}(h:CG nc l)(n:Int)(k:List Int):CG nc (nh l n k):=by
 unfold nh
 split
 ·have hs:(gm l (atV l n k).toNat ((atV l n k).toNat+1)).Sublist l:=by
   unfold gm
   have h1:(l.take (atV l n k).toNat++l.drop ((atV l n k).toNat+1)).Sublist (l.take (atV l n k).toNat++l.drop (atV l n k).toNat):=(List.Sublist.refl _).append (by rw[← List.drop_drop];exact List.drop_sublist _ _)
   rwa [List.take_append_drop]at h1
  exact⟨Nat.le_trans hs.length_le h.1,fun c hc=>h.2.1 c (hs.subset hc),h.2.2.sublist hs⟩
 ·exact h
mutual
def cz:bD→Nat
 | ⟨_,_,_,_,ks⟩=>1+cw ks
def cw:List bD→Nat
 | []=>0
 | k::ks=>cz k+cw ks
end
def vC(st:List Int)(nt:Bool):Prop:=st.Pairwise (· < ·)∧(93∈st→∃ a b,st=a++([92,93,94]++b))∧st≠[]∧(nt=true∨st≠[94])∧st.length≤256∧∀ b∈st,0≤b∧b≤255
mutual
def SG:bD→Prop
 | ⟨op,_,st,nt,ks⟩=>((op=3∧vC st nt)∨(op≠3∧st=[]∧nt=false))∧SGL ks
def SGL:List bD→Prop
 | []=>True
 | k::ks=>SG k∧SGL ks
end
theorem yC:∀ (l m:List bD),cw (l++m)=cw l+cw m
 | [],m=>by simp[cw]
 | k::l,m=>by rw[List.cons_append,cw,cw,yC l m];omega
theorem vz:∀ (l m:List bD),SGL (l++m)↔SGL l∧SGL m
 | [],m=>by simp[SGL]
 | k::l,m=>by rw[List.cons_append,SGL,SGL,vz l m,and_assoc]
theorem rz:∀ {l:List bD} {x:bD},SGL l→x∈l→SG x
 | k::l,x,h,hx=>by
  rw[SGL]at h
  rcases aK.1 hx with rfl | hx
  ·exact h.1
  ·exact rz h.2 hx
theorem ql:∀ {l:List bD} {x:bD},x∈l→cz x≤cw l
 | k::l,x,hx=>by
  rw[cw]
  rcases aK.1 hx with rfl | hx
  ·omega
  ·have:=ql hx;omega
theorem mj(x:bD):1≤cz x:=by obtain⟨a,b,c,d,ks⟩:=x;rw[cz];omega
theorem qj:∀ (l:List bD),l.length≤cw l
 | []=>Nat.zero_le _
 | k::l=>by rw[cw,aR];have:=qj l;have:=mj k;omega
theorem pu(n:Nat):∀ (f:List Bool) (j i:Nat),i<f.length→(er f j n).getD i false=(decide (j≤i∧i<j+n)||f.getD i false):=by
 induction n with
 | zero=>intro f j i hi;rw[show decide (j≤i∧i<j+0)=false from ae (by omega)];rfl
 | succ n ih =>
  intro f j i hi
  unfold er
  rw[ih _ _ _ (by rw[aX];exact hi)]
  by_cases h:j=i
  ·subst h
   rw[lR hi,Bool.or_true,show decide (j≤j∧j<j+(n+1))=true from ac (by omega),Bool.true_or]
  ·rw[List.getD_eq_getElem?_getD,List.getElem?_set_ne h,← List.getD_eq_getElem?_getD]
   congr 1
   exact decide_eq_decide.2 (by omega)
theorem SI(n:Nat):∀ (l:List Int) (f:List Bool) (b:Bool) (i:Nat),i<f.length→f.getD i false=true→(cR n l f b).1.getD i false=true:=by
 induction n with
 | zero=>intro l f b i hi h;exact h
 | succ n ih =>
  intro l f b i hi h
  have go:∀ (t:List Int) (j k:Nat) (b':Bool),(cR n t (er f j k) b').1.getD i false=true:=fun t j k b' =>
   ih _ _ _ _ (by rw[gU];exact hi) (by rw[pu _ _ _ _ hi,h,Bool.or_true])
  match l with
  | []=>exact h
  | [lo]=>exact go _ _ _ _
  | [lo,d]=>exact go _ _ _ _
  | lo::d::hi'::u =>
   show(if d=45 then _ else _:List Bool×Bool).1.getD i false=true
   split
   ·exact go _ _ _ _
   ·exact go _ _ _ _
theorem SF(n:Nat):∀ (l:List Int) (f:List Bool),(cR n l f true).2=true:=by
 induction n with
 | zero=>intro l f;rfl
 | succ n ih =>
  intro l f
  match l with
  | []=>rfl
  | [lo]=>exact ih _ _
  | [lo,d]=>exact ih _ _
  | lo::d::hi'::u =>
   show(if d=45 then _ else _:List Bool×Bool).2=true
   split
   ·exact ih _ _
   ·exact ih _ _
theorem SH(n:Nat)(lo:Int)(t:List Int)(f:List Bool)(hf:f.length=256)(h0:0≤lo)(h1:lo≤255)(hb:(cR (n+1) (lo::t) f false).2=false):(cR (n+1) (lo::t) f false).1.getD lo.toNat false=true:=by
 have go:∀ (t:List Int) (k:Nat) (b':Bool),0<k→(cR n t (er f lo.toNat k) b').1.getD lo.toNat false=true:=fun t k b' hk =>
  SI n _ _ _ _ (by rw[gU];omega) (by rw[pu _ _ _ _ (by omega),ac (by omega),Bool.true_or])
 match t,hb with
 | [],hb=>exact go _ _ _ (by omega)
 | [d],hb=>exact go _ _ _ (by omega)
 | d::hi::u,hb =>
  by_cases c:d=45
  ·subst c
   rw[uv]at hb ⊢
   by_cases c2:hi<lo
   ·rw[ac c2,Bool.or_true,SF]at hb;cases hb
   ·exact go _ _ _ (by omega)
  ·rw[uw _ _ _ _ _ (fun hi' u' e=>c (aL e).1)]at hb ⊢
   exact go _ _ _ (by omega)
def Nb(f:List Bool):Prop:=f.getD 93 false=true→f.getD 92 false=true∧f.getD 94 false=true
theorem KM{f:List Bool}(hf:f.length=256)(h:Nb f){lo hi:Int}(h0:0≤lo)(h1:lo≠93)(h2:hi≠93):Nb (er f lo.toNat (hi+1-lo).toNat):=by
 intro h3
 rw[pu _ _ _ _ (by omega),aU,ab]at h3
 rw[pu _ _ _ _ (by omega),pu _ _ _ _ (by omega)]
 rcases h3 with h3 | h3
 ·rw[ac (by omega),ac (by omega)];exact⟨rfl,rfl⟩
 ·rw[(h h3).1,(h h3).2,Bool.or_true,Bool.or_true];exact⟨rfl,rfl⟩
theorem SJ(n:Nat):∀ (l:List Int) (f:List Bool) (b:Bool),f.length=256→(∀ x∈l,0≤x∧x≠93)→Nb f→Nb (cR n l f b).1:=by
 induction n with
 | zero=>intro l f b hf hl h;exact h
 | succ n ih =>
  intro l f b hf hl h
  have go:∀ (lo hi:Int) (t:List Int) (b':Bool),lo∈l→hi∈l→(∀ x∈t,x∈l)→Nb (cR n t (er f lo.toNat (hi+1-lo).toNat) b').1:=fun lo hi t b' h1 h2 h3 =>
   ih _ _ _ (by rw[gU];exact hf) (fun x hx=>hl x (h3 x hx)) (KM hf h (hl _ h1).1 (hl _ h1).2 (hl _ h2).2)
  match l with
  | []=>exact h
  | [lo]=>exact go lo lo _ _ (by simp) (by simp) (by simp)
  | [lo,d]=>exact go lo lo _ _ (by simp) (by simp) (by simp)
  | lo::d::hi'::u =>
   by_cases c:d=45
   ·subst c
    rw[uv]
    exact go lo hi' _ _ (by simp) (by simp) (fun x hx=>by simp[hx])
   ·rw[uw _ _ _ _ _ (fun hi'' u' e=>c (aL e).1)]
    exact go lo lo _ _ (by simp) (by simp) (fun x hx=>aE _ hx)
def marks(f:List Bool)(j n:Nat):List Int:=((List.range' j n).filter fun i=>f.getD i false).map Int.ofNat
theorem J6(f:List Bool):∀ (n j:Nat) (t:List Int),j+n≤256→j8 f j n t=t++marks f j n:=by
 intro n
 induction n with
 | zero=>intro j t h;show t=t++[];simp
 | succ n ih =>
  intro j t h
  unfold j8
  rw[ih _ _ (by omega)]
  unfold marks
  rw[List.range'_succ,List.filter_cons]
  split
  ·rw[bc,Ag (by omega) (by omega),ah];rfl
  ·rfl
theorem marks_mem{f:List Bool}{j n:Nat}{x:Int}:x∈marks f j n ↔ ∃ i:Nat,x=i∧j≤i∧i<j+n∧f.getD i false=true:=by
 unfold marks
 rw[List.mem_map]
 constructor
 ·rintro ⟨i,hi,rfl⟩
  rw[List.mem_filter,List.mem_range'_1]at hi
  exact⟨i,rfl,hi.1.1,hi.1.2,hi.2⟩
 ·rintro ⟨i,rfl,h1,h2,h3⟩
  exact⟨i,List.mem_filter.2 ⟨List.mem_range'_1.2 ⟨h1,h2⟩,h3⟩,rfl⟩
theorem ED(f:List Bool)(j n:Nat):(marks f j n).length≤n:=by
 unfold marks
 rw[bh]
 exact Nat.le_trans (List.length_filter_le ..) (by rw[List.length_range'];exact aG _)
theorem yw(f:List Bool)(j n:Nat):(marks f j n).Pairwise (· < ·):=by
 unfold marks
 rw[List.pairwise_map]
 exact((List.pairwise_lt_range' (s:=j) (n:=n)).filter _).imp fun h=>by show(_:Int)<_;exact Int.ofNat_lt.2 h
theorem yx(f:List Bool)(j n m:Nat):marks f j (n+m)=marks f j n++marks f (j+n) m:=by
 unfold marks
 rw[← List.range'_append_1,List.filter_append,List.map_append]
theorem SD{u:List Int}{nt:Bool}(hb:∀ b∈u,0≤b∧b≤255)(hn:nt=false→∀ v,u≠94::v)(hg:(fd u nt).2.bad=false):cz (fd u nt).1=1∧SG (fd u nt).1∧(fd u nt).2.s.length+2≤u.length:=by
 unfold fd at hg ⊢
 by_cases c:(cf u).length=u.length∨cf u=[]
 ·rw[bm c]at hg;cases hg
 ·rw[bn c]at hg ⊢
  have c1:¬ (cf u).length=u.length:=fun h=>c (.inl h)
  have c2:cf u≠[]:=fun h=>c (.inr h)
  have hl:=vL u
  have hl1:0<(cf u).length:=List.length_pos_iff.2 c2
  refine⟨rfl,?_,by rw[aQ];omega⟩
  rw[SG]
  refine⟨.inl ⟨rfl,?_⟩,trivial⟩
  rw[J6 _ _ _ _ (by omega),bg]
  have hbB:∀ x∈cf u,0≤x∧x≤255:=fun x hx=>hb x ((List.takeWhile_sublist _).subset hx)
  have h93:∀ x∈cf u,x≠93:=fun x hx=>by
   have:=List.all_eq_true.1 (List.all_takeWhile (p:=n93) (l:=u)) x hx
   unfold n93 at this
   simpa using this
  have hnb:=SJ (cf u).length (cf u) (List.replicate 256 false) false a7 (fun x hx=>⟨(hbB x hx).1,h93 x hx⟩) (fun h=>absurd h (by decide))
  obtain⟨lo,t,e⟩:=List.exists_cons_of_ne_nil c2
  have hfirst:(cR (cf u).length (cf u) (List.replicate 256 false) false).1.getD lo.toNat false=true:=by
   rw[e,aR]
   have hlo:=hbB lo (by rw[e];exact aD ..)
   refine SH _ _ _ _ a7 hlo.1 hlo.2 ?_
   rw[e,aR]at hg
   exact hg
  generalize (cR (cf u).length (cf u) (List.replicate 256 false) false).1=f at hnb hfirst
  have hlo:=hbB lo (by rw[e];exact aD ..)
  have hlom:lo∈marks f 0 256:=marks_mem.2 ⟨lo.toNat,by omega,by omega,by omega,hfirst⟩
  refine⟨yw _ _ _,fun h=>?_,(fun h=>by rw[h]at hlom;cases hlom),?_,ED _ _ _,fun b hb=>by obtain⟨i,rfl,h1,h2,_⟩:=marks_mem.1 hb;omega⟩
  ·obtain⟨i,e1,_,_,e2⟩:=marks_mem.1 h
   have:i=93:=by omega
   subst this
   have h2:=hnb e2
   refine⟨marks f 0 92,marks f 95 161,?_⟩
   rw[show 256=92+(3+161)from rfl,yx,yx]
   congr 1
   congr 1
   unfold marks
   simp only[List.range',List.filter_cons,h2.1,h2.2,e2,if_true]
   rfl
  ·cases nt with
   | true=>exact .inl rfl
   | false =>
    refine .inr fun h=>?_
    rw[h,aJ]at hlom
    subst hlom
    have:u=94::u.drop 1:=by
     match u,e with
     | a::u',e =>
      by_cases ha:a=93
      ·rw[ha,lK]at e;cases e
      ·rw[iW ha]at e;rw[(aL e).1];rfl
    exact hn rfl _ this
theorem Nf(s:List Int)(h:By s){x:bD}{r:bG}(e:nB ⟨s,false⟩=some (x,r,()))(hg:r.bad=false):cz x=1∧SG x∧r.s.length+2≤s.length:=by
 obtain⟨nt,k,e1,hk⟩:=z7 s
 have hu:By (s.drop k):=h.suf (List.drop_suffix _ _)
 have e2:=xk _ nt hu.1 hu.2 s e1
 rw[e2]at e
 obtain⟨rfl,rfl⟩:(fd (s.drop k) nt).1=x∧(fd (s.drop k) nt).2=r:=by
  have:=aN e
  exact⟨congrArg Prod.fst this,congrArg (fun z=>z.2.1) this⟩
 have h3:=SD hu.2 (fun hn v hv=>by
  rcases hk with ⟨h1,_⟩ | ⟨_,h2,h3⟩
  ·rw[hn]at h1;cases h1
  ·subst h2;exact h3 v hv) hg
 exact⟨h3.1,h3.2.1,by have:=h3.2.2;rw[aQ]at this;omega⟩
def GP(F:bG→Option (bD×bG×Unit))(s:List Int)(k:Nat):Prop :=
 ∀ x r,F ⟨s,false⟩=some (x,r,())→r.bad=false→cz x+2*r.s.length+2*k≤2*s.length+1∧SG x
theorem eW{α β:Type}{a a':α}{b b':β}(h:some (a,b,())=some (a',b',())):a=a'∧b=b':=by
 have:=aN h
 exact⟨congrArg Prod.fst this,congrArg (fun z=>z.2.1) this⟩
theorem lE{op c:Int}(h:op≠3):SG ⟨op,c,[],false,[]⟩:=by rw[SG];exact⟨.inr ⟨h,rfl,rfl⟩,trivial⟩
theorem EP{op c:Int}{st:List Int}{nt:Bool}:cz ⟨op,c,st,nt,[]⟩=1:=rfl
theorem Mh(b:Int)(s:List Int)(h:By (b::s))(hp:GP fU s 0)(ht:dP fU s false 0):GP jk (b::s) 1:=by
 have hs:By s:=h.suf (List.suffix_cons b s)
 intro x r e hg
 rw[xe,eZ,aa]at e
 dsimp only at e
 rw[bm (by simp;omega),lP]at e
 have leaf:∀ (y:bD) (bad:Bool),some (y,(⟨s,bad⟩:bG),())=some (x,r,())→(bad=false→cz y=1∧SG y)→cz x+2*r.s.length+2*1≤2*(b::s).length+1∧SG x:=fun y bad e1 h1=>by
  obtain⟨rfl,rfl⟩:=eW e1
  obtain⟨h2,h3⟩:=h1 hg
  rw[h2,aR]
  exact⟨by dsimp only;omega,h3⟩
 by_cases c1:b=40
 ·rw[ak c1]at e
  obtain⟨y,r1,f,f1,f2,f3,f4⟩:=ht
  have hp1:=hp y r1 f
  rw[f,aa]at e
  dsimp only at e
  rcases gy r1 with hr | ⟨a,t,hr⟩
  ·rw[ga hr,aa]at e;dsimp only at e
   rw[bm (by simp)]at e
   obtain⟨rfl,rfl⟩:=eW e
   cases hg
  ·subst hr
   by_cases ha:a=41
   ·subst ha
    rw[jR,aa]at e;dsimp only at e
    rw[bn (by simp)]at e
    obtain⟨rfl,rfl⟩:=eW e
    obtain⟨g1,g2⟩:=hp1 rfl
    refine⟨?_,g2⟩
    simp only[aR]at g1 ⊢;omega
   ·rw[jQ ha,aa]at e;dsimp only at e
    rw[bm (by simp)]at e
    obtain⟨rfl,rfl⟩:=eW e
    cases hg
 rw[aj c1]at e
 by_cases c2:b=46
 ·rw[ak c2]at e;exact leaf _ _ e fun _=>⟨rfl,lE (by decide)⟩
 rw[aj c2]at e
 by_cases c3:b=94
 ·rw[ak c3]at e;exact leaf _ _ e fun _=>⟨rfl,lE (by decide)⟩
 rw[aj c3]at e
 by_cases c4:b=36
 ·rw[ak c4]at e;exact leaf _ _ e fun _=>⟨rfl,lE (by decide)⟩
 rw[aj c4]at e
 by_cases c5:b=91
 ·rw[ak c5]at e
  obtain⟨y,r1,f,f1,f2⟩:=Dz s hs
  have hp1:=Nf s hs f
  rw[f,aa]at e
  dsimp only at e
  obtain⟨rfl,rfl⟩:=eW e
  obtain⟨g1,g2,g3⟩:=hp1 hg
  refine⟨?_,g2⟩
  rw[g1,aR];omega
 rw[aj c5]at e
 by_cases c6:b=92
 ·rw[ak c6]at e
  cases s with
  | nil =>
   rw[em (.inl rfl),aa]at e;dsimp only at e;rw[bm (by simp)]at e
   exact leaf _ _ e fun h=>by cases h
  | cons a t =>
   rw[eZ,aa]at e;dsimp only at e
   rw[bn (by simp),bm (by simp;omega),pn]at e
   obtain⟨rfl,rfl⟩:=eW e
   exact⟨by rw[EP];simp only[aR];omega,lE (by decide)⟩
 rw[aj c6]at e
 have l1:∀ (t:Bool),nz b t ⟨s,false⟩ b9=some (x,r,())→cz x+2*r.s.length+2*1≤2*(b::s).length+1∧SG x:=fun t e=>by
  rw[nA]at e
  cases t with
  | true=>rw[bm rfl]at e;exact leaf _ _ e fun h=>by cases h
  | false=>rw[bn (by simp)]at e;exact leaf _ _ e fun _=>⟨rfl,lE (by decide)⟩
 by_cases c7:b=42
 ·rw[ak c7]at e;exact l1 _ e
 rw[aj c7]at e
 by_cases c8:b=43
 ·rw[ak c8]at e;exact l1 _ e
 rw[aj c8]at e
 exact l1 _ e
theorem I1{x:bD}{op:Int}(h:op≠3)(hx:SG x):SG ⟨op,0,[],false,[x]⟩:=by rw[SG,SGL,SGL];exact⟨.inr ⟨h,rfl,rfl⟩,hx,trivial⟩
theorem MX(z:bD):∀ (n:Nat) (r r':bG) (x y:bD),r.s.length≤n→kz r z x=some (y,r',())→r'.bad=false→SG x→cz y+2*r'.s.length≤cz x+2*r.s.length∧SG y:=by
 intro n
 induction n with
 | zero =>
  intro r r' x y hn e hg hx
  rw[jn,em (.inl (aZ.1 (by omega))),aa]at e
  dsimp only at e
  rw[bm (by simp)]at e
  obtain⟨rfl,rfl⟩:=eW e
  exact⟨aG _,hx⟩
 | succ n ih =>
  intro r r' x y hn e hg hx
  rw[jn]at e
  rcases gy r with hr | ⟨b,s,rfl⟩
  ·rw[em hr,aa]at e
   dsimp only at e
   rw[bm (by simp)]at e
   obtain⟨rfl,rfl⟩:=eW e
   exact⟨aG _,hx⟩
  ·obtain⟨v,e0,hv⟩:=tu b
   rw[eZ,aa]at e
   dsimp only at e
   rw[bn (by simp),e0,aa]at e
   dsimp only at e
   by_cases c:v=0
   ·rw[ak c]at e
    obtain⟨rfl,rfl⟩:=eW e
    exact⟨aG _,hx⟩
   ·rw[aj c,bm (by simp;omega),aa]at e
    dsimp only at e
    rw[lP]at e
    obtain⟨g1,g2⟩:=ih ⟨s,false⟩ r' _ y (by simp at hn ⊢;omega) e hg (I1 (by rcases hv with h | h | h | h <;> omega) hx)
    refine⟨?_,g2⟩
    rw[cz,cw,cw]at g1
    simp only[aR]at g1 ⊢;omega
theorem M0(b:Int)(s:List Int)(h:GP jk (b::s) 1)(ht:dP jk (b::s) false 1):GP fV (b::s) 1:=by
 intro x r e hg
 obtain⟨y,r1,f,f1,f2,f3,f4⟩:=ht
 rw[xf,f,aa]at e
 have hb:r1.bad=false:=by
  obtain⟨y',r',q1,q2,q3⟩:=Dn b9 _ r1 y (aG _)
  rw[q1]at e
  obtain⟨rfl,rfl⟩:=eW e
  cases hb:r1.bad with
  | false=>rfl
  | true=>rw[q3 hb]at hg;cases hg
 obtain⟨g1,g2⟩:=h y r1 f hb
 obtain⟨g3,g4⟩:=MX b9 _ r1 r y x (aG _) e hg g2
 exact⟨by omega,g4⟩
theorem Ck{l:List bD}(hl:l.length=1):l=[l.getD 0 b9]:=by
 match l,hl with
 | [x],_=>rfl
theorem E4{l:List bD}(h:SGL l):cz (f8 l)≤cw l+1∧SG (f8 l):=by
 unfold f8
 by_cases c:l.length=0
 ·rw[bm c];exact⟨by rw[EP];omega,lE (by decide)⟩
 ·rw[bn c]
  by_cases d:l.length=1
  ·rw[bm d]
   have e:=Ck d
   have e1:cw l=cz (l.getD 0 b9):=by rw[e,cw,cw];rfl
   exact⟨by omega,by rw[e,SGL]at h;exact h.1⟩
  ·rw[bn d];exact⟨by rw[cz];omega,by rw[SG];exact⟨.inr ⟨by decide,rfl,rfl⟩,h⟩⟩
theorem E8{l:List bD}(hl:1≤l.length)(h:SGL l):cz (fH l)≤cw l+1∧(2≤l.length∨cz (fH l)=cw l)∧SG (fH l):=by
 unfold fH
 by_cases d:l.length=1
 ·rw[bm d]
  have e:=Ck d
  have e1:cw l=cz (l.getD 0 b9):=by rw[e,cw,cw];rfl
  exact⟨by omega,.inr e1.symm,by rw[e,SGL]at h;exact h.1⟩
 ·rw[bn d];exact⟨by rw[cz];omega,.inl (by omega),by rw[SG];exact⟨.inr ⟨by decide,rfl,rfl⟩,h⟩⟩
theorem vG{a b:Bool}(h:a=true→b=true)(hb:b=false):a=false:=by
 cases a with
 | false=>rfl
 | true=>rw[h rfl]at hb;cases hb
theorem MU(z:bD)(N:Nat)(hp:∀ b s,(b::s).length≤N→By (b::s)→GP fV (b::s) 1)(S:Nat) :
  ∀ (n:Nat) (r r':bG) (l:List bD) (y:bD),r.s.length≤n→n≤N→By r.s→l.length+n≤60→kx l r z=some (y,r',())→r'.bad=false→SGL l→cw l+l.length+2*r.s.length≤2*S→cz y+2*r'.s.length≤2*S+1∧SG y:=by
 intro n
 induction n with
 | zero =>
  intro r r' l y hn hN hb hl e hg hx hs
  rw[jl,em (.inl (aZ.1 (by omega))),aa]at e
  dsimp only at e
  rw[bm (by simp),dZ]at e
  obtain⟨rfl,rfl⟩:=eW e
  obtain⟨g1,g3⟩:=E4 hx
  exact⟨by omega,g3⟩
 | succ n ih =>
  intro r r' l y hn hN hb hl e hg hx hs
  rw[jl]at e
  have stop:∀ r,some (f8 l,r,())=some (y,r',())→cw l+l.length+2*r.s.length≤2*S→cz y+2*r'.s.length≤2*S+1∧SG y:=fun r e hs=>by
   obtain⟨rfl,rfl⟩:=eW e
   obtain⟨g1,g3⟩:=E4 hx
   exact⟨by omega,g3⟩
  rcases gy r with hr | ⟨b,s,rfl⟩
  ·rw[em hr,aa]at e
   dsimp only at e
   rw[bm (by simp),dZ]at e
   exact stop _ e hs
  ·rw[eZ,aa]at e
   dsimp only at e
   rw[bn (by simp)]at e
   by_cases c1:b=124
   ·rw[ak c1,dZ]at e;exact stop _ e hs
   rw[aj c1]at e
   by_cases c2:b=41
   ·rw[ak c2,dZ]at e;exact stop _ e hs
   rw[aj c2]at e
   obtain⟨x1,r1,f,f1,f2,f3,f4⟩:=(kt _).1 b s (aG _) hb
   have g:=hp b s (by have:(b::s).length≤n+1:=hn;omega) hb x1 r1 f
   rw[f,aa]at e
   dsimp only at e
   rw[bm (by rw[cg];omega)]at e
   have hn':(b::s).length≤n+1:=hn
   have h2:r1.s.length≤n:=by omega
   have hll:(List.append l [x1]).length=l.length+1:=by show(l++[x1]).length=_;simp
   obtain⟨y2,r2,q1,q2,q3⟩:=E6 z r1 (hb.suf f1) (List.append l [x1]) (by omega)
   rw[q1]at e
   obtain⟨rfl,rfl⟩:=eW e
   obtain⟨g1,g2⟩:=g (vG q3 hg)
   refine ih r1 r2 _ y2 h2 (by omega) (hb.suf f1) (by omega) q1 hg ((vz l [x1]).2 ⟨hx,by rw[SGL];exact⟨g2,trivial⟩⟩) ?_
   rw[hll,show cw (List.append l [x1])=cw l+(cz x1+0)from yC l [x1]]
   have hs':cw l+l.length+2*(b::s).length≤2*S:=hs
   omega
theorem MV(z:bD)(N:Nat)(hp:∀ s,s.length≤N→By s→GP gu s 0)(S:Nat) :
  ∀ (n:Nat) (r r':bG) (l:List bD) (y:bD),r.s.length≤n→n≤N→By r.s→1≤l.length→l.length+n≤61→ky l r z=some (y,r',())→r'.bad=false→SGL l→cw l+(l.length-1)+2*r.s.length≤2*S+1→cz y+2*r'.s.length≤2*S+1∧SG y:=by
 intro n
 induction n with
 | zero =>
  intro r r' l y hn hN hb h1 hl e hg hx hs
  rw[jm,ga (.inl (aZ.1 (by omega))),aa]at e
  dsimp only at e
  rw[bn (by simp),fa]at e
  obtain⟨rfl,rfl⟩:=eW e
  obtain⟨g1,g2,g3⟩:=E8 h1 hx
  exact⟨by omega,g3⟩
 | succ n ih =>
  intro r r' l y hn hN hb h1 hl e hg hx hs
  rw[jm]at e
  have stop:∀ r,some (fH l,r,())=some (y,r',())→cw l+(l.length-1)+2*r.s.length≤2*S+1→cz y+2*r'.s.length≤2*S+1∧SG y:=fun r e hs=>by
   obtain⟨rfl,rfl⟩:=eW e
   obtain⟨g1,g2,g3⟩:=E8 h1 hx
   exact⟨by omega,g3⟩
  rcases gy r with hr | ⟨b,s,rfl⟩
  ·rw[ga hr,aa]at e
   dsimp only at e
   rw[bn (by simp),fa]at e
   exact stop _ e hs
  ·by_cases c1:b=124
   ·subst c1
    rw[jR,aa]at e
    dsimp only at e
    have hbs:By s:=hb.suf (List.suffix_cons _ _)
    have hn':s.length≤n:=by have:(124::s).length≤n+1:=hn;simp only[aR]at this;omega
    obtain⟨x1,r1,f,f1,f2,f3,f4⟩:=(kt _).2 s false (aG _) hbs
    have g:=hp s (by omega) hbs x1 r1 f
    rw[bm rfl,f,aa]at e
    dsimp only at e
    rw[bm (by rw[cg];omega)]at e
    have hll:(List.append l [x1]).length=l.length+1:=by show(l++[x1]).length=_;simp
    obtain⟨y2,r2,q1,q2,q3⟩:=tm z r1 (hbs.suf f1) (List.append l [x1]) (by omega)
    rw[q1]at e
    obtain⟨rfl,rfl⟩:=eW e
    obtain⟨g1,g2⟩:=g (vG q3 hg)
    refine ih r1 r2 _ y2 (by omega) (by omega) (hbs.suf f1) (by omega) (by omega) q1 hg ((vz l [x1]).2 ⟨hx,by rw[SGL];exact⟨g2,trivial⟩⟩) ?_
    rw[hll,show cw (List.append l [x1])=cw l+(cz x1+0)from yC l [x1]]
    have hs':cw l+(l.length-1)+2*(s.length+1)≤2*S+1:=hs
    omega
   ·rw[jQ c1,aa]at e
    dsimp only at e
    rw[bn (by simp),fa]at e
    exact stop _ e hs
theorem Dk(N:Nat)(hp:∀ b s,(b::s).length≤N→By (b::s)→GP fV (b::s) 1)(s:List Int)(h:s.length≤N)(hs:By s):GP gu s 0:=by
 intro x r e hg
 rw[pU]at e
 obtain⟨g1,g2⟩:=MU b9 N hp s.length s.length ⟨s,false⟩ r [] x (aG _) h hs (by have:=hs.1;simp;omega) e hg trivial (by simp[cw])
 exact⟨by omega,g2⟩
theorem Dm(N:Nat)(hp:∀ s,s.length≤N→By s→GP gu s 0)(s:List Int)(h:s.length≤N)(hs:By s):GP fU s 0:=by
 intro x r e hg
 have h60:=hs.1
 obtain⟨x1,r1,f,f1,f2,f3,f4⟩:=(kt _).2 s false (aG _) hs
 rw[sJ,f,aa]at e
 dsimp only at e
 obtain⟨y2,r2,q1,q2,q3⟩:=tm b9 r1 (hs.suf f1) [x1] (by simp;omega)
 rw[q1]at e
 obtain⟨rfl,rfl⟩:=eW e
 obtain⟨g1,g2⟩:=hp s h hs x1 r1 f (vG q3 hg)
 obtain⟨g3,g4⟩:=MV b9 N hp s.length r1.s.length r1 r2 [x1] y2 (aG _) (by omega) (hs.suf f1) (aG _) (by simp;omega) q1 hg (by rw[SGL];exact⟨g2,trivial⟩) (by rw[cw,cw];simp;omega)
 exact⟨by omega,g4⟩
theorem MW:∀ (n:Nat) (s:List Int),s.length≤n→By s→GP fU s 0:=by
 intro n
 induction n with
 | zero =>
  intro s hn hs
  exact Dm 0 (fun s h hs=>Dk 0 (fun b s h=>by simp at h) s h hs) s hn hs
 | succ n ih =>
  intro s hn hs
  have hpiece:∀ b s,(b::s).length≤n+1→By (b::s)→GP fV (b::s) 1:=fun b s h hs=>by
   have hs':By s:=hs.suf (List.suffix_cons _ _)
   have ht:=p7 _ s false (aG _) hs'
   exact M0 b s (Mh b s hs (ih s (by simpa using h) hs') ht) (sw b s hs ht)
  exact Dm (n+1) (fun s h hs=>Dk (n+1) hpiece s h hs) s hn hs
theorem Qp(S:List Int)(hB:∀ b∈S,0≤b∧b≤255)(hl:S.length≤9223372036854775807):∃ x ok,mv S=some (x,ok,())∧nw S=some (x,ok,())∧cz x≤121∧SG x∧Small x∧∃ v,v≤12∧iK x=some (v,())∧iy x=some (v,()):=by
 obtain⟨x,ok,e1,e2⟩:=FL S hB hl
 refine⟨x,ok,e1,e2,?_⟩
 have hz:cz b9≤121∧SG b9∧Small b9:=⟨by decide,lE (by decide),qV rfl⟩
 have hzd:∃ v,v≤12∧iK b9=some (v,())∧iy b9=some (v,()):=by
  obtain⟨v,d1,d2⟩:=v8 hz.2.2
  refine⟨v,?_,d1,d2⟩
  rw[GK,zH,bn (by decide)]at d1
  have:=congrArg Prod.fst (aN d1)
  revert this
  show(w64 (0+1)=v→v≤12)
  rw[aq];omega
 rw[CZ]at e2
 by_cases c:(S.length:Int)>60
 ·rw[ak c]at e2
  have:=congrArg Prod.fst (aN e2)
  dsimp only at this
  rw[← this];exact⟨hz.1,hz.2.1,hz.2.2,hzd⟩
 have n1:¬ (decide ((S.length:Int)>60)=true):=by rw[ab];exact c
 have hS:By S:=⟨by omega,hB⟩
 obtain⟨y,r,g,g1,g2,g3,g4⟩:=p7 _ S false (aG _) hS
 have gg:=MW _ S (aG _) hS y r g
 rw[bn n1,g,aa]at e2
 dsimp only at e2
 have zz:∀ ok',some (b9,ok',())=some (x,ok,())→cz x≤121∧SG x∧Small x∧∃ v,v≤12∧iK x=some (v,())∧iy x=some (v,()):=fun ok' h=>by
  have:=congrArg Prod.fst (aN h)
  dsimp only at this
  rw[← this];exact⟨hz.1,hz.2.1,hz.2.2,hzd⟩
 by_cases c1:r.bad=true
 ·rw[bm c1]at e2;exact zz _ e2
 rw[bn c1]at e2
 by_cases c2:(!(decide (r.s=[])))=true
 ·rw[bm c2]at e2;exact zz _ e2
 obtain⟨v,d1,d2⟩:=v8 g4
 rw[bn c2,d2,aa]at e2
 dsimp only at e2
 by_cases hv:v>12
 ·rw[ak hv]at e2;exact zz _ e2
 ·rw[aj hv]at e2
  have:=congrArg Prod.fst (aN e2)
  dsimp only at this
  subst this
  obtain⟨h1,h2⟩:=gg (by simpa using c1)
  exact⟨by have:=hS.1;omega,h2,g4,v,by omega,d1,d2⟩
theorem xy(t:List Int):∀ l:List Int,0≤cC l t↔t <:+: l
 | []=>by
  unfold cC
  cases t with
  | nil=>simp
  | cons a t=>simp
 | b::l=>by
  have ih:=xy t l
  have hb:=kF l t
  unfold cC
  rw[List.infix_cons_iff]
  by_cases c:t.isPrefixOf (b::l)=true
  ·rw[bm c];exact⟨fun _=>.inl (List.isPrefixOf_iff_prefix.1 c),fun _=>Int.le_refl _⟩
  ·rw[bn c]
   have c':¬ t <+: b::l:=fun h=>c (List.isPrefixOf_iff_prefix.2 h)
   by_cases d:cC l t = -1
   ·rw[bm d]
    exact⟨fun h=>by omega,fun h=>by rcases h with h | h;exact absurd h c';exact absurd (ih.2 h) (by omega)⟩
   ·rw[bn d]
    exact⟨fun h=>.inr (ih.1 (by omega)),fun h=>by rcases h with h | h;exact absurd h c';have:=ih.2 h;omega⟩
theorem Bw(l t:List Int)(h:l.length≤1000000):uZ l t=some (decide (t <:+: l),()):=by
 rw[T9,Au,al,aa]
 dsimp only
 congr 2
 exact decide_eq_decide.2 (xy t l)
mutual
def dp:bD→Nat
 | ⟨_,_,_,_,ks⟩=>1+dpL ks
def dpL:List bD→Nat
 | []=>0
 | k::ks=>max (dp k) (dpL ks)
end
theorem we(x:bD):dp x=1+dpL x.Kids:=by obtain⟨a,b,c,d,ks⟩:=x;rw[dp]
theorem qk(x:bD):cz x=1+cw x.Kids:=by obtain⟨a,b,c,d,ks⟩:=x;rw[cz]
theorem vA(x:bD):SG x↔((x.Op=3∧vC x.Set x.Not)∨(x.Op≠3∧x.Set=[]∧x.Not=false))∧SGL x.Kids:=by obtain⟨a,b,c,d,ks⟩:=x;rw[SG]
theorem wd:∀ {l:List bD} {x:bD},x∈l→dp x≤dpL l
 | k::l,x,hx=>by
  rw[dpL]
  rcases aK.1 hx with rfl | hx
  ·omega
  ·have:=wd hx;omega
theorem Kt:∀ (n:Nat) (x:bD),cz x≤n→n≤1000000→iy x=some ((dp x:Int),()):=by
 intro n
 induction n with
 | zero=>intro x h;have:=mj x;omega
 | succ n ih =>
  intro x h hn
  rw[qk]at h
  have hlen:=qj x.Kids
  have hdp:∀ l:List bD,dpL l≤cw l:=fun l=>by
   have:∀ (m:Nat),(∀ x:bD,cz x≤m→dp x≤cz x)∧∀ l:List bD,cw l≤m→dpL l≤cw l:=by
    intro m
    induction m with
    | zero=>exact⟨fun x h=>by have:=mj x;omega,fun l h=>by cases l with | nil=>exact aG _ | cons k l=>rw[cw]at h;have:=mj k;omega⟩
    | succ m ihm =>
     have h1:∀ x:bD,cz x≤m+1→dp x≤cz x:=fun x h=>by
      rw[qk]at h ⊢;rw[we];have:=ihm.2 x.Kids (by omega);omega
     refine⟨h1,fun l=>?_⟩
     induction l with
     | nil=>intro h;exact aG _
     | cons k l ihl=>intro h;rw[cw]at h;rw[cw,dpL];have:=h1 k (by omega);have:=ihl (by omega);omega
   exact(this _).2 l (aG _)
  have key:∀ (d i:Nat) (t:Nat),i+d=x.Kids.length→t≤1000000→pT (t:Int) x.Kids (x.Kids.length:Int) (i:Int)=some (((max t (dpL (x.Kids.drop i))+1:Nat):Int),()):=by
   intro d
   induction d with
   | zero =>
    intro i t hi ht
    rw[sI,ap,aW (by omega),dpL,aq]
    congr 2;omega
   | succ d ihd =>
    intro i t hi ht
    have hi':i<x.Kids.length:=by omega
    have hm:=aV hi'
    have hk:=ql hm
    have h1:=ih x.Kids[i] (by omega) (by omega)
    have h2:=wd hm
    have h3:=hdp x.Kids
    rw[sI,an,al,cl hi',h1,aa]
    dsimp only
    rw[ci hi' (by omega),show mxI (t:Int) (dp x.Kids[i]:Int)=((max t (dp x.Kids[i]):Nat):Int) by rw[EK];split <;> omega,ihd (i+1) _ (by omega) (by omega),ai hi',dpL]
    congr 3;omega
  rw[Ds,we]
  have:=key x.Kids.length 0 0 (by omega) (by omega)
  rw[aM]at this
  rw[show(0:Int)=((0:Nat):Int)from rfl,this]
  congr 2;omega
def mi(x:bD):Bool :=
 if x.Op=1 then decide (0≤x.C∧x.C≤255)&&decide (x.Kids.length=0)
 else if x.Op=2∨x.Op=3∨x.Op=4∨x.Op=5∨x.Op=11 then decide (x.C=0)&&decide (x.Kids.length=0)
 else if x.Op=6∨x.Op=7 then decide (x.C=0)&&decide (2≤x.Kids.length)
 else if x.Op=8∨x.Op=9∨x.Op=10 then decide (x.C=0)&&decide (x.Kids.length=1)
 else false
mutual
def rx:bD→Bool
 | ⟨a,b,c,d,ks⟩=>mi ⟨a,b,c,d,ks⟩&&rxL ks
def rxL:List bD→Bool
 | []=>true
 | k::ks=>rx k&&rxL ks
end
theorem y8(x:bD):rx x=(mi x&&rxL x.Kids):=by obtain⟨a,b,c,d,ks⟩:=x;rw[rx]
theorem y7:∀ l:List bD,rxL l = !l.any fun x=>!rx x
 | []=>rfl
 | k::l=>by rw[rxL,y7 l,List.any_cons];cases rx k <;> simp
theorem HQ{st:List Int}(h:st.Pairwise (· < ·)){i:Nat}(h0:0<i)(h1:i<st.length):st[i-1]<st[i] :=
 List.pairwise_iff_getElem.1 h (i-1) i (by omega) h1 (by omega)
theorem SA{st:List Int}(h:st.Pairwise (· < ·))(hl:st.length≤256):zM st=some (true,()):=by
 have key:∀ (d i:Nat),i+d=st.length→0<i→um st (i:Int)=some (true,()):=by
  intro d
  induction d with
  | zero=>intro i hi h0;rw[zN,ap]
  | succ d ih =>
   intro i hi h0
   have hi':i<st.length:=by omega
   have:=HQ h h0 hi'
   have w:w64 ((i:Int)-1)=((i-1:Nat):Int):=by rw[aq];omega
   rw[zN,an,w,al,al,cl hi',cl (by omega),ap,ci hi' (by omega)]
   exact ih (i+1) (by omega) (by omega)
 rw[Sd]
 by_cases c:st.length=0
 ·rw[zN,ap]
 ·exact key (st.length-1) 1 (by omega) (by omega)
theorem Ne{x:bD}(h:vC x.Set x.Not):xj x=some (true,()):=by
 obtain⟨h1,h2,h3,h4,h5,h6⟩:=h
 have key:∀ (d i:Nat),i+d=x.Set.length→pY (x.Set.length:Int) (i:Int) x=some (true,()):=by
  intro d
  induction d with
  | zero =>
   intro i hi
   rw[Dy,ap,Bw _ _ (by omega),Bw _ _ (by omega),aa,aa]
   dsimp only
   have fin:(if(!(decide (x.Set=[])))=true then(if x.Not=true then some (true,())else some ((!(decide (x.Set=[94]))),()))else some (false,()))=some (true,()):=by
    rw[bm (by simp[h3])]
    rcases h4 with h4 | h4
    ·rw[bm h4]
    ·cases x.Not with
     | true=>rfl
     | false=>rw[bn (by decide),ae h4];rfl
   by_cases c:[93] <:+: x.Set
   ·rw[ak c]
    obtain⟨a,b,e⟩:=h2 (List.singleton_sublist.1 (List.IsInfix.sublist c))
    rw[ac (p:=[92,93,94] <:+: x.Set) ⟨a,b,by rw[e,ah]⟩,bn (by decide)]
    exact fin
   ·rw[aj c]
    exact fin
  | succ d ih =>
   intro i hi
   have hi':i<x.Set.length:=by omega
   rw[Dy,an,ci hi' (by omega)]
   by_cases c:0<i
   ·have:=HQ h1 c hi'
    have w:w64 ((i:Int)-1)=((i-1:Nat):Int):=by rw[aq];omega
    rw[an,w,al,al,cl hi',cl (by omega),ap]
    exact ih (i+1) (by omega)
   ·rw[ap]
    exact ih (i+1) (by omega)
 rw[Nd]
 exact key x.Set.length 0 (by omega)
theorem Qn(l:List bD)(d:Int)(hl:l.length≤4294967296)(h:∀ x∈l,pW x (w64 (d-1))=some (rx x,())):uW l d=some (!rxL l,d,()):=by
 rw[TS,T1]
 obtain⟨k,e1,e2,_⟩:=jp (fun i=>mP l (l.length:Int) i d) (d,()) l.length (fun i=>!rx (l.getD i b9))
  (fun i hi=>by
   show mP l _ _ d=_
   rw[Iq,an,al,cl hi,M6,h _ (aV hi),aa,aa,ci hi (by omega),cG hi])
  (by show mP l _ _ d=_;rw[Iq,bn (by simp)])
 have e1':mP l (l.length:Int) 0 d=some (k,d,()):=e1
 rw[e1',aa]
 dsimp only
 rw[e2,fQ l b9 (fun x=>!rx x),y7,Bool.not_not]
theorem M9:∀ (n:Nat) (x:bD),cz x≤n→n≤1000000→SG x→∀ d:Int,(dp x:Int)≤d→d≤12→pW x d=some (rx x,()):=by
 intro n
 induction n with
 | zero=>intro x h;have:=mj x;omega
 | succ n ih =>
  intro x h hn hs d hd hd2
  rw[qk]at h
  rw[we]at hd
  have hlen:=qj x.Kids
  obtain⟨hs1,hs2⟩:=(vA x).1 hs
  have hk:uW x.Kids d=some (!rxL x.Kids,d,()):=Qn _ d (by omega) fun y hy=>by
   have h1:=ql hy
   have h2:=wd hy
   exact ih y (by omega) (by omega) (rz hs2 hy) _ (by rw[aq];omega) (by rw[aq];omega)
  have hL1:∀ b:Bool,ei b x d=some (b&&rxL x.Kids,()):=fun b=>by
   rw[M7,hk,aa]
   cases b with
   | true=>rw[bm rfl,Bool.not_not,Bool.true_and]
   | false=>rw[bn (by decide),Bool.false_and]
  rw[M8,ap,y8]
  rw[fS]
  have e0:decide ((List.length x.Kids:Int)=0)=decide (x.Kids.length=0):=decide_eq_decide.2 (by omega)
  have e1:decide ((List.length x.Kids:Int)=1)=decide (x.Kids.length=1):=decide_eq_decide.2 (by omega)
  have e2:decide ((List.length x.Kids:Int)>1)=decide (2≤x.Kids.length):=decide_eq_decide.2 (by omega)
  unfold mi
  rcases hs1 with ⟨h3,hset⟩ | ⟨h3,hst,hnt⟩
  ·have hsr:=Ne hset
   by_cases hc:x.C=0
   ·simp[h3,hc,g7,hsr,hL1,e0]
   ·simp[h3,hc]
  ·by_cases c1:x.Op=1
   ·simp only[c1,hst,hnt,aa,decide_true,Bool.not_true,Bool.not_false,decide_false,if_true,Bool.false_eq_true,if_false,hL1,e0,(by decide:decide ((1:Int)=3)=false)]
    by_cases hc:0≤x.C∧x.C≤255
    ·simp[hc]
    ·simp[hc]
   ·by_cases hc:x.C=0
    ·by_cases c2:x.Op=2
     ·simp[c2,hc,hst,hnt,g7,hL1,e0]
     by_cases c4:x.Op=4
     ·simp[c4,hc,hst,hnt,g7,hL1,e0]
     by_cases c5:x.Op=5
     ·simp[c5,hc,hst,hnt,g7,hL1,e0]
     by_cases c11:x.Op=11
     ·simp[c11,hc,hst,hnt,g7,hL1,e0]
     by_cases c6:x.Op=6
     ·simp[c6,hc,hst,hnt,g7,nD,hL1,e2]
     by_cases c7:x.Op=7
     ·simp[c7,hc,hst,hnt,g7,nD,hL1,e2]
     by_cases c8:x.Op=8
     ·simp[c8,hc,hst,hnt,g7,nD,hL1,e1]
     by_cases c9:x.Op=9
     ·simp[c9,hc,hst,hnt,g7,nD,hL1,e1]
     by_cases c10:x.Op=10
     ·simp[c10,hc,hst,hnt,g7,nD,hL1,e1]
     simp[c1,h3,c2,c4,c5,c6,c7,c8,c9,c10,c11,hc,hst,hnt,g7,nD,hL1]
    ·simp[c1,hc]
theorem R9:∀ (n:Nat) (x:bD),cz x≤n→n≤1000000→SG x→ug x=some (rx x,()):=by
 intro n
 induction n with
 | zero=>intro x h;have:=mj x;omega
 | succ n ih =>
  intro x h hn hs
  rw[qk]at h
  have hlen:=qj x.Kids
  obtain⟨hs1,hs2⟩:=(vA x).1 hs
  have key:∀ (d i:Nat),i+d=x.Kids.length→uh (i:Int) x=some (mi x&&rxL (x.Kids.drop i),()):=by
   intro d
   induction d with
   | zero =>
    intro i hi
    rw[GL,ap,aW (by omega),rxL,Bool.and_true,en]
    have e0:decide ((List.length x.Kids:Int)=0)=decide (x.Kids.length=0):=decide_eq_decide.2 (by omega)
    have e1:decide ((List.length x.Kids:Int)=1)=decide (x.Kids.length=1):=decide_eq_decide.2 (by omega)
    have e2:decide ((List.length x.Kids:Int)≥2)=decide (2≤x.Kids.length):=decide_eq_decide.2 (by omega)
    unfold mi
    rcases hs1 with ⟨h3,hset⟩ | ⟨h3,hst,hnt⟩
    ·have hsr:=SA hset.1 hset.2.2.2.2.1
     have hne:=hset.2.2.1
     by_cases hc:x.C=0
     ·simp[h3,hc,hsr,hne,e0]
     ·simp[h3,hc]
    ·by_cases c1:x.Op=1
     ·by_cases hc:0≤x.C∧x.C≤255
      ·simp[c1,hst,hnt,hc,e0]
      ·simp[c1,hst,hnt,hc,e0]
     ·have hin:dU x.Op 2 11=some (decide (2≤x.Op∧x.Op≤11),()):=en ..
      by_cases hc:x.C=0
      ·by_cases c2:x.Op=2
       ·simp[c2,hc,hst,hnt,ie,jK,e0,en]
       by_cases c4:x.Op=4
       ·simp[c4,hc,hst,hnt,ie,jK,e0,en]
       by_cases c5:x.Op=5
       ·simp[c5,hc,hst,hnt,ie,jK,e0,en]
       by_cases c11:x.Op=11
       ·simp[c11,hc,hst,hnt,ie,jK,e0,en]
       by_cases c6:x.Op=6
       ·simp[c6,hc,hst,hnt,ie,e2]
       by_cases c7:x.Op=7
       ·simp[c7,hc,hst,hnt,ie,e2]
       by_cases c8:x.Op=8
       ·simp[c8,hc,hst,hnt,ie,jK,e1]
       by_cases c9:x.Op=9
       ·simp[c9,hc,hst,hnt,ie,jK,e1]
       by_cases c10:x.Op=10
       ·simp[c10,hc,hst,hnt,ie,jK,e1]
       have hno:¬ (2≤x.Op∧x.Op≤11):=by omega
       simp[c1,h3,c2,c4,c5,c6,c7,c8,c9,c10,c11,ie,jK,en,hno]
      ·simp only[c1,h3,decide_false,Bool.false_eq_true,if_false,ie,jK,en,hc,aa,Bool.false_and]
       simp
   | succ d ihd =>
    intro i hi
    have hi':i<x.Kids.length:=by omega
    have hm:=aV hi'
    have hk:=ql hm
    rw[GL,an,al,cl hi',ih _ (by omega) (by omega) (rz hs2 hm),aa]
    dsimp only
    rw[ci hi' (by omega),ihd (i+1) (by omega),ai hi',rxL]
    cases rx x.Kids[i] with
    | true=>rw[bn (by decide),Bool.true_and]
    | false=>rw[bm (by decide),Bool.false_and,Bool.and_false]
  rw[R8,y8]
  have:=key x.Kids.length 0 (by omega)
  rwa [aM]at this
theorem Qo{x:bD}(hn:cz x≤121)(hs:SG x)(hd:∃ v,v≤12∧iK x=some (v,())∧iy x=some (v,())):wN x=some (rx x,())∧zo x=some (rx x,()):=by
 obtain⟨v,hv,e1,e2⟩:=hd
 have e3:=Kt 121 x hn (by decide)
 rw[e2]at e3
 have e4:=congrArg Prod.fst (aN e3)
 dsimp only at e4
 constructor
 ·rw[Ma,M9 121 x hn (by decide) hs 12 (by omega) (by omega)];rfl
 ·rw[Rf,e1,aa]
  dsimp only
  rw[ak hv,R9 121 x hn (by decide) hs];rfl
def jS(a b c:Int):Int:=if c≥a∧c<w8 (a+26)then w8 (w8 (c-a)+b)else c
def gD(a b:Int)(t:List Int):List Int:=t.map (jS a b)
theorem HM{a b:Int}{t:List Int}(h:Bt t):Bt (gD a b t):=fun x hx=>by
 obtain⟨c,hc,rfl⟩:=List.mem_map.1 hx
 unfold jS
 split
 ·exact Ts _
 ·exact h c hc
theorem SO{α:Type}{t:List α}{i:Nat}(h:i<t.length)(x:α):(t.set i x).take (i+1)=t.take i++[x]:=by
 rw[List.take_add_one,List.take_set_of_le (aG _),List.getElem?_set_self h];rfl
theorem Tc{α:Type}{t:List α}{i:Nat}(h:i<t.length):t.take (i+1)=t.take i++[t[i]]:=by
 rw[List.take_add_one,List.getElem?_eq_getElem h];rfl
theorem Tk(a b:Int)(n:Nat)(hn:n≤4294967296):∀ (d i:Nat) (t:List Int),t.length=n→i+d=n→nG a b t (n:Int) (i:Int)=some (t.take i++gD a b (t.drop i),())∧ow a b t (i:Int)=some (t.take i++gD a b (t.drop i),()):=by
 intro d
 induction d with
 | zero =>
  intro i t ht hi
  rw[DG,Gv,ap,ap,a8 (by omega),aW (by omega)]
  unfold gD
  rw[List.map_nil,aH];exact⟨rfl,rfl⟩
 | succ d ih =>
  intro i t ht hi
  have hi':i<t.length:=by omega
  have hin:(0:Int)≤(i:Int)∧(i:Int)<(t.length:Int):=by omega
  have hdrop:gD a b (t.drop i)=jS a b t[i]::gD a b (t.drop (i+1)):=by rw[ai hi'];rfl
  obtain⟨k1,k2⟩:=ih (i+1) t ht (by omega)
  obtain⟨s1,s2⟩:=ih (i+1) (t.set i (w8 (w8 (t[i]-a)+b))) (by rw[aX];exact ht) (by omega)
  rw[SO hi',List.drop_set_of_lt (by omega),ah]at s1 s2
  rw[Tc hi',ah]at k1 k2
  rw[DG,Gv,an,ak hin.2,hdrop]
  simp only[bm hin,ci hi' (by omega),af,cG hi']
  by_cases c1:t[i]≥a
  ·simp only[ac c1,if_true]
   by_cases c2:t[i]<w8 (a+26)
   ·have e:jS a b t[i]=w8 (w8 (t[i]-a)+b):=by unfold jS;rw[bm ⟨c1,c2⟩]
    simp only[ac c2,if_true]
    rw[e];exact⟨s1,s2⟩
   ·have e:jS a b t[i]=t[i]:=by unfold jS;rw[bn (fun h=>c2 h.2)]
    simp only[ae c2,Bool.false_eq_true,if_false]
    rw[e];exact⟨k1,k2⟩
  ·have e:jS a b t[i]=t[i]:=by unfold jS;rw[bn (fun h=>c1 h.1)]
   simp only[ae c1,Bool.false_eq_true,if_false]
   rw[e];exact⟨k1,k2⟩
theorem uG(a b:Int)(t:List Int)(ht:t.length≤300):sM t a b=some (gD a b t,())∧tO t a b=some (gD a b t,()):=by
 obtain⟨e1,e2⟩:=Tk a b t.length (by omega) t.length 0 t rfl (by omega)
 rw[List.take_zero,aM,bg]at e1 e2
 rw[Ns,Rw,bm (by rw[cg];omega),bm (by rw[cg];omega)]
 exact⟨e1,e2⟩
theorem Nv{l t:List Int}(h:l.length<t.length):cC l t = -1:=by
 have hb:=kF l t
 have:=(xy t l).1
 by_cases c:0≤cC l t
 ·have:=(this c).length_le;omega
 ·omega
theorem Rp(s t:List Int)(hs:s.length≤300)(ht:t.length≤300):∀ (d i:Nat),i+d=s.length→tQ s t (i:Int)=some (if cC (s.drop i) t = -1 then 0 else(i:Int)+cC (s.drop i) t+1,()):=by
 intro d
 induction d with
 | zero =>
  intro i hi
  have hw:w64 ((i:Int)+(t.length:Int))=((i+t.length:Nat):Int):=by rw[aq];omega
  have hd:s.drop i=[]:=aW (by omega)
  rw[GA,hw,hd]
  cases t with
  | nil =>
   rw[ak (by simp;omega),bm (by simp;omega)]
   rw[bm (by simp[hd]),aq]
   simp[cC]
  | cons c t =>
   rw[bn (by rw[ab,aR];omega)]
   simp[cC]
 | succ d ih =>
  intro i hi
  have hi':i<s.length:=by omega
  have hw:w64 ((i:Int)+(t.length:Int))=((i+t.length:Nat):Int):=by rw[aq];omega
  rw[GA,hw]
  by_cases c:i+t.length≤s.length
  ·have hpre:(t.isPrefixOf (s.drop i)=true)↔(s.drop i).take t.length=t:=by
    rw[List.isPrefixOf_iff_prefix,List.prefix_iff_eq_take];exact eq_comm
   have hcons:=ai hi'
   rw[an,al,af,af,show i+t.length-i=t.length by omega,ci hi' (by omega)]
   by_cases c2:(s.drop i).take t.length=t
   ·have e:cC (s.drop i) t=0:=by rw[hcons]at hpre c2 ⊢;unfold cC;rw[bm (hpre.2 c2)]
    rw[ak c2,e,bn (by decide)]
    congr 2
   ·have hn:¬ t.isPrefixOf (s.drop i)=true:=fun h=>c2 (hpre.1 h)
    have e:cC (s.drop i) t=if cC (s.drop (i+1)) t = -1 then -1 else cC (s.drop (i+1)) t+1:=by rw[hcons]at hn ⊢;exact(by rw[cC,bn hn])
    have hb:=kF (s.drop (i+1)) t
    rw[aj c2,ih (i+1) (by omega),e]
    by_cases c3:cC (s.drop (i+1)) t = -1
    ·rw[bm c3,bm c3,bm rfl]
    ·rw[bn c3,bn c3,am]
     congr 2;omega
  ·rw[ap,bm (Nv (by rw[aQ];omega))]
theorem Rq(s t:List Int)(hs:s.length≤300)(ht:t.length≤300):zu s t=some (cC s t+1,()):=by
 rw[RA]
 have:=Rp s t hs ht s.length 0 (by omega)
 rw[aM]at this
 rw[show(0:Int)=((0:Nat):Int)from rfl,this]
 have hb:=kF s t
 congr 2
 split <;> omega
def kQ(s:List Int)(f t:Int):List Int:=if mnI t s.length<mxI f 1 then []else List.take ((mnI t s.length).toNat-(mxI f 1-1).toNat) (List.drop (mxI f 1-1).toNat s)
theorem PO{s:List Int}(hs:s.length≤300)(hb:Bt s)(f t:Int):(kQ s f t).length≤300∧Bt (kQ s f t):=by
 unfold kQ
 split
 ·exact⟨Nat.zero_le _,fun x hx=>by cases hx⟩
 ·exact⟨by rw[aP,aQ];omega,fun x hx=>hb x (List.mem_of_mem_drop (List.mem_of_mem_take hx))⟩
theorem Dp(s:List Int)(f t:Int)(hs:s.length≤300)(hf:-9000000≤f∧f≤9000000):sG s f t=some (kQ s f t,()):=by
 have h1:1≤mxI f 1∧mxI f 1≤9000000:=by unfold mxI;split <;> omega
 have h2:mnI t s.length≤(s.length:Int):=by unfold mnI;split <;> omega
 rw[MZ]
 unfold kQ
 by_cases c:mxI f 1>mnI t s.length
 ·rw[ak c,bm c]
 ·rw[aj c,bn c,aq,bm (c:=_∧_) (by omega)]
theorem G4(s:List Int)(f t:Int)(hs:s.length≤300)(hf:-9000000≤f∧f≤9000000):tR s f (mnI t s.length)=some (kQ s f t,()):=by
 have hm:oC f 1=some (mxI f 1,()):=by
  rw[zG]
  unfold mxI
  by_cases c:f>1
  ·rw[ak c,am]
  ·rw[aj c]
   split
   ·rfl
   ·congr 2;omega
 rw[RE,hm,aa]
 dsimp only
 unfold kQ
 by_cases c:mnI t s.length<mxI f 1
 ·rw[ak c,bm c]
 ·have h1:1≤mxI f 1∧mxI f 1≤9000000:=by unfold mxI;split <;> omega
  have h2:mnI t s.length≤(s.length:Int):=by unfold mnI;split <;> omega
  rw[aj c,bn c,aq,al]
noncomputable def iv(name:List Int)(l:List bF):bF :=
 if name=[108,101,110,103,116,104] then⟨1,((cr (l.getD 0 bU)).length:Int)*1000000,[]⟩
 else if name=[105,110,116] then⟨1,Int.tdiv (cJ (l.getD 0 bU)) 1000000*1000000,[]⟩
 else if name=[117,112,112,101,114] then⟨2,0,gD 97 65 (cr (l.getD 0 bU))⟩
 else if name=[108,111,119,101,114] then⟨2,0,gD 65 97 (cr (l.getD 0 bU))⟩
 else if name=[105,110,100,101,120] then⟨1,(cC (cr (l.getD 0 bU)) (cr (l.getD 1 bU))+1)*1000000,[]⟩
 else⟨2,0,kQ (cr (l.getD 0 bU)) (dA (l.getD 1 bU)) (if 2<l.length then dA (l.getD 1 bU)+dA (l.getD 2 bU)-1 else((cr (l.getD 0 bU)).length:Int))⟩
theorem cX{l:List bF}(h:∀ v∈l,VG v)(i:Nat):VG (l.getD i bU):=by
 by_cases c:i<l.length
 ·rw[cG c];exact h _ (aV c)
 ·rw[List.getD_eq_getElem?_getD,List.getElem?_eq_none (by omega)];exact pb
theorem JN{l:List bF}(h:∀ v∈l,VG v)(name:List Int):VG (iv name l):=by
 obtain⟨t1,t2⟩:=eM (cX h 0)
 obtain⟨u1,u2⟩:=eM (cX h 1)
 unfold iv
 split
 ·exact gM (by unfold Dc;omega)
 split
 ·exact gM (rN (dz (cX h 0)).2.2).2.2
 split
 ·exact pc (by unfold gD;rw[bh];exact t1) (HM t2)
 split
 ·exact pc (by unfold gD;rw[bh];exact t1) (HM t2)
 split
 ·have:=kF (cr (l.getD 0 bU)) (cr (l.getD 1 bU))
  exact gM (by unfold Dc;omega)
 ·obtain⟨p1,p2⟩:=PO t1 t2 (dA (l.getD 1 bU)) (if 2<l.length then dA (l.getD 1 bU)+dA (l.getD 2 bU)-1 else((cr (l.getD 0 bU)).length:Int))
  exact pc p1 p2
theorem C3{l:List bF}(h:∀ v∈l,VG v)(h2:2≤l.length)(h3:l.length≤3)(name:List Int):sx name l bU=some (iv name l,()):=by
 obtain⟨t1,t2⟩:=eM (cX h 0)
 obtain⟨u1,u2⟩:=eM (cX h 1)
 obtain⟨w1,w2,w3⟩:=oM (cX h 1)
 obtain⟨x1,x2,x3⟩:=oM (cX h 2)
 obtain⟨n1,n2,n3⟩:=dz (cX h 0)
 have hix:=kF (cr (l.getD 0 bU)) (cr (l.getD 1 bU))
 rw[C2,ap,al,fj,aa]
 dsimp only
 unfold iv
 by_cases c1:name=[108,101,110,103,116,104]
 ·rw[ak c1,bm c1,yl,aq,gt];rfl
 rw[aj c1,bn c1]
 by_cases c2:name=[105,110,116]
 ·rw[ak c2,bm c2,al,n1,aa]
  dsimp only
  rw[(rN n3).1,aa,gt];rfl
 rw[aj c2,bn c2]
 by_cases c3:name=[117,112,112,101,114]
 ·rw[ak c3,bm c3,(uG 97 65 _ t1).1,aa,kE];rfl
 rw[aj c3,bn c3]
 by_cases c4:name=[108,111,119,101,114]
 ·rw[ak c4,bm c4,(uG 65 97 _ t1).1,aa,kE];rfl
 rw[aj c4,bn c4]
 by_cases c5:name=[105,110,100,101,120]
 ·rw[ak c5,bm c5,al,fj,aa]
  dsimp only
  rw[Au,al,aa]
  dsimp only
  rw[aq (n:=cC (cr (l.getD 0 bU)) (cr (l.getD 1 bU))+1),aq,gt];rfl
 rw[aj c5,bn c5,al,w1,aa]
 dsimp only
 by_cases c6:2<l.length
 ·rw[an,al,x1,aa]
  dsimp only
  rw[aq (n:=dA (l.getD 1 bU)+dA (l.getD 2 bU)),aq,Dp _ _ _ t1 w3,aa,kE,bm c6];rfl
 ·rw[ap,Dp _ _ _ t1 w3,aa,kE,bn c6];rfl
theorem Ml{l:List bF}(h:∀ v∈l,VG v)(h1:1≤l.length)(h3:l.length≤3)(name:List Int):wQ name l=some (iv name l,()):=by
 rw[Mj]
 by_cases c:2≤l.length
 ·exact C3 h c h3 name
 ·obtain⟨v,e⟩:=List.length_eq_one_iff.1 (show l.length=1 by omega)
  subst e
  have h2:=C3 (l:=[v,bU]) (fun w hw=>by
   rcases aK.1 hw with rfl | hw
   ·exact h _ (aD ..)
   ·rw[aJ.1 hw];exact pb) (by simp) (by simp) name
  rw[C2,bm (by simp),Id,bn (c:=Nat.beq (List.length [v]) 0=true) (show ¬ Nat.beq 1 0=true by decide),bm (by rw[cg];simp),aa]
  dsimp only
  rw[bm (by rw[cg];show 2≤4294967296;decide)]
  exact h2
theorem Rl{l:List bF}(h:∀ v∈l,VG v)(h1:1≤l.length)(h3:l.length≤3)(name:List Int)(hn:name∈kw2):zx name l=some (iv name l,()):=by
 have main:∀ l:List bF,(∀ v∈l,VG v)→1≤l.length→l.length≤3→(2≤l.length∨(name≠[105,110,100,101,120]∧name≠[115,117,98,115,116,114]))→mw name l=some (iv name l,()):=by
  intro l h h1 h3 h2
  obtain⟨t1,t2⟩:=eM (cX h 0)
  obtain⟨u1,u2⟩:=eM (cX h 1)
  obtain⟨w1,w2,w3⟩:=oM (cX h 1)
  obtain⟨x1,x2,x3⟩:=oM (cX h 2)
  obtain⟨n1,n2,n3⟩:=dz (cX h 0)
  have hix:=kF (cr (l.getD 0 bU)) (cr (l.getD 1 bU))
  rw[Rv]
  unfold iv
  by_cases c1:name=[108,101,110,103,116,104]
  ·rw[ak c1,bm c1,al,fx,aa]
   dsimp only
   rw[aq,fJ,Int.mul_comm];rfl
  rw[aj c1,bn c1]
  by_cases c2:name=[105,110,116]
  ·rw[ak c2,bm c2,al,n2,aa]
   dsimp only
   rw[(rN n3).2.1,aa,fJ];rfl
  rw[aj c2,bn c2]
  by_cases c5:name=[105,110,100,101,120]
  ·have hl2:2≤l.length:=h2.elim id fun h=>absurd c5 h.1
   rw[ak c5,al,fx,aa,al,fx,aa]
   dsimp only
   rw[Rq _ _ t1 u1,aa]
   dsimp only
   rw[aq,fJ,bn (by rw[c5];decide),bn (by rw[c5];decide),bm c5,Int.mul_comm];rfl
  rw[aj c5]
  by_cases c3:name=[117,112,112,101,114]
  ·rw[ak c3,bm c3,al,fx,aa]
   dsimp only
   rw[(uG 97 65 _ t1).2];rfl
  rw[aj c3,bn c3]
  by_cases c4:name=[108,111,119,101,114]
  ·rw[ak c4,bm c4,al,fx,aa]
   dsimp only
   rw[(uG 65 97 _ t1).2];rfl
  rw[aj c4,bn c4,bn c5]
  have hsub:name=[115,117,98,115,116,114]:=by
   unfold kw2 at hn
   simp only[aK,List.not_mem_nil,or_false]at hn
   rcases hn with h | h | h | h | h | h
   ·exact absurd h c1
   ·exact h
   ·exact absurd h c5
   ·exact absurd h c2
   ·exact absurd h c3
   ·exact absurd h c4
  have hl2:2≤l.length:=h2.elim id fun h=>absurd hsub h.2
  obtain⟨m1,m2,m3⟩:=dz (cX h 1)
  obtain⟨k1,k2,k3⟩:=dz (cX h 2)
  rw[RF,al,fx,aa,al,m2,aa]
  dsimp only
  by_cases c6:2<l.length
  ·rw[an,al,k2,aa]
   dsimp only
   rw[w2,x2,aq (n:=dA (l.getD 1 bU)+dA (l.getD 2 bU)),aq,bm c6]
   have hmin:qE ((cr (l.getD 0 bU)).length:Int) (dA (l.getD 1 bU)+dA (l.getD 2 bU)-1)=some (mnI (dA (l.getD 1 bU)+dA (l.getD 2 bU)-1) ((cr (l.getD 0 bU)).length:Int),()):=by
    rw[GJ]
    unfold mnI
    by_cases c7:((cr (l.getD 0 bU)).length:Int)<dA (l.getD 1 bU)+dA (l.getD 2 bU)-1
    ·rw[ak c7,bm c7]
    ·rw[aj c7,bn c7]
   rw[hmin,aa]
   dsimp only
   rw[G4 _ _ _ t1 w3];rfl
  ·rw[ap,w2,bn c6]
   have hmm:((cr (l.getD 0 bU)).length:Int)=mnI ((cr (l.getD 0 bU)).length:Int) ((cr (l.getD 0 bU)).length:Int):=by unfold mnI;split <;> rfl
   have:=G4 (cr (l.getD 0 bU)) (dA (l.getD 1 bU)) ((cr (l.getD 0 bU)).length:Int) t1 w3
   rw[← hmm]at this
   rw[this];rfl
 rw[RN]
 by_cases c:2≤l.length
 ·rw[ap,main l h h1 h3 (.inl c)];rfl
 ·obtain⟨v,e⟩:=List.length_eq_one_iff.1 (show l.length=1 by omega)
  subst e
  have h2:=main [v,bU] (fun w hw=>by
   rcases aK.1 hw with rfl | hw
   ·exact h _ (aD ..)
   ·rw[aJ.1 hw];exact pb) (by simp) (by simp) (.inl (by simp))
  have h2':mw name (List.append (List.append [] [v]) [(bF.mk 0 0 [])])=some (iv name [v],()):=h2
  rw[bm (by simp)]
  by_cases c5:name=[105,110,100,101,120]
  ·rw[ak c5,bm (by rw[cg];simp),bm (by rw[cg];show 2≤4294967296;decide),h2'];rfl
  ·rw[aj c5]
   by_cases c7:name=[115,117,98,115,116,114]
   ·rw[ak c7,bm (by rw[cg];simp),bm (by rw[cg];show 2≤4294967296;decide),h2'];rfl
   ·rw[aj c7,main [v] h h1 h3 (.inr ⟨c5,c7⟩)];rfl
end Go.Proofs.YthgknhkeifcflaaGreatDoor.E.TG
