/- What the pure statement needs (1). No condition. -/
import Derived.Test.YthgknhkeifcflaaGreatDoorEG4
import Derived.Laws.BitsLemmas
import Derived.Test.YthgknhkeifcflaaGreatDoorTEe1
import Derived.Test.YthgknhkeifcflaaGreatDoorTEe2
import Derived.Test.YthgknhkeifcflaaGreatDoorTEe3
import Derived.Test.YthgknhkeifcflaaGreatDoorTEe4
namespace Go.Proofs.YthgknhkeifcflaaGreatDoor.E
set_option linter.unusedVariables false
theorem aa{α β:Type _}(a:α)(f:α→Option β):(some a).bind f=f a:=rfl
theorem ab{p:Prop}[Decidable p]:(decide p=true)=p:=decide_eq_true_eq
theorem ac{p:Prop}[Decidable p](a:p):decide p=true:=decide_eq_true a
theorem ae{p:Prop}[Decidable p](a:¬p):decide p=false:=decide_eq_false a
theorem af(n:Nat):((n:Int)).toNat=n:=Int.toNat_natCast n
theorem ag{α:Type _}{x y:List α}:(x++y).length=x.length+y.length:=List.length_append
theorem ah{α:Type _}(x y z:List α):x++y++z=x++(y++z):=List.append_assoc x y z
theorem ai{α:Type _}{i:Nat}{l:List α}(h:i<l.length):l.drop i=l[i]::l.drop (i+1):=List.drop_eq_getElem_cons h
theorem aj{α:Sort _}{p:Prop}[Decidable p]{a b:α}(h:¬p):(if decide p=true then a else b)=b:=if_neg (by rw[decide_eq_true_eq];exact h)
theorem ak{α:Sort _}{p:Prop}[Decidable p]{a b:α}(h:p):(if decide p=true then a else b)=a:=if_pos (decide_eq_true h)
theorem al{α:Sort _}{c:Prop}[Decidable c]{a b:α}(h:c:=by omega):(if c then a else b)=a:=if_pos h
theorem am{α:Sort _}{c:Prop}[Decidable c]{a b:α}(h:¬c:=by omega):(if c then a else b)=b:=if_neg h
theorem an{α:Sort _}{p:Prop}[Decidable p]{a b:α}(h:p:=by omega):(if decide p=true then a else b)=a:=if_pos (decide_eq_true h)
theorem ap{α:Sort _}{p:Prop}[Decidable p]{a b:α}(h:¬p:=by omega):(if decide p=true then a else b)=b:=if_neg (by rw[decide_eq_true_eq];exact h)
theorem bV{n:Int}(h:-9223372036854775808≤n)(h':n≤9223372036854775807):w64 n=n:=by
 show IntKind.i64.wrap n=n
 rw[IntKind.wrap_i64];omega
theorem aq{n:Int}(h:-9223372036854775808≤n:=by omega)(h':n≤9223372036854775807:=by omega):w64 n=n:=bV h h'
theorem A4{n:Int}(h:0≤n)(h':n≤255):w8 n=n:=by
 show IntKind.u8.wrap n=n
 rw[IntKind.wrap_u8];omega
theorem UX(n:Int):0≤w8 n∧w8 n≤255:=by
 show 0≤IntKind.u8.wrap n∧IntKind.u8.wrap n≤255
 rw[IntKind.wrap_u8];omega
theorem ch{i:Nat}{n:Nat}(h:i<n)(hn:n≤9223372036854775807):w64 ((i:Int)+1)=((i+1:Nat):Int):=by
 rw[aq];omega
theorem cg:room=4294967296:=rfl
theorem lX{ρ:Type}(a:Option ρ):amb a a=a:=by unfold amb;rw[bm rfl]
theorem cE{α:Type}{l:List α}{i:Nat}(h:i<l.length)(z:α):l.getD i z=l[i]:=by
 rw[List.getD_eq_getElem?_getD,List.getElem?_eq_getElem h];rfl
theorem ci{α:Type}{l:List α}{i:Nat}(h:i<l.length)(z:α):l.getD (i:Int).toNat z=l[i]:=by
 rw[af];exact cE h z
theorem AX{α β:Type}(L:List β→Int→Option (List β×Unit))(f:α→β)(l:List α)
  (step:∀ (acc:List β) (i:Nat) (h:i<l.length),acc.length=l.length→L acc i=L (acc.set i (f l[i])) ((i+1:Nat):Int))
  (stop:∀ acc:List β,acc.length=l.length→L acc (l.length:Int)=some (acc,())) (acc:List β) (ha:acc.length=l.length):L acc 0=some (l.map f,()):=by
 have key:∀ (d i:Nat) (acc:List β),acc.length=l.length→i+d=l.length→(∀ j (hj:j<i) (h:j<l.length),acc[j]? = some (f l[j]))→L acc (i:Int)=some (l.map f,()):=by
  intro d
  induction d with
  | zero =>
   intro i acc ha hd hj
   have hi:i=l.length:=by omega
   subst hi
   rw[stop acc ha]
   congr 2
   apply List.ext_getElem?
   intro j
   by_cases h:j<l.length
   ·rw[hj j h h,List.getElem?_map,List.getElem?_eq_getElem h];rfl
   ·rw[List.getElem?_eq_none (by omega),List.getElem?_eq_none (by rw[bh];omega)]
  | succ d ih =>
   intro i acc ha hd hj
   have hi:i<l.length:=by omega
   rw[step acc i hi ha]
   refine ih (i+1) _ (by rw[aX];exact ha) (by omega) fun j hji h=>?_
   by_cases e:i=j
   ·subst e
    rw[List.getElem?_set_self (by omega)]
   ·rw[List.getElem?_set_ne e]
    exact hj j (by omega) h
 exact key l.length 0 acc ha (by omega) fun j hj _=>absurd hj (by omega)
theorem nA{ρ α:Type}(L:Int→Option ρ)(l:List α)(y:Option ρ)(step:∀ (i:Nat) (h:i<l.length),L i=L ((i+1:Nat):Int))(stop:L (l.length:Int)=y):L 0=y:=by
 have key:∀ (d i:Nat),i+d=l.length→L (i:Int)=y:=by
  intro d
  induction d with
  | zero=>intro i hd;rw[show i=l.length by omega];exact stop
  | succ d ih=>intro i hd;rw[step i (by omega)];exact ih (i+1) (by omega)
 exact key l.length 0 (by omega)
theorem mc{α:Type}{l:List α}{i:Nat}(h:i<l.length)(a z:α):(l.set i a).getD i z=a:=by
 rw[List.getD_eq_getElem?_getD,List.getElem?_set_self h];rfl
set_option linter.defProp false
def aV:=@List.getElem_mem
def dV(p:Nat→Bool)(n:Nat):Bool:=(List.range n).any p
theorem anyB_iff{p:Nat→Bool}{n:Nat}:dV p n=true ↔ ∃ i,i<n∧p i=true:=by
 unfold dV
 rw[List.any_eq_true]
 constructor
 ·rintro ⟨i,h,e⟩;exact⟨i,List.mem_range.1 h,e⟩
 ·rintro ⟨i,h,e⟩;exact⟨i,List.mem_range.2 h,e⟩
theorem anyB_false{p:Nat→Bool}{n:Nat}:dV p n=false ↔ ∀ i,i<n→p i=false:=by
 rw[← aS,anyB_iff]
 constructor
 ·intro h i hi
  cases e:p i with
  | false=>rfl
  | true=>exact absurd ⟨i,hi,e⟩ h
 ·rintro h ⟨i,hi,e⟩
  rw[h i hi]at e;cases e
theorem Kl(p q:Nat→Bool)(n:Nat):dV (fun i=>p i||q i) n=(dV p n||dV q n):=by
 cases h:dV p n with
 | true =>
  obtain⟨i,hi,e⟩:=anyB_iff.1 h
  rw[Bool.true_or,anyB_iff];exact⟨i,hi,by rw[e];rfl⟩
 | false =>
  rw[Bool.false_or]
  have h':=anyB_false.1 h
  cases g:dV q n with
  | true =>
   obtain⟨i,hi,e⟩:=anyB_iff.1 g
   rw[anyB_iff];exact⟨i,hi,by rw[e,Bool.or_true]⟩
  | false=>rw[anyB_false];intro i hi;rw[h' i hi,anyB_false.1 g i hi];rfl
theorem iP{ρ:Type}(F:Int→Option ρ)(n:Nat)(p:Nat→Bool)(x y:Option ρ)
  (step:∀ i:Nat,i<n→F i=if p i=true then x else F ((i+1:Nat):Int)) (stop:F (n:Int)=y):F 0=if dV p n=true then x else y:=by
 have key:∀ (d i:Nat),i+d=n→(∀ j,j<i→p j=false)→F (i:Int)=if dV p n=true then x else y:=by
  intro d
  induction d with
  | zero =>
   intro i hd hj
   have hi:i=n:=by omega
   subst hi
   rw[stop,anyB_false.2 hj];rfl
  | succ d ih =>
   intro i hd hj
   rw[step i (by omega)]
   cases e:p i with
   | true=>rw[bm rfl,anyB_iff.2 ⟨i,by omega,e⟩,bm rfl]
   | false =>
    rw[bn (by simp)]
    refine ih (i+1) (by omega) fun j h=>?_
    by_cases h':j=i
    ·subst h';exact e
    ·exact hj j (by omega)
 exact key n 0 (by omega) (fun j h=>absurd h (by omega))
theorem im{σ:Type}(F:Int→Option (Int×σ))(s:σ)(n:Nat)(p:Nat→Bool)
  (step:∀ i:Nat,i<n→F i=if p i=true then some ((i:Int),s)else F ((i+1:Nat):Int)) (stop:F (n:Int)=some (-1,s)) :
  ∃ k:Int,F 0=some (k,s)∧decide (k≥0)=dV p n∧k<n∧(0≤k→p k.toNat=true∧∀ j:Nat,(j:Int)<k→p j=false)∧(k<0→k = -1):=by
 have key:∀ (d i:Nat),i+d=n→(∀ j,j<i→p j=false)→∃ k:Int,F (i:Int)=some (k,s)∧decide (k≥0)=dV p n∧k<n∧(0≤k→p k.toNat=true∧∀ j:Nat,(j:Int)<k→p j=false)∧(k<0→k = -1):=by
  intro d
  induction d with
  | zero =>
   intro i hd hj
   have hi:i=n:=by omega
   subst hi
   exact⟨-1,stop,by rw[anyB_false.2 hj];rfl,by omega,fun h=>by omega,fun _=>rfl⟩
  | succ d ih =>
   intro i hd hj
   rw[step i (by omega)]
   cases e:p i with
   | true=>rw[bm rfl];exact⟨i,rfl,by rw[anyB_iff.2 ⟨i,by omega,e⟩];exact ac (by omega),by omega,fun _=>⟨by rw[af];exact e,fun j h=>hj j (by omega)⟩,fun h=>by omega⟩
   | false =>
    rw[bn (by simp)]
    refine ih (i+1) (by omega) fun j h=>?_
    by_cases h':j=i
    ·subst h';exact e
    ·exact hj j (by omega)
 exact key n 0 (by omega) (fun j h=>absurd h (by omega))
theorem fm{α:Type}(l:List α)(z:α)(p:α→Bool):dV (fun i=>p (l.getD i z)) l.length=l.any p:=by
 cases h:l.any p with
 | true =>
  obtain⟨x,hx,e⟩:=List.any_eq_true.1 h
  obtain⟨i,hi,rfl⟩:=bk.1 hx
  exact anyB_iff.2 ⟨i,hi,by rw[cE hi];exact e⟩
 | false =>
  rw[anyB_false]
  intro i hi
  rw[cE hi]
  cases e:p l[i] with
  | false=>rfl
  | true =>
   have:l.any p=true:=List.any_eq_true.2 ⟨l[i],aV hi,e⟩
   rw[h]at this;cases this
theorem zb{α:Type}(L:List α→Int→Int→Option (Int×Unit))(P:α→Prop)(b:Nat)(bd:Int)
  (stop:∀ a k,L a k (a.length:Int)=some (k,()))
  (step:∀ (a:List α) (k:Int) (i:Nat) (h:i<a.length),a.length≤4294967296→P a[i]→0≤k→k+b≤bd→∃ y k',L a k i=L (a.set i y) k' ((i+1:Nat):Int)∧k≤k'∧k'≤k+b)
  (l:List α) (k:Int) (hl:l.length≤4294967296) (hP:∀ x∈l,P x) (hk:0≤k) (hb:k+b*l.length≤bd) :
  ∃ k',L l k 0=some (k',())∧k≤k'∧k'≤k+b*l.length:=by
 have hs:∀ d:Nat,(b*((d+1:Nat):Int):Int)=b*d+b:=fun d=>by rw[Int.natCast_add,Int.mul_add];simp
 have hz:∀ d:Nat,(0:Int)≤b*d:=fun d=>by exact_mod_cast Nat.zero_le (b*d)
 have key:∀ (d i:Nat) (a:List α) (k:Int),i+d=a.length→a.length≤4294967296→(∀ j (h:j<a.length),i≤j→P a[j])→0≤k→k+b*d≤bd →
   ∃ k',L a k (i:Int)=some (k',())∧k≤k'∧k'≤k+b*d:=by
  intro d
  induction d with
  | zero =>
   intro i a k hd hl hp hk hb
   have hi:i=a.length:=by omega
   subst hi
   exact⟨k,stop a k,Int.le_refl k,by simp⟩
  | succ d ih =>
   intro i a k hd hl hp hk hb
   have hi:i<a.length:=by omega
   have h0:=hz d
   rw[hs]at hb
   obtain⟨y,k1,e1,e2,e3⟩:=step a k i hi hl (hp i hi (aG i)) hk (by omega)
   obtain⟨k',f1,f2,f3⟩:=ih (i+1) (a.set i y) k1 (by rw[aX];omega) (by rw[aX];exact hl)
    (fun j hj hij=>by rw[List.getElem_set_ne (by omega)];exact hp j (by rw[aX]at hj;exact hj) (by omega)) (by omega) (by omega)
   exact⟨k',e1.trans f1,by omega,by rw[hs];omega⟩
 exact key l.length 0 l k (by omega) hl (fun j hj _=>hP _ (aV hj)) hk hb
end Go.Proofs.YthgknhkeifcflaaGreatDoor.E
namespace Go.Proofs.YthgknhkeifcflaaGreatDoor.E.TE
open Go.Proofs.YthgknhkeifcflaaGreatDoor.E
set_option linter.unusedVariables false
theorem eI(a b c:Int):cU a b c=some (decide (b≤a∧a≤c),()):=by
 rw[N0]
 by_cases h:a≥b
 ·rw[bm (by simp[h])];simp[show b≤a from h]
 ·rw[bn (by simp[h])];simp[show ¬ b≤a from h]
theorem d8(a b c:Int):dQ a b c=some (decide (b≤a∧a≤c),()):=by
 rw[HR]
 by_cases h:b≤a
 ·rw[bm (by simp[h])];simp[h]
 ·rw[bn (by simp[h])];simp[h]
set_option linter.defProp false
def aZ:=@List.length_eq_zero_iff
inductive Small:bD→Prop
 | mk (x:bD):x.Kids.length≤100→(∀ k∈x.Kids,Small k)→Small x
theorem rF{x:bD}(h:x.Kids=[]):Small x:=.mk x (by rw[h];decide) (fun k hk=>by rw[h]at hk;cases hk)
theorem F9(a b:Int):mxI a b=if a>b then a else b:=by unfold mxI;split <;> split <;> omega
theorem wP{x:bD}(h:Small x):∃ v,jf x=some (v,())∧iS x=some (v,()):=by
 induction h with
 | mk x hl hs ih =>
  rw[HT,Ev]
  have key:∀ (n i:Nat) (t:Int),i+n=x.Kids.length→∃ v,uQ t i x=some (v,())∧qp t x.Kids x.Kids.length i=some (v,()):=by
   intro n
   induction n with
   | zero =>
    intro i t hi
    rw[Ax,tn,ap,ap]
    exact⟨_,rfl,rfl⟩
   | succ n ihn =>
    intro i t hi
    have hi':i<x.Kids.length:=by omega
    obtain⟨v,e1,e2⟩:=ih x.Kids[i] (aV hi')
    rw[Ax,an,al,tn,an,al,ci hi',e1,e2,aa,aa]
    dsimp only
    rw[Aw,F9,ch hi' (by omega)]
    by_cases c:t>v
    ·rw[ak c,bm c,aa];exact ihn (i+1) t (by omega)
    ·rw[aj c,bn c,aa];exact ihn (i+1) v (by omega)
  exact key x.Kids.length 0 0 (by omega)
theorem Gi{c:bR}{b:Int}(h:c.bad=true):ix c b=some (false,c,()):=by rw[Ay,bn (by simp[h])]
theorem i7{S:List Int}{p:Nat}{b:Int}(h:S.length≤p):ix ⟨S,p,false⟩ b=some (false,⟨S,p,false⟩,()):=by
 rw[Ay,bm (by simp),aj (by simp;omega)]
theorem mE{S:List Int}{p:Nat}{b:Int}(h:p<S.length):ix ⟨S,p,false⟩ b=some (decide (S[p]=b),⟨S,p,false⟩,()):=by
 rw[Ay];dsimp only
 rw[bm (by simp),an,al,ci h]
theorem en{r:bG}(h:r.s=[]∨r.bad=true):kO r=some (0,false,r,()):=by
 rw[Ew]
 by_cases h1:r.s=[]
 ·rw[ak h1]
 ·rw[aj h1,bm (h.resolve_left h1)]
theorem fe{b:Int}{s:List Int}:kO ⟨b::s,false⟩=some (b,true,⟨b::s,false⟩,()):=by
 rw[Ew,bn (by simp),bn (by simp),bm (by simp)]
 rfl
theorem pP(b:Int)(s:List Int):List.take ((b::s).length-1) (List.drop 1 (b::s))=s:=by simp
theorem gn{r:bG}{b:Int}(h:r.s=[]∨r.bad=true):jH r b=some (false,r,()):=by
 rw[xZ,en h,aa,bm (by simp)]
theorem j8{b:Int}{s:List Int}:jH ⟨b::s,false⟩ b=some (true,⟨s,false⟩,()):=by
 rw[xZ,fe,aa,bn (by simp),bn (by simp),bm (by simp;omega)]
 dsimp only
 rw[pP]
theorem j7{a b:Int}{s:List Int}(h:a≠b):jH ⟨a::s,false⟩ b=some (false,⟨a::s,false⟩,()):=by
 rw[xZ,fe,aa,bn (by simp),bm (by simp[h])]
theorem gM(r:bG):(r.s=[]∨r.bad=true)∨∃ b s,r=⟨b::s,false⟩:=by
 obtain⟨s,bad⟩:=r
 cases s with
 | nil=>exact .inl (.inl rfl)
 | cons b s=>cases bad with
  | true=>exact .inl (.inr rfl)
  | false=>exact .inr ⟨b,s,rfl⟩
def ew(f:List Bool)(j:Nat):Nat→List Bool
 | 0=>f
 | n+1=>ew (f.set j true) (j+1) n
theorem ic(n:Nat):∀ (f:List Bool) (j:Nat),(ew f j n).length=f.length:=by
 induction n with
 | zero=>intro f j;rfl
 | succ n ih=>intro f j;unfold ew;rw[ih,aX]
theorem Mc{k hi:Int}(c:bR)(z w:bD)(hh:hi≤255):∀ (n:Nat) (f:List Bool) (j:Nat),f.length=256→(hi+1-j).toNat=n→rt f k hi j c z w=lD (ew f j n) (w64 (k+1)) c z w:=by
 intro n
 induction n with
 | zero=>intro f j hf hn;rw[HY,ap];rfl
 | succ n ih =>
  intro f j hf hn
  rw[HY,bm (by rw[ab];omega),al,aq (n:=(j:Int)+1),af]
  exact ih (f.set j true) (j+1) (by rw[aX];exact hf) (by omega)
theorem Ma{t:List Int}{k hi:Int}(c:bG)(z w:bD)(hh:hi≤255):∀ (n:Nat) (f:List Bool) (j:Nat),f.length=256→(hi+1-j).toNat=n→qr t f k hi j c z w=nV t (ew f j n) (w64 (k+1)) c z w:=by
 intro n
 induction n with
 | zero=>intro f j hf hn;rw[Ez,ap];rfl
 | succ n ih =>
  intro f j hf hn
  rw[Ez,bm (by rw[ab];omega),al,aq (n:=(j:Int)+1),af]
  exact ih (f.set j true) (j+1) (by rw[aX];exact hf) (by omega)
def cS:Nat→List Int→List Bool→Bool→List Bool×Bool
 | 0,_,f,b=>(f,b)
 | _+1,[],f,b=>(f,b)
 | n+1,lo::t,f,b=>match t with
  | d::hi::u=>if d=45 then cS n u (ew f lo.toNat (hi+1-lo).toNat) (b||decide (hi<lo))else cS n t (ew f lo.toNat (lo+1-lo).toNat) b
  | _=>cS n t (ew f lo.toNat (lo+1-lo).toNat) b
theorem Im(n:Nat):∀ (l:List Int) (f:List Bool) (b:Bool),(cS n l f b).1.length=f.length:=by
 induction n with
 | zero=>intro l f b;rfl
 | succ n ih =>
  intro l f b
  match l with
  | []=>rfl
  | [lo]=>show(cS n [] _ b).1.length=_;rw[ih,ic]
  | [lo,d]=>show(cS n [d] _ b).1.length=_;rw[ih,ic]
  | lo::d::hi::u =>
   show(if d=45 then _ else _:List Bool×Bool).1.length=_
   split
   ·rw[ih,ic]
   ·rw[ih,ic]
def kz(f:List Bool):Nat→Nat→List Int→List Int
 | _,0,t=>t
 | j,n+1,t=>kz f (j+1) n (if f.getD j false=true then t++[w8 j]else t)
theorem Lr(c:bR)(z w:bD){f:List Bool}(hf:f.length=256):∀ (n j:Nat) (t:List Int),j+n=256→t.length≤j→rr f t j c z w=some (⟨w.Op,w.C,kz f j n t,w.Not,w.Kids⟩,c,()):=by
 intro n
 induction n with
 | zero=>intro j t hj ht;rw[HX,ap];rfl
 | succ n ih =>
  intro j t hj ht
  rw[HX,bm (by rw[ab];omega),al,aq (n:=(j:Int)+1),af]
  unfold kz
  by_cases c:f.getD j false=true
  ·rw[bm c,bm c,bm (by rw[cg];omega)]
   exact ih (j+1) _ (by omega) (by simp;omega)
  ·rw[bn c,bn c]
   exact ih (j+1) _ (by omega) (by omega)
theorem Lq(c:bG)(z w:bD){f:List Bool}(hf:f.length=256):∀ (n j:Nat) (t:List Int),j+n=256→t.length≤j→kS t f 256 j c z w=some (⟨w.Op,w.C,kz f j n t,w.Not,w.Kids⟩,c,()):=by
 intro n
 induction n with
 | zero=>intro j t hj ht;rw[Ey,ap];rfl
 | succ n ih =>
  intro j t hj ht
  rw[Ey,bm (by rw[ab];omega),al,aq (n:=(j:Int)+1),af]
  unfold kz
  by_cases c:f.getD j false=true
  ·rw[bm c,bm c,bm (by rw[cg];omega)]
   exact ih (j+1) _ (by omega) (by simp;omega)
  ·rw[bn c,bn c]
   exact ih (j+1) _ (by omega) (by omega)
theorem vj(n:Nat)(lo:Int)(f:List Bool)(b:Bool):∀ (t:List Int),(∀ hi u,t≠45::hi::u)→cS (n+1) (lo::t) f b=cS n t (ew f lo.toNat (lo+1-lo).toNat) b
 | [],_=>rfl
 | [_],_=>rfl
 | d::hi::u,h=>by
  show(if d=45 then _ else _:List Bool×Bool)=_
  rw[bn (fun e=>h hi u (by rw[e]))]
theorem vi(n:Nat)(lo hi:Int)(u:List Int)(f:List Bool)(b:Bool):cS (n+1) (lo::45::hi::u) f b=cS n u (ew f lo.toNat (hi+1-lo).toNat) (b||decide (hi<lo)):=by
 rw[cS]
 exact bm rfl
theorem rB(n:Nat)(f:List Bool)(b:Bool):cS n [] f b=(f,b):=by cases n <;> rfl
def n93(x:Int):Bool:=!decide (x=93)
def cf(l:List Int):List Int:=l.takeWhile n93
theorem KG:cf []=[]:=rfl
theorem lZ{l:List Int}:cf (93::l)=[]:=rfl
theorem jn{a:Int}{l:List Int}(h:a≠93):cf (a::l)=a::cf l:=List.takeWhile_cons_of_pos (by unfold n93;simp[h])
theorem wx(l:List Int):(cf l).length≤l.length:=(List.takeWhile_sublist _).length_le
theorem CS{k lo hi:Int}(c:bR)(z w:bD)(hh:hi≤255)(hl:0≤lo)(f:List Bool)(hf:f.length=256):rt f k hi lo c z w=lD (ew f lo.toNat (hi+1-lo).toNat) (w64 (k+1)) c z w:=by
 have:=Mc (k:=k) c z w hh _ f lo.toNat hf rfl
 rwa [Int.toNat_of_nonneg hl]at this
theorem CR{t:List Int}{k lo hi:Int}(c:bG)(z w:bD)(hh:hi≤255)(hl:0≤lo)(f:List Bool)(hf:f.length=256):qr t f k hi lo c z w=nV t (ew f lo.toNat (hi+1-lo).toNat) (w64 (k+1)) c z w:=by
 have:=Ma (t:=t) (k:=k) c z w hh _ f lo.toNat hf rfl
 rwa [Int.toNat_of_nonneg hl]at this
theorem Uo(z w:bD){S:List Int}(hS:S.length≤60)(hB:∀ b∈S,0≤b∧b≤255):∀ (n p:Nat) (f:List Bool) (k:Int) (b:Bool),f.length=256→p≤S.length→(cf (S.drop p)).length≤n→0≤k→k≤p →
  lD f k ⟨S,p,b⟩ z w=iz (cS n (cf (S.drop p)) f b).1 ⟨S,(p+(cf (S.drop p)).length:Nat),(decide (S.length≤p+(cf (S.drop p)).length)||(decide (k=0)&&decide (cf (S.drop p)=[])))||(cS n (cf (S.drop p)) f b).2⟩ z w:=by
 intro n
 induction n with
 | zero =>
  intro p f k b hf hp hn hk hkp
  have hn0:cf (S.drop p)=[]:=aZ.1 (by omega)
  rw[hn0,rB,uZ]
  simp only[List.length_nil,Nat.add_zero,decide_true,Bool.and_true]
  by_cases h:p<S.length
  ·have h93:S[p]=93:=by
    rw[ai h]at hn0
    apply Classical.byContradiction
    intro hne
    rw[jn hne]at hn0
    cases hn0
   rw[bm (by rw[ab];omega),al,ci h,h93,bn (by simp),ap]
   by_cases hk0:k=0
   ·rw[ak hk0,ac hk0];simp
   ·rw[aj hk0,ae hk0,ae (p:=S.length≤p) (by omega)];simp
  ·rw[ap,bm (by rw[ab];omega),ac (p:=S.length≤p) (by omega)];simp
 | succ n ih =>
  intro p f k b hf hp hn hk hkp
  by_cases h:p<S.length
  ·by_cases h93:S[p]=93
   ·have hn0:cf (S.drop p)=[]:=by rw[ai h,h93,lZ]
    rw[hn0,rB,uZ]
    simp only[List.length_nil,Nat.add_zero,decide_true,Bool.and_true]
    rw[bm (by rw[ab];omega),al,ci h,h93,bn (by simp),ap]
    by_cases hk0:k=0
    ·rw[ak hk0,ac hk0];simp
    ·rw[aj hk0,ae hk0,ae (p:=S.length≤p) (by omega)];simp
   ·have hlo:=hB _ (aV h)
    have e0:cf (S.drop p)=S[p]::cf (S.drop (p+1)):=by rw[ai h,jn h93]
    have hstep:∀ (t:List Int) (q:Nat) (f':List Bool) (b':Bool),f'.length=256→q≤S.length→p<q→(cf (S.drop q)).length≤n→p+(cf (S.drop p)).length=q+(cf (S.drop q)).length→cS (n+1) (cf (S.drop p)) f b=cS n (cf (S.drop q)) f' b' →
      lD f' (w64 (k+1)) ⟨S,q,b'⟩ z w=iz (cS (n+1) (cf (S.drop p)) f b).1 ⟨S,(p+(cf (S.drop p)).length:Nat),(decide (S.length≤p+(cf (S.drop p)).length)||(decide (k=0)&&decide (cf (S.drop p)=[])))||(cS (n+1) (cf (S.drop p)) f b).2⟩ z w:=by
     intro t q f' b' hf' hq hpq hb he hr
     rw[hr,he,ih q f' _ b' hf' hq hb (by rw[aq];omega) (by rw[aq];omega)]
     have z1:decide (w64 (k+1)=0)=false:=by rw[aq];exact ae (by omega)
     have z2:decide (cf (S.drop p)=[])=false:=ae (by rw[e0];exact List.cons_ne_nil _ _)
     rw[z1,z2];simp
    have hno:mV f k (w64 S[p]) (w64 S[p]) ⟨S,(w64 ((p:Int)+1)),b⟩ z w=lD (ew f S[p].toNat (S[p]+1-S[p]).toNat) (w64 (k+1)) ⟨S,(p+1:Nat),b⟩ z w:=by
     rw[aq (n:=S[p]),HV,ap,HW,CS _ z w hlo.2 hlo.1 f hf,aq (n:=(p:Int)+1)]
     rfl
    rw[uZ];dsimp only
    rw[bm (by rw[ab];omega),al,ci h,bm (by simp[h93]),al]
    have hl1:p+(cf (S.drop p)).length=p+1+(cf (S.drop (p+1))).length:=by rw[e0];simp;omega
    have hn1:(cf (S.drop (p+1))).length≤n:=by rw[e0]at hn;simpa using hn
    have hel:(∀ hi u,cf (S.drop (p+1))≠45::hi::u)→mV f k (w64 S[p]) (w64 S[p]) ⟨S,(w64 ((p:Int)+1)),b⟩ z w=iz (cS (n+1) (cf (S.drop p)) f b).1 ⟨S,(p+(cf (S.drop p)).length:Nat),(decide (S.length≤p+(cf (S.drop p)).length)||(decide (k=0)&&decide (cf (S.drop p)=[])))||(cS (n+1) (cf (S.drop p)) f b).2⟩ z w:=fun hne=>by
     rw[hno]
     exact hstep [] (p+1) _ b (by rw[ic];exact hf) (by omega) (by omega) hn1 hl1 (by rw[e0];exact vj n _ f b _ hne)
    have w2:w64 (w64 ((p:Int)+1)+1)=((p+2:Nat):Int):=by rw[aq (n:=(p:Int)+1),aq];omega
    have w1:w64 ((p:Int)+1)=((p+1:Nat):Int):=by rw[aq (n:=(p:Int)+1)];omega
    by_cases h2:p+2<S.length
    ·have h1:p+1<S.length:=by omega
     rw[w2,bm (by rw[ab];omega),bm (by rw[w1];omega)]
     have g1:List.getD S (w64 ((p:Int)+1)).toNat 0=S[p+1]:=by rw[w1,ci h1]
     have g2:List.getD S ((p+2:Nat):Int).toNat 0=S[p+2]:=ci h2 0
     rw[g1,g2]
     by_cases c1:S[p+1]=45
     ·rw[ak c1,al]
      by_cases c2:S[p+2]=93
      ·rw[bn (by simp[c2])]
       refine hel fun hi u hu=>?_
       rw[ai h1,c1,jn (by decide),ai h2,c2,lZ]at hu
       cases hu
      ·have hhi:=hB _ (aV h2)
       rw[bm (by simp[c2]),al]
       have e1:cf (S.drop (p+1))=45::S[p+2]::cf (S.drop (p+3)):=by
        rw[ai h1,c1,jn (by decide),ai h2,jn c2]
       have w3:w64 (w64 ((p:Int)+1)+2)=((p+3:Nat):Int):=by rw[w1,aq];omega
       rw[w3,aq (n:=S[p]),aq (n:=S[p+2]),HV]
       have hfin:∀ b',b'=(b||decide (S[p+2]<S[p]))→u6 f k S[p] S[p+2] ⟨S,((p+3:Nat):Int),b'⟩ z w=iz (cS (n+1) (cf (S.drop p)) f b).1 ⟨S,(p+(cf (S.drop p)).length:Nat),(decide (S.length≤p+(cf (S.drop p)).length)||(decide (k=0)&&decide (cf (S.drop p)=[])))||(cS (n+1) (cf (S.drop p)) f b).2⟩ z w:=fun b' hb'=>by
        rw[HW,CS _ z w hhi.2 hlo.1 f hf]
        refine hstep [] (p+3) _ b' (by rw[ic];exact hf) (by omega) (by omega) (by rw[e1]at hn1;simp at hn1;omega) (by rw[hl1,e1];simp;omega) ?_
        rw[e0,e1,vi,hb']
       by_cases c3:S[p+2]<S[p]
       ·rw[ak c3];exact hfin true (by rw[ac c3,Bool.or_true])
       ·rw[aj c3];exact hfin b (by rw[ae c3,Bool.or_false])
     ·rw[aj c1]
      refine hel fun hi u hu=>?_
      rw[ai h1]at hu
      by_cases c9:S[p+1]=93
      ·rw[c9,lZ]at hu;cases hu
      ·rw[jn c9]at hu;exact c1 (aL hu).1
    ·rw[w2,ap]
     refine hel fun hi u hu=>?_
     have:=wx (S.drop (p+1))
     rw[hu,aQ]at this
     simp at this
     omega
  ·have hd:S.drop p=[]:=aW (by omega)
   rw[hd,KG,rB,uZ]
   simp only[List.length_nil,Nat.add_zero,decide_true,Bool.and_true]
   rw[ap,bm (by rw[ab];omega),ac (p:=S.length≤p) (by omega)];simp
theorem Un(z w:bD){s t:List Int}(ht:t.length≤60)(hB:∀ b∈t,0≤b∧b≤255):∀ (n i:Nat) (f:List Bool) (b:Bool),f.length=256→i≤t.length→(t.drop i).length≤n →
  nV t f i ⟨s,b⟩ z w=kS [] (cS n (t.drop i) f b).1 256 0 ⟨s,(cS n (t.drop i) f b).2⟩ z w:=by
 intro n
 induction n with
 | zero =>
  intro i f b hf hi hn
  have hd:t.drop i=[]:=aZ.1 (by omega)
  rw[aQ]at hn
  rw[hd,rB,xY,ap,hf]
  rfl
 | succ n ih =>
  intro i f b hf hi hn
  rw[aQ]at hn
  by_cases h:i<t.length
  ·have hlo:=hB _ (aV h)
   rw[xY,bm (by rw[ab];omega),al,al,ci h]
   have e0:t.drop i=t[i]::t.drop (i+1):=ai h
   have hel:(∀ hi u,t.drop (i+1)≠45::hi::u)→mq t f i (w64 t[i]) (w64 t[i]) ⟨s,b⟩ z w=kS [] (cS (n+1) (t.drop i) f b).1 256 0 ⟨s,(cS (n+1) (t.drop i) f b).2⟩ z w:=fun hne=>by
    rw[Ex,aq (n:=t[i]),CR _ z w hlo.2 hlo.1 f hf,e0,vj n _ f b _ hne,ch h (by omega)]
    exact ih (i+1) _ b (by rw[ic];exact hf) (by omega) (by rw[aQ];omega)
   have w1:w64 ((i:Int)+1)=((i+1:Nat):Int):=ch h (by omega)
   have w2:w64 ((i:Int)+2)=((i+2:Nat):Int):=by rw[aq];omega
   by_cases h2:i+2<t.length
   ·have h1:i+1<t.length:=by omega
    rw[w2,bm (by rw[ab];omega),w1,al,ci h1]
    by_cases c1:t[i+1]=45
    ·have hhi:=hB _ (aV h2)
     rw[ak c1,al,ci h2,aq (n:=t[i]),aq (n:=t[i+2])]
     have e1:t.drop (i+1)=45::t[i+2]::t.drop (i+3):=by rw[ai h1,c1,ai h2]
     have hfin:∀ b',b'=(b||decide (t[i+2]<t[i]))→mq t f ((i+2:Nat):Int) t[i] t[i+2] ⟨s,b'⟩ z w=kS [] (cS (n+1) (t.drop i) f b).1 256 0 ⟨s,(cS (n+1) (t.drop i) f b).2⟩ z w:=fun b' hb'=>by
      rw[Ex,CR _ z w hhi.2 hlo.1 f hf,e0,e1,vi,hb',ch h2 (by omega)]
      exact ih (i+3) _ _ (by rw[ic];exact hf) (by omega) (by rw[aQ];omega)
     cases b with
     | true=>rw[bm rfl];exact hfin true (by simp)
     | false=>rw[bn (by simp)];exact hfin _ (by simp)
    ·rw[aj c1]
     refine hel fun hi' u hu=>c1 ?_
     rw[ai h1]at hu
     exact(aL hu).1
   ·rw[w2,ap]
    refine hel fun hi' u hu=>?_
    have:=congrArg List.length hu
    rw[aQ]at this
    simp at this
    omega
  ·have hd:t.drop i=[]:=aW (by omega)
   rw[hd,rB,xY,ap,hf]
   rfl
set_option linter.defProp false
def bf:=@List.suffix_refl
theorem EL:∀ l:List Int,(dr l 93 = -1∧cf l=l)∨(dr l 93=(cf l).length∧(cf l).length<l.length)
 | []=>.inl ⟨rfl,rfl⟩
 | b::l=>by
  by_cases h:b=93
  ·subst h
   refine .inr ⟨?_,?_⟩
   ·rw[dr,bm rfl,lZ];rfl
   ·rw[lZ];simp
  ·rw[dr,bn h,jn h]
   rcases EL l with ⟨e1,e2⟩ | ⟨e1,e2⟩
   ·rw[bm e1,e2];exact .inl ⟨rfl,rfl⟩
   ·rw[am,e1];refine .inr ⟨by simp,by simp;omega⟩
theorem B7:∀ l:List Int,l.take (cf l).length=cf l
 | []=>rfl
 | b::l=>by
  by_cases h:b=93
  ·subst h;rw[lZ];rfl
  ·rw[jn h,aR,List.take_succ_cons,B7 l]
def fh(u:List Int)(nt:Bool):bD×bG :=
 if(cf u).length=u.length∨cf u=[] then(⟨0,0,[],false,[]⟩,⟨u,true⟩)
 else(⟨3,0,kz (cS (cf u).length (cf u) (List.replicate 256 false) false).1 0 256 [],nt,[]⟩,⟨u.drop ((cf u).length+1),(cS (cf u).length (cf u) (List.replicate 256 false) false).2⟩)
theorem x8(u:List Int)(nt:Bool)(hu:u.length≤60)(hb:∀ b∈u,0≤b∧b≤255)(s:List Int)(ht:jH ⟨s,false⟩ 94=some (nt,⟨u,false⟩,())) :
  nU ⟨s,false⟩=some ((fh u nt).1,(fh u nt).2,()):=by
 rw[Oz,ht,aa]
 dsimp only
 rw[JS,Jn,Jg,aa,aa,aa]
 dsimp only
 unfold fh
 rcases EL u with ⟨e1,e2⟩ | ⟨e1,e2⟩
 ·rw[e1,e2,bm (by decide),bm (.inl rfl)]
 ·by_cases h0:cf u=[]
  ·rw[e1,h0,bm (by simp),bm (.inr rfl)]
  ·have hl:0<(cf u).length:=List.length_pos_iff.2 h0
   have w1:w64 (((cf u).length:Int)+1)=(((cf u).length+1:Nat):Int):=by rw[aq];omega
   rw[e1,ap,al,w1,al,bn (fun h=>h.elim (by omega) h0)]
   dsimp only
   rw[af,af,Nat.sub_zero,aM,B7,a8 (by simp)]
   have hi:=Un (s:=u.drop ((cf u).length+1)) (b9) ⟨3,0,[],nt,[]⟩ (t:=cf u) (by omega) (fun b hx=>hb b ((List.takeWhile_sublist _).subset hx)) (cf u).length 0 (List.replicate 256 false) false a7 (by omega) (by rw[aM];exact aG _)
   rw[aM]at hi
   exact hi.trans (Lq _ _ _ (by rw[Im];exact a7) 256 0 [] rfl (Nat.zero_le _))
theorem AV(s:List Int):∃ nt,∃ k:Nat,jH ⟨s,false⟩ 94=some (nt,⟨s.drop k,false⟩,())∧((nt=true∧k=1∧∃ u,s=94::u)∨(nt=false∧k=0∧∀ u,s≠94::u)):=by
 cases s with
 | nil=>exact⟨false,0,gn (.inl rfl),.inr ⟨rfl,rfl,fun u h=>by cases h⟩⟩
 | cons b u =>
  by_cases h:b=94
  ·subst h;exact⟨true,1,j8,.inl ⟨rfl,rfl,u,rfl⟩⟩
  ·exact⟨false,0,j7 h,.inr ⟨rfl,rfl,fun v hv=>h (aL hv).1⟩⟩
theorem Uh(u:List Int)(nt:Bool):(fh u nt).2.s <:+ u∧(fh u nt).1.Kids=[]:=by
 unfold fh
 split
 ·exact⟨bf _,rfl⟩
 ·exact⟨List.drop_suffix _ _,rfl⟩
def By(s:List Int):Prop:=s.length≤60∧∀ b∈s,0≤b∧b≤255
theorem By.suf{s t:List Int}(h:By s)(ht:t <:+ s):By t:=⟨Nat.le_trans ht.length_le h.1,fun b hb=>h.2 b (ht.subset hb)⟩
theorem EC(s:List Int)(h:By s):∃ y r,nU ⟨s,false⟩=some (y,r,())∧r.s <:+ s∧Small y:=by
 obtain⟨nt,k,e,_⟩:=AV s
 have hu:By (s.drop k):=h.suf (List.drop_suffix _ _)
 have hr:=Uh (s.drop k) nt
 exact⟨_,_,x8 _ nt hu.1 hu.2 s e,hr.1.trans (List.drop_suffix _ _),rF hr.2⟩
def dU(F:bG→Option (bD×bG×Unit))(s:List Int)(b:Bool)(k:Nat):Prop :=
 ∃ y r,F ⟨s,b⟩=some (y,r,())∧r.s <:+ s∧r.s.length+k≤s.length∧(b=true→r.bad=true)∧Small y
theorem ma{b:Int}{s:List Int}:(⟨List.take ((b::s).length-1) (List.drop 1 (b::s)),false⟩:bG)=⟨s,false⟩:=by rw[pP]
theorem j6{b:Int}{s t:List Int}(h:t <:+ s):t <:+ b::s:=h.trans (List.suffix_cons b s)
theorem tb(b:Int)(s:List Int)(h:By (b::s))(hp:dU f7 s false 0):dU jD (b::s) false 1:=by
 have hs:By s:=h.suf (List.suffix_cons b s)
 unfold dU
 rw[xW,fe,aa]
 dsimp only
 rw[bm (by simp;omega),ma]
 have leaf:∀ (x:bD) (bad:Bool),x.Kids=[]→∃ y r,some (x,(⟨s,bad⟩:bG),())=some (y,r,())∧r.s <:+ b::s∧r.s.length+1≤(b::s).length∧(false=true→r.bad=true)∧Small y :=
  fun x bad hx=>⟨_,_,rfl,List.suffix_cons b s,by simp,(fun h=>by cases h),rF hx⟩
 by_cases c1:b=40
 ·rw[ak c1]
  obtain⟨y,r,e,e1,e2,e3,e4⟩:=hp
  rw[e,aa]
  dsimp only
  rcases gM r with hr | ⟨a,t,hr⟩
  ·rw[gn hr,aa];dsimp only
   rw[bm (by simp)]
   exact⟨_,_,rfl,j6 e1,by simp;omega,(fun h=>by cases h),e4⟩
  ·subst hr
   by_cases ha:a=41
   ·subst ha
    rw[j8,aa];dsimp only
    rw[bn (by simp)]
    refine⟨_,_,rfl,j6 ((List.suffix_cons 41 t).trans e1),?_,(fun h=>by cases h),e4⟩
    simp at e2 ⊢;omega
   ·rw[j7 ha,aa];dsimp only
    rw[bm (by simp)]
    refine⟨_,_,rfl,j6 e1,?_,(fun h=>by cases h),e4⟩
    simp at e2 ⊢;omega
 rw[aj c1]
 by_cases c2:b=46
 ·rw[ak c2];exact leaf _ _ rfl
 rw[aj c2]
 by_cases c3:b=94
 ·rw[ak c3];exact leaf _ _ rfl
 rw[aj c3]
 by_cases c4:b=36
 ·rw[ak c4];exact leaf _ _ rfl
 rw[aj c4]
 by_cases c5:b=91
 ·rw[ak c5]
  obtain⟨y,r,e,e1,e2⟩:=EC s hs
  rw[e,aa]
  exact⟨_,_,rfl,j6 e1,by have:=e1.length_le;simp;omega,(fun h=>by cases h),e2⟩
 rw[aj c5]
 by_cases c6:b=92
 ·rw[ak c6]
  cases s with
  | nil=>rw[en (.inl rfl),aa];dsimp only;rw[bm (by simp)];exact leaf _ _ rfl
  | cons a t =>
   rw[fe,aa];dsimp only
   rw[bn (by simp),bm (by simp;omega),pP]
   exact⟨_,_,rfl,j6 (List.suffix_cons a t),by simp,(fun h=>by cases h),rF rfl⟩
 rw[aj c6]
 have l1:∀ (t:Bool),∃ y r,nS b t ⟨s,false⟩ b9=some (y,r,())∧r.s <:+ b::s∧r.s.length+1≤(b::s).length∧(false=true→r.bad=true)∧Small y:=fun t=>by
  rw[nT]
  cases t with
  | true=>rw[bm rfl];exact leaf _ _ rfl
  | false=>rw[bn (by simp)];exact leaf _ _ rfl
 by_cases c7:b=42
 ·rw[ak c7];exact l1 _
 rw[aj c7]
 by_cases c8:b=43
 ·rw[ak c8];exact l1 _
 rw[aj c8]
 exact l1 _
theorem uj(b:Int):∃ v,tm b=some (v,())∧((v=8∧b=42)∨(v=9∧b=43)∨(v=10∧b=63)∨(v=0∧b≠42∧b≠43∧b≠63)):=by
 rw[Oy]
 by_cases c1:b=42
 ·rw[ak c1];exact⟨_,rfl,.inl ⟨rfl,c1⟩⟩
 rw[aj c1]
 by_cases c2:b=43
 ·rw[ak c2];exact⟨_,rfl,.inr (.inl ⟨rfl,c2⟩)⟩
 rw[aj c2]
 by_cases c3:b=63
 ·rw[ak c3];exact⟨_,rfl,.inr (.inr (.inl ⟨rfl,c3⟩))⟩
 rw[aj c3];exact⟨_,rfl,.inr (.inr (.inr ⟨rfl,c1,c2,c3⟩))⟩
theorem Ut{x:bD}(op:Int)(h:Small x):Small ⟨op,0,[],false,[x]⟩:=.mk _ (by simp) fun k hk=>by rw[aJ.1 hk];exact h
theorem Or(z:bD):∀ (n:Nat) (r:bG) (x:bD),r.s.length≤n→Small x→∃ y r',kR r z x=some (y,r',())∧r'.s <:+ r.s∧(r.bad=true→r'.bad=true)∧Small y:=by
 intro n
 induction n with
 | zero =>
  intro r x hn hx
  rw[jG,en (.inl (aZ.1 (by omega))),aa]
  dsimp only
  rw[bm (by simp)]
  exact⟨_,_,rfl,bf _,fun h=>h,hx⟩
 | succ n ih =>
  intro r x hn hx
  rw[jG]
  rcases gM r with hr | ⟨b,s,rfl⟩
  ·rw[en hr,aa]
   dsimp only
   rw[bm (by simp)]
   exact⟨_,_,rfl,bf _,fun h=>h,hx⟩
  ·obtain⟨v,e,hv⟩:=uj b
   rw[fe,aa]
   dsimp only
   rw[bn (by simp),e,aa]
   dsimp only
   by_cases c:v=0
   ·rw[ak c];exact⟨_,_,rfl,bf _,fun h=>h,hx⟩
   ·rw[aj c,bm (by simp;omega),aa]
    dsimp only
    rw[ma]
    obtain⟨y,r',e1,e2,e3,e4⟩:=ih ⟨s,false⟩ _ (by simp at hn ⊢;omega) (Ut v hx)
    exact⟨y,r',e1,j6 e2,(fun h=>by cases h),e4⟩
theorem Eq(z:bD):∀ (n:Nat) (r:bG) (x:bD),r.s.length≤n→∃ y r',kR r z x=some (y,r',())∧r'.s <:+ r.s∧(r.bad=true→r'.bad=true):=by
 intro n
 induction n with
 | zero =>
  intro r x hn
  rw[jG,en (.inl (aZ.1 (by omega))),aa]
  dsimp only
  rw[bm (by simp)]
  exact⟨_,_,rfl,bf _,fun h=>h⟩
 | succ n ih =>
  intro r x hn
  rw[jG]
  rcases gM r with hr | ⟨b,s,rfl⟩
  ·rw[en hr,aa]
   dsimp only
   rw[bm (by simp)]
   exact⟨_,_,rfl,bf _,fun h=>h⟩
  ·obtain⟨v,e,hv⟩:=uj b
   rw[fe,aa]
   dsimp only
   rw[bn (by simp),e,aa]
   dsimp only
   by_cases c:v=0
   ·rw[ak c];exact⟨_,_,rfl,bf _,fun h=>h⟩
   ·rw[aj c,bm (by simp;omega),aa]
    dsimp only
    rw[ma]
    obtain⟨y,r',e1,e2,e3⟩:=ih ⟨s,false⟩ _ (by simp at hn ⊢;omega)
    exact⟨y,r',e1,j6 e2,(fun h=>by cases h)⟩
theorem Es(b:Int)(s:List Int)(h:dU jD (b::s) false 1):dU f8 (b::s) false 1:=by
 obtain⟨y,r,e,e1,e2,e3,e4⟩:=h
 unfold dU
 rw[xX,e,aa]
 obtain⟨y',r',f1,f2,f3,f4⟩:=Or b9 _ r y (aG _) e4
 exact⟨y',r',f1,f2.trans e1,by have:=f2.length_le;omega,(fun h=>by cases h),f4⟩
theorem Ix{l:List bD}(op:Int)(hl:l.length≤100)(h:∀ x∈l,Small x):Small ⟨op,0,[],false,l⟩:=.mk _ hl h
def gj(l:List bD):bD:=if l.length=0 then⟨11,0,[],false,[]⟩else if l.length=1 then l.getD 0 b9 else⟨6,0,[],false,l⟩
def fN(l:List bD):bD:=if l.length=1 then l.getD 0 b9 else⟨7,0,[],false,l⟩
theorem d5{α:Type}(l:List bD)(r:α) :
  (if(decide ((List.length l:Int)=0))=true then some ((bD.mk 11 0 [] false []),r,()) else
   if(decide ((List.length l:Int)=1))=true then if(0:Int)≤0∧(0:Int)<(List.length l:Int)then some ((List.getD l 0 b9),r,())else none
   else some ((bD.mk 6 0 [] false l),r,()))=some (gj l,r,()):=by
 unfold gj
 by_cases c:l.length=0
 ·rw[an,bm c]
 ·rw[ap,bn c]
  by_cases d:l.length=1
  ·rw[an,al,bm d]
  ·rw[ap,bn d]
theorem ff{α:Type}(l:List bD)(r:α) :
  (if(decide ((List.length l:Int)=1))=true then if(0:Int)≤0∧(0:Int)<(List.length l:Int)then some ((List.getD l 0 b9),r,())else none
   else some ((bD.mk 7 0 [] false l),r,()))=some (fN l,r,()):=by
 unfold fN
 by_cases d:l.length=1
 ·rw[an,al,bm d]
 ·rw[ap,bn d]
theorem Df{l:List bD}(h:∀ x∈l,Small x)(hl:l.length=1):Small (l.getD 0 b9):=by
 match l,hl with
 | [x],_=>exact h x (aJ.2 rfl)
theorem Gw{l:List bD}(hl:l.length≤100)(h:∀ x∈l,Small x):Small (gj l):=by
 unfold gj
 split
 ·exact rF rfl
 ·split
  ·exact Df h ‹_›
  ·exact Ix 6 hl h
theorem GA{l:List bD}(hl:l.length≤100)(h:∀ x∈l,Small x):Small (fN l):=by
 unfold fN
 split
 ·exact Df h ‹_›
 ·exact Ix 7 hl h
theorem Iw{l:List bD}{x:bD}(h:∀ y∈l,Small y)(hx:Small x):∀ y∈List.append l [x],Small y:=by
 intro y hy
 rcases aA.1 hy with hy | hy
 ·exact h y hy
 ·rw[aJ.1 hy];exact hx
theorem xU(z:bD)(N:Nat)(hp:∀ b s,(b::s).length≤N→By (b::s)→dU f8 (b::s) false 1):∀ (n:Nat) (r:bG) (l:List bD),r.s.length≤n→n≤N→By r.s→l.length+n≤60→(∀ x∈l,Small x) →
  ∃ y r',kP l r z=some (y,r',())∧r'.s <:+ r.s∧(r.bad=true→r'.bad=true)∧Small y:=by
 intro n
 induction n with
 | zero =>
  intro r l hn hN hb hl hx
  rw[jE,en (.inl (aZ.1 (by omega))),aa]
  dsimp only
  rw[bm (by simp),d5]
  exact⟨_,_,rfl,bf _,fun h=>h,Gw (by omega) hx⟩
 | succ n ih =>
  intro r l hn hN hb hl hx
  rw[jE]
  have stop:∃ y r',some (gj l,r,())=some (y,r',())∧r'.s <:+ r.s∧(r.bad=true→r'.bad=true)∧Small y:=⟨_,_,rfl,bf _,fun h=>h,Gw (by omega) hx⟩
  rcases gM r with hr | ⟨b,s,rfl⟩
  ·rw[en hr,aa]
   dsimp only
   rw[bm (by simp),d5]
   exact stop
  ·rw[fe,aa]
   dsimp only
   rw[bn (by simp)]
   by_cases c1:b=124
   ·rw[ak c1,d5];exact stop
   rw[aj c1]
   by_cases c2:b=41
   ·rw[ak c2,d5];exact stop
   rw[aj c2]
   obtain⟨y,r,e,e1,e2,e3,e4⟩:=hp b s (by have:(b::s).length≤n+1:=hn;omega) hb
   rw[e,aa]
   dsimp only
   rw[bm (by rw[cg];omega)]
   have h2:r.s.length≤n:=by simp only[aR]at e2 hn;omega
   obtain⟨y',r',f1,f2,f3,f4⟩:=ih r _ h2 (by omega) (hb.suf e1) (by show(l++[y]).length+n≤60;simp;omega) (Iw hx e4)
   exact⟨y',r',f1,f2.trans e1,(fun h=>by cases h),f4⟩
theorem Eo(z:bD)(N:Nat)(hp:∀ s b,s.length≤N→By s→dU gH s b 0):∀ (n:Nat) (r:bG) (l:List bD),r.s.length≤n→n≤N→By r.s→l.length+n≤61→(∀ x∈l,Small x) →
  ∃ y r',kQ l r z=some (y,r',())∧r'.s <:+ r.s∧(r.bad=true→r'.bad=true)∧Small y:=by
 intro n
 induction n with
 | zero =>
  intro r l hn hN hb hl hx
  rw[jF,gn (.inl (aZ.1 (by omega))),aa]
  dsimp only
  rw[bn (by simp),ff]
  exact⟨_,_,rfl,bf _,fun h=>h,GA (by omega) hx⟩
 | succ n ih =>
  intro r l hn hN hb hl hx
  rw[jF]
  have stop:∃ y r',some (fN l,r,())=some (y,r',())∧r'.s <:+ r.s∧(r.bad=true→r'.bad=true)∧Small y:=⟨_,_,rfl,bf _,fun h=>h,GA (by omega) hx⟩
  rcases gM r with hr | ⟨b,s,rfl⟩
  ·rw[gn hr,aa]
   dsimp only
   rw[bn (by simp),ff]
   exact stop
  ·by_cases c1:b=124
   ·subst c1
    rw[j8,aa]
    dsimp only
    have hbs:By s:=hb.suf (List.suffix_cons _ _)
    have hn':s.length≤n:=by simp only[aR]at hn;omega
    obtain⟨y,r,e,e1,e2,e3,e4⟩:=hp s false (by omega) hbs
    rw[bm rfl,e,aa]
    dsimp only
    rw[bm (by rw[cg];omega)]
    obtain⟨y',r',f1,f2,f3,f4⟩:=ih r _ (by omega) (by omega) (hbs.suf e1) (by show(l++[y]).length+n≤61;simp;omega) (Iw hx e4)
    exact⟨y',r',f1,j6 (f2.trans e1),(fun h=>by cases h),f4⟩
   ·rw[j7 c1,aa]
    dsimp only
    rw[bn (by simp),ff]
    exact stop
theorem qy:∀ (n:Nat) (s:List Int) (b:Bool),s.length≤n→By s→dU f7 s b 0:=by
 intro n
 induction n with
 | zero =>
  intro s b hn hs
  have hpart:∀ s b,s.length≤0→By s→dU gH s b 0:=fun s b h hs=>by
   unfold dU
   rw[qq]
   obtain⟨y,r',f1,f2,f3,f4⟩:=xU b9 0 (fun b s h=>by simp at h) 0 ⟨s,b⟩ [] h (aG _) hs (by simp) (fun x hx=>by cases hx)
   exact⟨y,r',f1,f2,f2.length_le,f3,f4⟩
  unfold dU
  obtain⟨y,r,e,e1,e2,e3,e4⟩:=hpart s b hn hs
  rw[tp,e,aa]
  obtain⟨y',r',f1,f2,f3,f4⟩:=Eo b9 0 hpart 0 r [y] (by have:=e1.length_le;omega) (aG _) (hs.suf e1) (by simp) (fun x hx=>by rw[aJ.1 hx];exact e4)
  exact⟨y',r',f1,f2.trans e1,by have:=(f2.trans e1).length_le;omega,fun h=>f3 (e3 h),f4⟩
 | succ n ih =>
  intro s b hn hs
  have hpiece:∀ b s,(b::s).length≤n+1→By (b::s)→dU f8 (b::s) false 1:=fun b s h hs =>
   Es b s (tb b s hs (ih s false (by simpa using h) (hs.suf (List.suffix_cons _ _))))
  have hpart:∀ s b,s.length≤n+1→By s→dU gH s b 0:=fun s b h hs=>by
   unfold dU
   rw[qq]
   obtain⟨y,r',f1,f2,f3,f4⟩:=xU b9 (n+1) hpiece s.length ⟨s,b⟩ [] (aG _) h hs (by have:=hs.1;simp;omega) (fun x hx=>by cases hx)
   exact⟨y,r',f1,f2,f2.length_le,f3,f4⟩
  unfold dU
  obtain⟨y,r,e,e1,e2,e3,e4⟩:=hpart s b hn hs
  rw[tp,e,aa]
  have h60:=hs.1
  obtain⟨y',r',f1,f2,f3,f4⟩:=Eo b9 (n+1) hpart s.length r [y] (by have:=e1.length_le;omega) hn (hs.suf e1) (by simp;omega) (fun x hx=>by rw[aJ.1 hx];exact e4)
  exact⟨y',r',f1,f2.trans e1,by have:=(f2.trans e1).length_le;omega,fun h=>f3 (e3 h),f4⟩
def Res(S:List Int)(p:Nat)(d:Int)(lo:Nat)(x:bD)(c:bR)(y:bD)(r:bG):Prop :=
 (∃ q:Nat,p+lo≤q∧q≤S.length∧c=⟨S,(q:Int),false⟩∧r=⟨S.drop q,false⟩∧x=y)∨(c.bad=true∧(r.bad=false→(r.s.length:Int)+82≤S.length+d))
def Sim(S:List Int)(p:Nat)(d:Int)(lo:Nat)(fs:Option (bD×bR×Unit))(fi:Option (bD×bG×Unit)):Prop :=
 ∃ x c y r,fs=some (x,c,())∧fi=some (y,r,())∧Res S p d lo x c y r
theorem nh{p:Nat}(h:p≤1000):w64 ((p:Int)+1)=((p+1:Nat):Int):=by rw[aq];omega
theorem Ip{S:List Int}(hS:By S)(q:Nat)(hq:q≤S.length)(nt:Bool)(d:Int) :
  ∃ x c,uY ⟨S,(q:Int),false⟩ b9 ⟨3,0,[],nt,[]⟩=some (x,c,())∧Res S q d 0 x c (fh (S.drop q) nt).1 (fh (S.drop q) nt).2:=by
 have h60:=hS.1
 have hl:=wx (S.drop q)
 rw[aQ]at hl
 rw[TN,Uo b9 _ hS.1 hS.2 (cf (S.drop q)).length q _ 0 false a7 hq (aG _) (Int.le_refl _) (by omega),TO]
 dsimp only
 have hc:=fun c=>Lr c b9 ⟨3,0,[],nt,[]⟩ (f:=(cS (cf (S.drop q)).length (cf (S.drop q)) (List.replicate 256 false) false).1) (by rw[Im];exact a7) 256 0 [] rfl (Nat.zero_le _)
 rw[show((0:Nat):Int)=0 from rfl]at hc
 rw[nh (by omega),hc]
 refine⟨_,_,rfl,?_⟩
 unfold fh
 split
 ·rename_i h
  refine .inr ⟨?_,fun h=>by cases h⟩
  dsimp only
  rcases h with h | h
  ·rw[aQ]at h
   rw[ac (p:=S.length≤q+(cf (S.drop q)).length) (by omega)];rfl
  ·rw[h,ac (p:=(0:Int)=0) rfl,ac (p:=([]:List Int)=[]) rfl,Bool.and_true,Bool.or_true,Bool.true_or]
 ·rename_i h
  have h1:¬ (cf (S.drop q)).length=(S.drop q).length:=fun e=>h (.inl e)
  have h2:¬ cf (S.drop q)=[]:=fun e=>h (.inr e)
  rw[aQ]at h1
  dsimp only
  rw[ae (p:=S.length≤q+(cf (S.drop q)).length) (by omega),ae h2,Bool.and_false,Bool.or_false,Bool.false_or,List.drop_drop]
  cases (cS (cf (S.drop q)).length (cf (S.drop q)) (List.replicate 256 false) false).2 with
  | true=>exact .inr ⟨rfl,fun h=>by cases h⟩
  | false=>exact .inl ⟨q+(cf (S.drop q)).length+1,by omega,by omega,rfl,rfl,rfl⟩
theorem Up{S:List Int}(hS:By S)(p:Nat)(hp:p≤S.length)(d:Int):Sim S p d 0 (AB ⟨S,(p:Int),false⟩) (nU ⟨S.drop p,false⟩):=by
 have h60:=hS.1
 obtain⟨nt,k,e,hk⟩:=AV (S.drop p)
 have hu:By ((S.drop p).drop k):=hS.suf ((List.drop_suffix _ _).trans (List.drop_suffix _ _))
 have hi:=x8 _ nt hu.1 hu.2 _ e
 rw[TP]
 rcases hk with ⟨rfl,rfl,u,hu'⟩ | ⟨rfl,rfl,hu'⟩
 ·have hlt:p<S.length:=by
   have:=congrArg List.length hu'
   rw[aQ]at this
   simp at this;omega
  have h94:S[p]=94:=by
   rw[ai hlt]at hu'
   exact(aL hu').1
  rw[mE hlt,aa]
  dsimp only
  rw[ak h94,nh (by omega)]
  obtain⟨x,c,e1,e2⟩:=Ip hS (p+1) (by omega) true d
  rw[List.drop_drop]at hi
  refine⟨x,c,_,_,e1,hi,?_⟩
  rcases e2 with ⟨q,a,b⟩ | h
  ·exact .inl ⟨q,by omega,b⟩
  ·exact .inr h
 ·have hn:ix ⟨S,(p:Int),false⟩ 94=some (false,⟨S,(p:Int),false⟩,()):=by
   by_cases hlt:p<S.length
   ·rw[mE hlt]
    have:¬ S[p]=94:=fun h=>hu' (S.drop (p+1)) (by rw[ai hlt,h])
    rw[ae this]
   ·exact i7 (by omega)
  rw[hn,aa]
  dsimp only
  rw[bn (by simp)]
  obtain⟨x,c,e1,e2⟩:=Ip hS p hp false d
  exact⟨x,c,_,_,e1,hi,e2⟩
theorem Kw{S:List Int}(hS:By S)(p:Nat)(hp:p<S.length)(d:Int)(hd:0≤d)(hdp:d≤p)
  (hpat:Sim S (p+1) (d+1) 0 (mU ⟨S,((p+1:Nat):Int),false⟩ (d+1)) (f7 ⟨S.drop (p+1),false⟩)) :
  Sim S p d 1 (uO ⟨S,(p:Int),false⟩ d) (jD ⟨S.drop p,false⟩):=by
 have h60:=hS.1
 have hdrop:=ai hp
 unfold Sim
 rw[TH]
 dsimp only
 rw[bn (by simp),ap]
 by_cases h40:d>40
 ·rw[ak h40]
  have hb:=hS.suf (List.drop_suffix p S)
  rw[hdrop]at hb ⊢
  obtain⟨y,r,e,e1,e2,e3,e4⟩:=tb S[p] _ hb (qy _ _ false (aG _) (hS.suf (List.drop_suffix (p+1) S)))
  refine⟨_,_,_,_,rfl,e,.inr ⟨rfl,fun _=>?_⟩⟩
  simp only[aR,aQ]at e2
  omega
 rw[aj h40,al,ci hp,nh (by omega),aq (n:=d+1),hdrop,xW,fe,aa]
 dsimp only
 rw[bm (c:=(0:Int)≤1∧(1:Int)≤((S[p]::S.drop (p+1)).length:Int)) (by simp;omega),ma]
 by_cases c1:S[p]=40
 ·rw[ak c1,ak c1]
  obtain⟨x,c,y,r,e1,e2,e3⟩:=hpat
  rw[e1,e2,aa,aa]
  dsimp only
  rcases e3 with ⟨q,q1,q2,rfl,rfl,rfl⟩ | ⟨hc,hr⟩
  ·by_cases hq:q<S.length
   ·rw[mE hq,aa,ai hq]
    dsimp only
    by_cases ha:S[q]=41
    ·rw[ha,j8,aa,bn (by simp),nh (by omega)]
     dsimp only
     rw[bn (by simp)]
     exact⟨_,_,_,_,rfl,rfl,.inl ⟨q+1,by omega,by omega,rfl,rfl,rfl⟩⟩
    ·rw[j7 ha,aa,bm (by simp[ha])]
     dsimp only
     rw[bm (by simp)]
     exact⟨_,_,_,_,rfl,rfl,.inr ⟨rfl,fun h=>by cases h⟩⟩
   ·rw[i7 (by omega),aa,aW (by omega),gn (.inl rfl),aa]
    dsimp only
    rw[bm (by simp),bm (by simp)]
    exact⟨_,_,_,_,rfl,rfl,.inr ⟨rfl,fun h=>by cases h⟩⟩
  ·rw[Gi hc,aa]
   dsimp only
   rw[bm (by simp)]
   rcases gM r with hr' | ⟨a,t,rfl⟩
   ·rw[gn hr',aa]
    dsimp only
    rw[bm (by simp)]
    exact⟨_,_,_,_,rfl,rfl,.inr ⟨rfl,fun h=>by cases h⟩⟩
   ·have:=hr rfl
    simp only[aR]at this
    by_cases ha:a=41
    ·subst ha
     rw[j8,aa]
     dsimp only
     rw[bn (by simp)]
     exact⟨_,_,_,_,rfl,rfl,.inr ⟨rfl,fun h=>by dsimp only;omega⟩⟩
    ·rw[j7 ha,aa]
     dsimp only
     rw[bm (by simp)]
     exact⟨_,_,_,_,rfl,rfl,.inr ⟨rfl,fun h=>by cases h⟩⟩
 have n1:¬ (decide (S[p]=40)=true):=by rw[ab];exact c1
 rw[bn n1,bn n1]
 have good:∀ x:bD,∃ x' c' y' r',some (x,(⟨S,((p+1:Nat):Int),false⟩:bR),())=some (x',c',())∧some (x,(⟨S.drop (p+1),false⟩:bG),())=some (y',r',())∧Res S p d 1 x' c' y' r' :=
  fun x=>⟨_,_,_,_,rfl,rfl,.inl ⟨p+1,by omega,by omega,rfl,rfl,rfl⟩⟩
 have bad:∀ (x y:bD) (a:Int) (s:List Int),∃ x' c' y' r',some (x,(⟨S,a,true⟩:bR),())=some (x',c',())∧some (y,(⟨s,true⟩:bG),())=some (y',r',())∧Res S p d 1 x' c' y' r' :=
  fun x y a s=>⟨_,_,_,_,rfl,rfl,.inr ⟨rfl,fun h=>by cases h⟩⟩
 by_cases c2:S[p]=46
 ·rw[ak c2,ak c2];exact good _
 have n2:¬ (decide (S[p]=46)=true):=by rw[ab];exact c2
 rw[bn n2,bn n2]
 by_cases c3:S[p]=94
 ·rw[ak c3,ak c3];exact good _
 have n3:¬ (decide (S[p]=94)=true):=by rw[ab];exact c3
 rw[bn n3,bn n3]
 by_cases c4:S[p]=36
 ·rw[ak c4,ak c4];exact good _
 have n4:¬ (decide (S[p]=36)=true):=by rw[ab];exact c4
 rw[bn n4,bn n4]
 by_cases c5:S[p]=91
 ·rw[ak c5,ak c5]
  obtain⟨x,c,y,r,e1,e2,e3⟩:=Up hS (p+1) (by omega) d
  rw[e1,e2,aa,aa]
  refine⟨_,_,_,_,rfl,rfl,?_⟩
  rcases e3 with ⟨q,a,b⟩ | h
  ·exact .inl ⟨q,by omega,b⟩
  ·exact .inr h
 have n5:¬ (decide (S[p]=91)=true):=by rw[ab];exact c5
 rw[bn n5,bn n5]
 by_cases c6:S[p]=92
 ·rw[ak c6,ak c6]
  by_cases hq:p+1<S.length
  ·rw[ap,al,ci hq,nh (by omega),ai hq,fe,aa]
   dsimp only
   rw[bn (by simp),bm (by simp;omega),pP]
   exact⟨_,_,_,_,rfl,rfl,.inl ⟨p+1+1,by omega,by omega,rfl,rfl,rfl⟩⟩
  ·rw[an,aW (by omega),en (.inl rfl),aa]
   dsimp only
   rw[bm (by simp)]
   exact bad _ _ _ _
 have n6:¬ (decide (S[p]=92)=true):=by rw[ab];exact c6
 rw[bn n6,bn n6]
 by_cases c7:S[p]=42
 ·rw[ak c7,ak c7,ak c7,uP,nT,ak c7];exact bad _ _ _ _
 have n7:¬ (decide (S[p]=42)=true):=by rw[ab];exact c7
 rw[bn n7,bn n7]
 by_cases c8:S[p]=43
 ·rw[ak c8,ak c8,ak c8,uP,nT,ak c8];exact bad _ _ _ _
 have n8:¬ (decide (S[p]=43)=true):=by rw[ab];exact c8
 rw[bn n8,bn n8]
 by_cases c9:S[p]=63
 ·rw[ak c9,uP,nT,ak c9];exact bad _ _ _ _
 have n9:¬ (decide (S[p]=63)=true):=by rw[ab];exact c9
 rw[bn n9,uP,nT,bn n9]
 exact good _
theorem Rg{c:bR}(z x:bD)(h:c.bad=true):rq c z x=some (x,c,()):=by
 rw[uT,bn (by simp[h])]
theorem Rh{S:List Int}(hS:By S)(d:Int):∀ (n p:Nat) (x:bD),p≤S.length→S.length-p≤n→Sim S p d 0 (rq ⟨S,(p:Int),false⟩ b9 x) (kR ⟨S.drop p,false⟩ b9 x):=by
 have h60:=hS.1
 have stop:∀ (p:Nat) (x:bD),p≤S.length→∃ x' c' y' r',some (x,(⟨S,(p:Int),false⟩:bR),())=some (x',c',())∧some (x,(⟨S.drop p,false⟩:bG),())=some (y',r',())∧Res S p d 0 x' c' y' r' :=
  fun p x hp=>⟨_,_,_,_,rfl,rfl,.inl ⟨p,by omega,hp,rfl,rfl,rfl⟩⟩
 intro n
 induction n with
 | zero =>
  intro p x hp hn
  unfold Sim
  rw[uT,bm (by simp),i7 (by omega),aa]
  dsimp only
  rw[bn (by simp),i7 (by omega),aa]
  dsimp only
  rw[bn (by simp),i7 (by omega),aa]
  dsimp only
  rw[bn (by simp),uU,bm (by simp),jG,en (.inl (aW (by omega))),aa]
  dsimp only
  rw[bm (by simp)]
  exact stop p x hp
 | succ n ih =>
  intro p x hp hn
  by_cases hlt:p<S.length
  ·unfold Sim
   rw[uT,bm (by simp),mE hlt,aa]
   dsimp only
   rw[mE hlt,aa]
   dsimp only
   rw[mE hlt,aa,jG,ai hlt,fe,aa]
   dsimp only
   obtain⟨v,e,hv⟩:=uj S[p]
   rw[bn (c:=(!true)=true) (by simp),e,aa]
   dsimp only
   rw[aa]
   dsimp only
   rw[bm (c:=(0:Int)≤1∧(1:Int)≤((S[p]::S.drop (p+1)).length:Int)) (by simp;omega),ma]
   have go:∀ v:Int,v≠0→Sim S p d 0 (oX v ⟨S,(p:Int),false⟩ b9 x) (kR ⟨S.drop (p+1),false⟩ b9 ⟨v,0,[],false,[x]⟩):=fun v hv=>by
    rw[uU,aj hv]
    dsimp only
    rw[nh (by omega)]
    obtain⟨x',c',y',r',f1,f2,f3⟩:=ih (p+1) ⟨v,0,[],false,[x]⟩ (by omega) (by omega)
    refine⟨x',c',y',r',f1,f2,?_⟩
    rcases f3 with ⟨q,a,b⟩ | h
    ·exact .inl ⟨q,by omega,b⟩
    ·exact .inr h
   rcases hv with ⟨rfl,h⟩ | ⟨rfl,h⟩ | ⟨rfl,h⟩ | ⟨rfl,h1,h2,h3⟩
   ·rw[ak h,bn (by simp)];exact go 8 (by decide)
   ·rw[bn (by rw[h];simp),ak h,bn (by simp)];exact go 9 (by decide)
   ·rw[bn (by rw[h];simp),bn (by rw[h];simp),ak h,bn (by simp)];exact go 10 (by decide)
   ·rw[aj h1,aj h2,aj h3,bm (by simp),uU,bm (by simp),← ai hlt]
    exact stop p x hp
  ·have hz:S.length-p≤0:=by omega
   unfold Sim
   rw[uT,bm (by simp),i7 (by omega),aa]
   dsimp only
   rw[bn (by simp),i7 (by omega),aa]
   dsimp only
   rw[bn (by simp),i7 (by omega),aa]
   dsimp only
   rw[bn (by simp),uU,bm (by simp),jG,en (.inl (aW (by omega))),aa]
   dsimp only
   rw[bm (by simp)]
   exact stop p x hp
theorem Ri{S:List Int}(hS:By S)(p:Nat)(d:Int)(h:Sim S p d 1 (uO ⟨S,(p:Int),false⟩ d) (jD ⟨S.drop p,false⟩)) :
  Sim S p d 1 (uS ⟨S,(p:Int),false⟩ d) (f8 ⟨S.drop p,false⟩):=by
 obtain⟨x,c,y,r,e1,e2,e3⟩:=h
 unfold Sim
 rw[TK,xX,e1,e2,aa,aa]
 dsimp only
 rcases e3 with ⟨q,q1,q2,rfl,rfl,rfl⟩ | ⟨hc,hr⟩
 ·obtain⟨x',c',y',r',f1,f2,f3⟩:=Rh hS d _ q x q2 (aG _)
  refine⟨x',c',y',r',f1,f2,?_⟩
  rcases f3 with ⟨q',a,b⟩ | h
  ·exact .inl ⟨q',by omega,b⟩
  ·exact .inr h
 ·rw[Rg _ _ hc]
  obtain⟨y',r',f1,f2,f3⟩:=Eq b9 _ r y (aG _)
  refine⟨_,_,_,_,rfl,f1,.inr ⟨hc,fun h=>?_⟩⟩
  have:=f2.length_le
  have hb:r.bad=false:=by
   cases hb:r.bad with
   | false=>rfl
   | true=>rw[f3 hb]at h;cases h
  have:=hr hb
  omega
theorem Q9{c:bR}(d:Int)(l:List bD)(z:bD)(h:c.bad=true):ro d l c z=some (gj l,c,()):=by
 rw[Az,bn (by simp[h]),d5]
theorem zB{S:List Int}{p p' lo:Nat}{d:Int}{x:bD}{c:bR}{y:bD}{r:bG}(lo':Nat)(h:Res S p' d lo x c y r)(hp:p+lo'≤p'+lo):Res S p d lo' x c y r:=by
 rcases h with ⟨q,a,b⟩ | h
 ·exact .inl ⟨q,by omega,b⟩
 ·exact .inr h
theorem wq{r r':bG}{S:List Int}{d:Int}(hr:r.bad=false→(r.s.length:Int)+82≤S.length+d)(hs:r'.s <:+ r.s)(hb:r.bad=true→r'.bad=true) :
  r'.bad=false→(r'.s.length:Int)+82≤S.length+d:=by
 intro h
 have:=hs.length_le
 have hb':r.bad=false:=by
  cases hb':r.bad with
  | false=>rfl
  | true=>rw[hb hb']at h;cases h
 have:=hr hb'
 omega
theorem kM(n:Nat):(∀ b s,(b::s).length≤n→By (b::s)→dU f8 (b::s) false 1)∧(∀ s b,s.length≤n→By s→dU gH s b 0):=by
 have hpiece:∀ b s,(b::s).length≤n→By (b::s)→dU f8 (b::s) false 1:=fun b s h hs =>
  Es b s (tb b s hs (qy _ s false (aG _) (hs.suf (List.suffix_cons _ _))))
 refine⟨hpiece,fun s b h hs=>?_⟩
 unfold dU
 rw[qq]
 obtain⟨y,r',f1,f2,f3,f4⟩:=xU b9 n hpiece s.length ⟨s,b⟩ [] (aG _) h hs (by have:=hs.1;simp;omega) (fun x hx=>by cases hx)
 exact⟨y,r',f1,f2,f2.length_le,f3,f4⟩
theorem Gx(z:bD)(r:bG)(hb:By r.s):∀ (l:List bD),l.length+r.s.length≤60→∃ y r',kP l r z=some (y,r',())∧r'.s <:+ r.s∧(r.bad=true→r'.bad=true):=by
 have key:∀ (n:Nat) (r:bG) (l:List bD),r.s.length≤n→By r.s→l.length+n≤60→∃ y r',kP l r z=some (y,r',())∧r'.s <:+ r.s∧(r.bad=true→r'.bad=true):=by
  intro n
  induction n with
  | zero =>
   intro r l hn hb hl
   rw[jE,en (.inl (aZ.1 (by omega))),aa]
   dsimp only
   rw[bm (by simp),d5]
   exact⟨_,_,rfl,bf _,fun h=>h⟩
  | succ n ih =>
   intro r l hn hb hl
   rw[jE]
   have stop:∃ y r',some (gj l,r,())=some (y,r',())∧r'.s <:+ r.s∧(r.bad=true→r'.bad=true):=⟨_,_,rfl,bf _,fun h=>h⟩
   rcases gM r with hr | ⟨b,s,rfl⟩
   ·rw[en hr,aa]
    dsimp only
    rw[bm (by simp),d5]
    exact stop
   ·rw[fe,aa]
    dsimp only
    rw[bn (by simp)]
    by_cases c1:b=124
    ·rw[ak c1,d5];exact stop
    rw[aj c1]
    by_cases c2:b=41
    ·rw[ak c2,d5];exact stop
    rw[aj c2]
    obtain⟨y,r,e,e1,e2,e3,e4⟩:=(kM _).1 b s (aG _) hb
    rw[e,aa]
    dsimp only
    rw[bm (by rw[cg];omega)]
    have h2:r.s.length≤n:=by have:(b::s).length≤n+1:=hn;omega
    obtain⟨y',r',f1,f2,f3⟩:=ih r _ h2 (hb.suf e1) (by show(l++[y]).length+n≤60;simp;omega)
    exact⟨y',r',f1,f2.trans e1,(fun h=>by cases h)⟩
 intro l hl
 exact key _ r l (aG _) hb hl
theorem ud(z:bD)(r:bG)(hb:By r.s):∀ (l:List bD),l.length+r.s.length≤61→∃ y r',kQ l r z=some (y,r',())∧r'.s <:+ r.s∧(r.bad=true→r'.bad=true):=by
 have key:∀ (n:Nat) (r:bG) (l:List bD),r.s.length≤n→By r.s→l.length+n≤61→∃ y r',kQ l r z=some (y,r',())∧r'.s <:+ r.s∧(r.bad=true→r'.bad=true):=by
  intro n
  induction n with
  | zero =>
   intro r l hn hb hl
   rw[jF,gn (.inl (aZ.1 (by omega))),aa]
   dsimp only
   rw[bn (by simp),ff]
   exact⟨_,_,rfl,bf _,fun h=>h⟩
  | succ n ih =>
   intro r l hn hb hl
   rw[jF]
   have stop:∃ y r',some (fN l,r,())=some (y,r',())∧r'.s <:+ r.s∧(r.bad=true→r'.bad=true):=⟨_,_,rfl,bf _,fun h=>h⟩
   rcases gM r with hr | ⟨b,s,rfl⟩
   ·rw[gn hr,aa]
    dsimp only
    rw[bn (by simp),ff]
    exact stop
   ·by_cases c1:b=124
    ·subst c1
     rw[j8,aa]
     dsimp only
     have hbs:By s:=hb.suf (List.suffix_cons _ _)
     have hn':s.length≤n:=by have:(124::s).length≤n+1:=hn;simp only[aR]at this;omega
     obtain⟨y,r,e,e1,e2,e3,e4⟩:=(kM _).2 s false (aG _) hbs
     rw[bm rfl,e,aa]
     dsimp only
     rw[bm (by rw[cg];omega)]
     obtain⟨y',r',f1,f2,f3⟩:=ih r _ (by omega) (hbs.suf e1) (by show(l++[y]).length+n≤61;simp;omega)
     exact⟨y',r',f1,j6 (f2.trans e1),(fun h=>by cases h)⟩
    ·rw[j7 c1,aa]
     dsimp only
     rw[bn (by simp),ff]
     exact stop
 intro l hl
 exact key _ r l (aG _) hb hl
theorem Ra{S:List Int}(hS:By S)(d:Int)(m:Nat)(hp:∀ p,p<S.length→S.length-p≤m→d≤p→Sim S p d 1 (uS ⟨S,(p:Int),false⟩ d) (f8 ⟨S.drop p,false⟩)) :
  ∀ (n p:Nat) (l:List bD),p≤S.length→S.length-p≤n→n≤m→d≤p→l.length+n≤60→Sim S p d 0 (ro d l ⟨S,(p:Int),false⟩ b9) (kP l ⟨S.drop p,false⟩ b9):=by
 have h60:=hS.1
 intro n
 induction n with
 | zero =>
  intro p l h1 h2 h3 h4 h5
  unfold Sim
  rw[Az]
  dsimp only
  rw[bm (by simp),ap,d5,jE,en (.inl (aW (by omega))),aa]
  dsimp only
  rw[bm (by simp),d5]
  exact⟨_,_,_,_,rfl,rfl,.inl ⟨p,by omega,h1,rfl,rfl,rfl⟩⟩
 | succ n ih =>
  intro p l h1 h2 h3 h4 h5
  unfold Sim
  have stop:∃ x' c' y' r',some (gj l,(⟨S,(p:Int),false⟩:bR),())=some (x',c',())∧some (gj l,(⟨S.drop p,false⟩:bG),())=some (y',r',())∧Res S p d 0 x' c' y' r' :=
   ⟨_,_,_,_,rfl,rfl,.inl ⟨p,by omega,h1,rfl,rfl,rfl⟩⟩
  rw[Az]
  dsimp only
  by_cases hlt:p<S.length
  ·have hd:=ai hlt
   rw[bm (by simp),an,al,ci hlt,jE]
   obtain⟨x,c,y,r,e1,e2,e3⟩:=hp p hlt (by omega) h4
   rw[hd]at stop e2 ⊢
   rw[fe,aa]
   dsimp only
   rw[bn (c:=(!true)=true) (by simp)]
   by_cases c1:S[p]=124
   ·rw[bn (by simp[c1]),d5,ak c1,d5];exact stop
   have n1:¬ (decide (S[p]=124)=true):=by rw[ab];exact c1
   rw[bm (by rw[ae c1];rfl),al,bn n1]
   by_cases c2:S[p]=41
   ·rw[bn (by simp[c2]),d5,ak c2,d5];exact stop
   have n2:¬ (decide (S[p]=41)=true):=by rw[ab];exact c2
   rw[bm (by rw[ae c2];rfl),bn n2,e1,e2,aa,aa]
   dsimp only
   rw[bm (by rw[cg];omega),bm (by rw[cg];omega)]
   have hl:∀ y:bD,(List.append l [y]).length=l.length+1:=fun y=>by show(l++[y]).length=_;simp
   rcases e3 with ⟨q,q1,q2,rfl,rfl,rfl⟩ | ⟨hc,hr⟩
   ·obtain⟨x',c',y',r',f1,f2,f3⟩:=ih q (List.append l [x]) q2 (by omega) (by omega) (by omega) (by rw[hl];omega)
    exact⟨x',c',y',r',f1,f2,zB 0 f3 (by omega)⟩
   ·rw[Q9 _ _ _ hc]
    have hb:=hS.suf (List.drop_suffix p S)
    rw[hd]at hb
    obtain⟨y2,r2,g,g1,g2,g3,g4⟩:=(kM _).1 S[p] _ (aG _) hb
    rw[e2]at g
    obtain⟨rfl,rfl⟩:y=y2∧r=r2:=by
     have:=aN g
     exact⟨congrArg Prod.fst this,congrArg (fun z=>z.2.1) this⟩
    simp only[aR,aQ]at g2
    obtain⟨y',r',f1,f2,f3⟩:=Gx b9 r (hb.suf g1) (List.append l [y]) (by rw[hl];omega)
    exact⟨_,_,_,_,rfl,f1,.inr ⟨hc,wq hr f2 f3⟩⟩
  ·rw[bm (by simp),ap,d5,jE,en (.inl (aW (by omega))),aa]
   dsimp only
   rw[bm (by simp),d5]
   exact stop
theorem GB{c:bR}(d:Int)(l:List bD)(z:bD)(h:c.bad=true):rp d l c z=some (fN l,c,()):=by
 rw[uR,Gi h,aa]
 dsimp only
 rw[bn (by simp),ff]
theorem Rc{S:List Int}(hS:By S)(d:Int)(m:Nat)(hp:∀ p,p≤S.length→S.length-p≤m→d≤p→Sim S p d 0 (rn ⟨S,(p:Int),false⟩ d) (gH ⟨S.drop p,false⟩)) :
  ∀ (n p:Nat) (l:List bD),p≤S.length→S.length-p≤n→n≤m→d≤p→l.length+n≤61→Sim S p d 0 (rp d l ⟨S,(p:Int),false⟩ b9) (kQ l ⟨S.drop p,false⟩ b9):=by
 have h60:=hS.1
 intro n
 induction n with
 | zero =>
  intro p l h1 h2 h3 h4 h5
  unfold Sim
  rw[uR,i7 (by omega),aa]
  dsimp only
  rw[bn (by simp),ff,jF,gn (.inl (aW (by omega))),aa]
  dsimp only
  rw[bn (by simp),ff]
  exact⟨_,_,_,_,rfl,rfl,.inl ⟨p,by omega,h1,rfl,rfl,rfl⟩⟩
 | succ n ih =>
  intro p l h1 h2 h3 h4 h5
  unfold Sim
  have stop:∃ x' c' y' r',some (fN l,(⟨S,(p:Int),false⟩:bR),())=some (x',c',())∧some (fN l,(⟨S.drop p,false⟩:bG),())=some (y',r',())∧Res S p d 0 x' c' y' r' :=
   ⟨_,_,_,_,rfl,rfl,.inl ⟨p,by omega,h1,rfl,rfl,rfl⟩⟩
  by_cases hlt:p<S.length
  ·have hd:=ai hlt
   rw[uR,mE hlt,aa,jF]
   dsimp only
   rw[hd]at stop ⊢
   by_cases c1:S[p]=124
   ·rw[c1,j8,aa,bm (by simp),nh (by omega)]
    dsimp only
    rw[bm rfl]
    obtain⟨x,c,y,r,e1,e2,e3⟩:=hp (p+1) (by omega) (by omega) (by omega)
    rw[e1,e2,aa,aa]
    dsimp only
    rw[bm (by rw[cg];omega),bm (by rw[cg];omega)]
    have hl:∀ y:bD,(List.append l [y]).length=l.length+1:=fun y=>by show(l++[y]).length=_;simp
    rcases e3 with ⟨q,q1,q2,rfl,rfl,rfl⟩ | ⟨hc,hr⟩
    ·obtain⟨x',c',y',r',f1,f2,f3⟩:=ih q (List.append l [x]) q2 (by omega) (by omega) (by omega) (by rw[hl];omega)
     exact⟨x',c',y',r',f1,f2,zB 0 f3 (by omega)⟩
    ·rw[GB _ _ _ hc]
     have hb:=hS.suf (List.drop_suffix (p+1) S)
     obtain⟨y2,r2,g,g1,g2,g3,g4⟩:=(kM _).2 _ false (aG _) hb
     rw[e2]at g
     obtain⟨rfl,rfl⟩:y=y2∧r=r2:=by
      have:=aN g
      exact⟨congrArg Prod.fst this,congrArg (fun z=>z.2.1) this⟩
     simp only[aQ]at g2
     obtain⟨y',r',f1,f2,f3⟩:=ud b9 r (hb.suf g1) (List.append l [y]) (by rw[hl];omega)
     exact⟨_,_,_,_,rfl,f1,.inr ⟨hc,wq hr f2 f3⟩⟩
   ·rw[j7 c1,aa,aj c1,ff]
    dsimp only
    rw[bn (by simp),ff]
    exact stop
  ·rw[uR,i7 (by omega),aa]
   dsimp only
   rw[bn (by simp),ff,jF,gn (.inl (aW (by omega))),aa]
   dsimp only
   rw[bn (by simp),ff]
   exact stop
theorem GC{S:List Int}(hS:By S)(m:Nat)(p:Nat)(d:Int)(hpat:∀ p',p'<S.length→S.length-p'≤m→d≤p'→Sim S (p'+1) (d+1) 0 (mU ⟨S,((p'+1:Nat):Int),false⟩ (d+1)) (f7 ⟨S.drop (p'+1),false⟩))
  (h1:p≤S.length) (h2:S.length-p≤m) (h3:0≤d) (h4:d≤p) (hm:m≤60):Sim S p d 0 (mU ⟨S,(p:Int),false⟩ d) (f7 ⟨S.drop p,false⟩):=by
 have h60:=hS.1
 have hpart:∀ p,p≤S.length→S.length-p≤m→d≤p→Sim S p d 0 (rn ⟨S,(p:Int),false⟩ d) (gH ⟨S.drop p,false⟩):=fun p a b c=>by
  rw[TI,qq]
  exact Ra hS d m (fun p' a' b' c'=>Ri hS p' d (Kw hS p' a' d h3 c' (hpat p' a' b' c'))) m p [] a b (aG _) c (by simp;omega)
 unfold Sim
 obtain⟨x,c,y,r,e1,e2,e3⟩:=hpart p h1 h2 h4
 rw[TJ,tp,e1,e2,aa,aa]
 dsimp only
 rcases e3 with ⟨q,q1,q2,rfl,rfl,rfl⟩ | ⟨hc,hr⟩
 ·obtain⟨x',c',y',r',f1,f2,f3⟩:=Rc hS d m hpart m q [x] q2 (by omega) (aG _) (by omega) (by simp;omega)
  exact⟨x',c',y',r',f1,f2,zB 0 f3 (by omega)⟩
 ·rw[GB _ _ _ hc]
  have hb:=hS.suf (List.drop_suffix p S)
  obtain⟨y2,r2,g,g1,g2,g3,g4⟩:=(kM _).2 _ false (aG _) hb
  rw[e2]at g
  obtain⟨rfl,rfl⟩:y=y2∧r=r2:=by
   have:=aN g
   exact⟨congrArg Prod.fst this,congrArg (fun z=>z.2.1) this⟩
  simp only[aQ]at g2
  obtain⟨y',r',f1,f2,f3⟩:=ud b9 r (hb.suf g1) [y] (by simp;omega)
  exact⟨_,_,_,_,rfl,f1,.inr ⟨hc,wq hr f2 f3⟩⟩
theorem Rd{S:List Int}(hS:By S):∀ (n p:Nat) (d:Int),p≤S.length→S.length-p≤n→0≤d→d≤p→Sim S p d 0 (mU ⟨S,(p:Int),false⟩ d) (f7 ⟨S.drop p,false⟩):=by
 have h60:=hS.1
 intro n
 induction n with
 | zero =>
  intro p d h1 h2 h3 h4
  exact GC hS 0 p d (fun p' h h' h''=>absurd h (by omega)) h1 h2 h3 h4 (by omega)
 | succ n ih =>
  intro p d h1 h2 h3 h4
  exact GC hS (S.length-p) p d (fun p' h h' h''=>ih (p'+1) (d+1) (by omega) (by omega) (by omega) (by omega)) h1 (aG _) h3 h4 (by omega)
theorem G0(S:List Int)(hB:∀ b∈S,0≤b∧b≤255)(hl:S.length≤9223372036854775807):∃ x ok,mP S=some (x,ok,())∧nQ S=some (x,ok,()):=by
 rw[SL,DW]
 by_cases c:(S.length:Int)>60
 ·rw[ak c,ak c];exact⟨_,_,rfl,rfl⟩
 have n1:¬ (decide ((S.length:Int)>60)=true):=by rw[ab];exact c
 have hS:By S:=⟨by omega,hB⟩
 obtain⟨x,c,y,r,e1,e2,e3⟩:=Rd hS S.length 0 0 (Nat.zero_le _) (by omega) (Int.le_refl _) (Int.le_refl _)
 rw[aM]at e2
 rw[show((0:Nat):Int)=0 from rfl]at e1
 rw[bn n1,bn n1,e1,e2,aa,aa]
 dsimp only
 obtain⟨y2,r2,g,g1,g2,g3,g4⟩:=qy _ S false (aG _) hS
 rw[e2]at g
 obtain⟨rfl,rfl⟩:y=y2∧r=r2:=by
  have:=aN g
  exact⟨congrArg Prod.fst this,congrArg (fun z=>z.2.1) this⟩
 rcases e3 with ⟨q,q1,q2,rfl,rfl,rfl⟩ | ⟨hc,hr⟩
 ·dsimp only
  rw[bn (c:=false=true) (by simp),bn (c:=false=true) (by simp)]
  by_cases hq:q=S.length
  ·have a1:¬ ((!(decide ((q:Int)=(S.length:Int))))=true):=by rw[ac (by omega)];decide
   have a2:¬ ((!(decide (S.drop q=[])))=true):=by rw[ac (aW (by omega))];decide
   obtain⟨v,d1,d2⟩:=wP g4
   rw[bn a1,bn a2,d1,d2,aa]
   dsimp only
   by_cases hv:v>12
   ·rw[ak hv];exact⟨_,_,rfl,rfl⟩
   ·rw[aj hv];exact⟨_,_,rfl,rfl⟩
  ·have a1:(!(decide ((q:Int)=(S.length:Int))))=true:=by rw[ae (by omega)];rfl
   have a2:(!(decide (S.drop q=[])))=true:=by
    rw[ae (fun h=>by have:=congrArg List.length h;rw[aQ]at this;simp at this;omega)];rfl
   rw[bm a1,bm a2];exact⟨_,_,rfl,rfl⟩
 ·rw[bm hc]
  cases hb:r.bad with
  | true=>rw[bm rfl];exact⟨_,_,rfl,rfl⟩
  | false=>have:=hr hb;have:=hS.1;omega
def fA(x:Int):Bool:=(decide (97≤x)&&decide (x≤122))||(decide (65≤x)&&decide (x≤90))
theorem Ee(x:Int):xL x=some (fA x,()):=by
 rw[Ed]
 unfold fA
 by_cases c1:x≥97
 ·by_cases c2:x≤122
  ·rw[ak c1,ak c2,ac (show 97≤x from c1),ac c2];rfl
  ·rw[ak c1,aj c2,an,ae c2,Bool.and_false,Bool.false_or,ac (show 65≤x by omega),Bool.true_and]
 ·rw[aj c1,ae (show ¬ 97≤x from c1),Bool.false_and,Bool.false_or]
  by_cases c3:x≥65
  ·rw[ak c3,ac (show 65≤x from c3),Bool.true_and]
  ·rw[aj c3,ae (show ¬ 65≤x from c3),Bool.false_and]
theorem T5(x:Int):AK x=some (fA x,()):=by
 have:=Ee x
 rw[Ed]at this
 rw[T4];exact this
theorem vz(l:List (List Int))(s:List Int)(hl:l.length≤4294967296):mX l s=some (decide (s∈l),()):=by
 rw[T6]
 have:=iP (fun i=>o8 l s i) l.length (fun i=>decide (l.getD i []=s)) (some (true,())) (some (false,())) (fun i hi=>by
  show o8 l s i=_
  rw[H6,an,al,ch hi (by omega),af]) (by
  show o8 l s _=_
  rw[H6,bn (by simp)])
 rw[this,fm l [] (fun x=>decide (x=s))]
 have:l.any (fun x=>decide (x=s))=decide (s∈l):=by
  rw[Bool.eq_iff_iff,List.any_eq_true,ab]
  constructor
  ·rintro ⟨x,hx,e⟩;rw[ab]at e;subst e;exact hx
  ·intro h;exact⟨s,h,ac rfl⟩
 rw[this]
 cases decide (s∈l) <;> rfl
theorem wJ(l:List (List Int))(s:List Int)(hl:l.length≤4294967296):rO l s=some (decide (s∈l),()):=by
 rw[Vq,VC]
 obtain⟨k,e,e1,_⟩:=im (fun i=>pl l s (l.length:Int) i) () l.length (fun i=>decide (s=l.getD i [])) (fun i hi=>by
  show pl l s _ i=_
  rw[JN,an,al,ch hi (by omega),af]) (by
  show pl l s _ _=_
  rw[JN,bn (by simp)])
 rw[e,aa]
 dsimp only
 rw[e1,fm l [] (fun x=>decide (s=x))]
 congr 2
 rw[Bool.eq_iff_iff,List.any_eq_true,ab]
 constructor
 ·rintro ⟨x,hx,e⟩;rw[ab]at e;subst e;exact hx
 ·intro h;exact⟨s,h,ac rfl⟩
def kw1:List (List Int):=[[66,69,71,73,78],[112,114,105,110,116],[105,102],[101,108,115,101],[119,104,105,108,101],[110,101,120,116],[100,101,108,101,116,101],[78,82],[78,70]]
def kw2:List (List Int):=[[108,101,110,103,116,104],[115,117,98,115,116,114],[105,110,100,101,120],[105,110,116],[117,112,112,101,114],[108,111,119,101,114]]
def oh(s:List Int):Bool:=decide (s∈kw1)||decide (s∈kw2)
theorem HB:ve=some (kw2,()):=T3
theorem D7:td=some (kw2,()):=NN
theorem Sx(s:List Int):zW s=some (oh s,()):=by
 have e:mX [[66,69,71,73,78],[112,114,105,110,116],[105,102],[101,108,115,101],[119,104,105,108,101],[110,101,120,116],[100,101,108,101,116,101],[78,82],[78,70]] s=some (decide (s∈kw1),()):=vz kw1 s (by decide)
 rw[Sw,e,aa,HB,aa]
 dsimp only
 rw[vz kw2 s (by decide),aa]
 unfold oh
 cases decide (s∈kw1) <;> rfl
theorem Ng(s:List Int)(b:Bool):ii s b=some (b||decide (s∈kw2),()):=by
 rw[Nf,D7,aa]
 dsimp only
 rw[wJ kw2 s (by decide),aa]
 cases b <;> rfl
theorem Ni(s:List Int):xq s=some (oh s,()):=by
 rw[Nh]
 simp only[Ng]
 have:decide (s∈kw1)=(decide (s=[66,69,71,73,78])||(decide (s=[112,114,105,110,116])||(decide (s=[105,102])||(decide (s=[101,108,115,101])||(decide (s=[119,104,105,108,101])||(decide (s=[110,101,120,116])||(decide (s=[100,101,108,101,116,101])||(decide (s=[78,82])||decide (s=[78,70]))))))))):=by
  rw[Bool.eq_iff_iff]
  simp only[ab,aU,kw1,aK,List.not_mem_nil,or_false]
 unfold oh
 rw[this]
 cases decide (s=[66,69,71,73,78]) <;> cases decide (s=[112,114,105,110,116]) <;> cases decide (s=[105,102]) <;> cases decide (s=[101,108,115,101]) <;> cases decide (s=[119,104,105,108,101]) <;> cases decide (s=[110,101,120,116]) <;> cases decide (s=[100,101,108,101,116,101]) <;> cases decide (s=[78,82]) <;> rfl
def ip(s:List Int):Bool:=(decide (1≤(s.length:Int)∧(s.length:Int)≤8)&&s.all fA) && !oh s
theorem H9(s:List Int)(hl:s.length≤4294967296):vg s=some (ip s,()):=by
 rw[T9]
 have:=iP (fun i=>o9 s i) s.length (fun i=>!fA (s.getD i 0)) (some (false,())) (some (decide (1≤(s.length:Int)∧(s.length:Int)≤8) && !oh s,())) (fun i hi=>by
  show o9 s i=_
  rw[H8,an,al,ch hi (by omega),af,T5,aa]) (by
  show o9 s _=_
  rw[H8,bn (by simp),d8,aa,Sx,aa]
  dsimp only
  cases decide (1≤(s.length:Int)∧(s.length:Int)≤8) <;> rfl)
 rw[this,fm s 0 (fun x=>!fA x)]
 unfold ip
 have h:s.any (fun x=>!fA x) = !s.all fA:=by rw[← List.not_all_eq_any_not]
 rw[h]
 cases s.all fA <;> cases decide (1≤(s.length:Int)∧(s.length:Int)≤8) <;> rfl
theorem Qd(s:List Int)(hl:s.length≤4294967296):∃ k:Int,xO s 0=some (k,())∧decide (k=(s.length:Int))=s.all fA:=by
 rw[N5]
 have key:∀ (d i:Nat),i+d=s.length→(∀ j (h:j<s.length),j<i→fA s[j]=true)→∃ k:Int,th s 0 (i:Int)=some (k,())∧decide (k=(s.length:Int))=s.all fA:=by
  intro d
  induction d with
  | zero =>
   intro i hd hj
   have hi:i=s.length:=by omega
   subst hi
   rw[Ef,aq (n:=0+(s.length:Int)),bn (by simp)]
   refine⟨_,rfl,?_⟩
   rw[ac rfl,eq_comm,List.all_eq_true]
   intro x hx
   obtain⟨j,h,rfl⟩:=bk.1 hx
   exact hj j h h
  | succ d ih =>
   intro i hd hj
   have hi:i<s.length:=by omega
   rw[Ef,aq (n:=0+(i:Int)),Int.zero_add,an,al,ci hi,Ee,aa]
   dsimp only
   cases e:fA s[i] with
   | true =>
    rw[bm rfl,ch hi (by omega)]
    refine ih (i+1) (by omega) fun j h h'=>?_
    by_cases g:j=i
    ·subst g;exact e
    ·exact hj j h (by omega)
   | false =>
    rw[bn (by simp)]
    refine⟨_,rfl,?_⟩
    rw[ae (by omega),eq_comm]
    cases g:s.all fA with
    | false=>rfl
    | true=>have:=List.all_eq_true.1 g s[i] (aV hi);rw[e]at this;cases this
 exact key s.length 0 (by omega) (fun j _ h=>absurd h (by omega))
theorem N2(s:List Int)(hl:s.length≤4294967296):xM s=some (ip s,()):=by
 obtain⟨k,e,e1⟩:=Qd s hl
 rw[N1,eI,aa,e,aa]
 dsimp only
 rw[e1,Ni,aa]
 unfold ip
 cases s.all fA <;> cases decide (1≤(s.length:Int)∧(s.length:Int)≤8) <;> rfl
noncomputable def oM(s:List Int):Bool:=match mP s with
 | some (_,ok,_)=>ok
 | none=>false
theorem G4(s:List Int)(hb:∀ b∈s,0≤b∧b≤255)(hl:s.length≤9223372036854775807):(∃ x,mP s=some (x,oM s,())∧nQ s=some (x,oM s,())):=by
 obtain⟨x,ok,e1,e2⟩:=G0 s hb hl
 have:oM s=ok:=by unfold oM;rw[e1]
 rw[this];exact⟨x,e1,e2⟩
noncomputable def opB(o:bA)(n v c:Int):Bool :=
 if o.Code=1 then decide (-9000000000000≤o.N∧o.N≤9000000000000)&&decide (o.S=[])
 else if o.Code=2 then decide (o.N=0)
 else if o.Code=3∨o.Code=4∨o.Code=5 then(decide (o.N≥0)&&decide (o.N<v))&&decide (o.S=[])
 else if o.Code=6∨o.Code=7∨o.Code=8∨o.Code=35 then(decide (o.N≥0)&&decide (o.N<c))&&decide (o.S=[])
 else if o.Code=24∨o.Code=25 then oM o.S&&decide (o.N=0)
 else if o.Code=29 then decide (1≤o.N∧o.N≤3)&&decide (o.S∈kw2)
 else if o.Code=30∨o.Code=31 then decide (0≤o.N∧o.N≤w64 (n-1))&&decide (o.S=[])
 else if o.Code=33 then decide (0≤o.N∧o.N≤1)&&decide (o.S=[])
 else(decide (1≤o.Code∧o.Code≤36)&&decide (o.N=0))&&decide (o.S=[])
set_option linter.defProp false
def aY:=@Bool.and_assoc
theorem So(n:Int):fO n=some (decide (-9000000000000≤n∧n≤9000000000000),()):=by rw[Hm,d8];rfl
theorem DD(n:Int):dE n=some (decide (-9000000000000≤n∧n≤9000000000000),()):=by rw[DC,eI];rfl
theorem N4(s:List Int)(hb:∀ b∈s,0≤b∧b≤255)(hl:s.length≤9223372036854775807):xN s=some (oM s,()):=by
 obtain⟨x,e1,e2⟩:=G4 s hb hl
 rw[N3,e2];rfl
theorem tw(a b:Bool):(if a=true then some (b,())else some (false,()))=some (a&&b,()):=by cases a <;> rfl
theorem in4(t1:Int)(c:Int)(b:Bool)(o:bA):uI t1 c b o=some (if b=true then decide (0≤o.N∧o.N≤w64 (t1-1))&&decide (o.S=[])else if c=33 then decide (0≤o.N∧o.N≤1)&&decide (o.S=[]) else(decide (1≤o.Code∧o.Code≤36)&&decide (o.N=0))&&decide (o.S=[]),()):=by
 rw[Tl,d8,d8,d8]
 simp only[aa,tw]
 cases b with
 | true=>rfl
 | false =>
  by_cases h:c=33
  ·simp[h]
  ·simp[h,aY]
theorem Tn(o:bA)(n v c:Int)(hb:∀ b∈o.S,0≤b∧b≤255)(hl:o.S.length≤9223372036854775807):Ag o n v c=some (opB o n v c,()):=by
 obtain⟨x,e1,e2⟩:=G4 o.S hb hl
 rw[Tm,So]
 simp only[aa,tw,Ti,Tj,Tk,in4,e1,HB,d8,vz kw2 _ (by decide)]
 unfold opB
 by_cases c1:o.Code=1
 ·simp[c1,aY]
 by_cases c2:o.Code=2
 ·simp[c2,aY]
 by_cases c3:o.Code=3
 ·simp[c3,aY]
 by_cases c4:o.Code=4
 ·simp[c4,aY]
 by_cases c5:o.Code=5
 ·simp[c5,aY]
 by_cases c6:o.Code=6
 ·simp[c6,aY]
 by_cases c7:o.Code=7
 ·simp[c7,aY]
 by_cases c8:o.Code=8
 ·simp[c8,aY]
 by_cases c35:o.Code=35
 ·simp[c35,aY]
 by_cases c24:o.Code=24
 ·simp[c24,aY]
 by_cases c25:o.Code=25
 ·simp[c25,aY]
 by_cases c29:o.Code=29
 ·simp[c29,aY]
 by_cases c30:o.Code=30
 ·simp[c30,aY]
 by_cases c31:o.Code=31
 ·simp[c31,aY]
 by_cases c33:o.Code=33
 ·simp[c33,aY]
 simp[aY,c1,c2,c3,c4,c5,c6,c7,c8,c35,c24,c25,c29,c30,c31,c33]
def xf(c:Int):List Int:=if c=1 then [100]else if c=2∨c=24∨c=25 then [115]else if c=29 then [110,115]else if c=3∨c=4∨c=5∨c=6∨c=7∨c=8∨c=35∨c=30∨c=31∨c=33 then [110]else []
def opNames:List (List Int):=[[],[110,117,109],[116,101,120,116],[118,97,114],[115,101,116,118,97,114],[112,108,117,115,118,97,114],[99,101,108,108],[115,101,116,99,101,108,108],[112,108,117,115,99,101,108,108],[102,105,101,108,100],[110,114],[110,102],[97,100,100],[115,117,98],[109,117,108],[100,105,118],[109,111,100],[99,97,116],[108,101,115,115],[109,111,115,116],[109,111,114,101],[108,101,97,115,116],[115,97,109,101],[111,116,104,101,114],[102,105,116,115],[108,105,110,101],[110,111,116],[109,105,110,117,115],[98,111,111,108],[99,97,108,108],[106,117,109,112],[122,101,114,111],[112,111,112],[115,104,111,119],[101,110,100,108],[100,114,111,112],[110,101,120,116]]
theorem QU(c:Int)(h:1≤c∧c≤36):opNames.getD c.toNat []≠[]:=by
 have:∀ n:Nat,n<37→1≤n→opNames.getD n []≠[]:=by decide
 exact this c.toNat (by omega) (by omega)
theorem QS(c:Int)(f:List Int)(h:1≤c∧c≤36):mp c opNames f=some (opNames.getD c.toNat [],f,()):=by
 rw[N9,bm (by show(0:Int)≤c∧c<37;omega)]
theorem QT(c:Int):xQ c=some (if 1≤c∧c≤36 then opNames.getD c.toNat []else [],if 1≤c∧c≤36 then xf c else [],()):=by
 rw[Oc,eI,aa]
 dsimp only
 by_cases h:1≤c∧c≤36
 ·rw[ac h,bn (by simp),bm h,bm h]
  have e:=fun f=>QS c f h
  unfold opNames at e ⊢
  simp only[Oa,Ob,e]
  unfold xf
  by_cases c1:c=1
  ·simp[c1]
  by_cases c2:c=2
  ·simp[c2]
  by_cases c24:c=24
  ·simp[c24]
  by_cases c25:c=25
  ·simp[c25]
  by_cases c29:c=29
  ·simp[c29]
  by_cases c3:c=3
  ·simp[c3]
  by_cases c4:c=4
  ·simp[c4]
  by_cases c5:c=5
  ·simp[c5]
  by_cases c6:c=6
  ·simp[c6]
  by_cases c7:c=7
  ·simp[c7]
  by_cases c8:c=8
  ·simp[c8]
  by_cases c35:c=35
  ·simp[c35]
  by_cases c30:c=30
  ·simp[c30]
  by_cases c31:c=31
  ·simp[c31]
  by_cases c33:c=33
  ·simp[c33]
  simp[c1,c2,c3,c4,c5,c6,c7,c8,c35,c24,c25,c29,c30,c31,c33]
 ·rw[ae h,bm (by simp),bn h,bn h]
theorem Oi(o:bA)(n v c:Int)(hb:∀ b∈o.S,0≤b∧b≤255)(hl:o.S.length≤9223372036854775807):xR o n v c=some (opB o n v c,()):=by
 rw[Oh,QT,aa]
 dsimp only
 by_cases h:1≤o.Code∧o.Code≤36
 ·rw[bm h,bm h,aj (by exact QU _ h)]
  simp only[DD,aa,tw,Od,Oe,Of,Og,N4 o.S hb hl,D7,eI,wJ kw2 _ (by decide)]
  unfold opB xf
  by_cases c1:o.Code=1
  ·simp[c1,aY] <;> by_cases hN:o.N=0 <;> by_cases hS:o.S=[] <;> simp[hN,hS]
  by_cases c2:o.Code=2
  ·simp[c2,aY] <;> by_cases hN:o.N=0 <;> by_cases hS:o.S=[] <;> simp[hN,hS]
  by_cases c3:o.Code=3
  ·simp[c3,aY] <;> by_cases hN:o.N=0 <;> by_cases hS:o.S=[] <;> simp[hN,hS]
  by_cases c4:o.Code=4
  ·simp[c4,aY] <;> by_cases hN:o.N=0 <;> by_cases hS:o.S=[] <;> simp[hN,hS]
  by_cases c5:o.Code=5
  ·simp[c5,aY] <;> by_cases hN:o.N=0 <;> by_cases hS:o.S=[] <;> simp[hN,hS]
  by_cases c6:o.Code=6
  ·simp[c6,aY] <;> by_cases hN:o.N=0 <;> by_cases hS:o.S=[] <;> simp[hN,hS]
  by_cases c7:o.Code=7
  ·simp[c7,aY] <;> by_cases hN:o.N=0 <;> by_cases hS:o.S=[] <;> simp[hN,hS]
  by_cases c8:o.Code=8
  ·simp[c8,aY] <;> by_cases hN:o.N=0 <;> by_cases hS:o.S=[] <;> simp[hN,hS]
  by_cases c35:o.Code=35
  ·simp[c35,aY] <;> by_cases hN:o.N=0 <;> by_cases hS:o.S=[] <;> simp[hN,hS]
  by_cases c24:o.Code=24
  ·simp[c24,aY] <;> by_cases hN:o.N=0 <;> by_cases hS:o.S=[] <;> simp[hN,hS]
  by_cases c25:o.Code=25
  ·simp[c25,aY] <;> by_cases hN:o.N=0 <;> by_cases hS:o.S=[] <;> simp[hN,hS]
  by_cases c29:o.Code=29
  ·simp[c29,aY] <;> by_cases hN:o.N=0 <;> by_cases hS:o.S=[] <;> simp[hN,hS]
  by_cases c30:o.Code=30
  ·simp[c30,aY] <;> by_cases hN:o.N=0 <;> by_cases hS:o.S=[] <;> simp[hN,hS]
  by_cases c31:o.Code=31
  ·simp[c31,aY] <;> by_cases hN:o.N=0 <;> by_cases hS:o.S=[] <;> simp[hN,hS]
  by_cases c33:o.Code=33
  ·simp[c33,aY] <;> by_cases hN:o.N=0 <;> by_cases hS:o.S=[] <;> simp[hN,hS]
  simp[c1,c2,c3,c4,c5,c6,c7,c8,c35,c24,c25,c29,c30,c31,c33,h,aY]
  by_cases hN:o.N=0 <;> by_cases hS:o.S=[] <;> simp[hN,hS]
 ·rw[bn h,bn h,bm (by simp)]
  unfold opB
  rw[am,am,am,am,am,am,am,am,ae h]
  rfl
def isD(x:Int):Bool:=decide (48≤x)&&decide (x≤57)
theorem od(x:Int):isD x=true↔48≤x∧x≤57:=by unfold isD;rw[az,ab,ab]
def cB(l:List Int):List Int:=l.takeWhile isD
theorem LN{x:Int}{l:List Int}(h:isD x=true):cB (x::l)=x::cB l:=List.takeWhile_cons_of_pos h
theorem LM{x:Int}{l:List Int}(h:isD x=false):cB (x::l)=[]:=List.takeWhile_cons_of_neg (by rw[h];decide)
theorem sD{s:List Int}{i:Nat}(hi:i<s.length)(h:isD s[i]=true):cB (s.drop i)=s[i]::cB (s.drop (i+1)):=by rw[ai hi,LN h]
theorem pQ{s:List Int}{i:Nat}(hi:i<s.length)(h:isD s[i]=false):cB (s.drop i)=[]:=by rw[ai hi,LM h]
theorem nF{s:List Int}{i:Nat}(hi:s.length≤i):cB (s.drop i)=[]:=by rw[aW hi];rfl
def AllD(l:List Int):Prop:=∀ x∈l,48≤x∧x≤57
theorem l9(l:List Int):AllD (cB l):=fun x hx=>(od x).1 (List.all_eq_true.1 (List.all_takeWhile ..) x hx)
theorem AllD.tail{c:Int}{l:List Int}(h:AllD (c::l)):AllD l:=fun x hx=>h x (aE _ hx)
theorem AllD.head{c:Int}{l:List Int}(h:AllD (c::l)):48≤c∧c≤57:=h c (aD ..)
theorem sE(l:List Int):(cB l).length≤l.length:=(List.takeWhile_sublist _).length_le
theorem Cy(l:List Int):l.take (cB l).length=cB l:=by
 unfold cB
 have h:=List.takeWhile_append_dropWhile (p:=isD) (l:=l)
 have:l.take (l.takeWhile isD).length=(l.takeWhile isD++l.dropWhile isD).take (l.takeWhile isD).length:=by rw[h]
 rw[this,List.take_left]
def dv(a:Int)(l:List Int):Int:=l.foldl (fun n c=>10*n+(c-48)) a
theorem iM(a c:Int)(l:List Int):dv a (c::l)=dv (10*a+(c-48)) l:=rfl
theorem wW(a:Int)(l m:List Int):dv a (l++m)=dv (dv a l) m:=List.foldl_append ..
theorem kD:∀ (l:List Int) (a:Int),dv a l=a*10 ^ l.length+dv 0 l
 | [],a=>by simp[dv]
 | c::l,a=>by
  rw[iM,iM,kD l (10*a+(c-48)),kD l (10*0+(c-48)),aR,Int.pow_succ,Int.add_mul,Int.mul_zero,Int.zero_add,← Int.add_assoc]
  congr 2
  rw[Int.mul_comm 10 a,Int.mul_assoc,Int.mul_comm 10]
theorem kC:∀ (l:List Int) (a:Int),AllD l→0≤a→0≤dv a l
 | [],a,_,h=>h
 | c::l,a,hd,h=>kC l (10*a+(c-48)) hd.tail (by have:=hd.head;omega)
theorem CE:∀ (l:List Int),dv 0 (l.dropWhile (fun x=>decide (x=48)))=dv 0 l
 | []=>rfl
 | c::l=>by
  by_cases h:c=48
  ·rw[List.dropWhile_cons_of_pos (by simp[h]),CE l,iM,h];rfl
  ·rw[List.dropWhile_cons_of_neg (by simp[h])]
theorem wX:∀ (l:List Int),AllD l→dv 0 l<10 ^ l.length
 | [],_=>by simp[dv]
 | c::l,hd=>by
  have h1:=wX l hd.tail
  have h2:=hd.head
  rw[iM,kD,aR,Int.pow_succ]
  have:(10*0+(c-48))*10 ^ l.length≤9*10 ^ l.length:=Int.mul_le_mul_of_nonneg_right (by omega) (Int.le_of_lt (Int.pow_pos (by omega)))
  omega
theorem LU{l:List Int}(hd:AllD l)(h0:∀ c r,l=c::r→c≠48)(h:7<l.length):10000000≤dv 0 l:=by
 cases l with
 | nil=>cases h
 | cons c r =>
  have h1:=hd.head
  have h2:=h0 c r rfl
  have h3:=kC r 0 hd.tail (Int.le_refl 0)
  rw[iM,kD]
  simp only[aR]at h
  have h4:(10:Int) ^ 7≤10 ^ r.length:=by
   have:(10:Nat) ^ 7≤10 ^ r.length:=Nat.pow_le_pow_right (by omega) (by omega)
   exact_mod_cast this
  have h5:1*(10:Int) ^ r.length≤(10*0+(c-48))*10 ^ r.length:=Int.mul_le_mul_of_nonneg_right (by omega) (Int.le_of_lt (Int.pow_pos (by omega)))
  omega
def fr:List Int→Int→Int
 | [],_=>0
 | c::l,u=>(c-48)*u+fr l (u/10)
theorem C9:∀ l:List Int,fr l 0=0
 | []=>rfl
 | c::l=>by show(c-48)*0+fr l (0/10)=0;rw[Int.mul_zero,show(0:Int)/10=0 from rfl,C9 l];rfl
def vy:Nat→Int
 | 0=>0
 | k+1=>10 ^ k
theorem UT(k:Nat):vy (k+1)/10=vy k:=by
 cases k with
 | zero=>rfl
 | succ k=>show(10:Int) ^ (k+1)/10=10 ^ k;rw[Int.pow_succ];omega
theorem wY:∀ k:Nat,dv 0 (List.replicate k 48)=0
 | 0=>rfl
 | k+1=>by rw[List.replicate_succ,iM];exact wY k
theorem xg:∀ (l:List Int) (k m:Nat),k≤m→fr l (vy k)=dv 0 ((l++List.replicate m 48).take k)
 | [],k,m,h=>by rw[bg,List.take_replicate,Nat.min_eq_left h,wY];rfl
 | c::l,0,m,h=>by rw[List.take_zero];exact C9 _
 | c::l,k+1,m,h=>by
  rw[List.cons_append,List.take_succ_cons,iM,kD,aP,ag,a7,Nat.min_eq_left (by omega),← xg l k m (by omega)]
  show(c-48)*10 ^ k+fr l (vy (k+1)/10)=_
  rw[UT,Int.mul_zero,Int.zero_add]
theorem p8(l:List Int)(hd:AllD l):0≤fr l 100000∧fr l 100000<1000000:=by
 have e:fr l 100000=dv 0 ((l++List.replicate 6 48).take 6):=xg l 6 6 (aG 6)
 have hd':AllD ((l++List.replicate 6 48).take 6):=fun x hx=>by
  rcases aA.1 (List.mem_of_mem_take hx)with h | h
  ·exact hd x h
  ·rw[(List.mem_replicate.1 h).2];omega
 have h1:=wX _ hd'
 have h2:((l++List.replicate 6 48).take 6).length=6:=by rw[aP,ag,a7];omega
 rw[h2]at h1
 rw[e]
 exact⟨kC _ _ hd' (Int.le_refl 0),h1⟩
def sat:Int→List Int→Int
 | n,[]=>n
 | n,c::l=>if n≤9000000000000 then sat (10*n+(c-48)*1000000) l else sat n l
theorem Ic:∀ (l:List Int) (n:Int),9000000000000<n→sat n l=n
 | [],n,_=>rfl
 | c::l,n,h=>by unfold sat;rw[am];exact Ic l n h
theorem Id:∀ (l:List Int) (a:Int),AllD l→0≤a→(sat (a*1000000) l=dv a l*1000000)∨(9000000000000<sat (a*1000000) l∧9000000000000<dv a l*1000000)
 | [],a,_,_=>.inl rfl
 | c::l,a,hd,h=>by
  have hc:=hd.head
  unfold sat
  rw[iM]
  by_cases hn:a*1000000≤9000000000000
  ·rw[bm hn,show 10*(a*1000000)+(c-48)*1000000=(10*a+(c-48))*1000000 by omega]
   exact Id l _ hd.tail (by omega)
  ·rw[bn hn,Ic _ _ (by omega)]
   refine .inr ⟨by omega,?_⟩
   have h1:=kC l 0 hd.tail (Int.le_refl 0)
   have h2:a*1≤(10*a+(c-48))*10 ^ l.length:=Int.mul_le_mul (by omega) (by have:(0:Int)<10 ^ l.length:=Int.pow_pos (by omega);omega) (by omega) (by omega)
   rw[kD]
   omega
theorem AY(c:Int):∀ l:List Int,l.length≤4294967296→pn l c=some (l.dropWhile (fun x=>decide (x=c)),())
 | [],h=>by rw[JV,bn (by simp)];rfl
 | x::l,h=>by
  simp only[aR]at h
  rw[JV,ak ((by simp only[aR];omega)),bm (by simp only[aR];omega)]
  by_cases hx:x=c
  ·rw[bm (by simp[hx]),bm (by simp only[aR];omega),List.dropWhile_cons_of_pos (by simp[hx])]
   have:List.take ((x::l).length-1) (List.drop 1 (x::l))=l:=by simp
   rw[this]
   exact AY c l (by omega)
  ·rw[bn (by simpa using hx),List.dropWhile_cons_of_neg (by simpa using hx)]
theorem BI(l:List Int)(c:Int)(hc:c<128)(h:l.length≤4294967296):vU l [c]=some (l.dropWhile (fun x=>decide (x=c)),()):=by
 rw[VL]
 by_cases h0:l=[]
 ·rw[ak h0,h0];rfl
 ·rw[aj h0,bn (by simp),bm (by simp),bm (by simp),bm (by simpa using hc),bm (by simp),JW]
  show Option.bind (pn l c) _=_
  rw[AY c l h];rfl
theorem UO(c:Int):∀ (n:Nat) (l:List Int),l.length=n→l.length≤4294967296→∃ r,nq l c=some (r,())∧r.length≤l.length∧((∀ x∈r,x=c) ↔ ∀ x∈l,x=c):=by
 intro n
 induction n with
 | zero =>
  intro l hl h
  have:l=[]:=List.eq_nil_of_length_eq_zero hl
  subst this
  exact⟨[],by rw[vV,bn (by simp)],aG _,Iff.rfl⟩
 | succ n ih =>
  intro l hl h
  rw[vV,an,aq,al,show((l.length:Int)-1).toNat=l.length-1 by omega,cE (by omega)]
  by_cases hx:l[l.length-1]=c
  ·rw[ak hx,al]
   have e:List.take (l.length-1-0) (List.drop 0 l)=l.take (l.length-1):=rfl
   rw[e]
   obtain⟨r,r1,r2,r3⟩:=ih (l.take (l.length-1)) (by rw[aP];omega) (by rw[aP];omega)
   have hs:l=l.take (l.length-1)++[c]:=by
    have h1:=List.take_append_drop (l.length-1) l
    have h2:l.drop (l.length-1)=[l[l.length-1]]:=by
     rw[ai (by omega),aW (by omega)]
    rw[h2,hx]at h1
    exact h1.symm
   rw[aP]at r2
   refine⟨r,r1,by omega,r3.trans ?_⟩
   constructor
   ·intro h5 x hx5
    rw[hs]at hx5
    rcases aA.1 hx5 with h6 | h6
    ·exact h5 x h6
    ·exact aJ.1 h6
   ·intro h5 x hx5
    exact h5 x (List.mem_of_mem_take hx5)
  ·rw[aj hx]
   exact⟨l,rfl,aG _,Iff.rfl⟩
theorem CB(c:Int):∀ l:List Int,l.dropWhile (fun x=>decide (x=c))=[] ↔ ∀ x∈l,x=c
 | []=>by simp
 | a::l=>by
  by_cases h:a=c
  ·rw[List.dropWhile_cons_of_pos (by simp[h]),CB c l]
   simp[h]
  ·rw[List.dropWhile_cons_of_neg (by simp[h])]
   simp[h]
theorem Kf(l:List Int)(h:l.length≤4294967296):∃ r,Bm l [32]=some (r,())∧(r=[] ↔ ∀ x∈l,x=32):=by
 rw[VN]
 by_cases h0:l=[]
 ·rw[ak h0];exact⟨l,rfl,by simp[h0]⟩
 ·obtain⟨r,r1,r2,r3⟩:=UO 32 l.length l rfl h
  rw[aj h0,bn (by simp),bm (by simp),bm (by simp),bm (by simp),bm (by simp),JX]
  show ∃ x,(Option.bind (nq l 32) _)=some (x,())∧_
  rw[r1,aa,bm (by simp),JW]
  show ∃ x,(Option.bind (pn r 32) _)=some (x,())∧_
  rw[AY 32 r (by omega)]
  exact⟨_,rfl,(CB 32 r).trans r3⟩
theorem Ku(t:List Int)(ht:t.length≤18)(hd:AllD t)(h0:∀ c r,t=c::r→c≠45)(hne:t≠[]):∀ (d i:Nat) (n:Int),i+d=t.length→0≤n→n<10 ^ i→vG t n t (t.length:Int) (i:Int)=some (dv n (t.drop i),(),()):=by
 intro d
 induction d with
 | zero =>
  intro i n hi n0 n1
  rw[Jk,ap,bm (by have:=List.length_pos_iff.2 hne;omega),aW (by omega)]
  cases t with
  | nil=>exact absurd rfl hne
  | cons c r=>rw[bn (by have:=h0 c r rfl;simpa using this)];rfl
 | succ d ih =>
  intro i n hi n0 n1
  have hlt:i<t.length:=by omega
  have hx:=hd _ (aV hlt)
  have hp:(10:Int) ^ i≤10 ^ 17:=by
   have:(10:Nat) ^ i≤10 ^ 17:=Nat.pow_le_pow_right (by omega) (by omega)
   exact_mod_cast this
  have hp1:(10:Int) ^ (i+1)=10 ^ i*10:=Int.pow_succ ..
  have e8:w8 (t[i]-48)=t[i]-48:=A4 (by omega) (by omega)
  rw[Jk,an,al,ci hlt,e8,ap,aq (n:=n*10),aq (n:=t[i]-48),aq,ch hlt (by omega),ih (i+1) _ (by omega) (by omega) (by omega),ai hlt,iM,Int.mul_comm n 10]
theorem Kv(t:List Int)(ht:t.length≤18)(hd:AllD t)(hne:t≠[]):Bi t=some (dv 0 t,(),()):=by
 have hp:=List.length_pos_iff.2 hne
 have h0:∀ c r,t=c::r→c≠45∧c≠43:=fun c r h=>by
  subst h;have:=hd.head;omega
 have hg:∀ z,t.getD 0 z≠45∧t.getD 0 z≠43:=fun z=>by
  cases t with
  | nil=>exact absurd rfl hne
  | cons c r=>exact h0 c r rfl
 rw[VE,U6,an,an,al,aj (by exact(hg 0).1),al,aj (by exact(hg 0).2),U5,bm (by rw[cg];omega)]
 have:=Ku t ht hd (fun c r h=>(h0 c r h).1) hne t.length 0 0 (by omega) (by omega) (by simp)
 rw[show(((0:Nat)):Int)=0 from rfl,aM]at this
 rw[this];rfl
theorem eH(n:Int):dE n=some (decide (-9000000000000≤n∧n≤9000000000000),()):=by rw[DC,eI];rfl
theorem qu(n:Int):mr n=some (if -9000000000000≤n∧n≤9000000000000 then(n,true,()) else(0,false,())):=by
 rw[OE,eH,aa]
 by_cases h:-9000000000000≤n∧n≤9000000000000
 ·rw[ac h,bn (by simp),bm h]
 ·rw[ae h,bm (by simp),bn h]
theorem Qz(w r:List Int)(hw:AllD w)(hr:AllD r)(lw:w.length≤1000000)(lr:r.length≤1000000):qj w r=some (if dv 0 w*1000000+fr r 100000≤9000000000000 then(dv 0 w*1000000+fr r 100000,true,()) else(0,false,())):=by
 rw[N7,BI _ _ (by omega) (by omega),aa]
 have hb:=p8 r hr
 have hz:=CE w
 have hT:AllD (w.dropWhile (fun x=>decide (x=48))):=fun x hx=>hw x ((List.dropWhile_sublist _).subset hx)
 have hTl:(w.dropWhile (fun x=>decide (x=48))).length≤w.length:=(List.dropWhile_sublist _).length_le
 have hT0:∀ c r,w.dropWhile (fun x=>decide (x=48))=c::r→c≠48:=fun c r h=>by
  have:=List.head?_dropWhile_not (fun x=>decide (x=48)) w
  rw[h]at this
  simpa using this
 generalize w.dropWhile (fun x=>decide (x=48))=T at *
 rw[bm (by simp only[aR,List.length_nil];omega),bm (by rw[ag];simp only[aR,List.length_nil];omega)]
 by_cases h7:(T.length:Int)>7
 ·have:=LU hT hT0 (by omega)
  rw[ak h7,am]
 ·have e6:List.take (6-0) (List.drop 0 (r++[48,48,48,48,48,48]))=(r++List.replicate 6 48).take 6:=rfl
  have hR:AllD ((r++List.replicate 6 48).take 6):=fun x hx=>by
   rcases aA.1 (List.mem_of_mem_take hx)with h | h
   ·exact hr x h
   ·rw[(List.mem_replicate.1 h).2];omega
  have hRl:((r++List.replicate 6 48).take 6).length=6:=by rw[aP,ag,a7];omega
  have hRv:dv 0 ((r++List.replicate 6 48).take 6)=fr r 100000:=(xg r 6 6 (aG 6)).symm
  rw[e6,aj h7]
  generalize (r++List.replicate 6 48).take 6=R at *
  rw[bm (by simp only[aR,List.length_nil];omega),bm (by simp only[ag,aR,List.length_nil];omega)]
  have hall:AllD (([48]++T)++R):=fun x hx=>by
   rcases aA.1 hx with h | h
   ·rcases aA.1 h with h | h
    ·rw[aJ.1 h];omega
    ·exact hT x h
   ·exact hR x h
  rw[Kv _ (by simp only[ag,aR,List.length_nil];omega) hall (by simp),aa]
  have ev:dv 0 (([48]++T)++R)=dv 0 w*1000000+fr r 100000:=by
   rw[wW,wW,kD,hRl,hRv,show dv 0 [48]=0 from rfl,hz];rfl
  have hn:=kC w 0 hw (Int.le_refl 0)
  rw[ev,qu,aa]
  by_cases hm:dv 0 w*1000000+fr r 100000≤9000000000000
  ·rw[bm hm,bm ⟨by omega,hm⟩]
  ·rw[bn hm,bn (fun x=>hm x.2)]
set_option linter.defProp false
def ba:=@Int.tdiv_eq_ediv_of_nonneg
def Bt(b:List Int):Prop:=∀ x∈b,0≤x∧x≤255
theorem yv(x:Int):mS x=some (isD x,()):=by
 rw[TD]
 unfold isD
 by_cases h:x≥48
 ·rw[ak h,show decide (48≤x)=true from ac h,Bool.true_and]
 ·rw[aj h,show decide (48≤x)=false from ae h,Bool.false_and]
def fin(p:Int)(b:Bool)(n m:Int):Option (Int×Int×Unit):=if m=0 then some (0,0,())else if n>9000000000000 then some (0,0,())else some (if b=true then 0-n else n,p,())
theorem BD(p:Int)(b:Bool)(n m:Int)(h0:0≤n):fD p b n m=fin p b n m:=by
 rw[Si]
 unfold fin
 by_cases h1:m=0
 ·rw[ak h1,bm h1]
 ·rw[aj h1,bn h1]
  by_cases h2:n>9000000000000
  ·rw[ak h2,bm h2]
  ·rw[aj h2,bn h2,aq]
   cases b <;> rfl
theorem J8(s:List Int)(hs:s.length≤1000000)(b:Bool):∀ (d i:Nat) (n m u:Int),i+d=s.length→0≤n→0≤u→u≤100000→n≤200000000000000+1000000*i→0≤m→m≤2000000+i →
  ∃ n',oN s (i:Int) b n m u=fD ((i+(cB (s.drop i)).length:Nat):Int) b n' (m+(cB (s.drop i)).length)∧n'=n+fr (cB (s.drop i)) u:=by
 intro d
 induction d with
 | zero =>
  intro i n m u hd h0 hu hu2 hn hm hm2
  rw[nF (show s.length≤i by omega)]
  refine⟨n,?_,by show n=n+0;omega⟩
  rw[Hk,ap]
  simp
 | succ d ih =>
  intro i n m u hd h0 hu hu2 hn hm hm2
  have hi:i<s.length:=by omega
  rw[Hk,an,al,ci hi,yv,aa]
  cases hx:isD s[i] with
  | true =>
   have hxb:=(od _).1 hx
   have hmul:0≤(s[i]-48)*u∧(s[i]-48)*u≤900000:=by
    have h1:(s[i]-48)*u≤9*u:=Int.mul_le_mul_of_nonneg_right (by omega) hu
    exact⟨Int.mul_nonneg (by omega) hu,by omega⟩
   rw[bm rfl,al,ba hu,aq (n:=s[i]),aq (n:=s[i]-48),aq (n:=(s[i]-48)*u),aq (n:=n+(s[i]-48)*u),aq (n:=m+1),aq (n:=u/10),ch hi (by omega)]
   obtain⟨n',e1,e2⟩:=ih (i+1) (n+(s[i]-48)*u) (m+1) (u/10) (by omega) (by omega) (by omega) (by omega) (by omega) (by omega) (by omega)
   rw[sD hi hx,aR]
   refine⟨n',?_,?_⟩
   ·rw[e1]
    congr 1
    ·omega
    ·omega
   ·rw[e2]
    show _=n+((s[i]-48)*u+fr _ (u/10))
    omega
  | false =>
   rw[bn (by simp),pQ hi hx]
   exact⟨n,by simp,by show n=n+0;omega⟩
def dj(s:List Int)(p:Nat):List Int:=if s[p]? = some 46 then cB (s.drop (p+1))else []
def gF(s:List Int)(p:Nat):Nat:=if dj s p=[]then p else p+1+(dj s p).length
theorem BC(s:List Int)(hs:s.length≤1000000)(b:Bool)(p:Nat)(hp:p≤s.length)(n m:Int)(h0:0≤n)(hn:n≤100000000000000)(hm:0≤m)(hm2:m≤1000000) :
  (if(decide ((w64 ((p:Int)+1))<(List.length s:Int)))=true then
   if(0:Int)≤(p:Int)∧(p:Int)<(List.length s:Int) then
    if(decide ((List.getD s (p:Int).toNat 0)=46))=true then
     if(0:Int)≤(w64 ((p:Int)+1))∧(w64 ((p:Int)+1))<(List.length s:Int) then
      (mS (List.getD s (w64 ((p:Int)+1)).toNat 0)).bind fun(r2:Bool×Unit) =>
      if r2.1=true then
       oN s (w64 ((p:Int)+1)) b n m 100000
      else
       fD (p:Int) b n m
     else none
    else
     fD (p:Int) b n m
   else none
  else
   fD (p:Int) b n m)=fin (gF s p) b (n+fr (dj s p) 100000) (m+(dj s p).length):=by
 have hw:w64 ((p:Int)+1)=((p+1:Nat):Int):=ch (n:=1000001) (by omega) (by omega)
 rw[hw]
 have none:dj s p=[]→fD (p:Int) b n m=fin (gF s p) b (n+fr (dj s p) 100000) (m+(dj s p).length):=by
  intro h
  unfold gF
  rw[h,bm rfl,BD _ _ _ _ h0]
  show fin p b n m=fin p b (n+0) (m+(0:Nat))
  congr 1
  ·omega
  ·omega
 by_cases h1:((p+1:Nat):Int)<(s.length:Int)
 ·have hp1:p<s.length:=by omega
  have hp2:p+1<s.length:=by omega
  rw[ak h1,al,ci hp1]
  by_cases h2:s[p]=46
  ·rw[ak h2,al,ci hp2,yv,aa]
   have hf:dj s p=cB (s.drop (p+1)):=by unfold dj;rw[List.getElem?_eq_getElem hp1,h2,bm rfl]
   cases hx:isD s[p+1] with
   | true =>
    rw[bm rfl]
    obtain⟨n',e1,e2⟩:=J8 s hs b (s.length-(p+1)) (p+1) n m 100000 (by omega) h0 (by omega) (by omega) (by omega) hm (by omega)
    have hb:=p8 _ (l9 (s.drop (p+1)))
    have hne:dj s p≠[]:=by
     rw[hf,sD hp2 hx]
     exact List.cons_ne_nil _ _
    rw[e1,e2,BD _ _ _ _ (by omega),hf]
    unfold gF
    rw[bn hne,hf]
   | false =>
    rw[bn (by simp)]
    refine none ?_
    rw[hf,pQ hp2 hx]
  ·rw[aj h2]
   refine none ?_
   unfold dj
   rw[List.getElem?_eq_getElem hp1,bn (by simpa using h2)]
 ·rw[aj h1]
  refine none ?_
  unfold dj
  split
  ·exact nF (by omega)
  ·rfl
theorem J7(s:List Int)(hs:s.length≤1000000)(hb:Bt s)(b:Bool):∀ (d i:Nat) (n m:Int),i+d=s.length→0≤n→n≤100000000000000→0≤m→m≤i →
  qW s (i:Int) b n m=fin (gF s (i+(cB (s.drop i)).length)) b (sat n (cB (s.drop i))+fr (dj s (i+(cB (s.drop i)).length)) 100000) (m+(cB (s.drop i)).length+(dj s (i+(cB (s.drop i)).length)).length):=by
 intro d
 induction d with
 | zero =>
  intro i n m hd h0 hn hm hm2
  rw[Hj,ap,BC s hs b i (by omega) n m h0 hn hm (by omega),nF (show s.length≤i by omega)]
  simp[sat]
 | succ d ih =>
  intro i n m hd h0 hn hm hm2
  have hi:i<s.length:=by omega
  have hx0:=hb _ (aV hi)
  rw[Hj,an,al]
  have hg:List.getD s (i:Int).toNat 0=s[i]:=ci hi 0
  rw[hg,yv,aa]
  cases hx:isD s[i] with
  | true =>
   have hxb:=(od _).1 hx
   have hdg:cB (s.drop i)=s[i]::cB (s.drop (i+1)):=sD hi hx
   rw[bm rfl,hdg]
   simp only[aR,sat]
   have el:i+((cB (s.drop (i+1))).length+1)=i+1+(cB (s.drop (i+1))).length:=by omega
   rw[el,ch hi (by omega),aq (n:=m+1)]
   by_cases hmx:n≤9000000000000
   ·rw[ak hmx,al,bm hmx,aq (n:=10*n),aq (n:=s[i]),aq (n:=s[i]-48),aq (n:=(s[i]-48)*1000000),aq (n:=10*n+(s[i]-48)*1000000),
     ih (i+1) _ (m+1) (by omega) (by omega) (by omega) (by omega) (by omega)]
    congr 1
    omega
   ·rw[aj hmx,bn hmx,ih (i+1) n (m+1) (by omega) h0 hn (by omega) (by omega)]
    congr 1
    omega
  | false =>
   have hdg:cB (s.drop i)=[]:=pQ hi hx
   rw[bn (by simp),hdg]
   have he:=BC s hs b i (by omega) n m h0 hn hm (by omega)
   rw[hg]at he
   simp only[List.length_nil,Nat.add_zero,sat]
   rw[he]
   congr 1
   omega
theorem Cw(s:List Int)(hs:s.length≤1000000):∀ (d p j:Nat),p+j+d=s.length+1→te s (p:Int) (j:Int)=some (((j+(cB (s.drop (p+j))).length:Nat):Int),()):=by
 intro d
 induction d with
 | zero =>
  intro p j hd
  rw[Ea,aq,ap,nF (by omega)]
  simp
 | succ d ih =>
  intro p j hd
  rw[Ea,aq (n:=(p:Int)+j)]
  by_cases hlt:(p:Int)+j<(s.length:Int)
  ·have hi:p+j<s.length:=by omega
   have hg:List.getD s ((p:Int)+j).toNat 0=s[p+j]:=by
    rw[show((p:Int)+j).toNat=p+j by omega];exact cE hi 0
   rw[ak hlt,al,hg,ch (n:=1000001) (by omega) (by omega)]
   by_cases h1:s[p+j]≥48
   ·rw[ak h1,al]
    by_cases h2:s[p+j]≤57
    ·have hx:isD s[p+j]=true:=(od _).2 ⟨h1,h2⟩
     rw[ak h2,ih p (j+1) (by omega),sD hi hx,aR,show p+(j+1)=p+j+1 by omega]
     congr 3
     omega
    ·have hx:isD s[p+j]=false:=by
      cases h:isD s[p+j] with
      | false=>rfl
      | true=>exact absurd ((od _).1 h).2 h2
     rw[aj h2,pQ hi hx]
     simp
   ·have hx:isD s[p+j]=false:=by
     cases h:isD s[p+j] with
     | false=>rfl
     | true=>exact absurd ((od _).1 h).1 h1
    rw[aj h1,pQ hi hx]
    simp
  ·rw[aj hlt,nF (by omega)]
   simp
theorem DI(p:Int)(b:Bool)(w r:List Int)(hw:AllD w)(hr:AllD r)(lw:w.length≤1000000)(lr:r.length≤1000000):mi p b w r=fin p b (dv 0 w*1000000+fr r 100000) ((w.length:Int)+r.length):=by
 have hb:=p8 r hr
 have hn:=kC w 0 hw (Int.le_refl 0)
 have tail:0<w.length+r.length→((qj w r).bind fun(r1:Int×Bool×Unit)=>if(!r1.2.1)=true then some ((0:Int),(0:Int),())else if b=true then some ((w64 (0-r1.1)),p,())else some (r1.1,p,()))=fin p b (dv 0 w*1000000+fr r 100000) ((w.length:Int)+r.length):=by
  intro hl
  rw[Qz w r hw hr lw lr,aa]
  unfold fin
  rw[bn (show ¬ (w.length:Int)+r.length=0 by omega)]
  by_cases h:dv 0 w*1000000+fr r 100000≤9000000000000
  ·rw[bm h]
   dsimp only
   rw[bn (show ¬ (!true)=true by decide),bn (show ¬ dv 0 w*1000000+fr r 100000>9000000000000 by omega),aq]
   cases b <;> rfl
  ·rw[bn h]
   dsimp only
   rw[bm (show(!false)=true by decide),al]
 rw[M6]
 by_cases h1:w=[]
 ·rw[ak h1]
  by_cases h2:r=[]
  ·rw[ak h2,h1,h2];rfl
  ·rw[aj h2]
   exact tail (by have:=List.length_pos_iff.2 h2;omega)
 ·rw[aj h1]
  exact tail (by have:=List.length_pos_iff.2 h1;omega)
theorem DH(s:List Int)(hs:s.length≤1000000)(b:Bool)(i:Nat)(hi:i≤s.length) :
  ig s (i:Int) b=fin (gF s (i+(cB (s.drop i)).length)) b (dv 0 (cB (s.drop i))*1000000+fr (dj s (i+(cB (s.drop i)).length)) 100000) ((cB (s.drop i)).length+(dj s (i+(cB (s.drop i)).length)).length):=by
 have hdl:=sE (s.drop i)
 rw[aQ]at hdl
 have hD:=l9 (s.drop i)
 rw[M5,Eb,show(0:Int)=((0:Nat):Int)from rfl,Cw s hs (s.length+1-i) i 0 (by omega),aa,Nat.zero_add,Nat.add_zero]
 dsimp only
 rw[aq]
 have hcut:List.take (((i:Int)+((cB (s.drop i)).length:Nat)).toNat-(i:Int).toNat) (List.drop (i:Int).toNat s)=cB (s.drop i):=by
  rw[show((i:Int)+((cB (s.drop i)).length:Nat)).toNat-(i:Int).toNat=(cB (s.drop i)).length by omega,af]
  exact Cy _
 rw[hcut]
 generalize hDD:cB (s.drop i)=D at *
 have hz:(((0:Nat)):Int)=0:=rfl
 rw[hz,al]
 have hp:(i:Int)+(D.length:Nat)=((i+D.length:Nat):Int):=by omega
 rw[hp]
 generalize hP:i+D.length=P at *
 have none:dj s P=[]→mi (P:Int) b D []=fin (gF s P) b (dv 0 D*1000000+fr (dj s P) 100000) (D.length+(dj s P).length):=by
  intro h
  rw[DI _ _ _ _ hD (fun x hx=>by cases hx) (by omega) (by simp)]
  unfold gF
  rw[h,bm rfl]
 by_cases h1:(P:Int)<(s.length:Int)
 ·have hP1:P<s.length:=by omega
  rw[ak h1,al,ci hP1]
  by_cases h2:s[P]=46
  ·have hw:w64 ((P:Int)+1)=((P+1:Nat):Int):=ch hP1 (by omega)
   have hf:dj s P=cB (s.drop (P+1)):=by unfold dj;rw[List.getElem?_eq_getElem hP1,h2,bm rfl]
   have hfl:=sE (s.drop (P+1))
   rw[aQ]at hfl
   have hF:=l9 (s.drop (P+1))
   rw[ak h2,hw,Eb,show(0:Int)=((0:Nat):Int)from rfl,Cw s hs (s.length-P) (P+1) 0 (by omega),aa,Nat.zero_add,Nat.add_zero]
   dsimp only
   rw[hz,bV (n:=1+(((cB (s.drop (P+1))).length:Nat):Int)) (by omega) (by omega),bV (n:=((P+1:Nat):Int)+(((cB (s.drop (P+1))).length:Nat):Int)) (by omega) (by omega),bV (n:=(P:Int)+(1+(((cB (s.drop (P+1))).length:Nat):Int))) (by omega) (by omega)]
   have hcut2:List.take ((((P+1:Nat):Int)+((cB (s.drop (P+1))).length:Nat)).toNat-((P+1:Nat):Int).toNat) (List.drop ((P+1:Nat):Int).toNat s)=cB (s.drop (P+1)):=by
    rw[show(((P+1:Nat):Int)+((cB (s.drop (P+1))).length:Nat)).toNat-((P+1:Nat):Int).toNat=(cB (s.drop (P+1))).length by omega,af]
    exact Cy _
   rw[hcut2]
   generalize hFF:cB (s.drop (P+1))=F at *
   by_cases h3:(F.length:Int)>0
   ·rw[ak h3,al,DI _ _ _ _ hD hF (by omega) (by omega)]
    unfold gF
    rw[hf,bn (fun h=>by rw[h]at h3;simp at h3)]
    congr 1
    omega
   ·rw[aj h3]
    exact none (by rw[hf];exact List.eq_nil_of_length_eq_zero (by omega))
  ·rw[aj h2]
   refine none ?_
   unfold dj
   rw[List.getElem?_eq_getElem hP1,bn (by simpa using h2)]
 ·rw[aj h1]
  refine none ?_
  unfold dj
  split
  ·exact nF (by omega)
  ·rfl
theorem uC(s:List Int)(hs:s.length≤1000000)(hb:Bt s)(b:Bool)(i:Nat)(hi:i≤s.length):eL s (i:Int) b=ig s (i:Int) b:=by
 rw[Sh,J7 s hs hb b (s.length-i) i 0 0 (by omega) (by omega) (by omega) (by omega) (by omega),DH s hs b i hi]
 have hD:=l9 (s.drop i)
 have hF:AllD (dj s (i+(cB (s.drop i)).length)):=by
  unfold dj
  split
  ·exact l9 _
  ·intro x hx;cases hx
 generalize cB (s.drop i)=D at *
 generalize dj s (i+D.length)=F at *
 have hfb:=p8 F hF
 have hsat:=Id D 0 hD (Int.le_refl 0)
 rw[Int.zero_mul]at hsat
 rcases hsat with h | ⟨h1,h2⟩
 ·rw[h,Int.zero_add]
 ·unfold fin
  rw[Int.zero_add]
  by_cases hm:((D.length:Nat):Int)+(F.length:Nat)=0
  ·rw[bm hm,bm hm]
  ·rw[bn hm,bn hm,al,al]
theorem Md{p:Int}{b:Bool}{n m:Int}(h0:0≤n):∃ v e,fin p b n m=some (v,e,())∧(e=0∨e=p)∧(-9000000000000≤v∧v≤9000000000000):=by
 unfold fin
 split
 ·exact⟨0,0,rfl,.inl rfl,by omega,by omega⟩
 ·split
  ·exact⟨0,0,rfl,.inl rfl,by omega,by omega⟩
  ·refine⟨_,p,rfl,.inr rfl,?_⟩
   split <;> omega
theorem LW(s:List Int)(p:Nat)(hp:p≤s.length):gF s p≤s.length:=by
 unfold gF
 split
 ·exact hp
 ·rename_i h
  unfold dj at h ⊢
  by_cases h46:s[p]? = some 46
  ·rw[bm h46]at h ⊢
   have:=sE (s.drop (p+1))
   rw[aQ]at this
   have hlt:p<s.length:=by
    by_cases h':p<s.length
    ·exact h'
    ·rw[List.getElem?_eq_none (by omega)]at h46;cases h46
   omega
  ·rw[bn h46]at h;exact absurd rfl h
theorem xr(s:List Int)(hs:s.length≤1000000)(b:Bool)(i:Nat)(hi:i≤s.length):∃ v e,ig s (i:Int) b=some (v,e,())∧(0≤e∧e≤(s.length:Int))∧(-9000000000000≤v∧v≤9000000000000):=by
 have hdl:=sE (s.drop i)
 rw[aQ]at hdl
 have hF:AllD (dj s (i+(cB (s.drop i)).length)):=by
  unfold dj
  split
  ·exact l9 _
  ·intro x hx;cases hx
 rw[DH s hs b i hi]
 have h1:=kC _ 0 (l9 (s.drop i)) (Int.le_refl 0)
 have h2:=p8 _ hF
 have h3:=LW s (i+(cB (s.drop i)).length) (by omega)
 obtain⟨v,e,k1,k2,k3⟩:=Md (p:=(gF s (i+(cB (s.drop i)).length):Nat)) (b:=b) (n:=dv 0 (cB (s.drop i))*1000000+fr (dj s (i+(cB (s.drop i)).length)) 100000) (m:=((cB (s.drop i)).length+(dj s (i+(cB (s.drop i)).length)).length)) (by omega)
 exact⟨v,e,k1,by rcases k2 with rfl | rfl <;> omega,k3⟩
def dJ(l:List Int):Nat:=(l.takeWhile (fun x=>decide (x=32))).length
noncomputable def front(s:List Int)(p:Nat):Option (Int×Int×Unit) :=
 if s[p]? = some 45 then ig s ((p+1:Nat):Int) true else if s[p]? = some 43 then ig s ((p+1:Nat):Int) false else ig s (p:Int) false
theorem SW(s:List Int)(hs:s.length≤1000000)(hb:Bt s):∀ (d i:Nat),i+d=s.length→uv s (i:Int)=front s (i+dJ (s.drop i)):=by
 intro d
 induction d with
 | zero =>
  intro i hd
  rw[Hi,ap,ap,ap,uC s hs hb false i (by omega),aW (by omega)]
  rw[show i+dJ []=i from rfl]
  unfold front
  rw[List.getElem?_eq_none (by omega),bn (by simp),bn (by simp)]
 | succ d ih =>
  intro i hd
  have hi:i<s.length:=by omega
  have c1:(i:Int)<(s.length:Int):=by omega
  have c2:(0:Int)≤(i:Int)∧(i:Int)<(s.length:Int):=by omega
  have hg:List.getD s (i:Int).toNat 0=s[i]:=ci hi 0
  have hdr:=ai hi
  rw[Hi,ak c1,bm c2,hg,ch hi (by omega)]
  by_cases h:s[i]=32
  ·rw[ak h,ih (i+1) (by omega),hdr]
   unfold dJ
   rw[List.takeWhile_cons_of_pos (by simp[h]),aR,show i+1+(List.takeWhile (fun x=>decide (x=32)) (List.drop (i+1) s)).length=i+((List.takeWhile (fun x=>decide (x=32)) (List.drop (i+1) s)).length+1) by omega]
  ·have hl:dJ (s.drop i)=0:=by
    unfold dJ
    rw[hdr,List.takeWhile_cons_of_neg (by simpa using h)];rfl
   rw[aj h,ak c1,bm c2,ak c1,bm c2,hl,show i+0=i from rfl]
   unfold front
   rw[List.getElem?_eq_getElem hi]
   by_cases h1:s[i]=45
   ·rw[ak h1,bm (by rw[h1]),ac h1]
    exact uC s hs hb true (i+1) (by omega)
   ·rw[aj h1,bm c2,bn (show ¬ some s[i]=some 45 by simpa using h1),ae h1]
    by_cases h2:s[i]=43
    ·rw[ak h2,bm (by rw[h2])]
     exact uC s hs hb false (i+1) (by omega)
    ·rw[aj h2,bn (by simpa using h2)]
     exact uC s hs hb false i (by omega)
theorem Qb(s:List Int):(s.length:Int)-(s.dropWhile (fun x=>decide (x=32))).length=dJ s:=by
 have h:=congrArg List.length (List.takeWhile_append_dropWhile (p:=fun x=>decide (x=(32:Int))) (l:=s))
 rw[ag]at h
 unfold dJ
 omega
theorem FF(s:List Int):dJ s≤s.length:=(List.takeWhile_sublist _).length_le
theorem NZ(s:List Int)(hs:s.length≤1000000):qa s=front s (dJ s):=by
 have hL:=Qb s
 have hle:=FF s
 rw[M7,BI _ _ (by omega) (by omega),aa]
 dsimp only
 rw[hL,aq (n:=(dJ s:Int))]
 unfold front
 by_cases c1:(dJ s:Int)<(s.length:Int)
 ·have hi:dJ s<s.length:=by omega
  have c2:(0:Int)≤(dJ s:Int)∧(dJ s:Int)<(s.length:Int):=by omega
  have hg:List.getD s (dJ s:Int).toNat 0=s[dJ s]:=ci hi 0
  rw[ak c1,bm c2,hg,ch hi (by omega),List.getElem?_eq_getElem hi]
  by_cases h2:s[dJ s]=43
  ·rw[ak h2,bm c2,bn (by rw[h2];simp),bm (by rw[h2]),ae (by rw[h2];decide)]
  ·rw[aj h2,bm c2]
   by_cases h1:s[dJ s]=45
   ·rw[ak h1,bm c2,bm (by rw[h1]),ac h1]
   ·rw[aj h1,bn (by simpa using h1),bn (by simpa using h2)]
 ·rw[aj c1,List.getElem?_eq_none (by omega),bn (by simp),bn (by simp)]
theorem wN(s:List Int)(hs:s.length≤1000000)(hb:Bt s):∃ v e,qV s=some (v,e,())∧qa s=some (v,e,())∧(0≤e∧e≤(s.length:Int))∧(-9000000000000≤v∧v≤9000000000000):=by
 have h1:qV s=front s (dJ s):=by
  have:=SW s hs hb s.length 0 (by omega)
  rw[show(((0:Nat)):Int)=0 from rfl,aM,Nat.zero_add]at this
  rw[Sj,this]
 rw[h1,NZ s hs]
 have hle:=FF s
 have hlt:∀ c:Int,s[dJ s]? = some c→dJ s+1≤s.length:=fun c h=>by
  by_cases h':dJ s<s.length
  ·exact h'
  ·rw[List.getElem?_eq_none (by omega)]at h;cases h
 unfold front
 split
 ·rename_i h
  obtain⟨v,e,k1,k2,k3⟩:=xr s hs true (dJ s+1) (hlt _ h)
  exact⟨v,e,k1,k1,k2,k3⟩
 ·split
  ·rename_i h
   obtain⟨v,e,k1,k2,k3⟩:=xr s hs false (dJ s+1) (hlt _ h)
   exact⟨v,e,k1,k1,k2,k3⟩
  ·obtain⟨v,e,k1,k2,k3⟩:=xr s hs false (dJ s) hle
   exact⟨v,e,k1,k1,k2,k3⟩
theorem Qk(s:List Int)(hs:s.length≤1000000)(v:Int):∀ (d i:Nat),i+d=s.length→uw s v (i:Int)=some (if ∀ x∈s.drop i,x=32 then(v,true,()) else(0,false,())):=by
 intro d
 induction d with
 | zero =>
  intro i hd
  rw[Hl,ap,aW (by omega),bm (by simp)]
 | succ d ih =>
  intro i hd
  have hi:i<s.length:=by omega
  rw[Hl,an,al,ci hi,ch hi (by omega),ih (i+1) (by omega),ai hi]
  by_cases h:s[i]=32
  ·rw[bn (by simp[h])]
   simp[h]
  ·rw[bm (by simp[h]),bn (fun hh=>h (hh _ (aD ..)))]
theorem wO(s:List Int)(hs:s.length≤1000000)(hb:Bt s):∃ v ok,qX s=some (v,ok,())∧qb s=some (v,ok,())∧(-9000000000000≤v∧v≤9000000000000):=by
 obtain⟨v,e,k1,k2,k3,k4⟩:=wN s hs hb
 rw[Sl,M9,k1,k2]
 simp only[aa]
 by_cases h:e=0
 ·rw[ak h,ak h];exact⟨0,false,rfl,rfl,by omega,by omega⟩
 ·obtain⟨n,rfl⟩:=Int.eq_ofNat_of_zero_le k3.1
  rw[aj h,aj h,bm k3,Qk s hs v (s.length-n) n (by omega)]
  have hcut:List.take (s.length-(n:Int).toNat) (List.drop (n:Int).toNat s)=s.drop n:=by
   rw[af,a8 (by rw[aQ];omega)]
  rw[hcut]
  obtain⟨r,r1,r2⟩:=Kf (s.drop n) (by rw[aQ];omega)
  rw[r1,aa]
  by_cases hr:r=[]
  ·rw[bm (r2.1 hr),bn (by simp[hr])];exact⟨v,true,rfl,rfl,k4⟩
  ·rw[bn (fun hh=>hr (r2.2 hh)),bm (by simp[hr])];exact⟨0,false,rfl,rfl,by omega,by omega⟩
theorem wM(s:List Int)(hs:s.length≤9223372036854775807):kN s=some (s.take 300,()):=by
 rw[NV]
 have hm:mnI (s.length:Int) 300=min (s.length:Int) 300:=by unfold mnI;split <;> omega
 rw[hm,al,aM,Nat.sub_zero]
 by_cases h:s.length≤300
 ·rw[a8 (by omega),a8 h]
 ·rw[show(min (s.length:Int) 300).toNat=300 by omega]
theorem RD(s:List Int)(hs:s.length≤9223372036854775807)(hb:Bt s):∃ v,mO s=some (v,())∧ml s=some (v,()):=by
 have hbt:Bt (s.take 300):=fun x hx=>hb x (List.mem_of_mem_take hx)
 obtain⟨v,ok,k1,k2,_⟩:=wO (s.take 300) (by rw[aP];omega) hbt
 have e1:mO s=uA (s.take 300) bU:=by
  rw[SJ]
  by_cases h:(s.length:Int)>300
  ·rw[ak h,al];rfl
  ·rw[aj h,a8 (by omega)]
 rw[e1,SI,DU,wM s hs,k1,aa,aa]
 dsimp only
 rw[k2,aa]
 dsimp only
 cases ok with
 | true=>exact⟨_,rfl,rfl⟩
 | false=>rw[kW];exact⟨_,rfl,rfl⟩
noncomputable def iY(s:List Int):Int×Bool:=match qX s with
 | some (v,ok,_)=>(v,ok)
 | none=>(0,false)
theorem Ql(s:List Int)(hs:s.length≤1000000)(hb:Bt s):qX s=some ((iY s).1,(iY s).2,())∧qb s=some ((iY s).1,(iY s).2,()):=by
 obtain⟨v,ok,e1,e2,_⟩:=wO s hs hb
 have:iY s=(v,ok):=by unfold iY;rw[e1]
 rw[this];exact⟨e1,e2⟩
noncomputable def eQ(v:bF):Bool:=(decide (-9000000000000≤v.N∧v.N≤9000000000000) && !decide ((v.S.length:Int)>300)) &&
 (if v.Kind=0 then decide (v.N=0)&&decide (v.S=[])else if v.Kind=1 then decide (v.S=[])else if v.Kind=2 then decide (v.N=0)else if v.Kind=3 then(iY v.S).2&&decide ((iY v.S).1=v.N)else false)
theorem D4(v:bF)(hb:Bt v.S):s9 v=some (eQ v,()):=by
 rw[NH,DD,aa]
 dsimp only
 unfold eQ
 cases decide (-9000000000000≤v.N∧v.N≤9000000000000) with
 | false=>rfl
 | true =>
  by_cases h:(v.S.length:Int)>300
  ·rw[ac h];rfl
  ·rw[ae h,(Ql v.S (by omega) hb).2,aa]
   dsimp only
   simp only[tw]
   by_cases c0:v.Kind=0
   ·simp[c0]
   by_cases c1:v.Kind=1
   ·simp[c1]
   by_cases c2:v.Kind=2
   ·simp[c2]
   by_cases c3:v.Kind=3
   ·simp[c3]
   simp[c0,c1,c2,c3]
def dl(a b:bo):Bool:=decide (a.Name<b.Name)||(decide (a.Name=b.Name)&&ltS a.Key b.Key)
theorem S5(a:bo)(n:Int)(k:List Int):Ad a n k=some (decide (a.Name<n)||(decide (a.Name=n)&&ltS a.Key k),()):=by
 rw[S4]
 cases decide (a.Name<n) <;> cases decide (a.Name=n) <;> rfl
theorem II(a b:List Int):lK a b=some (dq a b,()):=by
 rw[JQ,Jd,Ji];rfl
theorem Li(a b:List Int):decide (dq a b≥0) = !ltS a b:=by
 unfold dq
 cases ltS a b with
 | true=>rfl
 | false=>cases ltS b a <;> rfl
theorem NQ(a b:bo):∃ k,qi a b=some (k,())∧decide (k≥0) = !dl a b:=by
 rw[D9,II,aa]
 unfold dl
 by_cases h:a.Name<b.Name
 ·rw[ak h,ac h];exact⟨_,rfl,rfl⟩
 ·rw[aj h,ae h]
  by_cases g:a.Name>b.Name
  ·rw[ak g,ae (by omega)];exact⟨_,rfl,rfl⟩
  ·rw[aj g,ac (by omega)]
   refine⟨_,rfl,?_⟩
   rw[Li];rfl
noncomputable def l5(l:List bo)(c:Int)(i:Nat):Bool :=
 decide ((l.getD i co).Name<0)||(decide ((l.getD i co).Name≥c)||(decide (((l.getD i co).Key.length:Int)>300)||(!eQ (l.getD i co).Val||(decide ((i:Int)>0) && !dl (l.getD (i-1) co) (l.getD i co)))))
noncomputable def gm(s:bE)(v c:Int):Bool :=
 decide ((s.Vars.length:Int)=v)&&(!s.Vars.any (fun x=>!eQ x)&&(decide ((s.Cells.length:Int)≤40)&&(decide (0≤s.Nr∧s.Nr≤1000000)&&(decide (0≤s.Err∧s.Err≤7) && !dV (l5 s.Cells c) s.Cells.length))))
def gW(s:bE):Prop:=(s.Vars.length≤2097152∧∀ v∈s.Vars,Bt v.S)∧s.Cells.length≤2097152∧∀ c∈s.Cells,Bt c.Val.S
theorem Kp(l:List bF)(hl:l.length≤4294967296)(hb:∀ v∈l,Bt v.S):Bd l=some (l.any (fun x=>!eQ x),()):=by
 rw[Vm,Vx]
 obtain⟨k,e,e1,_⟩:=im (fun i=>ph l (l.length:Int) i) () l.length (fun i=>!eQ (l.getD i bU)) (fun i hi=>by
  show ph l _ i=_
  rw[JD,an,al,ch hi (by omega),af,NC,D4 _ (by rw[cE hi];exact hb _ (aV hi)),aa,aa]) (by
  show ph l _ _=_
  rw[JD,bn (by simp)])
 rw[e,aa]
 dsimp only
 rw[e1,fm l bU (fun x=>!eQ x)]
theorem NR(s:bE)(c:Int)(hl:s.Cells.length≤4294967296)(hb:∀ x∈s.Cells,Bt x.Val.S):kL c s.Cells (s.Cells.length:Int) 0 s=some (!dV (l5 s.Cells c) s.Cells.length,()):=by
 have:=iP (fun i=>kL c s.Cells (s.Cells.length:Int) i s) s.Cells.length (l5 s.Cells c) (some (false,())) (some (true,())) (fun i hi=>by
  show kL c s.Cells _ i s=_
  obtain⟨k,e,e1⟩:=NQ (s.Cells.getD (i-1) co) (s.Cells.getD i co)
  rw[DZ,an,al,ch hi (by omega),af,D4 _ (by rw[cE hi];exact hb _ (aV hi)),aa]
  dsimp only
  unfold l5
  by_cases h0:(i:Int)>0
  ·have w1:w64 ((i:Int)-1)=((i-1:Nat):Int):=by rw[aq];omega
   rw[ac h0,w1,af,bm (c:=(true=true)) rfl,bm (c:=0≤((i-1:Nat):Int)∧((i-1:Nat):Int)<(s.Cells.length:Int)) (by omega),e,aa]
   dsimp only
   rw[e1]
   cases decide ((s.Cells.getD i co).Name<0) <;> cases decide ((s.Cells.getD i co).Name≥c) <;> cases decide (((s.Cells.getD i co).Key.length:Int)>300) <;> cases eQ (s.Cells.getD i co).Val <;> rfl
  ·rw[ae h0,bn (c:=(false=true)) (by simp)]
   cases decide ((s.Cells.getD i co).Name<0) <;> cases decide ((s.Cells.getD i co).Name≥c) <;> cases decide (((s.Cells.getD i co).Key.length:Int)>300) <;> cases eQ (s.Cells.getD i co).Val <;> rfl) (by
  show kL c s.Cells _ _ s=_
  rw[DZ,bn (by simp)])
 rw[this]
 cases dV (l5 s.Cells c) s.Cells.length <;> rfl
theorem xC(s:bE)(v c:Int)(h:gW s):s8 s v c=some (gm s v c,()):=by
 rw[ND,Kp s.Vars (by have:=h.1.1;omega) h.1.2,eI,eI,NR s c (by have:=h.2.1;omega) h.2.2]
 simp only[aa]
 have e:decide ((s.Cells.length:Int)>40) = !decide ((s.Cells.length:Int)≤40):=by
  by_cases g:(s.Cells.length:Int)≤40
  ·rw[ac g,ae (by omega)];rfl
  ·rw[ae g,ac (by omega)];rfl
 unfold gm
 rw[e]
 cases decide ((s.Vars.length:Int)=v) <;> cases s.Vars.any (fun x=>!eQ x) <;> cases decide ((s.Cells.length:Int)≤40) <;> cases decide (0≤s.Nr∧s.Nr≤1000000) <;> cases decide (0≤s.Err∧s.Err≤7) <;> rfl
def lM(l:List bA):Prop:=l.length≤2097152∧∀ o∈l,(∀ b∈o.S,0≤b∧b≤255)∧o.S.length≤2097152
def gV(p:bC):Prop:=(p.Vars.length≤2097152∧∀ s∈p.Vars,s.length≤2097152)∧(p.Cells.length≤2097152∧∀ s∈p.Cells,s.length≤2097152)∧lM p.Start∧lM p.Main
noncomputable def gf(l:List bA)(v c:Int):Bool :=
 decide (1≤(l.length:Int)∧(l.length:Int)≤1500)&&(decide ((l.getD (l.length-1) cG).Code=36) && !l.any (fun o=>!opB o l.length v c))
theorem Hw(l:List bA)(v c:Int)(h:lM l):uz l v c=some (gf l v c,()):=by
 have h1:=h.1
 rw[SE,d8,aa]
 dsimp only
 unfold gf
 by_cases g:1≤(l.length:Int)∧(l.length:Int)≤1500
 ·have w1:w64 ((l.length:Int)-1)=((l.length-1:Nat):Int):=by rw[aq];omega
  have f:=iP (fun i=>oO l v c (l.length:Int) i) l.length (fun i=>!opB (l.getD i cG) l.length v c) (some (false,())) (some (true,())) (fun i hi=>by
   show oO l v c _ i=_
   rw[Hv,an,al,ch hi (by omega),af,Tn _ _ _ _ (by rw[cE hi];exact(h.2 _ (aV hi)).1) (by rw[cE hi];have:=(h.2 _ (aV hi)).2;omega),aa]) (by
   show oO l v c _ _=_
   rw[Hv,bn (by simp)])
  rw[ac g,bn (by simp),w1,al,af,f,fm l cG (fun o=>!opB o l.length v c)]
  cases decide ((l.getD (l.length-1) cG).Code=36) <;> cases l.any (fun o=>!opB o l.length v c) <;> rfl
 ·rw[ae g];rfl
theorem Ko(l:List bA)(v c:Int)(h:lM l):Bc l l v c=some (l.any (fun o=>!opB o l.length v c),l,v,c,()):=by
 have h1:=h.1
 rw[Vk,Vv]
 obtain⟨k,e,e1,_⟩:=im (fun i=>pg l (l.length:Int) i l v c) (l,v,c,()) l.length (fun i=>!opB (l.getD i cG) l.length v c) (fun i hi=>by
  show pg l _ i l v c=_
  rw[Jz,an,al,ch hi (by omega),af,Nv,Oi _ _ _ _ (by rw[cE hi];exact(h.2 _ (aV hi)).1) (by rw[cE hi];have:=(h.2 _ (aV hi)).2;omega),aa,aa]) (by
  show pg l _ _ l v c=_
  rw[Jz,bn (by simp)])
 rw[e,aa]
 dsimp only
 rw[e1,fm l cG (fun o=>!opB o l.length v c)]
theorem DS(l:List bA)(v c:Int)(h:lM l):s5 l v c=some (gf l v c,()):=by
 have h1:=h.1
 rw[Nw,eI,aa]
 dsimp only
 unfold gf
 by_cases g:1≤(l.length:Int)∧(l.length:Int)≤1500
 ·have w1:w64 ((l.length:Int)-1)=((l.length-1:Nat):Int):=by rw[aq];omega
  rw[ac g,bn (by simp),w1,al,af,Ko l v c h,aa]
  cases decide ((l.getD (l.length-1) cG).Code=36) <;> rfl
 ·rw[ae g];rfl
def iq(l:List (List Int))(i:Nat):Bool:=!ip (l.getD i [])||(decide ((i:Int)>0) && !ltS (l.getD (i-1) []) (l.getD i []))
def la(l:List (List Int)):Bool:=!dV (iq l) l.length&&decide ((l.length:Int)≤8)
theorem Eh(l:List (List Int))(hl:l.length≤2097152)(hs:∀ s∈l,s.length≤2097152):tj l=some (la l,()):=by
 rw[N8]
 have f:=iP (fun i=>mo l l (l.length:Int) i) l.length (iq l) (some (false,())) (some (decide ((l.length:Int)≤8),())) (fun i hi=>by
  show mo l l _ i=_
  rw[Eg,an,al,ch hi (by omega),af,N2 _ (by rw[cE hi];have:=hs _ (aV hi);omega),aa]
  dsimp only
  unfold iq
  by_cases h0:(i:Int)>0
  ·have w1:w64 ((i:Int)-1)=((i-1:Nat):Int):=by rw[aq];omega
   rw[ac h0,w1,af,bm (c:=(true=true)) rfl,bm (c:=0≤((i-1:Nat):Int)∧((i-1:Nat):Int)<(l.length:Int)) (by omega)]
   cases ip (l.getD i []) <;> rfl
  ·rw[ae h0,bn (c:=(false=true)) (by simp)]
   cases ip (l.getD i []) <;> rfl) (by
  show mo l l _ _=_
  rw[Eg,bn (by simp)])
 rw[f]
 unfold la
 cases dV (iq l) l.length <;> rfl
noncomputable def d7(p:bC):Bool :=
 la p.Vars&&(la p.Cells&&(!p.Vars.any (fun s=>decide (s∈p.Cells))&&(gf p.Start p.Vars.length p.Cells.length&&gf p.Main p.Vars.length p.Cells.length)))
theorem Kn(p:bC)(h:gV p):Bf p.Vars p=some (p.Vars.any (fun s=>decide (s∈p.Cells)),p,()):=by
 have h1:=h.1.1
 have h2:=h.2.1.1
 rw[Vo,VA]
 obtain⟨k,e,e1,_⟩:=im (fun i=>pj p.Vars (p.Vars.length:Int) i p) (p,()) p.Vars.length (fun i=>decide (p.Vars.getD i []∈p.Cells)) (fun i hi=>by
  show pj p.Vars _ i p=_
  rw[JJ,an,al,ch hi (by omega),af,Nx,wJ _ _ (by omega),aa,aa]) (by
  show pj p.Vars _ _ p=_
  rw[JJ,bn (by simp)])
 rw[e,aa]
 dsimp only
 rw[e1,fm p.Vars [] (fun s=>decide (s∈p.Cells))]
theorem nP(p:bC)(h:gV p):nO p=some (d7 p,()):=by
 rw[Ny,Eh _ h.1.1 h.1.2,Eh _ h.2.1.1 h.2.1.2,Kn p h]
 simp only[aa]
 rw[DS _ _ _ h.2.2.1,DS _ _ _ h.2.2.2]
 unfold d7
 cases la p.Vars <;> cases la p.Cells <;> cases p.Vars.any (fun s=>decide (s∈p.Cells)) <;> cases gf p.Start p.Vars.length p.Cells.length <;> rfl
theorem SH(p:bC)(h:gV p):z8 p=some (d7 p,()):=by
 have h1:=h.1.1
 have h2:=h.2.1.1
 rw[SF]
 have f2:=iP (fun i=>lz i p) p.Cells.length (iq p.Cells) (some (false,())) (some (decide ((p.Vars.length:Int)≤8)&&(decide ((p.Cells.length:Int)≤8)&&(gf p.Start p.Vars.length p.Cells.length&&gf p.Main p.Vars.length p.Cells.length)),())) (fun i hi=>by
  show lz i p=_
  rw[Hy,an,al,ch hi (by omega),af,H9 _ (by rw[cE hi];have:=h.2.1.2 _ (aV hi);omega),aa]
  dsimp only
  unfold iq
  by_cases h0:(i:Int)>0
  ·have w1:w64 ((i:Int)-1)=((i-1:Nat):Int):=by rw[aq];omega
   rw[ac h0,w1,af,bm (c:=(true=true)) rfl,bm (c:=0≤((i-1:Nat):Int)∧((i-1:Nat):Int)<(p.Cells.length:Int)) (by omega),bm (c:=0≤(i:Int)∧(i:Int)<(p.Cells.length:Int)) (by omega)]
   cases ip (p.Cells.getD i []) <;> rfl
  ·rw[ae h0,bn (c:=(false=true)) (by simp)]
   cases ip (p.Cells.getD i []) <;> rfl) (by
  show lz _ p=_
  rw[Hy,bn (by simp),Hw _ _ _ h.2.2.1,Hw _ _ _ h.2.2.2,aa,aa]
  cases decide ((p.Vars.length:Int)≤8) <;> cases decide ((p.Cells.length:Int)≤8) <;> cases gf p.Start p.Vars.length p.Cells.length <;> rfl)
 have f1:=iP (fun i=>mN i p) p.Vars.length (fun i=>iq p.Vars i||decide (p.Vars.getD i []∈p.Cells)) (some (false,())) (lz 0 p) (fun i hi=>by
  show mN i p=_
  rw[Hx,an,al,ch hi (by omega),af,H9 _ (by rw[cE hi];have:=h.1.2 _ (aV hi);omega),aa,vz _ _ (by omega),aa]
  dsimp only
  rw[bm (c:=0≤(i:Int)∧(i:Int)<(p.Vars.length:Int)) (by omega)]
  unfold iq
  by_cases h0:(i:Int)>0
  ·have w1:w64 ((i:Int)-1)=((i-1:Nat):Int):=by rw[aq];omega
   rw[ac h0,w1,af,bm (c:=(true=true)) rfl,bm (c:=0≤((i-1:Nat):Int)∧((i-1:Nat):Int)<(p.Vars.length:Int)) (by omega),bm (c:=0≤(i:Int)∧(i:Int)<(p.Vars.length:Int)) (by omega)]
   cases ip (p.Vars.getD i []) <;> cases decide (p.Vars.getD i []∈p.Cells) <;> cases ltS (p.Vars.getD (i-1) []) (p.Vars.getD i []) <;> rfl
  ·rw[ae h0,bn (c:=(false=true)) (by simp)]
   cases ip (p.Vars.getD i []) <;> cases decide (p.Vars.getD i []∈p.Cells) <;> rfl) (by
  show mN _ p=_
  rw[Hx,bn (by simp)])
 rw[f1,f2,Kl (iq p.Vars) (fun i=>decide (p.Vars.getD i []∈p.Cells)),fm p.Vars [] (fun s=>decide (s∈p.Cells))]
 unfold d7 la
 cases dV (iq p.Vars) p.Vars.length <;> cases dV (iq p.Cells) p.Cells.length <;> cases p.Vars.any (fun s=>decide (s∈p.Cells)) <;> cases decide ((p.Vars.length:Int)≤8) <;> cases decide ((p.Cells.length:Int)≤8) <;> rfl
noncomputable def iZ(p:bC)(m:bz):Bool :=
 d7 p&&(gm m.State p.Vars.length p.Cells.length&&(decide ((m.Done.length:Int)=3)&&(!m.Done.any (fun n=>!decide (0≤n∧n≤100000))&&decide ((m.Out.length:Int)≤1500))))
theorem Km(l:List Int)(hl:l.length≤2097152):Be l=some (l.any (fun n=>!decide (0≤n∧n≤100000)),()):=by
 rw[Vn,Vy]
 obtain⟨k,e,e1,_⟩:=im (fun i=>pi l (l.length:Int) i) () l.length (fun i=>!decide (0≤l.getD i 0∧l.getD i 0≤100000)) (fun i hi=>by
  show pi l _ i=_
  rw[JF,an,al,ch hi (by omega),af,Nl,eI,aa,aa]) (by
  show pi l _ _=_
  rw[JF,bn (by simp)])
 rw[e,aa]
 dsimp only
 rw[e1,fm l 0 (fun n=>!decide (0≤n∧n≤100000))]
theorem Nn(p:bC)(m:bz)(hp:gV p)(hs:gW m.State)(hd:m.Done.length≤2097152):xu p m=some (iZ p m,()):=by
 rw[Nm,nP p hp,xC _ _ _ hs,Km _ hd]
 simp only[aa]
 unfold iZ
 cases d7 p <;> cases gm m.State p.Vars.length p.Cells.length <;> cases decide ((m.Done.length:Int)=3) <;> cases m.Done.any (fun n=>!decide (0≤n∧n≤100000)) <;> rfl
def eh(n:Nat):List Int:=(Lib.decDigits n).map fun b=>(b.toNat:Int)
theorem sC{n:Nat}(h:n<10):eh n=[48+(n:Int)]:=by
 unfold eh
 rw[Lib.decDigits,dif_pos h]
 have:(UInt8.ofNat (48+n)).toNat=48+n:=by rw[UInt8.toNat_ofNat'];omega
 simp only[bc,List.map_nil,this]
 congr 1
theorem wR{n:Nat}(h:¬ n<10):eh n=eh (n/10)++[48+((n%10:Nat):Int)]:=by
 unfold eh
 rw[Lib.decDigits,dif_neg h]
 have:(UInt8.ofNat (48+n%10)).toNat=48+n%10:=by rw[UInt8.toNat_ofNat'];omega
 simp only[List.map_append,bc,List.map_nil,this]
 congr 2
theorem Pf(n:Nat):jL (n:Int)=eh n:=by
 unfold jL Lib.itoa eh
 rw[am,af]
theorem AllD.app{l m:List Int}(h:AllD l)(g:AllD m):AllD (l++m):=fun x hx=>(aA.1 hx).elim (h x) (g x)
theorem Cv(n:Nat):AllD (eh n)∧dv 0 (eh n)=n∧eh n≠[]∧(0<n→∃ c r,eh n=c::r∧49≤c):=by
 induction n using Nat.strongRecOn with
 | ind n ih =>
  by_cases h:n<10
  ·rw[sC h]
   refine⟨fun x hx=>?_,?_,by simp,fun h0=>⟨_,_,rfl,by omega⟩⟩
   ·rw[aJ.1 hx];omega
   ·simp only[dv,List.foldl_cons,List.foldl_nil];omega
  ·obtain⟨h1,h2,h3,h4⟩:=ih (n/10) (by omega)
   rw[wR h]
   refine⟨h1.app fun x hx=>?_,?_,by simp,fun _=>?_⟩
   ·rw[aJ.1 hx];omega
   ·rw[wW,h2];simp only[dv,List.foldl_cons,List.foldl_nil];omega
   ·obtain⟨c,r,e,hc⟩:=h4 (by omega)
    rw[e]
    exact⟨c,r++_,rfl,hc⟩
theorem sB{n k:Nat}(h:n<10 ^ k)(hk:0<k):(eh n).length≤k:=by
 induction k generalizing n with
 | zero=>omega
 | succ k ih =>
  by_cases h9:n<10
  ·rw[sC h9];simp
  ·rw[wR h9,ag,bj]
   have hk0:0<k:=by
    rcases Nat.eq_zero_or_pos k with h0 | h0
    ·subst h0;omega
    ·exact h0
   have:=ih (n:=n/10) (by rw[Nat.pow_succ]at h;omega) hk0
   omega
theorem wS{r:Nat}(h:r<1000000):∃ l,eh (1000000+r)=49::l∧l.length=6∧AllD l∧dv 0 l=r:=by
 obtain⟨h1,h2,h3,h4⟩:=Cv (1000000+r)
 obtain⟨c,l,e,hc⟩:=h4 (by omega)
 have hlen:=sB (n:=1000000+r) (k:=7) (by omega) (by omega)
 rw[e]at h1 h2 hlen
 have hl:=wX l h1.tail
 have hn:=kC l 0 h1.tail (Int.le_refl 0)
 have hc9:=h1.head
 rw[iM,kD]at h2
 simp only[aR]at hlen
 have h6:l.length=6:=by
  by_cases h6:l.length=6
  ·exact h6
  ·exfalso
   have h5:(10:Int) ^ l.length≤10 ^ 5:=by
    have:(10:Nat) ^ l.length≤10 ^ 5:=Nat.pow_le_pow_right (by omega) (by omega)
    exact_mod_cast this
   have:(10*0+(c-48))*10 ^ l.length≤9*10 ^ 5:=Int.mul_le_mul (by omega) h5 (Int.le_of_lt (Int.pow_pos (by omega))) (by omega)
   omega
 rw[h6]at h2 hl
 have hc1:c=49:=by omega
 subst hc1
 exact⟨l,e,h6,h1.tail,by omega⟩
theorem Pl(n:Nat):∀ acc:List Int,acc.length+n≤9223372036854775807→uN (n:Int) acc=some ((if n=0 then []else eh n)++acc,()):=by
 induction n using Nat.strongRecOn with
 | ind n ih =>
  intro acc hb
  rw[TF]
  by_cases h0:n=0
  ·rw[ap,bm h0];rfl
  ·have e1:Int.tdiv (n:Int) 10=((n/10:Nat):Int):=rfl
   have e2:Int.tmod (n:Int) 10=((n%10:Nat):Int):=rfl
   have e3:w8 (w64 (48+((n%10:Nat):Int)))=48+((n%10:Nat):Int):=by rw[aq,A4 (by omega) (by omega)]
   rw[an,e1,e2,e3,bm (by rw[bj];omega),aq,bn h0,ih (n/10) (by omega) _ (by rw[ag,bj];omega)]
   by_cases h9:n<10
   ·rw[al,sC h9,Nat.mod_eq_of_lt h9];rfl
   ·rw[am,wR h9,ah]
theorem EZ(n:Nat)(h:n≤9223372036854775807):uM (n:Int)=some (eh n,()):=by
 rw[TG]
 by_cases h0:n=0
 ·subst h0
  rw[an,sC (by omega)];rfl
 ·rw[ap,Pl n [] (by simpa using h),bn h0,aH]
def eP(c:Int)(l:List Int):List Int:=(l.reverse.dropWhile (fun x=>decide (x=c))).reverse
theorem A1(c:Int)(l:List Int):eP c (l++[c])=eP c l:=by
 unfold eP
 rw[List.reverse_append,List.reverse_singleton,List.singleton_append,List.dropWhile_cons_of_pos (by simp)]
theorem A0{c x:Int}(h:x≠c)(l:List Int):eP c (l++[x])=l++[x]:=by
 unfold eP
 rw[List.reverse_append,List.reverse_singleton,List.singleton_append,List.dropWhile_cons_of_neg (by simpa using h),List.reverse_cons,List.reverse_reverse]
theorem vn{l:List Int}{n:Nat}(h:l.length=n+1):l=l.take (l.length-1)++[l[l.length-1]]:=by
 have h1:=List.take_append_drop (l.length-1) l
 have h2:l.drop (l.length-1)=[l[l.length-1]]:=by
  rw[ai (by omega),aW (by omega)]
 rw[h2]at h1
 exact h1.symm
theorem IY(c:Int):∀ (n:Nat) (l:List Int),l.length=n→∃ k,l=eP c l++List.replicate k c∧((∃ x∈l,x≠c)→eP c l≠[])
 | 0,l,h=>by
  have:l=[]:=List.eq_nil_of_length_eq_zero h
  subst this
  exact⟨0,rfl,fun⟨x,hx,_⟩=>by cases hx⟩
 | n+1,l,h=>by
  have hs:=vn h
  generalize hA:l.take (l.length-1)=A at hs
  generalize l[l.length-1]=x at hs
  have hAl:A.length=n:=by rw[← hA,aP];omega
  subst hs
  by_cases hx:x=c
  ·subst hx
   obtain⟨k,e,g⟩:=IY x n A hAl
   rw[A1]
   refine⟨k+1,?_,fun⟨y,hy,hne⟩=>g ⟨y,?_,hne⟩⟩
   ·rw[List.replicate_succ',← ah,← e]
   ·rcases aA.1 hy with hy | hy
    ·exact hy
    ·exact absurd (aJ.1 hy) hne
  ·rw[A0 hx]
   exact⟨0,by simp,fun _=>by simp⟩
theorem AZ(c:Int)(l:List Int):(eP c l).length≤l.length:=by
 obtain⟨k,e,_⟩:=IY c l.length l rfl
 have:=congrArg List.length e
 rw[ag]at this
 omega
theorem IZ(c:Int):∀ (n:Nat) (l:List Int),l.length=n→l.length≤4294967296→nq l c=some (eP c l,())
 | 0,l,hl,h=>by
  have:l=[]:=List.eq_nil_of_length_eq_zero hl
  subst this
  rw[vV,bn (by simp)];rfl
 | n+1,l,hl,h=>by
  rw[vV,an,aq,al,show((l.length:Int)-1).toNat=l.length-1 by omega,cE (by omega)]
  have hs:=vn hl
  have e:List.take (l.length-1-0) (List.drop 0 l)=l.take (l.length-1):=rfl
  by_cases hx:l[l.length-1]=c
  ·rw[ak hx,al,e,IZ c n _ (by rw[aP];omega) (by rw[aP];omega)]
   rw[hx]at hs
   generalize l.take (l.length-1)=A at *
   subst hs
   rw[A1]
  ·rw[aj hx]
   have:eP c l=l:=by
    generalize hA:l.take (l.length-1)=A at hs
    generalize l[l.length-1]=x at hs hx
    rw[hs];exact A0 hx _
   rw[this]
theorem Ke(l:List Int)(h:l.length≤4294967296):Bn l [48]=some (eP 48 l,()):=by
 rw[VM]
 by_cases h0:l=[]
 ·rw[ak h0,h0];rfl
 ·rw[aj h0,bn (by simp),bm (by simp),bm (by simp),bm (by simp),bm (by simp),JX]
  show Option.bind (nq l 48) _=_
  rw[IZ 48 _ l rfl h];rfl
theorem Ib(t0:Int)(t4:List Int)(h4:t4.length≤1000):∀ (n:Nat) (l:List Int),l.length=n→l.length≤1000→(∃ x∈l,x≠48)→ux t0 t4 l=qY t0 (t4++[46]++eP 48 l)
 | 0,l,hl,_,⟨x,hx,_⟩=>by
  have:l=[]:=List.eq_nil_of_length_eq_zero hl
  subst this
  cases hx
 | n+1,l,hl,h,hne=>by
  rw[Sq,aq,al,show((l.length:Int)-1).toNat=l.length-1 by omega,cE (by omega)]
  have hs:=vn hl
  have e:List.take (l.length-1-0) (List.drop 0 l)=l.take (l.length-1):=rfl
  by_cases hx:l[l.length-1]=48
  ·rw[ak hx,al,e]
   rw[hx]at hs
   obtain⟨x,hx1,hx2⟩:=hne
   have hx3:x∈l.take (l.length-1):=by
    rw[hs]at hx1
    rcases aA.1 hx1 with h1 | h1
    ·exact h1
    ·exact absurd (aJ.1 h1) hx2
   rw[Ib t0 t4 h4 n _ (by rw[aP];omega) (by rw[aP];omega) ⟨x,hx3,hx2⟩]
   have:eP 48 l=eP 48 (l.take (l.length-1)):=by
    generalize l.take (l.length-1)=A at *
    rw[hs];exact A1 48 A
   rw[this]
  ·rw[aj hx,bm (by simp only[bj];omega),bm (by rw[ag];simp only[bj];omega)]
   have:eP 48 l=l:=by
    generalize hA:l.take (l.length-1)=A at hs
    generalize l[l.length-1]=x at hs hx
    rw[hs];exact A0 hx _
   rw[this]
def nK(r:Nat):List Int:=if 0<r then 46::eP 48 ((eh (1000000+r)).drop 1)else []
def l8(n:Nat):List Int:=eh (n/1000000)++nK (n%1000000)
def jp(n:Int):List Int:=if -9000000000000≤n∧n≤9000000000000 then(if n<0 then [45]else [])++l8 n.natAbs else []
theorem Ml{r:Nat}(h:r<1000000):(nK r).length≤7:=by
 unfold nK
 obtain⟨l,e,h6,_⟩:=wS h
 split
 ·rw[e,List.drop_one,List.tail_cons,aR]
  have:=AZ 48 l
  omega
 ·simp
theorem LF{n:Nat}(h:n≤9000000000000):(l8 n).length≤14:=by
 unfold l8
 have h1:=sB (n:=n/1000000) (k:=7) (by omega) (by omega)
 have h2:=Ml (r:=n%1000000) (by omega)
 rw[ag];omega
theorem LH(n:Int):(jp n).length≤15:=by
 unfold jp
 split
 ·rename_i h
  have:=LF (n:=n.natAbs) (by omega)
  rw[ag]
  split
  ·simp only[bj];omega
  ·simp only[List.length_nil];omega
 ·simp
theorem EW(n:Nat):vR (n:Int)=some (eh n,()):=by rw[VF,Pf]
theorem DF(n:Nat)(h:n≤9000000000000)(t:List Int)(ht:t.length≤1):sU (n:Int) t=some (t++l8 n,()):=by
 have e1:Int.tdiv (n:Int) 1000000=((n/1000000:Nat):Int):=rfl
 have e2:Int.tmod (n:Int) 1000000=((n%1000000:Nat):Int):=rfl
 have h1:=sB (n:=n/1000000) (k:=7) (by omega) (by omega)
 rw[Na,e1,e2,aq,EW,aa]
 dsimp only
 rw[al]
 unfold l8 nK
 by_cases h0:0<n%1000000
 ·have e3:w64 (1000000+((n%1000000:Nat):Int))=((1000000+n%1000000:Nat):Int):=by rw[aq];omega
  obtain⟨l,e,h6,_⟩:=wS (r:=n%1000000) (by omega)
  have e4:List.take ((49::l).length-1) (List.drop 1 (49::l))=l:=by simp
  have h7:=AZ 48 l
  rw[an,e3,EW,aa,bm h0]
  dsimp only
  rw[e,e4,bm (by rw[aR];omega),Ke l (by omega),aa]
  dsimp only
  rw[bm (by rw[bj];omega),bm (by simp only[ag,bj];omega),ah,List.drop_one,List.tail_cons]
  rfl
 ·rw[ap,bn h0,aH]
theorem Nd(n:Int):xn n=some (jp n,()):=by
 rw[Nc,eH,aa]
 dsimp only
 unfold jp
 by_cases h:-9000000000000≤n∧n≤9000000000000
 ·rw[ac h,bn (by decide),bm h]
  by_cases h0:n<0
  ·rw[ak h0,bm h0,aq,show(0:Int)-n=((n.natAbs:Nat):Int) by omega,DF _ (by omega) _ (by simp)]
  ·have e:n=((n.natAbs:Nat):Int):=by omega
   rw[aj h0,bn h0]
   have:=DF n.natAbs (by omega) [] (by simp)
   rw[← e]at this
   exact this
 ·rw[ae h,bm (by decide),bn h]
theorem Hn(n:Int)(t:List Int)(h:t.length≤1000):qY n t=some ((if n<0 then [45]else [])++t,()):=by
 rw[Sr]
 by_cases h0:n<0
 ·rw[ak h0,bm h0,bm (by rw[bj];omega)]
 ·rw[aj h0,bn h0];rfl
theorem jc(n:Int):fO n=some (decide (-9000000000000≤n∧n≤9000000000000),()):=by
 rw[Hm,HR]
 by_cases h:n ≥ -9000000000000
 ·rw[ak h]
  simp[show -9000000000000≤n from h]
 ·rw[aj h]
  simp[show ¬ -9000000000000≤n from h]
theorem Su(n:Int):zT n=some (jp n,()):=by
 rw[Ss,jc,aa]
 dsimp only
 unfold jp
 by_cases h:-9000000000000≤n∧n≤9000000000000
 ·rw[ac h,bn (by decide),bm h]
  have ea:oV n=some (((n.natAbs:Nat):Int),()):=by
   rw[HQ]
   by_cases h0:n<0
   ·rw[ak h0,aq,show(0:Int)-n=((n.natAbs:Nat):Int) by omega]
   ·rw[aj h0,show((n.natAbs:Nat):Int)=n by omega]
  rw[ea,aa]
  dsimp only
  generalize hm:n.natAbs=m
  have e1:Int.tdiv (m:Int) 1000000=((m/1000000:Nat):Int):=rfl
  have e2:Int.tmod (m:Int) 1000000=((m%1000000:Nat):Int):=rfl
  have h1:=sB (n:=m/1000000) (k:=7) (by omega) (by omega)
  rw[e1,e2,aq,EZ _ (by omega),aa]
  dsimp only
  unfold l8 nK
  by_cases h0:0<m%1000000
  ·have e3:w64 (1000000+((m%1000000:Nat):Int))=((1000000+m%1000000:Nat):Int):=by rw[aq];omega
   obtain⟨l,e,h6,hd,hv⟩:=wS (r:=m%1000000) (by omega)
   have e4:List.take ((49::l).length-1) (List.drop 1 (49::l))=l:=by simp
   have h7:=AZ 48 l
   have hne:∃ x∈l,x≠48:=by
    by_cases hh:∃ x∈l,x≠48
    ·exact hh
    ·exfalso
     have hall:∀ x∈l,x=48:=fun x hx=>by
      by_cases hx48:x=48
      ·exact hx48
      ·exact absurd ⟨x,hx,hx48⟩ hh
     rw[List.eq_replicate_of_mem hall,wY]at hv
     omega
   rw[an,e3,EZ _ (by omega),aa,bm h0]
   dsimp only
   rw[e,e4,bm (by rw[aR];omega),Ib n _ (by omega) _ l rfl (by omega) hne,Hn _ _ (by simp only[ag,bj];omega),List.drop_one,List.tail_cons,ah (eh _)]
   rfl
  ·rw[ap,bn h0,aH,Hn _ _ (by omega)]
 ·rw[ae h,bm (by decide),bn h]
def sj(v:bF):Prop:=v.S.length≤100000∧Bt v.S
def ct(v:bF):List Int:=if v.Kind=1 then jp v.N else v.S
theorem fw(v:bF):dZ v=some (ct v,()):=by
 rw[NE]
 unfold ct
 by_cases h:v.Kind=1
 ·rw[ak h,bm h,Nd];rfl
 ·rw[aj h,bn h]
theorem fE(v:bF):eM v=some (ct v,()):=by
 rw[SN]
 unfold ct
 by_cases h:v.Kind=1
 ·rw[ak h,bm h,Su];rfl
 ·rw[aj h,bn h]
theorem IW{v:bF}(h:sj v):∃ n,fL v=some (n,())∧eC v=some (n,()):=by
 obtain⟨x,e,k1,k2,_⟩:=wN v.S (by have:=h.1;omega) h.2
 have key:∀ b:Bool,∃ n,qf v.Kind b v=some (n,())∧re v.Kind b v=some (n,()):=fun b=>by
  rw[D0,Hz,k1,k2]
  cases b with
  | true=>exact⟨_,rfl,rfl⟩
  | false =>
   by_cases h2:v.Kind=2
   ·rw[bn (by decide),ak h2];exact⟨_,rfl,rfl⟩
   ·rw[bn (by decide),aj h2];exact⟨_,rfl,rfl⟩
 rw[D3,HA]
 split
 ·exact key _
 ·exact key _
theorem IH(a b:List Int):lK a b=some (dq a b,()):=by
 rw[JQ,Jd,Ji];rfl
theorem FQ:∀ a b:List Int,ltS a b=true→ltS b a=false
 | a,[],h=>by cases a <;> cases h
 | [],y::b,h=>rfl
 | x::a,y::b,h=>by
  unfold ltS at h ⊢
  rw[aU,az,ab,ab]at h
  rcases h with h | ⟨h1,h2⟩
  ·rw[ae (by omega),ae (by omega)];rfl
  ·subst h1
   rw[FQ a b h2];simp
theorem Lj(a b:List Int):dq b a=0-dq a b:=by
 unfold dq
 cases h:ltS a b with
 | true=>rw[FQ a b h];rfl
 | false =>
  cases h2:ltS b a with
  | true=>rfl
  | false=>rfl
theorem B6(b:Bool):mR b=some (if b=true then 1 else 0,()):=by rw[Av];cases b <;> rfl
theorem Lt{a b:bF}(ha:sj a)(hb:sj b):∃ c,nL a b=some (c,())∧uu a b=some (c,())∧nL b a=some (0-c,())∧(-1≤c∧c≤1):=by
 obtain⟨x,x1,x2⟩:=IW ha
 obtain⟨y,y1,y2⟩:=IW hb
 have htext:∃ c,((dZ a).bind fun(r0:(List Int)×Unit)=>(dZ b).bind fun(r1:(List Int)×Unit)=>(lK r0.1 r1.1).bind fun(r2:Int×Unit)=>some (r2.1,()))=some (c,()) ∧
   (if(ltS (ct a) (ct b))=true then some ((-1),()) else(mR (ltS (ct b) (ct a))).bind fun(r9:Int×Unit)=>some (r9.1,()))=some (c,()) ∧
   ((dZ b).bind fun(r0:(List Int)×Unit)=>(dZ a).bind fun(r1:(List Int)×Unit)=>(lK r0.1 r1.1).bind fun(r2:Int×Unit)=>some (r2.1,()))=some (0-c,())∧(-1≤c∧c≤1):=by
  refine⟨dq (ct a) (ct b),?_,?_,?_,Ch _ _⟩
  ·rw[fw,fw,aa,aa,IH];rfl
  ·rw[B6]
   unfold dq
   cases ltS (ct a) (ct b) <;> cases ltS (ct b) (ct a) <;> rfl
  ·rw[fw,fw,aa,aa,IH,Lj];rfl
 obtain⟨c,c1,c2,c3,c4⟩:=htext
 rw[Dy a b,Se,Dy b a,fE,fE]
 simp only[aa]
 by_cases ka:a.Kind=2
 ·have a1:decide (a.Kind=2)=true:=ac ka
  have a2:¬ (!decide (a.Kind=2))=true:=by rw[a1];decide
  rw[bn a2]
  by_cases kb:b.Kind=2
  ·have b1:decide (b.Kind=2)=true:=ac kb
   rw[bm a1,bm b1];exact⟨c,c1,c2,c3,c4⟩
  ·have b1:¬ decide (b.Kind=2)=true:=by rw[ab];exact kb
   rw[bm a1,bn b1,bm a1];exact⟨c,c1,c2,c3,c4⟩
 ·have a1:¬ decide (a.Kind=2)=true:=by rw[ab];exact ka
  have a2:(!decide (a.Kind=2))=true:=by rw[aS]at a1;rw[a1];rfl
  rw[bn a1,bm a2]
  by_cases kb:b.Kind=2
  ·have b1:decide (b.Kind=2)=true:=ac kb
   have b2:¬ (!decide (b.Kind=2))=true:=by rw[b1];decide
   rw[bm b1,bn b2,bm b1];exact⟨c,c1,c2,c3,c4⟩
  ·have b1:¬ decide (b.Kind=2)=true:=by rw[ab];exact kb
   have b2:(!decide (b.Kind=2))=true:=by rw[aS]at b1;rw[b1];rfl
   rw[bn b1,bm b2,bn b1,bn a1,x1,x2,y1,y2]
   simp only[aa,B6,ab]
   by_cases l1:x<y
   ·refine⟨-1,by rw[bm l1],by rw[bm l1],?_,by omega,by omega⟩
    rw[am,al];rfl
   ·by_cases l2:x>y
    ·refine⟨1,by rw[bn l1,bm l2],by rw[bn l1,bm l2],?_,by omega,by omega⟩
     rw[al];rfl
    ·refine⟨0,by rw[bn l1,bn l2],by rw[bn l1,bn l2],?_,by omega,by omega⟩
     rw[am,am];rfl
theorem eb{n:Int}(h:0≤n)(h':n≤18446744073709551615):bZ n=n:=by
 show IntKind.u64.wrap n=n
 rw[IntKind.wrap_u64];omega
theorem ke(n:Int):bZ n=n%18446744073709551616:=by
 show IntKind.u64.wrap n=_
 rw[IntKind.wrap_u64]
theorem rl(n:Int):iw n=some (if -9000000000000≤n∧n≤9000000000000 then(n,true,()) else(0,false,())):=by
 rw[TC,jc,aa]
 dsimp only
 by_cases c:-9000000000000≤n∧n≤9000000000000
 ·rw[ac c,bm c];rfl
 ·rw[ae c,bn c];rfl
def Dc(n:Int):Prop:=-9000000000000≤n∧n≤9000000000000
theorem Kh(a b:Int):zO a b=nM a b:=by
 rw[Sf,Dz,jc,jc,eH,eH,rl,qu]
theorem UC(a b:Int):zS a b=sS a b:=by
 rw[Sp,DE,jc,jc,eH,eH,rl,qu]
theorem LP(a b:Int):zP a b=p9 a b:=by
 rw[Sg,DA,jc,jc,eH,eH,rl,qu]
theorem pG{n:Int}(h:0≤n)(h':n≤18446744073709551615):Go.bits .and .u64 n 4294967295=n%4294967296 :=
 bits_mask .u64 64 (by decide) (fun n h₀ h₁=>eb h₀ (by omega)) 32 (by decide) n h (by omega)
theorem AM{n:Int}:d9 .u64 n 44=(n*17592186044416)%18446744073709551616:=ke _
theorem Ur{n:Int}:de .u64 n 20=n/1048576:=by
 show n.fdiv 1048576=_
 rw[Int.fdiv_eq_ediv_of_nonneg _ (by decide)]
theorem rD{n:Int}:de .u64 n 32=n/4294967296:=by
 show n.fdiv 4294967296=_
 rw[Int.fdiv_eq_ediv_of_nonneg _ (by decide)]
theorem Q3{h l:Int}(h0:0≤h)(h1:h<1048576)(l0:0≤l)(l1:l<17592186044416):Go.bits .or .u64 (h*17592186044416) l=h*17592186044416+l:=by
 obtain⟨a,rfl⟩:=Int.eq_ofNat_of_zero_le h0
 obtain⟨b,rfl⟩:=Int.eq_ofNat_of_zero_le l0
 have e:=(bits_nat .u64 64 (by decide) (fun n h₀ h₁=>eb h₀ (by omega)) (a*17592186044416) b (by omega) (by omega)).2
 have e2:=Nat.two_pow_add_eq_or_of_lt (i:=44) (b:=b) (by omega) a
 have e3:((a*17592186044416:Nat):Int)=(a:Int)*17592186044416:=by omega
 rw[← e3,e]
 have e4:2 ^ 44*a=a*17592186044416:=by omega
 rw[e4]at e2
 rw[← e2,Int.natCast_add]
theorem QA{x y:Int}(x0:0≤x)(x1:x≤9000000000000)(y0:0≤y)(y1:y≤9000000000000):vN x y=some (x*y/18446744073709551616,x*y%18446744073709551616,()):=by
 rw[Vi]
 have hx:x=4294967296*(x/4294967296)+x%4294967296:=by omega
 have hy:y=4294967296*(y/4294967296)+y%4294967296:=by omega
 rw[rD,rD,pG x0 (by omega),pG y0 (by omega)]
 have a0:0≤x/4294967296:=by omega
 have a1:x/4294967296≤2100:=by omega
 have b0:0≤x%4294967296:=by omega
 have b1:x%4294967296≤4294967295:=by omega
 have c0:0≤y/4294967296:=by omega
 have c1:y/4294967296≤2100:=by omega
 have d0:0≤y%4294967296:=by omega
 have d1:y%4294967296≤4294967295:=by omega
 have hp:x*y=(x/4294967296*(y/4294967296))*18446744073709551616+(x/4294967296*(y%4294967296))*4294967296+(x%4294967296*(y/4294967296))*4294967296+x%4294967296*(y%4294967296):=by
  generalize x/4294967296=a at *
  generalize x%4294967296=b at *
  generalize y/4294967296=c at *
  generalize y%4294967296=d at *
  subst hx;subst hy
  grind
 rw[hp]
 have m1:=Int.mul_nonneg a0 c0
 have m2:=Int.mul_nonneg a0 d0
 have m3:=Int.mul_nonneg b0 c0
 have m4:=Int.mul_nonneg b0 d0
 have n1:=Int.mul_le_mul a1 c1 c0 (by decide)
 have n2:=Int.mul_le_mul a1 d1 d0 (by decide)
 have n3:=Int.mul_le_mul b1 c1 c0 (by decide)
 have n4:=Int.mul_le_mul b1 d1 d0 (by decide)
 generalize x/4294967296*(y/4294967296)=p11 at *
 generalize x/4294967296*(y%4294967296)=p10 at *
 generalize x%4294967296*(y/4294967296)=p01 at *
 generalize x%4294967296*(y%4294967296)=p00 at *
 clear hp hx hy a0 a1 b0 b1 c0 c1 d0 d1 x0 x1 y0 y1
 simp only[rD]
 rw[eb m1 (by omega),eb m2 (by omega),eb m3 (by omega),eb m4 (by omega)]
 rw[eb (n:=p10+p00/4294967296) (by omega) (by omega),pG (by omega) (by omega),eb (n:=(p10+p00/4294967296)%4294967296+p01) (by omega) (by omega),
  eb (n:=p11+(p10+p00/4294967296)/4294967296) (by omega) (by omega),eb (n:=p11+(p10+p00/4294967296)/4294967296+((p10+p00/4294967296)%4294967296+p01)/4294967296) (by omega) (by omega),ke]
 congr 2
 omega
theorem Qn:A7 1000000=some (44,()):=by
 rw[Ve,Vh,bn (by decide),Vf,bm (by decide),Vg,bn (by decide),bm (by decide)]
 rfl
theorem LO{p:Int}(p0:0≤p)(p1:p/18446744073709551616<1000000):∃ r,vH (p/18446744073709551616) (p%18446744073709551616) 1000000=some (p/1000000%18446744073709551616,r,()):=by
 have hh0:0≤p/18446744073709551616:=by omega
 have hl0:0≤p%18446744073709551616:=by omega
 have hl1:p%18446744073709551616≤18446744073709551615:=by omega
 have hpp:p=p/18446744073709551616*18446744073709551616+p%18446744073709551616:=by omega
 generalize p/18446744073709551616=h at *
 generalize p%18446744073709551616=l at *
 subst hpp
 rw[Vd,bn (by decide),U7,ap,U8]
 by_cases c:h=0
 ·subst c
  rw[bm (by decide),bm (by decide),bm (by decide),ba hl0,ke,Int.zero_mul,Int.zero_add]
  exact⟨_,rfl⟩
 ·rw[aj c,Qn,aa]
  dsimp only
  have k1:bZ 44=44:=eb (by decide) (by decide)
  have k2:bZ (64-44)=20:=eb (by decide) (by decide)
  have k3:d9 .u64 1000000 44=17592186044416000000:=by rw[AM];rfl
  have k4:de .u64 17592186044416000000 32=4096000000:=by rw[rD];rfl
  have k5:Go.bits .and .u64 17592186044416000000 4294967295=0:=by rw[pG (by decide) (by decide)];rfl
  have k6:d9 .u64 h 44=h*17592186044416:=by rw[AM];omega
  have k7:Go.bits .or .u64 (d9 .u64 h 44) (de .u64 l 20)=h*17592186044416+l/1048576:=by rw[k6,Ur,Q3 hh0 (by omega) (by omega) (by omega)]
  have k8:d9 .u64 l 44=(l%1048576)*17592186044416:=by rw[AM];omega
  have k9:de .u64 ((l%1048576)*17592186044416) 32=(l%1048576)*4096:=by rw[rD];omega
  have k10:Go.bits .and .u64 ((l%1048576)*17592186044416) 4294967295=0:=by rw[pG (by omega) (by omega)];omega
  rw[k1,k2,bm (by decide),bm (by decide),bm (by decide),bm (by decide),k3,k4,k5,k7,k8,k9,k10,bm (by decide)]
  have u0:0≤h*17592186044416+l/1048576:=by omega
  have u1:h*17592186044416+l/1048576<17592186044416000000:=by omega
  have t0:0≤(l%1048576)*4096:=by omega
  have t1:(l%1048576)*4096<4294967296:=by omega
  have hN:(h*17592186044416+l/1048576)*4294967296+(l%1048576)*4096=(h*18446744073709551616+l)*4096:=by omega
  generalize h*17592186044416+l/1048576=u at *
  generalize (l%1048576)*4096=v at *
  generalize h*18446744073709551616+l=P at *
  clear k6 k7 k8 k9 k10 k1 k2 k3 k4 k5
  rw[ba u0]
  have q0:bZ (u/4096000000)=u/4096000000:=eb (by omega) (by omega)
  have q1:bZ (u/4096000000*4096000000)=u/4096000000*4096000000:=eb (by omega) (by omega)
  have q2:bZ (u-u/4096000000*4096000000)=u%4096000000:=by rw[eb (by omega) (by omega)];omega
  rw[q0,q1,q2,U9,ap,Int.mul_zero,ke 0,bn (by rw[ab,ke];omega),Va,bm (by decide)]
  have q3:bZ (bZ (bZ (u*4294967296)+v)-bZ (u/4096000000*17592186044416000000))=(u%4096000000)*4294967296+v:=by
   simp only[ke];omega
  rw[q3]
  have w0:0≤(u%4096000000)*4294967296+v:=by omega
  have w1:(u%4096000000)*4294967296+v<17592186044416000000:=by omega
  have w2:(u/4096000000)*4294967296+((u%4096000000)*4294967296+v)/4096000000=P/1000000:=by omega
  generalize hW:(u%4096000000)*4294967296+v=W at *
  rw[ba w0]
  have r0:bZ (W/4096000000)=W/4096000000:=eb (by omega) (by omega)
  have r1:bZ (W/4096000000*4096000000)=W/4096000000*4096000000:=eb (by omega) (by omega)
  have r2:bZ (W-W/4096000000*4096000000)=W%4096000000:=by rw[eb (by omega) (by omega)];omega
  rw[r0,r1,r2,Vb,ap,Int.mul_zero,ke 0,bn (by rw[ab,ke];omega),Vc,bm (by decide)]
  rw[eb (n:=u/4096000000*4294967296) (by omega) (by omega),ke (_+_),w2]
  exact⟨_,rfl⟩
theorem sm{a:Int}(h:Dc a):ta a=some (if a<0 then 0-a else a,()):=by
 unfold Dc at h
 rw[NI]
 by_cases c:a<0
 ·rw[ak c,bm c,aq,eb (by omega) (by omega)]
 ·rw[aj c,bn c,eb (by omega) (by omega)]
theorem BJ{a:Int}(h:Dc a):oV a=some (if a<0 then 0-a else a,()):=by
 unfold Dc at h
 rw[HQ]
 by_cases c:a<0
 ·rw[ak c,bm c,aq]
 ·rw[aj c,bn c]
def oB(x y:Int)(n:Bool):Option (Int×Bool×Unit):=if x*y/1000000>9000000000000 then some (0,false,())else if n=true then some (0-x*y/1000000,true,())else some (x*y/1000000,true,())
theorem FY{x y:Int}(x0:0≤x)(x1:x≤9000000000000)(y0:0≤y)(y1:y≤9000000000000)(n:Bool) :
  ((vN x y).bind fun(r4:Int×Int×Unit) =>
   if(decide (r4.1≥1000000))=true then
    some (0,false,())
   else
    (vH r4.1 r4.2.1 1000000).bind fun(r5:Int×Int×Unit) =>
    if(decide (r5.1>9000000000000))=true then
     some (0,false,())
    else
     if n=true then
      some ((w64 (0-(w64 r5.1))),true,())
     else
      some ((w64 r5.1),true,()))=oB x y n:=by
 have p0:=Int.mul_nonneg x0 y0
 rw[QA x0 x1 y0 y1,aa]
 dsimp only
 unfold oB
 generalize x*y=p at *
 by_cases c:p/18446744073709551616≥1000000
 ·rw[ak c,al]
 ·obtain⟨r,e⟩:=LO p0 (by omega)
  rw[aj c,e,aa]
  dsimp only
  have hm:p/1000000%18446744073709551616=p/1000000:=by omega
  rw[hm]
  by_cases d:p/1000000>9000000000000
  ·rw[ak d,bm d]
  ·rw[aj d,bn d,aq (n:=p/1000000),aq]
theorem FZ{x y:Int}(x0:0≤x)(x1:x≤9000000000000)(y0:0≤y)(y1:y≤9000000000000)(hw:x/1000000*y≤9000000000000) :
  w64 ((w64 ((w64 (Int.tdiv x 1000000))*y))+(w64 (Int.tdiv (w64 ((Int.tmod x 1000000)*y)) 1000000)))=x*y/1000000∧x*y/1000000≤18100000000000:=by
 have hx:x=1000000*(x/1000000)+x%1000000:=by omega
 have hp:x*y=1000000*(x/1000000*y)+x%1000000*y:=by
  generalize x/1000000=a at *
  generalize x%1000000=b at *
  subst hx
  grind
 have m0:0≤x/1000000*y:=Int.mul_nonneg (by omega) y0
 have r0:0≤x%1000000*y:=Int.mul_nonneg (by omega) y0
 have r1:x%1000000*y≤999999*9000000000000:=Int.mul_le_mul (by omega) y1 y0 (by decide)
 rw[ba x0,Int.tmod_eq_emod_of_nonneg x0,aq (n:=x/1000000),hp]
 generalize x/1000000*y=a at *
 generalize x%1000000*y=b at *
 rw[aq (n:=a),aq (n:=b),ba r0,aq (n:=b/1000000),aq]
 omega
theorem F7{x y:Int}(n:Bool)(h0:0≤x*y/1000000)(h1:x*y/1000000≤18100000000000) :
  (if n=true then(iw (w64 (0-(x*y/1000000)))).bind fun(r4:Int×Bool×Unit)=>some (r4.1,r4.2.1,()) else(iw (x*y/1000000)).bind fun(r5:Int×Bool×Unit)=>some (r5.1,r5.2.1,()))=oB x y n:=by
 unfold oB
 generalize x*y/1000000=q at *
 rw[rl,rl,aq]
 have h2:(q>9000000000000)∨(q≤9000000000000):=by omega
 rcases h2 with c | c
 ·have d1:¬ (-9000000000000≤0-q∧0-q≤9000000000000):=by omega
  have d2:¬ (-9000000000000≤q∧q≤9000000000000):=by omega
  simp only[bm c,bn d1,bn d2,aa,ite_self]
 ·have c':¬ q>9000000000000:=by omega
  have d1:-9000000000000≤0-q∧0-q≤9000000000000:=by omega
  have d2:-9000000000000≤q∧q≤9000000000000:=by omega
  simp only[bn c',bm d1,bm d2,aa]
theorem QB(a b:Int):zR a b=sR a b:=by
 rw[Sm,DB,jc,jc,eH,eH]
 simp only[aa]
 by_cases ha:Dc a
 ·have ha':=ha
  unfold Dc at ha'
  simp only[ac ha',Bool.not_true,Bool.false_eq_true,if_false]
  by_cases hb:Dc b
  ·have hb':=hb
   unfold Dc at hb'
   simp only[ac hb',Bool.not_true,Bool.false_eq_true,if_false,BJ ha,BJ hb,sm ha,sm hb,aa]
   have x0:0≤(if a<0 then 0-a else a):=by split <;> omega
   have x1:(if a<0 then 0-a else a)≤9000000000000:=by split <;> omega
   have y0:0≤(if b<0 then 0-b else b):=by split <;> omega
   have y1:(if b<0 then 0-b else b)≤9000000000000:=by split <;> omega
   generalize (if a<0 then 0-a else a)=x at *
   generalize (if b<0 then 0-b else b)=y at *
   generalize (!(decide ((decide (a<0))=(decide (b<0)))))=n
   rw[FY x0 x1 y0 y1 n]
   have p0:=Int.mul_nonneg x0 y0
   by_cases c:y>0
   ·have hx:x=1000000*(x/1000000)+x%1000000:=by omega
    have hp:x*y=1000000*(x/1000000*y)+x%1000000*y:=by
     generalize x/1000000=a at *
     generalize x%1000000=b at *
     subst hx
     grind
    have r0:0≤x%1000000*y:=Int.mul_nonneg (by omega) y0
    have hM:(0:Int)≤9000000000000/y:=Int.ediv_nonneg (by decide) y0
    have hM1:9000000000000/y≤9000000000000:=Int.ediv_le_self _ (by decide)
    rw[ak c,al,ba (a:=x) x0,ba (a:=9000000000000) (by decide),aq (n:=x/1000000),aq (n:=9000000000000/y)]
    by_cases d:x/1000000>9000000000000/y
    ·rw[ak d]
     have:¬ (x/1000000*y≤9000000000000):=fun h=>by
      have:=(Int.le_ediv_iff_mul_le c).2 h
      omega
     unfold oB
     rw[bm]
     rw[hp];omega
    ·have hw:=(Int.le_ediv_iff_mul_le c).1 (show x/1000000≤9000000000000/y by omega)
     obtain⟨e1,e2⟩:=FZ x0 x1 y0 y1 hw
     rw[ba (a:=x) x0,aq (n:=x/1000000)]at e1
     rw[aj d,e1]
     exact F7 n (by omega) e2
   ·have hy:y=0:=by omega
    obtain⟨e1,e2⟩:=FZ x0 x1 y0 y1 (by rw[hy];simp)
    rw[aj c,e1]
    exact F7 n (by omega) e2
  ·have hb':=hb
   unfold Dc at hb'
   simp only[ae hb',Bool.not_false,if_true]
 ·have ha':=ha
  unfold Dc at ha'
  simp only[ae ha',Bool.not_false,if_true]
def spl:List Int→List (List Int)
 | []=>[[]]
 | c::l=>if c=32 then []::spl l else((c::(spl l).getD 0 [])::(spl l).drop 1)
def pre(w:List Int):List (List Int)→List (List Int)
 | []=>[w]
 | x::xs=>(w++x)::xs
def ne(w:List Int):Bool:=!decide (w=[])
def dh(l:List Int):List (List Int):=(spl l).filter ne
theorem vo(l:List Int):∃ x xs,spl l=x::xs:=by
 cases l with
 | nil=>exact⟨_,_,rfl⟩
 | cons c l=>rw[spl];split <;> exact⟨_,_,rfl⟩
theorem rG{c:Int}(h:c≠32)(l:List Int):spl (c::l)=pre [c] (spl l):=by
 obtain⟨x,xs,e⟩:=vo l
 rw[spl,bn h,e];rfl
theorem Rm(a b:List Int)(l:List (List Int)):pre a (pre b l)=pre (a++b) l:=by
 cases l with
 | nil=>rfl
 | cons x xs=>show(a++(b++x))::xs=_;rw[← ah];rfl
theorem GI(l:List Int):pre [] (spl l)=spl l:=by
 obtain⟨x,xs,e⟩:=vo l
 rw[e];rfl
theorem vt:∀ l:List Int,(spl l).length=l.count 32+1
 | []=>rfl
 | c::l=>by
  by_cases h:c=32
  ·subst h;rw[spl,bm rfl,aR,vt l,List.count_cons_self]
  ·obtain⟨x,xs,e⟩:=vo l
   rw[rG h,List.count_cons_of_ne h,← vt l,e];rfl
theorem tW{w:List Int}(h:w≠[]):ne w=true:=by unfold ne;rw[ae h];rfl
theorem SU(t:List Int)(ht:t.length≤4294967290):∀ (d i f:Nat) (acc:List (List Int)),i+d=t.length→f≤i→acc.length≤i→jd t acc (f:Int) (i:Int)=some (acc++(pre ((t.drop f).take (i-f)) (spl (t.drop i))).filter ne,()):=by
 have fin:∀ (acc:List (List Int)) (a:Int) (b:Nat),t.length<b→jd t acc a (b:Int)=some (acc,()):=fun acc a b hb=>by rw[zV,ap]
 intro d
 induction d with
 | zero =>
  intro i f acc hi hf ha
  have hw:w64 ((i:Int)+1)=((i+1:Nat):Int):=by rw[aq];omega
  rw[zV,an,ap,hw,aW (i:=i) (by omega)]
  show _=some (acc++List.filter ne [(t.drop f).take (i-f)++[]],())
  rw[aH]
  by_cases c:f<i
  ·have hne:(t.drop f).take (i-f)≠[]:=fun e=>by
    have:=congrArg List.length e
    rw[aP,aQ]at this
    simp only[List.length_nil]at this
    omega
   rw[an,al,bm (by rw[cg];omega),fin _ _ _ (by omega),List.filter_cons_of_pos (tW hne),af,af]
   rfl
  ·rw[ap,fin _ _ _ (by omega),show i-f=0 by omega,List.take_zero,List.filter_cons_of_neg (by decide)]
   rw[List.filter_nil,aH]
 | succ d ih =>
  intro i f acc hi hf ha
  have hi':i<t.length:=by omega
  have hw:w64 ((i:Int)+1)=((i+1:Nat):Int):=ch hi' (by omega)
  rw[zV,an,an,al,ci hi',hw,ai hi']
  have hstep:(t.drop f).take (i+1-f)=(t.drop f).take (i-f)++[t[i]]:=by
   rw[show i+1-f=(i-f)+1 by omega,List.take_add_one,List.getElem?_drop,show f+(i-f)=i by omega,List.getElem?_eq_getElem hi'];rfl
  by_cases c:t[i]=32
  ·rw[bn (by rw[c];decide),c,spl,bm rfl]
   show _=some (acc++List.filter ne (((t.drop f).take (i-f)++[])::spl (t.drop (i+1))),())
   rw[aH]
   have hrec:∀ acc:List (List Int),acc.length≤i+1→jd t acc ((i+1:Nat):Int) ((i+1:Nat):Int)=some (acc++(spl (t.drop (i+1))).filter ne,()):=fun acc ha=>by
    have:=ih (i+1) (i+1) acc (by omega) (aG _) ha
    rwa [Nat.sub_self,List.take_zero,GI]at this
   by_cases c2:f<i
   ·have hne:(t.drop f).take (i-f)≠[]:=fun e=>by
     have:=congrArg List.length e
     rw[aP,aQ]at this
     simp only[List.length_nil]at this
     omega
    rw[an,al,bm (by rw[cg];omega),List.filter_cons_of_pos (tW hne),af,af]
    have:=hrec (acc++[(t.drop f).take (i-f)]) (by simp;omega)
    rw[ah]at this
    exact this
   ·rw[ap,show i-f=0 by omega,List.take_zero,List.filter_cons_of_neg (by decide)]
    exact hrec acc (by omega)
  ·rw[bm (by simp[c]),rG c,Rm,← hstep]
   exact ih (i+1) f acc (by omega) (by omega) (by omega)
theorem SV(t:List Int)(ht:t.length≤4294967290):zU t=some (dh t,()):=by
 rw[Sv]
 have:=SU t ht t.length 0 0 [] (by omega) (aG _) (aG _)
 rw[aM,Nat.sub_zero,List.take_zero,GI,bg]at this
 exact this
theorem yh:∀ l:List Int,(32∉l∧cD l [32] = -1∧spl l=[l])∨(∃ w r,l=w++32::r∧cD l [32]=(w.length:Int)∧spl l=w::spl r∧l.count 32=r.count 32+1)
 | []=>.inl ⟨by simp,rfl,rfl⟩
 | c::l=>by
  by_cases h:c=32
  ·subst h
   refine .inr ⟨[],l,rfl,?_,?_,?_⟩
   ·unfold cD;rw[bm (by simp[List.isPrefixOf])];rfl
   ·rw[spl,bm rfl]
   ·rw[List.count_cons_self]
  ·have hp:¬ ([32]:List Int).isPrefixOf (c::l)=true:=by
    rw[List.isPrefixOf_iff_prefix,List.cons_prefix_cons]
    exact fun e=>h e.1.symm
   rcases yh l with ⟨h1,h2,h3⟩ | ⟨w,r,h1,h2,h3,h4⟩
   ·refine .inl ⟨by simp[h1];exact fun e=>h e.symm,?_,?_⟩
    ·unfold cD;rw[bn hp,bm h2]
    ·rw[rG h,h3];rfl
   ·refine .inr ⟨c::w,r,by rw[h1];rfl,?_,?_,?_⟩
    ·unfold cD;rw[bn hp,am,h2];simp
    ·rw[rG h,h3];rfl
    ·rw[List.count_cons_of_ne h,h4]
theorem Mn(n:Nat)(hn:n≤4294967290):∀ (k:Nat) (s:List Int) (done:List (List Int)),s.count 32=k→s.length≤4294967000→done.length+k+1=n→rR s [32] 0 ((n-1:Nat):Int) (done++List.replicate (k+1) []) (done.length:Int)=some (done++spl s,()):=by
 intro k
 induction k with
 | zero =>
  intro s done hk hs hd
  have hw:w64 ((done.length:Int)+1)=((done.length+1:Nat):Int):=by rw[aq];omega
  have hset:(done++List.replicate (0+1) ([]:List Int)).set done.length s=done++[s]:=by
   rw[List.set_append_right _ _ (aG _),Nat.sub_self];rfl
  have hsp:spl s=[s]:=by
   rcases yh s with ⟨_,_,h⟩ | ⟨w,r,_,_,_,h⟩
   ·exact h
   ·omega
  rw[JU,ap,af,hset,hw,bm (by simp;omega),bm (by simp;omega),af,a8 (by simp),hsp]
 | succ k ih =>
  intro s done hk hs hd
  have hw:w64 ((done.length:Int)+1)=((done.length+1:Nat):Int):=by rw[aq];omega
  rcases yh s with ⟨h,_,_⟩ | ⟨w,r,h1,h2,h3,h4⟩
  ·have:=List.count_eq_zero.2 h;omega
  ·have hsl:s.length=w.length+1+r.length:=by rw[h1];simp;omega
   have hw2:w64 ((w.length:Int)+0)=(w.length:Int):=by rw[aq];omega
   have hw3:w64 ((w.length:Int)+(([32]:List Int).length:Int))=((w.length+1:Nat):Int):=by rw[bV (by simp;omega) (by simp;omega)];simp
   have hset:∀ x:List Int,(done++List.replicate (k+1+1) ([]:List Int)).set done.length x=(done++[x])++List.replicate (k+1) []:=fun x=>by
    rw[List.set_append_right _ _ (aG _),Nat.sub_self,List.replicate_succ,ah];rfl
   have ht:List.take (w.length-0) (List.drop 0 s)=w:=by rw[h1];simp
   have hdr:List.take (s.length-(w.length+1)) (List.drop (w.length+1) s)=r:=by
    rw[h1,show w++32::r=(w++[32])++r by simp,List.drop_left' (by simp)]
    exact a8 (by simp;omega)
   rw[JU,an,Bk,al,aa,h2]
   dsimp only
   rw[ap,hw2,al,bm (by simp;omega),hw3,al,af,af,af,hset,ht,hdr,hw]
   have:=ih r (done++[w]) (by omega) (by omega) (by simp;omega)
   rw[ag,bj]at this
   rw[this,h3,ah]
   rfl
theorem Uw(t:List Int)(ht:t.length≤4294967000):Bl t [32]=some (spl t,()):=by
 have hc:=List.count_le_length (a:=(32:Int)) (l:=t)
 rw[VK,VQ,bn (by decide),bn (by decide),bm (by decide),VJ,bn (by simp),bm (by simp),bm (by simp),U4,aa,aa]
 dsimp only
 have hcv:eg t (List.getD [32] 0 0)=(t.count 32:Nat):=rfl
 have hw:w64 (((t.count 32:Nat):Int)+1)=((t.count 32+1:Nat):Int):=by rw[aq];omega
 have hw2:w64 ((t.length:Int)+1)=((t.length+1:Nat):Int):=by rw[aq];omega
 have hmn:mnI ((t.count 32+1:Nat):Int) ((t.length+1:Nat):Int)=((t.count 32+1:Nat):Int):=by unfold mnI;rw[am]
 have hw3:w64 (((t.count 32+1:Nat):Int)-1)=((t.count 32+1-1:Nat):Int):=by rw[aq];omega
 rw[hcv,hw,VP,hw2,hmn,bm ⟨by omega,by omega,by rw[cg];omega⟩,hw3,af]
 have:=Mn (t.count 32+1) (by omega) (t.count 32) t [] rfl ht (by simp)
 rw[bg,bg]at this
 have h0:rR t [32] 0 ((t.count 32+1-1:Nat):Int) (List.replicate (t.count 32+1) []) 0=some (spl t,()):=this
 rw[h0];rfl
theorem We{α:Type}(lo hi:Nat)(z:α)(l:List α)(h:lo≤hi)(hl:hi=l.length):(gU lo hi z l).take lo=l.take lo∧(gU lo hi z l).length=l.length:=by
 unfold gU
 have e:List.append (List.append (List.take lo l) (List.replicate (hi-lo) z)) (List.drop hi l)=(l.take lo++List.replicate (hi-lo) z)++l.drop hi:=rfl
 rw[e]
 constructor
 ·rw[ah,List.take_left' (by rw[aP];omega)]
 ·simp;omega
theorem LK(n:Nat)(hn:n≤4294967296):∀ (d j i:Nat) (t:List (List Int)),j+d=n→i<j→t.length=n→rP t (i:Int) (j:Int)=some (t.take i++(t.drop j).filter ne,()):=by
 intro d
 induction d with
 | zero =>
  intro j i t hj hi ht
  obtain⟨z1,z2⟩:=We i t.length ([]:List Int) t (by omega) rfl
  rw[Jr,ap,al,af,z2,al,z1,aW (by omega),List.filter_nil,aH]
 | succ d ih =>
  intro j i t hj hi ht
  have hj':j<t.length:=by omega
  rw[Jr,an,al,ci hj',DG,aa,ch hj' (by omega),ch (show i<t.length by omega) (by omega)]
  dsimp only
  rw[ai hj']
  by_cases c:t[j]=[]
  ·rw[bn (by simp[c]),List.filter_cons_of_neg (by rw[c];decide)]
   exact ih (j+1) i t (by omega) (by omega) ht
  ·rw[bm (by simp[c]),al,List.filter_cons_of_pos (tW c),af,ih (j+1) (i+1) _ (by omega) (by omega) (by rw[aX];exact ht)]
   congr 2
   have h1:(t.set i t[j]).take (i+1)=t.take i++[t[j]]:=by
    rw[List.take_add_one,List.take_set_of_le (aG _),List.getElem?_set_self (by omega)];rfl
   rw[h1,List.drop_set_of_lt (by omega),ah];rfl
theorem CU{l:List (List Int)}(h:∀ w∈l,w≠[]):l.filter ne=l:=List.filter_eq_self.2 fun w hw=>tW (h w hw)
theorem wQ(t:List (List Int))(ht:t.length≤4294967296):Bh t=some (t.filter ne,()):=by
 obtain⟨k,e1,e2,e3,e4,e5⟩:=im (fun i=>nl t (t.length:Int) i) () t.length (fun i=>decide (t.getD i []=[]))
  (fun i hi=>by
   show nl t _ _=_
   rw[JH,an,al,ci hi,DG,aa,cE hi,ch hi (by omega)])
  (by show nl t _ _=_;rw[JH,bn (by simp)])
 have e1':nl t (t.length:Int) 0=some (k,()):=e1
 rw[Vr,Vz,e1',aa]
 dsimp only
 by_cases c:k = -1
 ·rw[ak c,CU]
  intro w hw e
  have:dV (fun i=>decide (t.getD i []=[])) t.length=true:=by
   obtain⟨i,hi,rfl⟩:=bk.1 hw
   exact anyB_iff.2 ⟨i,hi,by rw[cE hi,e];rfl⟩
  rw[← e2,ab]at this
  omega
 ·have hk:0≤k:=by
   rcases Int.lt_or_le k 0 with h | h
   ·exact absurd (e5 h) c
   ·exact h
  obtain⟨f1,f2⟩:=e4 hk
  have hkn:k=((k.toNat:Nat):Int):=by omega
  have hkl:k.toNat<t.length:=by omega
  rw[aj c,hkn,ch hkl (by omega),LK t.length ht (t.length-(k.toNat+1)) (k.toNat+1) k.toNat t (by omega) (by omega) rfl]
  congr 2
  have hs:t=t.take k.toNat++(t[k.toNat]::t.drop (k.toNat+1)):=by rw[← ai hkl,List.take_append_drop]
  have hz:t[k.toNat]=[]:=by have:=f1;rw[cE hkl,ab]at this;exact this
  have hpre:(t.take k.toNat).filter ne=t.take k.toNat:=CU fun w hw e=>by
   obtain⟨i,hi,rfl⟩:=bk.1 hw
   rw[aP]at hi
   have:=f2 i (by omega)
   rw[List.getElem_take]at e
   rw[cE (by omega),e]at this
   cases this
  rw (occs:=.pos [3]) [hs]
  rw[List.filter_append,List.filter_cons_of_neg (by rw[hz];decide),hpre]
theorem Ec(t:List Int)(ht:t.length≤4294967000):sV t=some (dh t,()):=by
 have hc:=List.count_le_length (a:=(32:Int)) (l:=t)
 have:=vt t
 rw[Ne,Uw t ht,aa]
 dsimp only
 rw[wQ _ (by omega)]
 rfl
theorem pV(t:List Int):(dh t).length≤t.length+1:=by
 have hc:=List.count_le_length (a:=(32:Int)) (l:=t)
 have:=vt t
 have:=List.length_filter_le ne (spl t)
 unfold dh
 omega
theorem IB:∀ (l:List Int) (P:Int→Prop),(∀ x∈l,P x)→∀ w∈spl l,(∀ x∈w,P x)∧w.length≤l.length
 | [],P,h,w,hw=>by rw[aJ.1 hw];exact⟨fun x hx=>(by cases hx),aG _⟩
 | c::l,P,h,w,hw=>by
  have ih:=IB l P fun x hx=>h x (aE _ hx)
  by_cases hc:c=32
  ·rw[spl,bm hc]at hw
   rcases aK.1 hw with rfl | hw
   ·exact⟨fun x hx=>(by cases hx),Nat.zero_le _⟩
   ·exact⟨(ih w hw).1,by have:=(ih w hw).2;rw[aR];omega⟩
  ·obtain⟨x,xs,e⟩:=vo l
   rw[rG hc,e]at hw
   rcases aK.1 (show w∈([c]++x)::xs from hw)with rfl | hw
   ·obtain⟨g1,g2⟩:=ih x (by rw[e];exact aD ..)
    refine⟨fun y hy=>?_,by simp;omega⟩
    rcases aK.1 (show y∈c::x from hy)with rfl | hy
    ·exact h _ (aD ..)
    ·exact g1 y hy
   ·obtain⟨g1,g2⟩:=ih w (by rw[e];exact aE _ hw)
    exact⟨g1,by rw[aR];omega⟩
theorem CP{l:List Int}{P:Int→Prop}(h:∀ x∈l,P x){w:List Int}(hw:w∈dh l):(∀ x∈w,P x)∧w.length≤l.length:=IB l P h w (List.mem_filter.1 hw).1
def VG(v:bF):Prop:=eQ v=true∧Bt v.S
theorem VG.bd{v:bF}(h:VG v):Dc v.N∧v.S.length≤300:=by
 have h1:=h.1
 unfold eQ at h1
 rw[az,az,ab,Bool.not_eq_true',decide_eq_false_iff_not]at h1
 exact⟨h1.1.1,by have:=h1.1.2;omega⟩
theorem VG.drawn{v:bF}(h:VG v):sj v:=⟨by have:=h.bd.2;omega,h.2⟩
theorem g9{n:Int}(h:Dc n):VG ⟨1,n,[]⟩:=by
 refine⟨?_,fun x hx=>by cases hx⟩
 unfold eQ
 unfold Dc at h
 simp[h]
theorem pE{s:List Int}(h:s.length≤300)(hb:Bt s):VG ⟨2,0,s⟩:=by
 refine⟨?_,hb⟩
 unfold eQ
 simp;omega
theorem pD:VG ⟨0,0,[]⟩:=by
 refine⟨?_,fun x hx=>by cases hx⟩
 unfold eQ
 simp
noncomputable def cJ(v:bF):Int:=match fL v with
 | some (n,_)=>n
 | none=>0
theorem dA{v:bF}(h:VG v):fL v=some (cJ v,())∧eC v=some (cJ v,())∧Dc (cJ v):=by
 have key:∃ n,fL v=some (n,())∧eC v=some (n,())∧Dc n:=by
  obtain⟨hn,hs⟩:=h.bd
  obtain⟨x,e,k1,k2,_,k3⟩:=wN v.S (by omega) h.2
  rw[D3,HA]
  have key:∀ b:Bool,∃ n,qf v.Kind b v=some (n,())∧re v.Kind b v=some (n,())∧Dc n:=fun b=>by
   rw[D0,Hz,k1,k2]
   cases b with
   | true=>exact⟨_,rfl,rfl,hn⟩
   | false =>
    by_cases h2:v.Kind=2
    ·rw[bn (by decide),ak h2];exact⟨_,rfl,rfl,k3⟩
    ·rw[bn (by decide),aj h2];exact⟨_,rfl,rfl,by unfold Dc;omega⟩
  by_cases h1:v.Kind=1
  ·rw[ak h1,ak h1];exact key _
  ·rw[aj h1,aj h1];exact key _
 obtain⟨n,e1,e2,e3⟩:=key
 have:cJ v=n:=by unfold cJ;rw[e1]
 rw[this]
 exact⟨e1,e2,e3⟩
theorem Cu(n:Nat):Bt (eh n):=fun x hx=>by have:=(Cv n).1 x hx;omega
theorem UN(c:Int)(l:List Int):∀ x∈eP c l,x∈l:=fun x hx=>by
 unfold eP at hx
 rw[List.mem_reverse]at hx
 have:=(List.dropWhile_sublist _).subset hx
 rwa [List.mem_reverse]at this
theorem LG(n:Int):Bt (jp n):=by
 intro x hx
 unfold jp at hx
 split at hx
 ·rcases aA.1 hx with hx | hx
  ·split at hx
   ·rw[aJ.1 hx];omega
   ·cases hx
  ·unfold l8 at hx
   rcases aA.1 hx with hx | hx
   ·exact Cu _ x hx
   ·unfold nK at hx
    split at hx
    ·rcases aK.1 hx with rfl | hx
     ·omega
     ·exact Cu _ x (List.mem_of_mem_drop (UN _ _ x hx))
    ·cases hx
 ·cases hx
theorem eO{v:bF}(h:VG v):(ct v).length≤300∧Bt (ct v):=by
 unfold ct
 split
 ·have:=LH v.N;exact⟨by omega,LG _⟩
 ·exact⟨h.bd.2,h.2⟩
def lF(v:bF):Bool:=if v.Kind=1∨v.Kind=3 then !decide (v.N=0)else if v.Kind=2 then !decide (v.S=[])else false
theorem pd(v:bF):qg v=some (lF v,())∧rf v=some (lF v,()):=by
 rw[NG,SQ]
 simp only[NF,SO]
 unfold lF
 by_cases c1:v.Kind=1
 ·simp[c1]
 by_cases c3:v.Kind=3
 ·simp[c3]
 by_cases c2:v.Kind=2
 ·simp[c2]
 simp[c1,c2,c3]
noncomputable def fJ(a b:bF):Int:=match nL a b with
 | some (n,_)=>n
 | none=>0
theorem Cj{a b:bF}(ha:VG a)(hb:VG b):nL a b=some (fJ a b,())∧uu a b=some (fJ a b,()):=by
 obtain⟨c,e1,e2,_⟩:=Lt ha.drawn hb.drawn
 have:fJ a b=c:=by unfold fJ;rw[e1]
 rw[this];exact⟨e1,e2⟩
noncomputable def lt(s:List Int):bF:=match ml s with
 | some (v,_)=>v
 | none=>bU
theorem oI{s:List Int}(hs:s.length≤9223372036854775807)(hb:Bt s):ml s=some (lt s,())∧mO s=some (lt s,())∧VG (lt s):=by
 obtain⟨w,k1,k2⟩:=RD s hs hb
 have:lt s=w:=by unfold lt;rw[k2]
 rw[this]
 have hbt:Bt (s.take 300):=fun x hx=>hb x (List.mem_of_mem_take hx)
 have hl:(s.take 300).length≤300:=by rw[aP];omega
 have hd:decide (((s.take 300).length:Int)>300)=false:=ae (by omega)
 obtain⟨v,ok,l1,l2,l3⟩:=wO (s.take 300) (by omega) hbt
 refine⟨k2,k1,?_⟩
 rw[DU,wM s hs,aa]at k2
 dsimp only at k2
 rw[l2,aa]at k2
 dsimp only at k2
 have e:iY (s.take 300)=(v,ok):=by unfold iY;rw[l1]
 cases ok with
 | true =>
  have hw:bF.mk 3 v (s.take 300)=w:=congrArg Prod.fst (aN k2)
  subst hw
  refine⟨?_,hbt⟩
  unfold eQ
  dsimp only
  rw[ac l3,e,hd,ac (show(v,true).1=v from rfl)]
  rfl
 | false =>
  rw[bn (by decide),kW,aa]at k2
  have hw:bF.mk 2 0 (s.take 300)=w:=congrArg Prod.fst (aN k2)
  subst hw
  refine⟨?_,hbt⟩
  unfold eQ
  dsimp only
  rw[ac (show(-9000000000000:Int)≤0∧(0:Int)≤9000000000000 by omega),hd]
  rfl
def fc(v:bF):List Int:=(ct v).take 300
theorem EX(v:bF):(fc v).length≤300:=by unfold fc;rw[aP];omega
theorem iV{v:bF}(h:VG v):kN (ct v)=some (fc v,())∧oS v=some (fc v,()):=by
 have hl:=(eO h).1
 refine⟨wM _ (by omega),?_⟩
 rw[Tc,fE,aa]
 dsimp only
 unfold fc
 rw[ap,a8 hl]
theorem IU{n:Int}(h:Dc n):-9000000≤Int.tdiv n 1000000∧Int.tdiv n 1000000≤9000000:=by
 unfold Dc at h
 rcases Int.lt_or_le n 0 with c | c
 ·have e:Int.tdiv n 1000000 = -(Int.tdiv (-n) 1000000):=by rw[Int.neg_tdiv,Int.neg_neg]
  rw[e,ba (by omega)];omega
 ·rw[ba c];omega
theorem UM{n:Int}(h:Dc n):-1000000<Int.tmod n 1000000∧Int.tmod n 1000000<1000000:=by
 have h1:=Int.tmod_lt_of_pos n (show(0:Int)<1000000 by decide)
 have h2:-1000000<Int.tmod n 1000000:=by
  have h3:=Int.tmod_lt_of_pos (-n) (show(0:Int)<1000000 by decide)
  rw[Int.neg_tmod]at h3
  omega
 exact⟨h2,h1⟩
theorem sA{n:Int}(h:Dc n):sQ n=some (Int.tdiv n 1000000*1000000,())∧zQ n=some (Int.tdiv n 1000000*1000000,())∧Dc (Int.tdiv n 1000000*1000000):=by
 have hb:=IU h
 have hm:=UM h
 have hd:1000000*Int.tdiv n 1000000+Int.tmod n 1000000=n:=Int.mul_tdiv_add_tmod n 1000000
 have hsame:0≤n→0≤Int.tmod n 1000000:=fun h0=>Int.tmod_nonneg _ h0
 have hneg:n≤0→Int.tmod n 1000000≤0:=fun h0=>by
  have:Int.tmod n 1000000 = -(Int.tmod (-n) 1000000):=by rw[Int.neg_tmod,Int.neg_neg]
  rw[this]
  have:=Int.tmod_nonneg (a:=-n) 1000000 (by omega)
  omega
 unfold Dc at h ⊢
 rw[M8,Sk,aq (n:=Int.tdiv n 1000000),aq (n:=Int.tdiv n 1000000*1000000),show n-Int.tmod n 1000000=Int.tdiv n 1000000*1000000 by omega,aq]
 exact⟨rfl,rfl,by omega⟩
noncomputable def dB(v:bF):Int:=Int.tdiv (cJ v) 1000000
theorem pe{v:bF}(h:VG v):qz v=some (dB v,())∧w64 (Int.tdiv (cJ v) 1000000)=dB v∧(-9000000≤dB v∧dB v≤9000000):=by
 obtain⟨e1,e2,e3⟩:=dA h
 have hb:=IU e3
 have e4:=(sA e3).1
 unfold dB
 refine⟨?_,aq,hb⟩
 rw[OU,e1,aa]
 dsimp only
 rw[e4,aa]
 dsimp only
 rw[Int.mul_tdiv_cancel _ (by decide),aq]
noncomputable def pU(line:List Int)(n:Int):bF :=
 if n=0 then lt line else if 1≤n∧n≤((dh line).length:Int)then lt ((dh line).getD (n-1).toNat [])else lt []
theorem CO{line:List Int}(hl:line.length≤4294967000)(hb:Bt line)(n:Int):xK line n=some (pU line n,())∧VG (pU line n):=by
 have hf:=pV line
 obtain⟨r1,_,r3⟩:=oI (s:=line) (by omega) hb
 obtain⟨z1,_,z3⟩:=oI (s:=[]) (by simp) (fun x hx=>by cases hx)
 rw[NX]
 unfold pU
 by_cases c:n=0
 ·rw[ak c,bm c,r1];exact⟨rfl,r3⟩
 ·rw[aj c,bn c,Ec line hl,aa,eI,aa]
  dsimp only
  by_cases d:1≤n∧n≤((dh line).length:Int)
  ·have hi:(n-1).toNat<(dh line).length:=by omega
   obtain⟨g1,g2⟩:=CP (P:=fun x=>0≤x∧x≤255) hb (aV hi)
   obtain⟨q1,_,q3⟩:=oI (s:=(dh line)[(n-1).toNat]) (by omega) g1
   rw[ak d,bm d,aq,al,cE hi,q1]
   exact⟨rfl,q3⟩
  ·rw[aj d,bn d,z1];exact⟨rfl,z3⟩
theorem y9:∀ a b:List Int,ltS a b=false→ltS b a=false→a=b
 | [],[],_,_=>rfl
 | [],y::b,h,_=>by cases h
 | x::a,[],_,h=>by cases h
 | x::a,y::b,h,g=>by
  unfold ltS at h g
  rw[Bool.or_eq_false_iff,decide_eq_false_iff_not]at h g
  have e:x=y:=by omega
  subst e
  rw[ac rfl,Bool.true_and]at h g
  rw[y9 a b h.2 g.2]
theorem FR:∀ a b c:List Int,ltS a b=true→ltS b c=true→ltS a c=true
 | a,[],c,h,_=>by cases a <;> cases h
 | a,y::b,[],_,h=>by cases h
 | [],y::b,z::c,_,_=>rfl
 | x::a,y::b,z::c,h,g=>by
  unfold ltS at h g ⊢
  rw[aU,az,ab,ab]at h g ⊢
  rcases h with h | ⟨h1,h2⟩
  ·rcases g with g | ⟨g1,g2⟩
   ·exact .inl (by omega)
   ·exact .inl (by omega)
  ·rcases g with g | ⟨g1,g2⟩
   ·exact .inl (by omega)
   ·exact .inr ⟨by omega,FR a b c h2 g2⟩
theorem wE{a b:bo}:dl a b=true↔a.Name<b.Name∨(a.Name=b.Name∧ltS a.Key b.Key=true):=by
 unfold dl
 rw[aU,az,ab,ab]
theorem wF{a b c:bo}(h:dl a b=true)(g:dl b c=true):dl a c=true:=by
 rw[wE]at *
 rcases h with h | ⟨h1,h2⟩
 ·rcases g with g | ⟨g1,g2⟩
  ·exact .inl (by omega)
  ·exact .inl (by omega)
 ·rcases g with g | ⟨g1,g2⟩
  ·exact .inl (by omega)
  ·exact .inr ⟨by omega,FR _ _ _ h2 g2⟩
theorem K2{a b:bo}(h:dl a b=false)(hk:¬ (a.Name=b.Name∧a.Key=b.Key)):dl b a=true:=by
 rw[wE]
 have h':¬ (a.Name<b.Name∨(a.Name=b.Name∧ltS a.Key b.Key=true)):=by rw[← wE,h];decide
 by_cases c:b.Name<a.Name
 ·exact .inl c
 ·have e:b.Name=a.Name:=by
   rcases Int.lt_trichotomy a.Name b.Name with h | h | h
   ·exact absurd (.inl h) h'
   ·exact h.symm
   ·omega
  refine .inr ⟨e,?_⟩
  cases g:ltS b.Key a.Key with
  | true=>rfl
  | false =>
   have g2:ltS a.Key b.Key=false:=by
    cases g3:ltS a.Key b.Key with
    | false=>rfl
    | true=>exact absurd (.inr ⟨e.symm,g3⟩) h'
   exact absurd ⟨e.symm,y9 _ _ g2 g⟩ hk
theorem KB(a b:bo)(hk:¬ (a.Name=b.Name∧a.Key=b.Key)):∃ k,qi a b=some (k,())∧decide (k>0) = !dl a b:=by
 rw[D9,II,aa]
 unfold dl
 by_cases h:a.Name<b.Name
 ·rw[ak h,ac h];exact⟨_,rfl,rfl⟩
 ·rw[aj h,ae h]
  by_cases g:a.Name>b.Name
  ·rw[ak g,ae (by omega)];exact⟨_,rfl,rfl⟩
  ·have e:a.Name=b.Name:=by omega
   rw[aj g,ac e]
   refine⟨_,rfl,?_⟩
   dsimp only
   unfold dq
   cases h1:ltS a.Key b.Key with
   | true=>rfl
   | false =>
    cases h2:ltS b.Key a.Key with
    | true=>rfl
    | false=>exact absurd ⟨e,y9 _ _ h1 h2⟩ hk
def atP(n:Int)(k:List Int)(c:bo):Bool:=decide (c.Name=n)&&decide (c.Key=k)
theorem atP_iff{n:Int}{k:List Int}{c:bo}:atP n k c=true↔c.Name=n∧c.Key=k:=by
 unfold atP;rw[az,ab,ab]
def atV(l:List bo)(n:Int)(k:List Int):Int:=if l.any (atP n k)=true then(l.findIdx (atP n k):Int)else -1
theorem xa{α:Type}{l:List α}{p:α→Bool}{z:α}{k:Int}(h0:0≤k)(hl:k<(l.length:Int))(h1:p (l.getD k.toNat z)=true)(h2:∀ j:Nat,(j:Int)<k→p (l.getD j z)=false):(l.findIdx p:Int)=k:=by
 have hk:k.toNat<l.length:=by omega
 have h3:l.findIdx p=k.toNat:=by
  rw[List.findIdx_eq hk]
  refine⟨by rw[← cE hk z];exact h1,fun j hj=>?_⟩
  rw[← cE (by omega) z]
  exact h2 j (by omega)
 rw[h3];omega
theorem xF(s:bE)(n:Int)(k:List Int)(hl:s.Cells.length≤100000):qh s n k=some (atV s.Cells n k,()):=by
 obtain⟨v,e1,e2,e3,e4,e5⟩:=im (fun i=>nj s.Cells (s.Cells.length:Int) i n k) (n,k,()) s.Cells.length (fun i=>atP n k (s.Cells.getD i co))
  (fun i hi=>by
   show nj s.Cells _ _ n k=_
   rw[Jx,an,al,ci hi,NO,cE hi,ch hi (by omega)]
   unfold atP
   by_cases c:s.Cells[i].Name=n
   ·rw[ac c,bm rfl,aa,Bool.true_and]
   ·rw[ae c,bn (by decide),aa,Bool.false_and])
  (by show nj s.Cells _ _ n k=_;rw[Jx,bn (by simp)])
 have e1':nj s.Cells (s.Cells.length:Int) 0 n k=some (v,n,k,()):=e1
 rw[NP,Vu,e1',aa]
 dsimp only
 congr 2
 unfold atV
 rw[fm s.Cells co (atP n k)]at e2
 by_cases c:0≤v
 ·rw[← e2,ak c]
  exact(xa c e3 (e4 c).1 (e4 c).2).symm
 ·rw[← e2,aj c]
  exact e5 (by omega)
theorem Ac(s:bE)(n:Int)(k:List Int)(hl:s.Cells.length≤100000):rg s n k=some (atV s.Cells n k,()):=by
 obtain⟨v,e1,e2,e3,e4,e5⟩:=im (fun i=>lA n k i s) () s.Cells.length (fun i=>atP n k (s.Cells.getD i co))
  (fun i hi=>by
   show lA n k _ s=_
   rw[HC,an,al,ci hi,cE hi,ch hi (by omega)]
   unfold atP
   by_cases c:s.Cells[i].Name=n
   ·rw[ac c,bm rfl,al,Bool.true_and]
   ·rw[ae c,bn (by decide),Bool.false_and,bn (by decide)])
  (by show lA n k _ s=_;rw[HC,bn (by simp)])
 have e1':lA n k 0 s=some (v,()):=e1
 rw[SZ,e1']
 congr 2
 unfold atV
 rw[fm s.Cells co (atP n k)]at e2
 by_cases c:0≤v
 ·rw[← e2,ak c]
  exact(xa c e3 (e4 c).1 (e4 c).2).symm
 ·rw[← e2,aj c]
  exact e5 (by omega)
theorem lY(l:List bo)(n:Int)(k:List Int):(atV l n k = -1∧∀ c∈l,¬ (c.Name=n∧c.Key=k))∨(0≤atV l n k∧atV l n k<(l.length:Int)):=by
 unfold atV
 by_cases c:l.any (atP n k)=true
 ·rw[bm c]
  have:=List.findIdx_lt_length_of_exists (xs:=l) (p:=atP n k) (by obtain⟨x,hx,e⟩:=List.any_eq_true.1 c;exact⟨x,hx,e⟩)
  exact .inr (by omega)
 ·rw[bn c]
  refine .inl ⟨rfl,fun x hx h=>c (List.any_eq_true.2 ⟨x,hx,atP_iff.2 h⟩)⟩
def iQ(l:List bo)(n:Int)(k:List Int):bF:=if atV l n k<0 then bU else(l.getD (atV l n k).toNat co).Val
theorem sM(s:bE)(n:Int)(k:List Int)(hl:s.Cells.length≤100000):sN s n k=some (iQ s.Cells n k,())∧uq s n k=some (iQ s.Cells n k,()):=by
 rw[MY,R9,xF s n k hl,Ac s n k hl]
 simp only[aa]
 unfold iQ
 rcases lY s.Cells n k with ⟨h,_⟩ | h
 ·rw[an,bm (c:=atV s.Cells n k<0) (by omega)];exact⟨rfl,rfl⟩
 ·rw[ap,bm h,bn (c:=atV s.Cells n k<0) (by omega)];exact⟨rfl,rfl⟩
def eK(l:List bo)(c:bo):Nat:=l.findIdx fun x=>!dl x c
def jb(l:List bo)(n:Int)(k:List Int)(v:bF):Option (List bo) :=
 if 0≤atV l n k then some (l.set (atV l n k).toNat ⟨(l.getD (atV l n k).toNat co).Name,(l.getD (atV l n k).toNat co).Key,v⟩)
 else if 40≤l.length then none else some (eJ l (eK l ⟨n,k,v⟩) [⟨n,k,v⟩])
theorem nD{s:bE}(hv:s.Vars.length≤100000)(hc:s.Cells.length≤100000):jY s=some (s,()):=by
 rw[HD,bm (by rw[cg];omega),bm (by rw[cg];omega)];rfl
theorem Ld(l:List bF)(h:l.length≤100000):pf l=some (l,()):=by
 rw[vO]
 cases l with
 | nil=>rw[bm (c:=Nat.beq (List.length ([]:List bF)) 0=true) rfl,bm (by rw[cg];simp)];exact lX _
 | cons v l=>rw[bn (c:=Nat.beq (List.length (v::l)) 0=true) (show ¬ (false=true) by decide),bm (by rw[cg];omega)];rfl
theorem Lc(l:List bo)(h:l.length≤100000):rN l=some (l,()):=by
 rw[Ba]
 cases l with
 | nil=>rw[bm (c:=Nat.beq (List.length ([]:List bo)) 0=true) rfl,bm (by rw[cg];simp)];exact lX _
 | cons v l=>rw[bn (c:=Nat.beq (List.length (v::l)) 0=true) (show ¬ (false=true) by decide),bm (by rw[cg];omega)];rfl
theorem nC{s:bE}(hv:s.Vars.length≤100000)(hc:s.Cells.length≤100000):fY s=some (s,()):=by
 rw[xH,Ld _ hv,Lc _ hc];rfl
theorem GN(l:List bo)(c:bo):eK l c≤l.length:=List.findIdx_le_length
theorem Rx(s:bE)(n:Int)(k:List Int)(v:bF)(hv:s.Vars.length≤100000)(hl:s.Cells.length≤100000) :
  xk s n k v=some (match jb s.Cells n k v with | some C=>(⟨s.Vars,C,s.Nr,s.Err⟩,true,()) | none=>(s,false,())):=by
 rw[M0,nC hv hl,xF s n k hl,aa,aa]
 dsimp only
 unfold jb
 rcases lY s.Cells n k with ⟨h,hno⟩ | h
 ·rw[ap,bn (c:=0≤atV s.Cells n k) (by omega)]
  by_cases c:40≤s.Cells.length
  ·rw[an,bm c]
  ·rw[ap,bn c]
   obtain⟨j,e1,e2,e3,e4,e5⟩:=im (fun i=>ni s.Cells (s.Cells.length:Int) i ⟨n,k,v⟩) ((⟨n,k,v⟩:bo),()) s.Cells.length (fun i=>!dl (s.Cells.getD i co) ⟨n,k,v⟩)
    (fun i hi=>by
     show ni s.Cells _ _ _=_
     obtain⟨q,g1,g2⟩:=KB s.Cells[i] ⟨n,k,v⟩ (hno _ (aV hi))
     rw[Jv,an,al,ci hi,MZ,g1,aa,aa,cE hi,ch hi (by omega)]
     dsimp only
     rw[g2])
    (by show ni s.Cells _ _ _=_;rw[Jv,bn (by simp)])
   have e1':ni s.Cells (s.Cells.length:Int) 0 ⟨n,k,v⟩=some (j,⟨n,k,v⟩,()):=e1
   rw[Vt,e1',aa]
   dsimp only
   rw[fm s.Cells co (fun x=>!dl x ⟨n,k,v⟩)]at e2
   have hins:∀ q:Int,q=(eK s.Cells ⟨n,k,v⟩:Int)→vQ s.Cells q [⟨n,k,v⟩]=some (eJ s.Cells (eK s.Cells ⟨n,k,v⟩) [⟨n,k,v⟩],()):=fun q hq=>by
    have:=GN s.Cells ⟨n,k,v⟩
    subst hq
    rw[VD]
    unfold ob
    rw[bm ⟨⟨by omega,by omega⟩,rfl,by omega⟩,af]
   by_cases c2:j<0
   ·have hz:(s.Cells.any fun x=>!dl x ⟨n,k,v⟩)=false:=by rw[← e2];exact ae (by omega)
    have hp:eK s.Cells ⟨n,k,v⟩=s.Cells.length:=by
     unfold eK
     rw[List.findIdx_eq_length]
     intro x hx
     have:=List.any_eq_false.1 hz x hx
     simpa using this
    rw[ak c2,hins _ (by rw[hp])];rfl
   ·have hp:(eK s.Cells ⟨n,k,v⟩:Int)=j:=xa (p:=fun x=>!dl x ⟨n,k,v⟩) (z:=co) (by omega) e3 (e4 (by omega)).1 (e4 (by omega)).2
    rw[aj c2,hins _ hp.symm];rfl
 ·rw[an,bm h,bm h.1]
theorem Ry(s:bE)(n:Int)(k:List Int)(v:bF)(hv:s.Vars.length≤100000)(hl:s.Cells.length≤100000) :
  zM s n k v=some (match jb s.Cells n k v with | some C=>(⟨s.Vars,C,s.Nr,s.Err⟩,true,()) | none=>(s,false,())):=by
 rw[Sa,nD hv hl,Ac s n k hl,aa,aa]
 dsimp only
 unfold jb
 rcases lY s.Cells n k with ⟨h,hno⟩ | h
 ·rw[ap,bn (c:=0≤atV s.Cells n k) (by omega)]
  by_cases c:40≤s.Cells.length
  ·rw[an,bm c]
  ·rw[ap,bn c]
   have fin:∀ i:Nat,i≤s.Cells.length→(List.append (List.append (List.append [] (List.take ((i:Int).toNat-0) (List.drop 0 s.Cells))) [(bo.mk n k v)]) (List.take ((List.length s.Cells)-(i:Int).toNat) (List.drop (i:Int).toNat s.Cells)))=eJ s.Cells i [⟨n,k,v⟩]:=fun i hi=>by
    unfold eJ
    simp only[af,Nat.sub_zero,aM]
    rw[a8 (i:=s.Cells.length-i) (by rw[aQ];omega)]
    show([]++s.Cells.take i)++[(⟨n,k,v⟩:bo)]++s.Cells.drop i=_
    simp
   have key:∀ (d i:Nat),i+d=s.Cells.length→(∀ j,j<i→dl (s.Cells.getD j co) ⟨n,k,v⟩=true)→ur n k (i:Int) s v jj s=some (⟨s.Vars,eJ s.Cells (eK s.Cells ⟨n,k,v⟩) [⟨n,k,v⟩],s.Nr,s.Err⟩,true,()):=by
    intro d
    induction d with
    | zero =>
     intro i hi hj
     have hp:eK s.Cells ⟨n,k,v⟩=i:=by
      rw[show i=s.Cells.length by omega]
      unfold eK
      rw[List.findIdx_eq_length]
      intro x hx
      obtain⟨j,hj',rfl⟩:=bk.1 hx
      have:=hj j (by omega)
      rw[cE hj']at this
      rw[this];rfl
     rw[Hg,ap,al,bm (by rw[cg];simp;omega),bm (by rw[cg];simp;omega),al,bm (by rw[cg];simp;omega),fin i (by omega),hp]
    | succ d ih =>
     intro i hi hj
     have hi':i<s.Cells.length:=by omega
     rw[Hg,an,al,ci hi',S5,aa]
     dsimp only
     rw[show(decide (s.Cells[i].Name<n)||(decide (s.Cells[i].Name=n)&&ltS s.Cells[i].Key k))=dl s.Cells[i] ⟨n,k,v⟩from rfl]
     cases c3:dl s.Cells[i] ⟨n,k,v⟩ with
     | true =>
      rw[bm rfl,ch hi' (by omega)]
      refine ih (i+1) (by omega) fun j hji=>?_
      by_cases e:j=i
      ·subst e;rw[cE hi'];exact c3
      ·exact hj j (by omega)
     | false =>
      have hp:eK s.Cells ⟨n,k,v⟩=i:=by
       unfold eK
       rw[List.findIdx_eq hi']
       refine⟨by rw[c3];rfl,fun j hji=>?_⟩
       have:=hj j hji
       rw[cE (by omega)]at this
       rw[this];rfl
      rw[bn (by decide),al,bm (by rw[cg];simp;omega),bm (by rw[cg];simp;omega),al,bm (by rw[cg];simp;omega),fin i (by omega),hp]
   exact key s.Cells.length 0 (by omega) fun j hj=>absurd hj (by omega)
 ·rw[an,bm h,bm h.1]
def nG(l:List bo)(n:Int)(k:List Int):List bo:=if 0≤atV l n k then gD l (atV l n k).toNat ((atV l n k).toNat+1)else l
theorem CD(s:bE)(n:Int)(k:List Int)(hv:s.Vars.length≤100000)(hl:s.Cells.length≤100000):xj s n k=some (⟨s.Vars,nG s.Cells n k,s.Nr,s.Err⟩,())∧zL s n k=some (⟨s.Vars,nG s.Cells n k,s.Nr,s.Err⟩,()):=by
 rw[MX,R8,nC hv hl,nD hv hl,xF s n k hl,Ac s n k hl]
 simp only[aa]
 unfold nG
 rcases lY s.Cells n k with ⟨h,hno⟩ | h
 ·have h1:¬ decide (atV s.Cells n k≥0)=true:=by rw[ab];omega
  rw[bn h1,bn h1,bn (c:=0≤atV s.Cells n k) (by omega)];exact⟨rfl,rfl⟩
 ·have h1:decide (atV s.Cells n k≥0)=true:=ac (by omega)
  have hw:w64 (atV s.Cells n k+1)=atV s.Cells n k+1:=aq
  rw[bm h1,bm h1,bm h.1,hw]
  have e0:(atV s.Cells n k+1).toNat=(atV s.Cells n k).toNat+1:=by omega
  constructor
  ·rw[Vs]
   unfold nE
   rw[al,e0];rfl
  ·rw[al,bm (by rw[cg];simp;omega),al,bm (by rw[cg];simp;omega),e0]
   congr 3
   unfold gD
   rw[a8 (i:=s.Cells.length-((atV s.Cells n k).toNat+1)) (by rw[aQ];omega),Nat.sub_zero,aM]
   rfl
def CG(nc:Int)(l:List bo):Prop:=l.length≤40∧(∀ c∈l,0≤c.Name∧c.Name<nc∧c.Key.length≤300∧VG c.Val)∧l.Pairwise fun a b=>dl a b=true
theorem sL{nc:Int}{l:List bo}(h:CG nc l)(n:Int)(k:List Int):VG (iQ l n k):=by
 unfold iQ
 split
 ·exact pD
 ·rcases lY l n k with h1 | h1
  ·omega
  ·rw[cE (by omega)];exact(h.2.1 _ (aV _)).2.2.2
theorem Rw{nc:Int}{l l':List bo}(h:CG nc l){n:Int}{k:List Int}{v:bF}(hn:0≤n∧n<nc)(hk:k.length≤300)(hv:VG v)(e:jb l n k v=some l'):CG nc l':=by
 obtain⟨h1,h2,h3⟩:=h
 unfold jb at e
 by_cases c:0≤atV l n k
 ·rw[bm c]at e
  have e:=aN e
  have hb:(atV l n k).toNat<l.length:=by
   rcases lY l n k with h | h <;> omega
  rw[cE hb]at e
  subst e
  refine⟨by rw[aX];exact h1,fun x hx=>?_,?_⟩
  ·rcases List.mem_or_eq_of_mem_set hx with hx | hx
   ·exact h2 x hx
   ·obtain⟨g1,g2,g3,g4⟩:=h2 _ (aV hb)
    rw[hx];exact⟨g1,g2,g3,hv⟩
  ·rw[List.pairwise_iff_getElem]at h3 ⊢
   intro i j hi hj hij
   rw[aX]at hi hj
   have hcong:∀ (q:Nat) (hq:q<l.length),((l.set (atV l n k).toNat ⟨l[(atV l n k).toNat].Name,l[(atV l n k).toNat].Key,v⟩)[q]'(by rw[aX];exact hq)).Name=l[q].Name∧((l.set (atV l n k).toNat ⟨l[(atV l n k).toNat].Name,l[(atV l n k).toNat].Key,v⟩)[q]'(by rw[aX];exact hq)).Key=l[q].Key:=fun q hq=>by
    rw[List.getElem_set]
    split
    ·rename_i hqe;subst hqe;exact⟨rfl,rfl⟩
    ·exact⟨rfl,rfl⟩
   have:=h3 i j hi hj hij
   unfold dl at this ⊢
   rw[(hcong i hi).1,(hcong i hi).2,(hcong j hj).1,(hcong j hj).2]
   exact this
 ·rw[bn c]at e
  by_cases d:40≤l.length
  ·rw[bm d]at e;cases e
  ·rw[bn d]at e
   have e:=aN e
   subst e
   have hp:=GN l ⟨n,k,v⟩
   have hno:∀ x∈l,¬ (x.Name=n∧x.Key=k):=by
    rcases lY l n k with h | h
    ·exact h.2
    ·omega
   refine⟨by rw[ER hp];simp;omega,fun x hx=>?_,?_⟩
   ·unfold eJ at hx
    rcases aA.1 hx with hx | hx
    ·exact h2 x (List.mem_of_mem_take hx)
    ·rcases aA.1 hx with hx | hx
     ·rw[aJ.1 hx];exact⟨hn.1,hn.2,hk,hv⟩
     ·exact h2 x (List.mem_of_mem_drop hx)
   ·unfold eJ
    have hA:∀ x∈l.take (eK l ⟨n,k,v⟩),dl x ⟨n,k,v⟩=true:=fun x hx=>by
     obtain⟨i,hi,rfl⟩:=bk.1 hx
     rw[aP]at hi
     rw[List.getElem_take]
     have:=List.not_of_lt_findIdx (xs:=l) (p:=fun x=>!dl x ⟨n,k,v⟩) (i:=i) (by unfold eK at hi;omega)
     simpa using this
    have hB:∀ x∈l.drop (eK l ⟨n,k,v⟩),dl ⟨n,k,v⟩ x=true:=fun x hx=>by
     obtain⟨i,hi,rfl⟩:=bk.1 hx
     rw[aQ]at hi
     rw[List.getElem_drop]
     have hlt:eK l ⟨n,k,v⟩<l.length:=by omega
     have h0:dl l[eK l ⟨n,k,v⟩] ⟨n,k,v⟩=false:=by
      have h5:(!dl l[eK l ⟨n,k,v⟩] ⟨n,k,v⟩)=true:=List.findIdx_getElem (xs:=l) (p:=fun x=>!dl x ⟨n,k,v⟩) (w:=hlt)
      rwa [Bool.not_eq_true']at h5
     have h4:=K2 h0 (hno _ (aV hlt))
     by_cases e0:i=0
     ·subst e0;exact h4
     ·exact wF h4 (List.pairwise_iff_getElem.1 h3 _ _ hlt (by omega) (by omega))
    rw[List.pairwise_append]
    refine⟨h3.sublist (List.take_sublist _ _),?_,fun x hx y hy=>?_⟩
    ·show List.Pairwise _ ((⟨n,k,v⟩:bo)::l.drop _)
     rw[List.pairwise_cons]
     exact⟨hB,h3.sublist (List.drop_sublist _ _)⟩
    ·rcases aA.1 hy with hy | hy
     ·rw[aJ.1 hy];exact hA x hx
     ·exact wF (hA x hx) (hB y hy)
theorem LT{nc:Int}{l:List bo}(h:CG nc l)(n:Int)(k:List Int):CG nc (nG l n k):=by
 unfold nG
 split
 ·have hs:(gD l (atV l n k).toNat ((atV l n k).toNat+1)).Sublist l:=by
   unfold gD
   have h1:(l.take (atV l n k).toNat++l.drop ((atV l n k).toNat+1)).Sublist (l.take (atV l n k).toNat++l.drop (atV l n k).toNat):=(List.Sublist.refl _).append (by rw[← List.drop_drop];exact List.drop_sublist _ _)
   rwa [List.take_append_drop]at h1
  exact⟨Nat.le_trans hs.length_le h.1,fun c hc=>h.2.1 c (hs.subset hc),h.2.2.sublist hs⟩
 ·exact h
mutual
def cA:bD→Nat
 | ⟨_,_,_,_,ks⟩=>1+cy ks
def cy:List bD→Nat
 | []=>0
 | k::ks=>cA k+cy ks
end
def wm(st:List Int)(nt:Bool):Prop:=st.Pairwise (· < ·)∧(93∈st→∃ a b,st=a++([92,93,94]++b))∧st≠[]∧(nt=true∨st≠[94])∧st.length≤256∧∀ b∈st,0≤b∧b≤255
mutual
def SG:bD→Prop
 | ⟨op,_,st,nt,ks⟩=>((op=3∧wm st nt)∨(op≠3∧st=[]∧nt=false))∧SGL ks
def SGL:List bD→Prop
 | []=>True
 | k::ks=>SG k∧SGL ks
end
theorem zi:∀ (l m:List bD),cy (l++m)=cy l+cy m
 | [],m=>by simp[cy]
 | k::l,m=>by rw[List.cons_append,cy,cy,zi l m];omega
theorem wk:∀ (l m:List bD),SGL (l++m)↔SGL l∧SGL m
 | [],m=>by simp[SGL]
 | k::l,m=>by rw[List.cons_append,SGL,SGL,wk l m,and_assoc]
theorem si:∀ {l:List bD} {x:bD},SGL l→x∈l→SG x
 | k::l,x,h,hx=>by
  rw[SGL]at h
  rcases aK.1 hx with rfl | hx
  ·exact h.1
  ·exact si h.2 hx
theorem qO:∀ {l:List bD} {x:bD},x∈l→cA x≤cy l
 | k::l,x,hx=>by
  rw[cy]
  rcases aK.1 hx with rfl | hx
  ·omega
  ·have:=qO hx;omega
theorem mD(x:bD):1≤cA x:=by obtain⟨a,b,c,d,ks⟩:=x;rw[cA];omega
theorem qM:∀ (l:List bD),l.length≤cy l
 | []=>Nat.zero_le _
 | k::l=>by rw[cy,aR];have:=qM l;have:=mD k;omega
theorem pW(n:Nat):∀ (f:List Bool) (j i:Nat),i<f.length→(ew f j n).getD i false=(decide (j≤i∧i<j+n)||f.getD i false):=by
 induction n with
 | zero=>intro f j i hi;rw[show decide (j≤i∧i<j+0)=false from ae (by omega)];rfl
 | succ n ih =>
  intro f j i hi
  unfold ew
  rw[ih _ _ _ (by rw[aX];exact hi)]
  by_cases h:j=i
  ·subst h
   rw[mc hi,Bool.or_true,show decide (j≤j∧j<j+(n+1))=true from ac (by omega),Bool.true_or]
  ·rw[List.getD_eq_getElem?_getD,List.getElem?_set_ne h,← List.getD_eq_getElem?_getD]
   congr 1
   exact decide_eq_decide.2 (by omega)
theorem Uk(n:Nat):∀ (l:List Int) (f:List Bool) (b:Bool) (i:Nat),i<f.length→f.getD i false=true→(cS n l f b).1.getD i false=true:=by
 induction n with
 | zero=>intro l f b i hi h;exact h
 | succ n ih =>
  intro l f b i hi h
  have go:∀ (t:List Int) (j k:Nat) (b':Bool),(cS n t (ew f j k) b').1.getD i false=true:=fun t j k b' =>
   ih _ _ _ _ (by rw[ic];exact hi) (by rw[pW _ _ _ _ hi,h,Bool.or_true])
  match l with
  | []=>exact h
  | [lo]=>exact go _ _ _ _
  | [lo,d]=>exact go _ _ _ _
  | lo::d::hi'::u =>
   show(if d=45 then _ else _:List Bool×Bool).1.getD i false=true
   split
   ·exact go _ _ _ _
   ·exact go _ _ _ _
theorem Ui(n:Nat):∀ (l:List Int) (f:List Bool),(cS n l f true).2=true:=by
 induction n with
 | zero=>intro l f;rfl
 | succ n ih =>
  intro l f
  match l with
  | []=>rfl
  | [lo]=>exact ih _ _
  | [lo,d]=>exact ih _ _
  | lo::d::hi'::u =>
   show(if d=45 then _ else _:List Bool×Bool).2=true
   split
   ·exact ih _ _
   ·exact ih _ _
theorem Uj(n:Nat)(lo:Int)(t:List Int)(f:List Bool)(hf:f.length=256)(h0:0≤lo)(h1:lo≤255)(hb:(cS (n+1) (lo::t) f false).2=false):(cS (n+1) (lo::t) f false).1.getD lo.toNat false=true:=by
 have go:∀ (t:List Int) (k:Nat) (b':Bool),0<k→(cS n t (ew f lo.toNat k) b').1.getD lo.toNat false=true:=fun t k b' hk =>
  Uk n _ _ _ _ (by rw[ic];omega) (by rw[pW _ _ _ _ (by omega),ac (by omega),Bool.true_or])
 match t,hb with
 | [],hb=>exact go _ _ _ (by omega)
 | [d],hb=>exact go _ _ _ (by omega)
 | d::hi::u,hb =>
  by_cases c:d=45
  ·subst c
   rw[vi]at hb ⊢
   by_cases c2:hi<lo
   ·rw[ac c2,Bool.or_true,Ui]at hb;cases hb
   ·exact go _ _ _ (by omega)
  ·rw[vj _ _ _ _ _ (fun hi' u' e=>c (aL e).1)]at hb ⊢
   exact go _ _ _ (by omega)
def Nb(f:List Bool):Prop:=f.getD 93 false=true→f.getD 92 false=true∧f.getD 94 false=true
theorem Mb{f:List Bool}(hf:f.length=256)(h:Nb f){lo hi:Int}(h0:0≤lo)(h1:lo≠93)(h2:hi≠93):Nb (ew f lo.toNat (hi+1-lo).toNat):=by
 intro h3
 rw[pW _ _ _ _ (by omega),aU,ab]at h3
 rw[pW _ _ _ _ (by omega),pW _ _ _ _ (by omega)]
 rcases h3 with h3 | h3
 ·rw[ac (by omega),ac (by omega)];exact⟨rfl,rfl⟩
 ·rw[(h h3).1,(h h3).2,Bool.or_true,Bool.or_true];exact⟨rfl,rfl⟩
theorem Ul(n:Nat):∀ (l:List Int) (f:List Bool) (b:Bool),f.length=256→(∀ x∈l,0≤x∧x≠93)→Nb f→Nb (cS n l f b).1:=by
 induction n with
 | zero=>intro l f b hf hl h;exact h
 | succ n ih =>
  intro l f b hf hl h
  have go:∀ (lo hi:Int) (t:List Int) (b':Bool),lo∈l→hi∈l→(∀ x∈t,x∈l)→Nb (cS n t (ew f lo.toNat (hi+1-lo).toNat) b').1:=fun lo hi t b' h1 h2 h3 =>
   ih _ _ _ (by rw[ic];exact hf) (fun x hx=>hl x (h3 x hx)) (Mb hf h (hl _ h1).1 (hl _ h1).2 (hl _ h2).2)
  match l with
  | []=>exact h
  | [lo]=>exact go lo lo _ _ (by simp) (by simp) (by simp)
  | [lo,d]=>exact go lo lo _ _ (by simp) (by simp) (by simp)
  | lo::d::hi'::u =>
   by_cases c:d=45
   ·subst c
    rw[vi]
    exact go lo hi' _ _ (by simp) (by simp) (fun x hx=>by simp[hx])
   ·rw[vj _ _ _ _ _ (fun hi'' u' e=>c (aL e).1)]
    exact go lo lo _ _ (by simp) (by simp) (fun x hx=>aE _ hx)
def marks(f:List Bool)(j n:Nat):List Int:=((List.range' j n).filter fun i=>f.getD i false).map Int.ofNat
theorem Lp(f:List Bool):∀ (n j:Nat) (t:List Int),j+n≤256→kz f j n t=t++marks f j n:=by
 intro n
 induction n with
 | zero=>intro j t h;show t=t++[];simp
 | succ n ih =>
  intro j t h
  unfold kz
  rw[ih _ _ (by omega)]
  unfold marks
  rw[List.range'_succ,List.filter_cons]
  split
  ·rw[bc,A4 (by omega) (by omega),ah];rfl
  ·rfl
theorem marks_mem{f:List Bool}{j n:Nat}{x:Int}:x∈marks f j n ↔ ∃ i:Nat,x=i∧j≤i∧i<j+n∧f.getD i false=true:=by
 unfold marks
 rw[List.mem_map]
 constructor
 ·rintro ⟨i,hi,rfl⟩
  rw[List.mem_filter,List.mem_range'_1]at hi
  exact⟨i,rfl,hi.1.1,hi.1.2,hi.2⟩
 ·rintro ⟨i,rfl,h1,h2,h3⟩
  exact⟨i,List.mem_filter.2 ⟨List.mem_range'_1.2 ⟨h1,h2⟩,h3⟩,rfl⟩
theorem FS(f:List Bool)(j n:Nat):(marks f j n).length≤n:=by
 unfold marks
 rw[bh]
 exact Nat.le_trans (List.length_filter_le ..) (by rw[List.length_range'];exact aG _)
theorem zd(f:List Bool)(j n:Nat):(marks f j n).Pairwise (· < ·):=by
 unfold marks
 rw[List.pairwise_map]
 exact((List.pairwise_lt_range' (s:=j) (n:=n)).filter _).imp fun h=>by show(_:Int)<_;exact Int.ofNat_lt.2 h
theorem ze(f:List Bool)(j n m:Nat):marks f j (n+m)=marks f j n++marks f (j+n) m:=by
 unfold marks
 rw[← List.range'_append_1,List.filter_append,List.map_append]
theorem Ug{u:List Int}{nt:Bool}(hb:∀ b∈u,0≤b∧b≤255)(hn:nt=false→∀ v,u≠94::v)(hg:(fh u nt).2.bad=false):cA (fh u nt).1=1∧SG (fh u nt).1∧(fh u nt).2.s.length+2≤u.length:=by
 unfold fh at hg ⊢
 by_cases c:(cf u).length=u.length∨cf u=[]
 ·rw[bm c]at hg;cases hg
 ·rw[bn c]at hg ⊢
  have c1:¬ (cf u).length=u.length:=fun h=>c (.inl h)
  have c2:cf u≠[]:=fun h=>c (.inr h)
  have hl:=wx u
  have hl1:0<(cf u).length:=List.length_pos_iff.2 c2
  refine⟨rfl,?_,by rw[aQ];omega⟩
  rw[SG]
  refine⟨.inl ⟨rfl,?_⟩,trivial⟩
  rw[Lp _ _ _ _ (by omega),bg]
  have hbB:∀ x∈cf u,0≤x∧x≤255:=fun x hx=>hb x ((List.takeWhile_sublist _).subset hx)
  have h93:∀ x∈cf u,x≠93:=fun x hx=>by
   have:=List.all_eq_true.1 (List.all_takeWhile (p:=n93) (l:=u)) x hx
   unfold n93 at this
   simpa using this
  have hnb:=Ul (cf u).length (cf u) (List.replicate 256 false) false a7 (fun x hx=>⟨(hbB x hx).1,h93 x hx⟩) (fun h=>absurd h (by decide))
  obtain⟨lo,t,e⟩:=List.exists_cons_of_ne_nil c2
  have hfirst:(cS (cf u).length (cf u) (List.replicate 256 false) false).1.getD lo.toNat false=true:=by
   rw[e,aR]
   have hlo:=hbB lo (by rw[e];exact aD ..)
   refine Uj _ _ _ _ a7 hlo.1 hlo.2 ?_
   rw[e,aR]at hg
   exact hg
  generalize (cS (cf u).length (cf u) (List.replicate 256 false) false).1=f at hnb hfirst
  have hlo:=hbB lo (by rw[e];exact aD ..)
  have hlom:lo∈marks f 0 256:=marks_mem.2 ⟨lo.toNat,by omega,by omega,by omega,hfirst⟩
  refine⟨zd _ _ _,fun h=>?_,(fun h=>by rw[h]at hlom;cases hlom),?_,FS _ _ _,fun b hb=>by obtain⟨i,rfl,h1,h2,_⟩:=marks_mem.1 hb;omega⟩
  ·obtain⟨i,e1,_,_,e2⟩:=marks_mem.1 h
   have:i=93:=by omega
   subst this
   have h2:=hnb e2
   refine⟨marks f 0 92,marks f 95 161,?_⟩
   rw[show 256=92+(3+161)from rfl,ze,ze]
   congr 1
   congr 1
   unfold marks
   simp only[List.range',List.filter_cons,h2.1,h2.2,e2,if_true]
   rfl
  ·cases nt with
   | true=>exact .inl rfl
   | false =>
    refine .inr fun h=>?_
    rw[h,aJ]at hlom
    subst hlom
    have:u=94::u.drop 1:=by
     match u,e with
     | a::u',e =>
      by_cases ha:a=93
      ·rw[ha,lZ]at e;cases e
      ·rw[jn ha]at e;rw[(aL e).1];rfl
    exact hn rfl _ this
theorem OJ(s:List Int)(h:By s){x:bD}{r:bG}(e:nU ⟨s,false⟩=some (x,r,()))(hg:r.bad=false):cA x=1∧SG x∧r.s.length+2≤s.length:=by
 obtain⟨nt,k,e1,hk⟩:=AV s
 have hu:By (s.drop k):=h.suf (List.drop_suffix _ _)
 have e2:=x8 _ nt hu.1 hu.2 s e1
 rw[e2]at e
 obtain⟨rfl,rfl⟩:(fh (s.drop k) nt).1=x∧(fh (s.drop k) nt).2=r:=by
  have:=aN e
  exact⟨congrArg Prod.fst this,congrArg (fun z=>z.2.1) this⟩
 have h3:=Ug hu.2 (fun hn v hv=>by
  rcases hk with ⟨h1,_⟩ | ⟨_,h2,h3⟩
  ·rw[hn]at h1;cases h1
  ·subst h2;exact h3 v hv) hg
 exact⟨h3.1,h3.2.1,by have:=h3.2.2;rw[aQ]at this;omega⟩
def GP(F:bG→Option (bD×bG×Unit))(s:List Int)(k:Nat):Prop :=
 ∀ x r,F ⟨s,false⟩=some (x,r,())→r.bad=false→cA x+2*r.s.length+2*k≤2*s.length+1∧SG x
theorem fa{α β:Type}{a a':α}{b b':β}(h:some (a,b,())=some (a',b',())):a=a'∧b=b':=by
 have:=aN h
 exact⟨congrArg Prod.fst this,congrArg (fun z=>z.2.1) this⟩
theorem lS{op c:Int}(h:op≠3):SG ⟨op,c,[],false,[]⟩:=by rw[SG];exact⟨.inr ⟨h,rfl,rfl⟩,trivial⟩
theorem Gh{op c:Int}{st:List Int}{nt:Bool}:cA ⟨op,c,st,nt,[]⟩=1:=rfl
theorem NJ(b:Int)(s:List Int)(h:By (b::s))(hp:GP f7 s 0)(ht:dU f7 s false 0):GP jD (b::s) 1:=by
 have hs:By s:=h.suf (List.suffix_cons b s)
 intro x r e hg
 rw[xW,fe,aa]at e
 dsimp only at e
 rw[bm (by simp;omega),ma]at e
 have leaf:∀ (y:bD) (bad:Bool),some (y,(⟨s,bad⟩:bG),())=some (x,r,())→(bad=false→cA y=1∧SG y)→cA x+2*r.s.length+2*1≤2*(b::s).length+1∧SG x:=fun y bad e1 h1=>by
  obtain⟨rfl,rfl⟩:=fa e1
  obtain⟨h2,h3⟩:=h1 hg
  rw[h2,aR]
  exact⟨by dsimp only;omega,h3⟩
 by_cases c1:b=40
 ·rw[ak c1]at e
  obtain⟨y,r1,f,f1,f2,f3,f4⟩:=ht
  have hp1:=hp y r1 f
  rw[f,aa]at e
  dsimp only at e
  rcases gM r1 with hr | ⟨a,t,hr⟩
  ·rw[gn hr,aa]at e;dsimp only at e
   rw[bm (by simp)]at e
   obtain⟨rfl,rfl⟩:=fa e
   cases hg
  ·subst hr
   by_cases ha:a=41
   ·subst ha
    rw[j8,aa]at e;dsimp only at e
    rw[bn (by simp)]at e
    obtain⟨rfl,rfl⟩:=fa e
    obtain⟨g1,g2⟩:=hp1 rfl
    refine⟨?_,g2⟩
    simp only[aR]at g1 ⊢;omega
   ·rw[j7 ha,aa]at e;dsimp only at e
    rw[bm (by simp)]at e
    obtain⟨rfl,rfl⟩:=fa e
    cases hg
 rw[aj c1]at e
 by_cases c2:b=46
 ·rw[ak c2]at e;exact leaf _ _ e fun _=>⟨rfl,lS (by decide)⟩
 rw[aj c2]at e
 by_cases c3:b=94
 ·rw[ak c3]at e;exact leaf _ _ e fun _=>⟨rfl,lS (by decide)⟩
 rw[aj c3]at e
 by_cases c4:b=36
 ·rw[ak c4]at e;exact leaf _ _ e fun _=>⟨rfl,lS (by decide)⟩
 rw[aj c4]at e
 by_cases c5:b=91
 ·rw[ak c5]at e
  obtain⟨y,r1,f,f1,f2⟩:=EC s hs
  have hp1:=OJ s hs f
  rw[f,aa]at e
  dsimp only at e
  obtain⟨rfl,rfl⟩:=fa e
  obtain⟨g1,g2,g3⟩:=hp1 hg
  refine⟨?_,g2⟩
  rw[g1,aR];omega
 rw[aj c5]at e
 by_cases c6:b=92
 ·rw[ak c6]at e
  cases s with
  | nil =>
   rw[en (.inl rfl),aa]at e;dsimp only at e;rw[bm (by simp)]at e
   exact leaf _ _ e fun h=>by cases h
  | cons a t =>
   rw[fe,aa]at e;dsimp only at e
   rw[bn (by simp),bm (by simp;omega),pP]at e
   obtain⟨rfl,rfl⟩:=fa e
   exact⟨by rw[Gh];simp only[aR];omega,lS (by decide)⟩
 rw[aj c6]at e
 have l1:∀ (t:Bool),nS b t ⟨s,false⟩ b9=some (x,r,())→cA x+2*r.s.length+2*1≤2*(b::s).length+1∧SG x:=fun t e=>by
  rw[nT]at e
  cases t with
  | true=>rw[bm rfl]at e;exact leaf _ _ e fun h=>by cases h
  | false=>rw[bn (by simp)]at e;exact leaf _ _ e fun _=>⟨rfl,lS (by decide)⟩
 by_cases c7:b=42
 ·rw[ak c7]at e;exact l1 _ e
 rw[aj c7]at e
 by_cases c8:b=43
 ·rw[ak c8]at e;exact l1 _ e
 rw[aj c8]at e
 exact l1 _ e
theorem Kb{x:bD}{op:Int}(h:op≠3)(hx:SG x):SG ⟨op,0,[],false,[x]⟩:=by rw[SG,SGL,SGL];exact⟨.inr ⟨h,rfl,rfl⟩,hx,trivial⟩
theorem Oq(z:bD):∀ (n:Nat) (r r':bG) (x y:bD),r.s.length≤n→kR r z x=some (y,r',())→r'.bad=false→SG x→cA y+2*r'.s.length≤cA x+2*r.s.length∧SG y:=by
 intro n
 induction n with
 | zero =>
  intro r r' x y hn e hg hx
  rw[jG,en (.inl (aZ.1 (by omega))),aa]at e
  dsimp only at e
  rw[bm (by simp)]at e
  obtain⟨rfl,rfl⟩:=fa e
  exact⟨aG _,hx⟩
 | succ n ih =>
  intro r r' x y hn e hg hx
  rw[jG]at e
  rcases gM r with hr | ⟨b,s,rfl⟩
  ·rw[en hr,aa]at e
   dsimp only at e
   rw[bm (by simp)]at e
   obtain⟨rfl,rfl⟩:=fa e
   exact⟨aG _,hx⟩
  ·obtain⟨v,e0,hv⟩:=uj b
   rw[fe,aa]at e
   dsimp only at e
   rw[bn (by simp),e0,aa]at e
   dsimp only at e
   by_cases c:v=0
   ·rw[ak c]at e
    obtain⟨rfl,rfl⟩:=fa e
    exact⟨aG _,hx⟩
   ·rw[aj c,bm (by simp;omega),aa]at e
    dsimp only at e
    rw[ma]at e
    obtain⟨g1,g2⟩:=ih ⟨s,false⟩ r' _ y (by simp at hn ⊢;omega) e hg (Kb (by rcases hv with h | h | h | h <;> omega) hx)
    refine⟨?_,g2⟩
    rw[cA,cy,cy]at g1
    simp only[aR]at g1 ⊢;omega
theorem Ou(b:Int)(s:List Int)(h:GP jD (b::s) 1)(ht:dU jD (b::s) false 1):GP f8 (b::s) 1:=by
 intro x r e hg
 obtain⟨y,r1,f,f1,f2,f3,f4⟩:=ht
 rw[xX,f,aa]at e
 have hb:r1.bad=false:=by
  obtain⟨y',r',q1,q2,q3⟩:=Eq b9 _ r1 y (aG _)
  rw[q1]at e
  obtain⟨rfl,rfl⟩:=fa e
  cases hb:r1.bad with
  | false=>rfl
  | true=>rw[q3 hb]at hg;cases hg
 obtain⟨g1,g2⟩:=h y r1 f hb
 obtain⟨g3,g4⟩:=Oq b9 _ r1 r y x (aG _) e hg g2
 exact⟨by omega,g4⟩
theorem De{l:List bD}(hl:l.length=1):l=[l.getD 0 b9]:=by
 match l,hl with
 | [x],_=>rfl
theorem Gv{l:List bD}(h:SGL l):cA (gj l)≤cy l+1∧SG (gj l):=by
 unfold gj
 by_cases c:l.length=0
 ·rw[bm c];exact⟨by rw[Gh];omega,lS (by decide)⟩
 ·rw[bn c]
  by_cases d:l.length=1
  ·rw[bm d]
   have e:=De d
   have e1:cy l=cA (l.getD 0 b9):=by rw[e,cy,cy];rfl
   exact⟨by omega,by rw[e,SGL]at h;exact h.1⟩
  ·rw[bn d];exact⟨by rw[cA];omega,by rw[SG];exact⟨.inr ⟨by decide,rfl,rfl⟩,h⟩⟩
theorem Gz{l:List bD}(hl:1≤l.length)(h:SGL l):cA (fN l)≤cy l+1∧(2≤l.length∨cA (fN l)=cy l)∧SG (fN l):=by
 unfold fN
 by_cases d:l.length=1
 ·rw[bm d]
  have e:=De d
  have e1:cy l=cA (l.getD 0 b9):=by rw[e,cy,cy];rfl
  exact⟨by omega,.inr e1.symm,by rw[e,SGL]at h;exact h.1⟩
 ·rw[bn d];exact⟨by rw[cA];omega,.inl (by omega),by rw[SG];exact⟨.inr ⟨by decide,rfl,rfl⟩,h⟩⟩
theorem wt{a b:Bool}(h:a=true→b=true)(hb:b=false):a=false:=by
 cases a with
 | false=>rfl
 | true=>rw[h rfl]at hb;cases hb
theorem Om(z:bD)(N:Nat)(hp:∀ b s,(b::s).length≤N→By (b::s)→GP f8 (b::s) 1)(S:Nat) :
  ∀ (n:Nat) (r r':bG) (l:List bD) (y:bD),r.s.length≤n→n≤N→By r.s→l.length+n≤60→kP l r z=some (y,r',())→r'.bad=false→SGL l→cy l+l.length+2*r.s.length≤2*S→cA y+2*r'.s.length≤2*S+1∧SG y:=by
 intro n
 induction n with
 | zero =>
  intro r r' l y hn hN hb hl e hg hx hs
  rw[jE,en (.inl (aZ.1 (by omega))),aa]at e
  dsimp only at e
  rw[bm (by simp),d5]at e
  obtain⟨rfl,rfl⟩:=fa e
  obtain⟨g1,g3⟩:=Gv hx
  exact⟨by omega,g3⟩
 | succ n ih =>
  intro r r' l y hn hN hb hl e hg hx hs
  rw[jE]at e
  have stop:∀ r,some (gj l,r,())=some (y,r',())→cy l+l.length+2*r.s.length≤2*S→cA y+2*r'.s.length≤2*S+1∧SG y:=fun r e hs=>by
   obtain⟨rfl,rfl⟩:=fa e
   obtain⟨g1,g3⟩:=Gv hx
   exact⟨by omega,g3⟩
  rcases gM r with hr | ⟨b,s,rfl⟩
  ·rw[en hr,aa]at e
   dsimp only at e
   rw[bm (by simp),d5]at e
   exact stop _ e hs
  ·rw[fe,aa]at e
   dsimp only at e
   rw[bn (by simp)]at e
   by_cases c1:b=124
   ·rw[ak c1,d5]at e;exact stop _ e hs
   rw[aj c1]at e
   by_cases c2:b=41
   ·rw[ak c2,d5]at e;exact stop _ e hs
   rw[aj c2]at e
   obtain⟨x1,r1,f,f1,f2,f3,f4⟩:=(kM _).1 b s (aG _) hb
   have g:=hp b s (by have:(b::s).length≤n+1:=hn;omega) hb x1 r1 f
   rw[f,aa]at e
   dsimp only at e
   rw[bm (by rw[cg];omega)]at e
   have hn':(b::s).length≤n+1:=hn
   have h2:r1.s.length≤n:=by omega
   have hll:(List.append l [x1]).length=l.length+1:=by show(l++[x1]).length=_;simp
   obtain⟨y2,r2,q1,q2,q3⟩:=Gx z r1 (hb.suf f1) (List.append l [x1]) (by omega)
   rw[q1]at e
   obtain⟨rfl,rfl⟩:=fa e
   obtain⟨g1,g2⟩:=g (wt q3 hg)
   refine ih r1 r2 _ y2 h2 (by omega) (hb.suf f1) (by omega) q1 hg ((wk l [x1]).2 ⟨hx,by rw[SGL];exact⟨g2,trivial⟩⟩) ?_
   rw[hll,show cy (List.append l [x1])=cy l+(cA x1+0)from zi l [x1]]
   have hs':cy l+l.length+2*(b::s).length≤2*S:=hs
   omega
theorem On(z:bD)(N:Nat)(hp:∀ s,s.length≤N→By s→GP gH s 0)(S:Nat) :
  ∀ (n:Nat) (r r':bG) (l:List bD) (y:bD),r.s.length≤n→n≤N→By r.s→1≤l.length→l.length+n≤61→kQ l r z=some (y,r',())→r'.bad=false→SGL l→cy l+(l.length-1)+2*r.s.length≤2*S+1→cA y+2*r'.s.length≤2*S+1∧SG y:=by
 intro n
 induction n with
 | zero =>
  intro r r' l y hn hN hb h1 hl e hg hx hs
  rw[jF,gn (.inl (aZ.1 (by omega))),aa]at e
  dsimp only at e
  rw[bn (by simp),ff]at e
  obtain⟨rfl,rfl⟩:=fa e
  obtain⟨g1,g2,g3⟩:=Gz h1 hx
  exact⟨by omega,g3⟩
 | succ n ih =>
  intro r r' l y hn hN hb h1 hl e hg hx hs
  rw[jF]at e
  have stop:∀ r,some (fN l,r,())=some (y,r',())→cy l+(l.length-1)+2*r.s.length≤2*S+1→cA y+2*r'.s.length≤2*S+1∧SG y:=fun r e hs=>by
   obtain⟨rfl,rfl⟩:=fa e
   obtain⟨g1,g2,g3⟩:=Gz h1 hx
   exact⟨by omega,g3⟩
  rcases gM r with hr | ⟨b,s,rfl⟩
  ·rw[gn hr,aa]at e
   dsimp only at e
   rw[bn (by simp),ff]at e
   exact stop _ e hs
  ·by_cases c1:b=124
   ·subst c1
    rw[j8,aa]at e
    dsimp only at e
    have hbs:By s:=hb.suf (List.suffix_cons _ _)
    have hn':s.length≤n:=by have:(124::s).length≤n+1:=hn;simp only[aR]at this;omega
    obtain⟨x1,r1,f,f1,f2,f3,f4⟩:=(kM _).2 s false (aG _) hbs
    have g:=hp s (by omega) hbs x1 r1 f
    rw[bm rfl,f,aa]at e
    dsimp only at e
    rw[bm (by rw[cg];omega)]at e
    have hll:(List.append l [x1]).length=l.length+1:=by show(l++[x1]).length=_;simp
    obtain⟨y2,r2,q1,q2,q3⟩:=ud z r1 (hbs.suf f1) (List.append l [x1]) (by omega)
    rw[q1]at e
    obtain⟨rfl,rfl⟩:=fa e
    obtain⟨g1,g2⟩:=g (wt q3 hg)
    refine ih r1 r2 _ y2 (by omega) (by omega) (hbs.suf f1) (by omega) (by omega) q1 hg ((wk l [x1]).2 ⟨hx,by rw[SGL];exact⟨g2,trivial⟩⟩) ?_
    rw[hll,show cy (List.append l [x1])=cy l+(cA x1+0)from zi l [x1]]
    have hs':cy l+(l.length-1)+2*(s.length+1)≤2*S+1:=hs
    omega
   ·rw[j7 c1,aa]at e
    dsimp only at e
    rw[bn (by simp),ff]at e
    exact stop _ e hs
theorem En(N:Nat)(hp:∀ b s,(b::s).length≤N→By (b::s)→GP f8 (b::s) 1)(s:List Int)(h:s.length≤N)(hs:By s):GP gH s 0:=by
 intro x r e hg
 rw[qq]at e
 obtain⟨g1,g2⟩:=Om b9 N hp s.length s.length ⟨s,false⟩ r [] x (aG _) h hs (by have:=hs.1;simp;omega) e hg trivial (by simp[cy])
 exact⟨by omega,g2⟩
theorem Ep(N:Nat)(hp:∀ s,s.length≤N→By s→GP gH s 0)(s:List Int)(h:s.length≤N)(hs:By s):GP f7 s 0:=by
 intro x r e hg
 have h60:=hs.1
 obtain⟨x1,r1,f,f1,f2,f3,f4⟩:=(kM _).2 s false (aG _) hs
 rw[tp,f,aa]at e
 dsimp only at e
 obtain⟨y2,r2,q1,q2,q3⟩:=ud b9 r1 (hs.suf f1) [x1] (by simp;omega)
 rw[q1]at e
 obtain⟨rfl,rfl⟩:=fa e
 obtain⟨g1,g2⟩:=hp s h hs x1 r1 f (wt q3 hg)
 obtain⟨g3,g4⟩:=On b9 N hp s.length r1.s.length r1 r2 [x1] y2 (aG _) (by omega) (hs.suf f1) (aG _) (by simp;omega) q1 hg (by rw[SGL];exact⟨g2,trivial⟩) (by rw[cy,cy];simp;omega)
 exact⟨by omega,g4⟩
theorem Oo:∀ (n:Nat) (s:List Int),s.length≤n→By s→GP f7 s 0:=by
 intro n
 induction n with
 | zero =>
  intro s hn hs
  exact Ep 0 (fun s h hs=>En 0 (fun b s h=>by simp at h) s h hs) s hn hs
 | succ n ih =>
  intro s hn hs
  have hpiece:∀ b s,(b::s).length≤n+1→By (b::s)→GP f8 (b::s) 1:=fun b s h hs=>by
   have hs':By s:=hs.suf (List.suffix_cons _ _)
   have ht:=qy _ s false (aG _) hs'
   exact Ou b s (NJ b s hs (ih s (by simpa using h) hs') ht) (tb b s hs ht)
  exact Ep (n+1) (fun s h hs=>En (n+1) hpiece s h hs) s hn hs
theorem RP(S:List Int)(hB:∀ b∈S,0≤b∧b≤255)(hl:S.length≤9223372036854775807):∃ x ok,mP S=some (x,ok,())∧nQ S=some (x,ok,())∧cA x≤121∧SG x∧Small x∧∃ v,v≤12∧jf x=some (v,())∧iS x=some (v,()):=by
 obtain⟨x,ok,e1,e2⟩:=G0 S hB hl
 refine⟨x,ok,e1,e2,?_⟩
 have hz:cA b9≤121∧SG b9∧Small b9:=⟨by decide,lS (by decide),rF rfl⟩
 have hzd:∃ v,v≤12∧jf b9=some (v,())∧iS b9=some (v,()):=by
  obtain⟨v,d1,d2⟩:=wP hz.2.2
  refine⟨v,?_,d1,d2⟩
  rw[HT,Ax,bn (by decide)]at d1
  have:=congrArg Prod.fst (aN d1)
  revert this
  show(w64 (0+1)=v→v≤12)
  rw[aq];omega
 rw[DW]at e2
 by_cases c:(S.length:Int)>60
 ·rw[ak c]at e2
  have:=congrArg Prod.fst (aN e2)
  dsimp only at this
  rw[← this];exact⟨hz.1,hz.2.1,hz.2.2,hzd⟩
 have n1:¬ (decide ((S.length:Int)>60)=true):=by rw[ab];exact c
 have hS:By S:=⟨by omega,hB⟩
 obtain⟨y,r,g,g1,g2,g3,g4⟩:=qy _ S false (aG _) hS
 have gg:=Oo _ S (aG _) hS y r g
 rw[bn n1,g,aa]at e2
 dsimp only at e2
 have zz:∀ ok',some (b9,ok',())=some (x,ok,())→cA x≤121∧SG x∧Small x∧∃ v,v≤12∧jf x=some (v,())∧iS x=some (v,()):=fun ok' h=>by
  have:=congrArg Prod.fst (aN h)
  dsimp only at this
  rw[← this];exact⟨hz.1,hz.2.1,hz.2.2,hzd⟩
 by_cases c1:r.bad=true
 ·rw[bm c1]at e2;exact zz _ e2
 rw[bn c1]at e2
 by_cases c2:(!(decide (r.s=[])))=true
 ·rw[bm c2]at e2;exact zz _ e2
 obtain⟨v,d1,d2⟩:=wP g4
 rw[bn c2,d2,aa]at e2
 dsimp only at e2
 by_cases hv:v>12
 ·rw[ak hv]at e2;exact zz _ e2
 ·rw[aj hv]at e2
  have:=congrArg Prod.fst (aN e2)
  dsimp only at this
  subst this
  obtain⟨h1,h2⟩:=gg (by simpa using c1)
  exact⟨by have:=hS.1;omega,h2,g4,v,by omega,d1,d2⟩
theorem yk(t:List Int):∀ l:List Int,0≤cD l t↔t <:+: l
 | []=>by
  unfold cD
  cases t with
  | nil=>simp
  | cons a t=>simp
 | b::l=>by
  have ih:=yk t l
  have hb:=kX l t
  unfold cD
  rw[List.infix_cons_iff]
  by_cases c:t.isPrefixOf (b::l)=true
  ·rw[bm c];exact⟨fun _=>.inl (List.isPrefixOf_iff_prefix.1 c),fun _=>Int.le_refl _⟩
  ·rw[bn c]
   have c':¬ t <+: b::l:=fun h=>c (List.isPrefixOf_iff_prefix.2 h)
   by_cases d:cD l t = -1
   ·rw[bm d]
    exact⟨fun h=>by omega,fun h=>by rcases h with h | h;exact absurd h c';exact absurd (ih.2 h) (by omega)⟩
   ·rw[bn d]
    exact⟨fun h=>.inr (ih.1 (by omega)),fun h=>by rcases h with h | h;exact absurd h c';have:=ih.2 h;omega⟩
theorem wK(l t:List Int)(h:l.length≤1000000):rQ l t=some (decide (t <:+: l),()):=by
 rw[VH,Bk,al,aa]
 dsimp only
 congr 2
 exact decide_eq_decide.2 (yk t l)
mutual
def dp:bD→Nat
 | ⟨_,_,_,_,ks⟩=>1+dpL ks
def dpL:List bD→Nat
 | []=>0
 | k::ks=>max (dp k) (dpL ks)
end
theorem wV(x:bD):dp x=1+dpL x.Kids:=by obtain⟨a,b,c,d,ks⟩:=x;rw[dp]
theorem qN(x:bD):cA x=1+cy x.Kids:=by obtain⟨a,b,c,d,ks⟩:=x;rw[cA]
theorem wl(x:bD):SG x↔((x.Op=3∧wm x.Set x.Not)∨(x.Op≠3∧x.Set=[]∧x.Not=false))∧SGL x.Kids:=by obtain⟨a,b,c,d,ks⟩:=x;rw[SG]
theorem wU:∀ {l:List bD} {x:bD},x∈l→dp x≤dpL l
 | k::l,x,hx=>by
  rw[dpL]
  rcases aK.1 hx with rfl | hx
  ·omega
  ·have:=wU hx;omega
theorem LR:∀ (n:Nat) (x:bD),cA x≤n→n≤1000000→iS x=some ((dp x:Int),()):=by
 intro n
 induction n with
 | zero=>intro x h;have:=mD x;omega
 | succ n ih =>
  intro x h hn
  rw[qN]at h
  have hlen:=qM x.Kids
  have hdp:∀ l:List bD,dpL l≤cy l:=fun l=>by
   have:∀ (m:Nat),(∀ x:bD,cA x≤m→dp x≤cA x)∧∀ l:List bD,cy l≤m→dpL l≤cy l:=by
    intro m
    induction m with
    | zero=>exact⟨fun x h=>by have:=mD x;omega,fun l h=>by cases l with | nil=>exact aG _ | cons k l=>rw[cy]at h;have:=mD k;omega⟩
    | succ m ihm =>
     have h1:∀ x:bD,cA x≤m+1→dp x≤cA x:=fun x h=>by
      rw[qN]at h ⊢;rw[wV];have:=ihm.2 x.Kids (by omega);omega
     refine⟨h1,fun l=>?_⟩
     induction l with
     | nil=>intro h;exact aG _
     | cons k l ihl=>intro h;rw[cy]at h;rw[cy,dpL];have:=h1 k (by omega);have:=ihl (by omega);omega
   exact(this _).2 l (aG _)
  have key:∀ (d i:Nat) (t:Nat),i+d=x.Kids.length→t≤1000000→qp (t:Int) x.Kids (x.Kids.length:Int) (i:Int)=some (((max t (dpL (x.Kids.drop i))+1:Nat):Int),()):=by
   intro d
   induction d with
   | zero =>
    intro i t hi ht
    rw[tn,ap,aW (by omega),dpL,aq]
    congr 2;omega
   | succ d ihd =>
    intro i t hi ht
    have hi':i<x.Kids.length:=by omega
    have hm:=aV hi'
    have hk:=qO hm
    have h1:=ih x.Kids[i] (by omega) (by omega)
    have h2:=wU hm
    have h3:=hdp x.Kids
    rw[tn,an,al,ci hi',h1,aa]
    dsimp only
    rw[ch hi' (by omega),show mxI (t:Int) (dp x.Kids[i]:Int)=((max t (dp x.Kids[i]):Nat):Int) by rw[F9];split <;> omega,ihd (i+1) _ (by omega) (by omega),ai hi',dpL]
    congr 3;omega
  rw[Ev,wV]
  have:=key x.Kids.length 0 0 (by omega) (by omega)
  rw[aM]at this
  rw[show(0:Int)=((0:Nat):Int)from rfl,this]
  congr 2;omega
def mC(x:bD):Bool :=
 if x.Op=1 then decide (0≤x.C∧x.C≤255)&&decide (x.Kids.length=0)
 else if x.Op=2∨x.Op=3∨x.Op=4∨x.Op=5∨x.Op=11 then decide (x.C=0)&&decide (x.Kids.length=0)
 else if x.Op=6∨x.Op=7 then decide (x.C=0)&&decide (2≤x.Kids.length)
 else if x.Op=8∨x.Op=9∨x.Op=10 then decide (x.C=0)&&decide (x.Kids.length=1)
 else false
mutual
def rx:bD→Bool
 | ⟨a,b,c,d,ks⟩=>mC ⟨a,b,c,d,ks⟩&&rxL ks
def rxL:List bD→Bool
 | []=>true
 | k::ks=>rx k&&rxL ks
end
theorem zK(x:bD):rx x=(mC x&&rxL x.Kids):=by obtain⟨a,b,c,d,ks⟩:=x;rw[rx]
theorem zJ:∀ l:List bD,rxL l = !l.any fun x=>!rx x
 | []=>rfl
 | k::l=>by rw[rxL,zJ l,List.any_cons];cases rx k <;> simp
theorem I4{st:List Int}(h:st.Pairwise (· < ·)){i:Nat}(h0:0<i)(h1:i<st.length):st[i-1]<st[i] :=
 List.pairwise_iff_getElem.1 h (i-1) i (by omega) h1 (by omega)
theorem Ud{st:List Int}(h:st.Pairwise (· < ·))(hl:st.length≤256):AC st=some (true,()):=by
 have key:∀ (d i:Nat),i+d=st.length→0<i→u7 st (i:Int)=some (true,()):=by
  intro d
  induction d with
  | zero=>intro i hi h0;rw[AD,ap]
  | succ d ih =>
   intro i hi h0
   have hi':i<st.length:=by omega
   have:=I4 h h0 hi'
   have w:w64 ((i:Int)-1)=((i-1:Nat):Int):=by rw[aq];omega
   rw[AD,an,w,al,al,ci hi',ci (by omega),ap,ch hi' (by omega)]
   exact ih (i+1) (by omega) (by omega)
 rw[TQ]
 by_cases c:st.length=0
 ·rw[AD,ap]
 ·exact key (st.length-1) 1 (by omega) (by omega)
theorem OI{x:bD}(h:wm x.Set x.Not):x7 x=some (true,()):=by
 obtain⟨h1,h2,h3,h4,h5,h6⟩:=h
 have key:∀ (d i:Nat),i+d=x.Set.length→qv (x.Set.length:Int) (i:Int) x=some (true,()):=by
  intro d
  induction d with
  | zero =>
   intro i hi
   rw[EB,ap,wK _ _ (by omega),wK _ _ (by omega),aa,aa]
   dsimp only
   have fin:(if(!(decide (x.Set=[])))=true then(if x.Not=true then some (true,())else some ((!(decide (x.Set=[94]))),()))else some (false,()))=some (true,()):=by
    rw[bm (by simp[h3])]
    rcases h4 with h4 | h4
    ·rw[bm h4]
    ·cases x.Not with
     | true=>rfl
     | false=>rw[bn (by decide),ae h4];rfl
   by_cases c:[93] <:+: x.Set
   ·rw[ak c]
    obtain⟨a,b,e⟩:=h2 (List.singleton_sublist.1 (List.IsInfix.sublist c))
    rw[ac (p:=[92,93,94] <:+: x.Set) ⟨a,b,by rw[e,ah]⟩,bn (by decide)]
    exact fin
   ·rw[aj c]
    exact fin
  | succ d ih =>
   intro i hi
   have hi':i<x.Set.length:=by omega
   rw[EB,an,ch hi' (by omega)]
   by_cases c:0<i
   ·have:=I4 h1 c hi'
    have w:w64 ((i:Int)-1)=((i-1:Nat):Int):=by rw[aq];omega
    rw[an,w,al,al,ci hi',ci (by omega),ap]
    exact ih (i+1) (by omega)
   ·rw[ap]
    exact ih (i+1) (by omega)
 rw[OH]
 exact key x.Set.length 0 (by omega)
theorem RN(l:List bD)(d:Int)(hl:l.length≤4294967296)(h:∀ x∈l,qt x (w64 (d-1))=some (rx x,())):vP l d=some (!rxL l,d,()):=by
 rw[Vl,Vw]
 obtain⟨k,e1,e2,_⟩:=im (fun i=>nk l (l.length:Int) i d) (d,()) l.length (fun i=>!rx (l.getD i b9))
  (fun i hi=>by
   show nk l _ _ d=_
   rw[JB,an,al,ci hi,OA,h _ (aV hi),aa,aa,ch hi (by omega),cE hi])
  (by show nk l _ _ d=_;rw[JB,bn (by simp)])
 have e1':nk l (l.length:Int) 0 d=some (k,d,()):=e1
 rw[e1',aa]
 dsimp only
 rw[e2,fm l b9 (fun x=>!rx x),zJ,Bool.not_not]
theorem OD:∀ (n:Nat) (x:bD),cA x≤n→n≤1000000→SG x→∀ d:Int,(dp x:Int)≤d→d≤12→qt x d=some (rx x,()):=by
 intro n
 induction n with
 | zero=>intro x h;have:=mD x;omega
 | succ n ih =>
  intro x h hn hs d hd hd2
  rw[qN]at h
  rw[wV]at hd
  have hlen:=qM x.Kids
  obtain⟨hs1,hs2⟩:=(wl x).1 hs
  have hk:vP x.Kids d=some (!rxL x.Kids,d,()):=RN _ d (by omega) fun y hy=>by
   have h1:=qO hy
   have h2:=wU hy
   exact ih y (by omega) (by omega) (si hs2 hy) _ (by rw[aq];omega) (by rw[aq];omega)
  have hL1:∀ b:Bool,ek b x d=some (b&&rxL x.Kids,()):=fun b=>by
   rw[OB,hk,aa]
   cases b with
   | true=>rw[bm rfl,Bool.not_not,Bool.true_and]
   | false=>rw[bn (by decide),Bool.false_and]
  rw[OC,ap,zK]
  rw[eI]
  have e0:decide ((List.length x.Kids:Int)=0)=decide (x.Kids.length=0):=decide_eq_decide.2 (by omega)
  have e1:decide ((List.length x.Kids:Int)=1)=decide (x.Kids.length=1):=decide_eq_decide.2 (by omega)
  have e2:decide ((List.length x.Kids:Int)>1)=decide (2≤x.Kids.length):=decide_eq_decide.2 (by omega)
  unfold mC
  rcases hs1 with ⟨h3,hset⟩ | ⟨h3,hst,hnt⟩
  ·have hsr:=OI hset
   by_cases hc:x.C=0
   ·simp[h3,hc,il,hsr,hL1,e0]
   ·simp[h3,hc]
  ·by_cases c1:x.Op=1
   ·simp only[c1,hst,hnt,aa,decide_true,Bool.not_true,Bool.not_false,decide_false,if_true,Bool.false_eq_true,if_false,hL1,e0,(by decide:decide ((1:Int)=3)=false)]
    by_cases hc:0≤x.C∧x.C≤255
    ·simp[hc]
    ·simp[hc]
   ·by_cases hc:x.C=0
    ·by_cases c2:x.Op=2
     ·simp[c2,hc,hst,hnt,il,hL1,e0]
     by_cases c4:x.Op=4
     ·simp[c4,hc,hst,hnt,il,hL1,e0]
     by_cases c5:x.Op=5
     ·simp[c5,hc,hst,hnt,il,hL1,e0]
     by_cases c11:x.Op=11
     ·simp[c11,hc,hst,hnt,il,hL1,e0]
     by_cases c6:x.Op=6
     ·simp[c6,hc,hst,hnt,il,nW,hL1,e2]
     by_cases c7:x.Op=7
     ·simp[c7,hc,hst,hnt,il,nW,hL1,e2]
     by_cases c8:x.Op=8
     ·simp[c8,hc,hst,hnt,il,nW,hL1,e1]
     by_cases c9:x.Op=9
     ·simp[c9,hc,hst,hnt,il,nW,hL1,e1]
     by_cases c10:x.Op=10
     ·simp[c10,hc,hst,hnt,il,nW,hL1,e1]
     simp[c1,h3,c2,c4,c5,c6,c7,c8,c9,c10,c11,hc,hst,hnt,il,nW,hL1]
    ·simp[c1,hc]
theorem TM:∀ (n:Nat) (x:bD),cA x≤n→n≤1000000→SG x→uV x=some (rx x,()):=by
 intro n
 induction n with
 | zero=>intro x h;have:=mD x;omega
 | succ n ih =>
  intro x h hn hs
  rw[qN]at h
  have hlen:=qM x.Kids
  obtain⟨hs1,hs2⟩:=(wl x).1 hs
  have key:∀ (d i:Nat),i+d=x.Kids.length→uW (i:Int) x=some (mC x&&rxL (x.Kids.drop i),()):=by
   intro d
   induction d with
   | zero =>
    intro i hi
    rw[HU,ap,aW (by omega),rxL,Bool.and_true,d8]
    have e0:decide ((List.length x.Kids:Int)=0)=decide (x.Kids.length=0):=decide_eq_decide.2 (by omega)
    have e1:decide ((List.length x.Kids:Int)=1)=decide (x.Kids.length=1):=decide_eq_decide.2 (by omega)
    have e2:decide ((List.length x.Kids:Int)≥2)=decide (2≤x.Kids.length):=decide_eq_decide.2 (by omega)
    unfold mC
    rcases hs1 with ⟨h3,hset⟩ | ⟨h3,hst,hnt⟩
    ·have hsr:=Ud hset.1 hset.2.2.2.2.1
     have hne:=hset.2.2.1
     by_cases hc:x.C=0
     ·simp[h3,hc,hsr,hne,e0]
     ·simp[h3,hc]
    ·by_cases c1:x.Op=1
     ·by_cases hc:0≤x.C∧x.C≤255
      ·simp[c1,hst,hnt,hc,e0]
      ·simp[c1,hst,hnt,hc,e0]
     ·have hin:dQ x.Op 2 11=some (decide (2≤x.Op∧x.Op≤11),()):=d8 ..
      by_cases hc:x.C=0
      ·by_cases c2:x.Op=2
       ·simp[c2,hc,hst,hnt,iy,j1,e0,d8]
       by_cases c4:x.Op=4
       ·simp[c4,hc,hst,hnt,iy,j1,e0,d8]
       by_cases c5:x.Op=5
       ·simp[c5,hc,hst,hnt,iy,j1,e0,d8]
       by_cases c11:x.Op=11
       ·simp[c11,hc,hst,hnt,iy,j1,e0,d8]
       by_cases c6:x.Op=6
       ·simp[c6,hc,hst,hnt,iy,e2]
       by_cases c7:x.Op=7
       ·simp[c7,hc,hst,hnt,iy,e2]
       by_cases c8:x.Op=8
       ·simp[c8,hc,hst,hnt,iy,j1,e1]
       by_cases c9:x.Op=9
       ·simp[c9,hc,hst,hnt,iy,j1,e1]
       by_cases c10:x.Op=10
       ·simp[c10,hc,hst,hnt,iy,j1,e1]
       have hno:¬ (2≤x.Op∧x.Op≤11):=by omega
       simp[c1,h3,c2,c4,c5,c6,c7,c8,c9,c10,c11,iy,j1,d8,hno]
      ·simp only[c1,h3,decide_false,Bool.false_eq_true,if_false,iy,j1,d8,hc,aa,Bool.false_and]
       simp
   | succ d ihd =>
    intro i hi
    have hi':i<x.Kids.length:=by omega
    have hm:=aV hi'
    have hk:=qO hm
    rw[HU,an,al,ci hi',ih _ (by omega) (by omega) (si hs2 hm),aa]
    dsimp only
    rw[ch hi' (by omega),ihd (i+1) (by omega),ai hi',rxL]
    cases rx x.Kids[i] with
    | true=>rw[bn (by decide),Bool.true_and]
    | false=>rw[bm (by decide),Bool.false_and,Bool.and_false]
  rw[TL,zK]
  have:=key x.Kids.length 0 (by omega)
  rwa [aM]at this
theorem RO{x:bD}(hn:cA x≤121)(hs:SG x)(hd:∃ v,v≤12∧jf x=some (v,())∧iS x=some (v,())):xA x=some (rx x,())∧Aa x=some (rx x,()):=by
 obtain⟨v,hv,e1,e2⟩:=hd
 have e3:=LR 121 x hn (by decide)
 rw[e2]at e3
 have e4:=congrArg Prod.fst (aN e3)
 dsimp only at e4
 constructor
 ·rw[Nz,OD 121 x hn (by decide) hs 12 (by omega) (by omega)];rfl
 ·rw[SK,e1,aa]
  dsimp only
  rw[ak hv,TM 121 x hn (by decide) hs];rfl
end Go.Proofs.YthgknhkeifcflaaGreatDoor.E.TE
