/- What the pure statement needs (1). No condition. -/
import Derived.Test.YtjglhackafgjiaaGreatDoorEG4
import Derived.Laws.BitsLemmas
import Derived.Test.YtjglhackafgjiaaGreatDoorTBe1
import Derived.Test.YtjglhackafgjiaaGreatDoorTBe2
import Derived.Test.YtjglhackafgjiaaGreatDoorTBe3
namespace Go.Proofs.YtjglhackafgjiaaGreatDoor.E
set_option linter.unusedVariables false
theorem aa{α β:Type _}(a:α)(f:α→Option β):(some a).bind f=f a:=rfl
theorem ab{p:Prop}[Decidable p]:(decide p=true)=p:=decide_eq_true_eq
theorem ac{p:Prop}[Decidable p](a:p):decide p=true:=decide_eq_true a
theorem ae{p:Prop}[Decidable p](a:¬p):decide p=false:=decide_eq_false a
theorem af(n:Nat):((n:Int)).toNat=n:=Int.toNat_natCast n
theorem ag{α:Type _}{x y:List α}:(x++y).length=x.length+y.length:=List.length_append
theorem ah{α:Type _}(x y z:List α):x++y++z=x++(y++z):=List.append_assoc x y z
theorem ai{α:Type _}{i:Nat}{l:List α}(h:i<l.length):l.drop i=l[i]::l.drop (i+1):=List.drop_eq_getElem_cons h
theorem aj{α:Sort _}{p:Prop}[Decidable p]{a b:α}(h:¬p):(if decide p=true then a else b)=b:=if_neg (by rw[decide_eq_true_eq];exact h)
theorem ak{α:Sort _}{p:Prop}[Decidable p]{a b:α}(h:p):(if decide p=true then a else b)=a:=if_pos (decide_eq_true h)
theorem aF{n:Int}(h:-9223372036854775808≤n)(h':n≤9223372036854775807):w64 n=n:=by
 show IntKind.i64.wrap n=n
 rw[IntKind.wrap_i64];omega
theorem yl{n:Int}(h:0≤n)(h':n≤255):w8 n=n:=by
 show IntKind.u8.wrap n=n
 rw[IntKind.wrap_u8];omega
theorem QW(n:Int):0≤w8 n∧w8 n≤255:=by
 show 0≤IntKind.u8.wrap n∧IntKind.u8.wrap n≤255
 rw[IntKind.wrap_u8];omega
theorem aR{i:Nat}{n:Nat}(h:i<n)(hn:n≤9223372036854775807):w64 ((i:Int)+1)=((i+1:Nat):Int):=by
 rw[aF (by omega) (by omega)];omega
theorem aN:room=4294967296:=rfl
theorem yZ{ρ:Type}(a:Option ρ):amb a a=a:=by unfold amb;rw[if_pos rfl]
theorem bj{α:Type}{l:List α}{i:Nat}(h:i<l.length)(z:α):l.getD i z=l[i]:=by
 rw[List.getD_eq_getElem?_getD,List.getElem?_eq_getElem h];rfl
theorem aS{α:Type}{l:List α}{i:Nat}(h:i<l.length)(z:α):l.getD (i:Int).toNat z=l[i]:=by
 rw[af];exact bj h z
theorem FN{α β:Type}(L:List β→Int→Option (List β×Unit))(f:α→β)(l:List α)
  (step:∀ (acc:List β) (i:Nat) (h:i<l.length),acc.length=l.length→L acc i=L (acc.set i (f l[i])) ((i+1:Nat):Int))
  (stop:∀ acc:List β,acc.length=l.length→L acc (l.length:Int)=some (acc,())) (acc:List β) (ha:acc.length=l.length):L acc 0=some (l.map f,()):=by
 have key:∀ (d i:Nat) (acc:List β),acc.length=l.length→i+d=l.length→(∀ j (hj:j<i) (h:j<l.length),acc[j]? = some (f l[j]))→L acc (i:Int)=some (l.map f,()):=by
  intro d
  induction d with
  | zero =>
   intro i acc ha hd hj
   have hi:i=l.length:=by omega
   subst hi
   rw[stop acc ha]
   congr 2
   apply List.ext_getElem?
   intro j
   by_cases h:j<l.length
   ·rw[hj j h h,List.getElem?_map,List.getElem?_eq_getElem h];rfl
   ·rw[List.getElem?_eq_none (by omega),List.getElem?_eq_none (by rw[List.length_map];omega)]
  | succ d ih =>
   intro i acc ha hd hj
   have hi:i<l.length:=by omega
   rw[step acc i hi ha]
   refine ih (i+1) _ (by rw[List.length_set];exact ha) (by omega) fun j hji h=>?_
   by_cases e:i=j
   ·subst e
    rw[List.getElem?_set_self (by omega)]
   ·rw[List.getElem?_set_ne e]
    exact hj j (by omega) h
 exact key l.length 0 acc ha (by omega) fun j hj _=>absurd hj (by omega)
theorem p8{ρ α:Type}(L:Int→Option ρ)(l:List α)(y:Option ρ)(step:∀ (i:Nat) (h:i<l.length),L i=L ((i+1:Nat):Int))(stop:L (l.length:Int)=y):L 0=y:=by
 have key:∀ (d i:Nat),i+d=l.length→L (i:Int)=y:=by
  intro d
  induction d with
  | zero=>intro i hd;rw[show i=l.length by omega];exact stop
  | succ d ih=>intro i hd;rw[step i (by omega)];exact ih (i+1) (by omega)
 exact key l.length 0 (by omega)
theorem lP{α:Type}{l:List α}{i:Nat}(h:i<l.length)(a z:α):(l.set i a).getD i z=a:=by
 rw[List.getD_eq_getElem?_getD,List.getElem?_set_self h];rfl
theorem QB{α:Type}(L:Int→Int→Option (Int×Unit))(S:α→Int→Option (Int×Unit))(l:List α)(Q:α→Prop)(hl:l.length≤9223372036854775807)
  (hS:∀ x∈l,∀ k:Int,0≤k→k≤1048576→∃ r,S x k=some (r,())∧r≤1048576∧(0≤r→Q x))
  (stop:∀ k,L k (l.length:Int)=some (k,()))
  (step:∀ (k:Int) (i:Nat) (h:i<l.length),L k i=(S l[i] k).bind fun(r0:Int×Unit)=>if(decide (r0.1<0))=true then some ((-1),())else L r0.1 ((i+1:Nat):Int))
  (n:Int) (h0:0≤n) (h1:n≤1048576):∃ r,L n 0=some (r,())∧r≤1048576∧(0≤r→∀ x∈l,Q x):=by
 have key:∀ (d i:Nat) (k:Int),i+d=l.length→0≤k→k≤1048576→∃ r,L k i=some (r,())∧r≤1048576∧(0≤r→∀ j (h:j<l.length),i≤j→Q l[j]):=by
  intro d
  induction d with
  | zero =>
   intro i k hd k0 k1
   have hi:i=l.length:=by omega
   subst hi
   exact⟨k,stop k,k1,fun _ j hj hij=>by omega⟩
  | succ d ih =>
   intro i k hd k0 k1
   have hi:i<l.length:=by omega
   obtain⟨r,e1,e2,e3⟩:=hS l[i] (List.getElem_mem hi) k k0 k1
   rw[step k i hi,e1,aa]
   by_cases h:r<0
   ·rw[ak h]
    exact⟨-1,rfl,by omega,fun h=>by omega⟩
   ·rw[aj h]
    obtain⟨r',g1,g2,g3⟩:=ih (i+1) r (by omega) (by omega) e2
    refine⟨r',g1,g2,fun hr j hj hij=>?_⟩
    by_cases e:j=i
    ·subst e;exact e3 (by omega)
    ·exact g3 hr j hj (by omega)
 obtain⟨r,e1,e2,e3⟩:=key l.length 0 n (by omega) h0 h1
 exact⟨r,e1,e2,fun hr x hx=>by
  obtain⟨j,hj,rfl⟩:=List.mem_iff_getElem.1 hx
  exact e3 hr j hj (by omega)⟩
theorem CN{α:Type}(L:List α→Int→Int→Option (Int×List α×Unit))(H:List α→Int→Int→Option (Int×Unit))(P:α→Prop)(b:Nat)(bd:Int)
  (stop:∀ a k,L a k (a.length:Int)=some (k,a,())) (hstop:∀ a k,H a k (a.length:Int)=some (k,()))
  (step:∀ (a:List α) (k:Int) (i:Nat) (h:i<a.length),a.length≤4294967296→P a[i]→0≤k→k+b≤bd →
   ∃ y k',L a k i=L (a.set i y) k' ((i+1:Nat):Int)∧k≤k'∧k'≤k+b∧∀ (c:List α) (hc:i<c.length),c.length≤4294967296→c[i]=y→H c k i=H c k' ((i+1:Nat):Int))
  (l:List α) (k:Int) (hl:l.length≤4294967296) (hP:∀ x∈l,P x) (hk:0≤k) (hb:k+b*l.length≤bd) :
  ∃ k' l',L l k 0=some (k',l',())∧H l' k 0=some (k',())∧l'.length=l.length∧k≤k'∧k'≤k+b*l.length:=by
 have hs:∀ d:Nat,(b*((d+1:Nat):Int):Int)=b*d+b:=fun d=>by rw[Int.natCast_add,Int.mul_add];simp
 have hz:∀ d:Nat,(0:Int)≤b*d:=fun d=>by exact_mod_cast Nat.zero_le (b*d)
 have key:∀ (d i:Nat) (a:List α) (k:Int),i+d=a.length→a.length≤4294967296→(∀ j (h:j<a.length),i≤j→P a[j])→0≤k→k+b*d≤bd →
   ∃ k' a',L a k (i:Int)=some (k',a',())∧k≤k'∧k'≤k+b*d∧a'.length=a.length∧(∀ j,j<i→a'[j]? = a[j]?) ∧
    ∀ c:List α,c.length=a.length→(∀ j,i≤j→c[j]? = a'[j]?)→H c k (i:Int)=some (k',()):=by
  intro d
  induction d with
  | zero =>
   intro i a k hd hl hp hk hb
   have hi:i=a.length:=by omega
   subst hi
   refine⟨k,a,stop a k,Int.le_refl k,by simp,rfl,fun _ _=>rfl,fun c hc _=>?_⟩
   rw[← hc];exact hstop c k
  | succ d ih =>
   intro i a k hd hl hp hk hb
   have hi:i<a.length:=by omega
   have h0:=hz d
   rw[hs]at hb
   obtain⟨y,k1,e1,e2,e3,e4⟩:=step a k i hi hl (hp i hi (Nat.le_refl i)) hk (by omega)
   obtain⟨k',a',f1,f2,f3,f4,f5,f6⟩:=ih (i+1) (a.set i y) k1 (by rw[List.length_set];omega) (by rw[List.length_set];exact hl)
    (fun j hj hij=>by rw[List.getElem_set_ne (by omega)];exact hp j (by rw[List.length_set]at hj;exact hj) (by omega)) (by omega) (by omega)
   rw[List.length_set]at f4 f6
   refine⟨k',a',e1.trans f1,by omega,by rw[hs];omega,f4,fun j hj=>?_,fun c hc hcj=>?_⟩
   ·rw[f5 j (by omega),List.getElem?_set_ne (by omega)]
   ·have hic:i<c.length:=by omega
    have hc0:c[i]? = some y:=by rw[hcj i (Nat.le_refl i),f5 i (by omega),List.getElem?_set_self hi]
    rw[List.getElem?_eq_getElem hic]at hc0
    rw[e4 c hic (by omega) (Option.some.inj hc0)]
    exact f6 c hc fun j hj=>hcj j (by omega)
 obtain⟨k',a',e1,e2,e3,e4,_,e6⟩:=key l.length 0 l k (by omega) hl (fun j hj _=>hP _ (List.getElem_mem hj)) hk hb
 exact⟨k',a',e1,e6 a' e4 fun _ _=>rfl,e4,e2,e3⟩
end Go.Proofs.YtjglhackafgjiaaGreatDoor.E
namespace Go.Proofs.YtjglhackafgjiaaGreatDoor.E.TB
open Go.Proofs.YtjglhackafgjiaaGreatDoor.E
set_option linter.unusedVariables false
theorem MF(n:Nat):∀ (k:Int) (s:List Int),k≤9223372036854775807→0≤k→k<10 ^ n→s.length+n≤1000→∃ t,rm k s=some (t,()):=by
 induction n with
 | zero =>
  intro k s h h0 hk hs
  have:k=0:=by simp at hk;omega
  subst this
  rw[Cq,if_neg (by simp),if_pos (by show 1+s.length≤_;omega)]
  exact⟨_,rfl⟩
 | succ n ih =>
  intro k s h h0 hk hs
  rw[Cq]
  by_cases h:k>0
  ·rw[ak h,if_pos (by show 1+s.length≤_;omega),Int.tdiv_eq_ediv_of_nonneg h0,aF (n:=k/10) (by omega) (by omega)]
   refine ih (k/10) _ (by omega) (by omega) ?_ (by show(s.length+1)+n≤1000;omega)
   rw[Int.pow_succ]at hk
   omega
  ·rw[aj h,if_pos (by show 1+s.length≤_;omega)]
   exact⟨_,rfl⟩
theorem MG(k:Int)(h:k≤9223372036854775807):∃ t,eV k=some (t,()):=by
 rw[L9]
 by_cases h0:k≤0
 ·rw[ak h0];exact⟨_,rfl⟩
 ·rw[aj h0]
  exact MF 19 k [] h (by omega) (by omega) (by simp)
open Classical in
noncomputable def kM(k:Int):List Int:=if h:∃ t,eV k=some (t,())then Classical.choose h else []
theorem jr(k:Int)(h:k≤9223372036854775807):eV k=some (kM k,()):=by
 have:=MG k h
 unfold kM
 rw[dif_pos this]
 exact Classical.choose_spec this
def f7(M:Nat)(x:au):Prop:=x.S.length≤M
def iH(M:Nat)(x:al):Prop:=x.Key.length≤M∧f7 M x.Val
def iJ(M:Nat)(x:ar):Prop:=(x.Vars.length≤M∧∀ y∈x.Vars,f7 M y)∧(x.Cells.length≤M∧∀ y∈x.Cells,iH M y)
theorem AE(x:au)(h:f7 2097152 x):rh x x=some (true,()):=by
 unfold f7 at h
 rw[LX]
 simp
theorem Jr(l:List au)(h:l.length≤2097152∧∀ x∈l,f7 2097152 x):wd l l=some (true,()):=by
 have hl:=h.1
 rw[LW,if_neg (by simp)]
 exact p8 (fun i=>mi l l i) l _ (fun i hi=>by
  show mi l l i=_
  rw[Cj,ak (by omega),if_pos (by omega),if_pos (by omega),aS hi,AE _ (h.2 _ (List.getElem_mem hi)),aa,if_neg (by simp),aR hi (by omega)]) (by
  show mi l l _=_
  rw[Cj,if_neg (by simp)])
theorem Jy(l:List au)(k:Int)(h:l.length≤2097152∧∀ x∈l,f7 2097152 x)(hk:0≤k)(hb:k+6291456≤2305843009213693952):∃ k' l',wk l k=some (k',l',())∧wg l' k=some (k',())∧l'.length=l.length∧k≤k'∧k'≤k+6291456:=by
 have hl:=h.1
 rw[Ma]
 have step:∀ (a:List au) (k:Int) (i:Nat) (hi:i<a.length),a.length≤4294967296→(f7 2097152) a[i]→0≤k→k+(3:Nat)≤2305843009213693952→∃ y k',ig a k i=ig (a.set i y) k' ((i+1:Nat):Int)∧k≤k'∧k'≤k+(3:Nat)∧∀ (d:List au) (hd:i<d.length),d.length≤4294967296→d[i]=y→ib d k i=ib d k' ((i+1:Nat):Int):=by
  intro a k i hi ha hp hk hb
  have c:(0:Int)≤(i:Int)∧(i:Int)<(a.length:Int):=by omega
  refine⟨⟨k,k+1,kM (k+1+1)⟩,k+1+1+1,?_,by omega,by omega,fun d hd hdl hdy=>?_⟩
  ·show ig a k i=ig _ _ _
   rw[Cr,ak c.2,if_pos c,aF (n:=k+1) (by omega) (by omega),aF (n:=k+1+1) (by omega) (by omega),aF (n:=k+1+1+1) (by omega) (by omega),aR hi (by omega),jr _ (by omega)]
   simp only[List.length_set,if_pos c,aa,af,lP,hi,List.set_set]
  ·show ib d k i=ib _ _ _
   have c2:(0:Int)≤(i:Int)∧(i:Int)<(d.length:Int):=by omega
   rw[Cl,ak c2.2,aF (n:=k+1) (by omega) (by omega),aF (n:=k+1+1) (by omega) (by omega),aF (n:=k+1+1+1) (by omega) (by omega),aR hd (by omega),jr _ (by omega),aS hd,hdy]
   simp only[if_pos c2,aa,decide_true,Bool.not_true,Bool.false_eq_true,if_false]
 obtain⟨k',l',e1,e2,e3,e4,e5⟩:=CN (fun a k i=>ig a k i) (fun a k i=>ib a k i) (f7 2097152) 3 2305843009213693952
  (fun a k=>by show ig a k _=_;rw[Cr,if_neg (by simp)])
  (fun a k=>by show ib a k _=_;rw[Cl,if_neg (by simp)])
  step l k (by omega) (h.2) hk (by omega)
 exact⟨k',l',e1,by rw[L0];exact e2,e3,e4,by omega⟩
theorem Jm(x:al)(h:iH 2097152 x):v8 x x=some (true,()):=by
 unfold iH at h
 rw[LQ]
 rw[AE _ (h.2)]
 simp
theorem Jn(l:List al)(h:l.length≤2097152∧∀ x∈l,iH 2097152 x):wa l l=some (true,()):=by
 have hl:=h.1
 rw[LP,if_neg (by simp)]
 exact p8 (fun i=>mf l l i) l _ (fun i hi=>by
  show mf l l i=_
  rw[Cg,ak (by omega),if_pos (by omega),if_pos (by omega),aS hi,Jm _ (h.2 _ (List.getElem_mem hi)),aa,if_neg (by simp),aR hi (by omega)]) (by
  show mf l l _=_
  rw[Cg,if_neg (by simp)])
theorem Jv(l:List al)(k:Int)(h:l.length≤2097152∧∀ x∈l,iH 2097152 x)(hk:0≤k)(hb:k+10485760≤2305843009213693952):∃ k' l',wh l k=some (k',l',())∧we l' k=some (k',())∧l'.length=l.length∧k≤k'∧k'≤k+10485760:=by
 have hl:=h.1
 rw[L4]
 have step:∀ (a:List al) (k:Int) (i:Nat) (hi:i<a.length),a.length≤4294967296→(iH 2097152) a[i]→0≤k→k+(5:Nat)≤2305843009213693952→∃ y k',ic a k i=ic (a.set i y) k' ((i+1:Nat):Int)∧k≤k'∧k'≤k+(5:Nat)∧∀ (d:List al) (hd:i<d.length),d.length≤4294967296→d[i]=y→ia d k i=ia d k' ((i+1:Nat):Int):=by
  intro a k i hi ha hp hk hb
  have c:(0:Int)≤(i:Int)∧(i:Int)<(a.length:Int):=by omega
  refine⟨⟨k,kM (k+1),⟨k+1+1,k+1+1+1,kM (k+1+1+1+1)⟩⟩,k+1+1+1+1+1,?_,by omega,by omega,fun d hd hdl hdy=>?_⟩
  ·show ic a k i=ic _ _ _
   rw[Cm,ak c.2,if_pos c,aF (n:=k+1) (by omega) (by omega),aF (n:=k+1+1) (by omega) (by omega),aF (n:=k+1+1+1) (by omega) (by omega),aF (n:=k+1+1+1+1) (by omega) (by omega),aF (n:=k+1+1+1+1+1) (by omega) (by omega),aR hi (by omega),jr _ (by omega),jr _ (by omega)]
   simp only[List.length_set,if_pos c,aa,af,lP,hi,List.set_set]
  ·show ia d k i=ia _ _ _
   have c2:(0:Int)≤(i:Int)∧(i:Int)<(d.length:Int):=by omega
   rw[Ck,ak c2.2,aF (n:=k+1) (by omega) (by omega),aF (n:=k+1+1) (by omega) (by omega),aF (n:=k+1+1+1) (by omega) (by omega),aF (n:=k+1+1+1+1) (by omega) (by omega),aF (n:=k+1+1+1+1+1) (by omega) (by omega),aR hd (by omega),jr _ (by omega),jr _ (by omega),aS hd,hdy]
   simp only[if_pos c2,aa,decide_true,Bool.not_true,Bool.false_eq_true,if_false]
 obtain⟨k',l',e1,e2,e3,e4,e5⟩:=CN (fun a k i=>ic a k i) (fun a k i=>ia a k i) (iH 2097152) 5 2305843009213693952
  (fun a k=>by show ic a k _=_;rw[Cm,if_neg (by simp)])
  (fun a k=>by show ia a k _=_;rw[Ck,if_neg (by simp)])
  step l k (by omega) (h.2) hk (by omega)
 exact⟨k',l',e1,by rw[LY];exact e2,e3,e4,by omega⟩
theorem Jq(x:ar)(h:iJ 2097152 x):oD x x=some (true,()):=by
 unfold iJ at h
 rw[LU]
 rw[Jr _ (h.1),Jn _ (h.2)]
 simp
theorem Jx(x:ar)(k:Int)(h:iJ 2097152 x)(hk:0≤k)(hb:k+16777216≤2305843009213693952):∃ k' x',wj x k=some (k',x',())∧ri x' k=some (k',())∧k≤k'∧k'≤k+16777216:=by
 unfold iJ at h
 obtain⟨k0,x0,a0,b0,_,c0,d0⟩:=Jy x.Vars k (h.1) (by omega) (by omega)
 obtain⟨k1,x1,a1,b1,_,c1,d1⟩:=Jv x.Cells k0 (h.2) (by omega) (by omega)
 refine⟨k1,⟨x0,x1,x.Nr,x.Err⟩,?_,?_,by omega,by omega⟩
 ·rw[L7,a0,aa,a1,aa]
 ·rw[LZ,b0,aa,aj (by omega),b1,aa,aj (by omega)]
end Go.Proofs.YtjglhackafgjiaaGreatDoor.E.TB
namespace Go.Proofs.YtjglhackafgjiaaGreatDoor.E
set_option linter.unusedVariables false
def cH(p:Nat→Bool)(n:Nat):Bool:=(List.range n).any p
theorem anyB_iff{p:Nat→Bool}{n:Nat}:cH p n=true ↔ ∃ i,i<n∧p i=true:=by
 unfold cH
 rw[List.any_eq_true]
 constructor
 ·rintro ⟨i,h,e⟩;exact⟨i,List.mem_range.1 h,e⟩
 ·rintro ⟨i,h,e⟩;exact⟨i,List.mem_range.2 h,e⟩
theorem anyB_false{p:Nat→Bool}{n:Nat}:cH p n=false ↔ ∀ i,i<n→p i=false:=by
 rw[← Bool.not_eq_true,anyB_iff]
 constructor
 ·intro h i hi
  cases e:p i with
  | false=>rfl
  | true=>exact absurd ⟨i,hi,e⟩ h
 ·rintro h ⟨i,hi,e⟩
  rw[h i hi]at e;cases e
theorem Hl(p q:Nat→Bool)(n:Nat):cH (fun i=>p i||q i) n=(cH p n||cH q n):=by
 cases h:cH p n with
 | true =>
  obtain⟨i,hi,e⟩:=anyB_iff.1 h
  rw[Bool.true_or,anyB_iff];exact⟨i,hi,by rw[e];rfl⟩
 | false =>
  rw[Bool.false_or]
  have h':=anyB_false.1 h
  cases g:cH q n with
  | true =>
   obtain⟨i,hi,e⟩:=anyB_iff.1 g
   rw[anyB_iff];exact⟨i,hi,by rw[e,Bool.or_true]⟩
  | false=>rw[anyB_false];intro i hi;rw[h' i hi,anyB_false.1 g i hi];rfl
theorem gM{ρ:Type}(F:Int→Option ρ)(n:Nat)(p:Nat→Bool)(x y:Option ρ)
  (step:∀ i:Nat,i<n→F i=if p i=true then x else F ((i+1:Nat):Int)) (stop:F (n:Int)=y):F 0=if cH p n=true then x else y:=by
 have key:∀ (d i:Nat),i+d=n→(∀ j,j<i→p j=false)→F (i:Int)=if cH p n=true then x else y:=by
  intro d
  induction d with
  | zero =>
   intro i hd hj
   have hi:i=n:=by omega
   subst hi
   rw[stop,anyB_false.2 hj];rfl
  | succ d ih =>
   intro i hd hj
   rw[step i (by omega)]
   cases e:p i with
   | true=>rw[if_pos rfl,anyB_iff.2 ⟨i,by omega,e⟩,if_pos rfl]
   | false =>
    rw[if_neg (by simp)]
    refine ih (i+1) (by omega) fun j h=>?_
    by_cases h':j=i
    ·subst h';exact e
    ·exact hj j (by omega)
 exact key n 0 (by omega) (fun j h=>absurd h (by omega))
theorem g9{σ:Type}(F:Int→Option (Int×σ))(s:σ)(n:Nat)(p:Nat→Bool)
  (step:∀ i:Nat,i<n→F i=if p i=true then some ((i:Int),s)else F ((i+1:Nat):Int)) (stop:F (n:Int)=some (-1,s)) :
  ∃ k:Int,F 0=some (k,s)∧decide (k≥0)=cH p n∧k<n∧(0≤k→p k.toNat=true∧∀ j:Nat,(j:Int)<k→p j=false)∧(k<0→k = -1):=by
 have key:∀ (d i:Nat),i+d=n→(∀ j,j<i→p j=false)→∃ k:Int,F (i:Int)=some (k,s)∧decide (k≥0)=cH p n∧k<n∧(0≤k→p k.toNat=true∧∀ j:Nat,(j:Int)<k→p j=false)∧(k<0→k = -1):=by
  intro d
  induction d with
  | zero =>
   intro i hd hj
   have hi:i=n:=by omega
   subst hi
   exact⟨-1,stop,by rw[anyB_false.2 hj];rfl,by omega,fun h=>by omega,fun _=>rfl⟩
  | succ d ih =>
   intro i hd hj
   rw[step i (by omega)]
   cases e:p i with
   | true=>rw[if_pos rfl];exact⟨i,rfl,by rw[anyB_iff.2 ⟨i,by omega,e⟩];exact ac (by omega),by omega,fun _=>⟨by rw[af];exact e,fun j h=>hj j (by omega)⟩,fun h=>by omega⟩
   | false =>
    rw[if_neg (by simp)]
    refine ih (i+1) (by omega) fun j h=>?_
    by_cases h':j=i
    ·subst h';exact e
    ·exact hj j (by omega)
 exact key n 0 (by omega) (fun j h=>absurd h (by omega))
theorem er{α:Type}(l:List α)(z:α)(p:α→Bool):cH (fun i=>p (l.getD i z)) l.length=l.any p:=by
 cases h:l.any p with
 | true =>
  obtain⟨x,hx,e⟩:=List.any_eq_true.1 h
  obtain⟨i,hi,rfl⟩:=List.mem_iff_getElem.1 hx
  exact anyB_iff.2 ⟨i,hi,by rw[bj hi];exact e⟩
 | false =>
  rw[anyB_false]
  intro i hi
  rw[bj hi]
  cases e:p l[i] with
  | false=>rfl
  | true =>
   have:l.any p=true:=List.any_eq_true.2 ⟨l[i],List.getElem_mem hi,e⟩
   rw[h]at this;cases this
theorem CM{α:Type}(L:List α→Int→Int→Option (Int×Unit))(P:α→Prop)(b:Nat)(bd:Int)
  (stop:∀ a k,L a k (a.length:Int)=some (k,()))
  (step:∀ (a:List α) (k:Int) (i:Nat) (h:i<a.length),a.length≤4294967296→P a[i]→0≤k→k+b≤bd→∃ y k',L a k i=L (a.set i y) k' ((i+1:Nat):Int)∧k≤k'∧k'≤k+b)
  (l:List α) (k:Int) (hl:l.length≤4294967296) (hP:∀ x∈l,P x) (hk:0≤k) (hb:k+b*l.length≤bd) :
  ∃ k',L l k 0=some (k',())∧k≤k'∧k'≤k+b*l.length:=by
 have hs:∀ d:Nat,(b*((d+1:Nat):Int):Int)=b*d+b:=fun d=>by rw[Int.natCast_add,Int.mul_add];simp
 have hz:∀ d:Nat,(0:Int)≤b*d:=fun d=>by exact_mod_cast Nat.zero_le (b*d)
 have key:∀ (d i:Nat) (a:List α) (k:Int),i+d=a.length→a.length≤4294967296→(∀ j (h:j<a.length),i≤j→P a[j])→0≤k→k+b*d≤bd →
   ∃ k',L a k (i:Int)=some (k',())∧k≤k'∧k'≤k+b*d:=by
  intro d
  induction d with
  | zero =>
   intro i a k hd hl hp hk hb
   have hi:i=a.length:=by omega
   subst hi
   exact⟨k,stop a k,Int.le_refl k,by simp⟩
  | succ d ih =>
   intro i a k hd hl hp hk hb
   have hi:i<a.length:=by omega
   have h0:=hz d
   rw[hs]at hb
   obtain⟨y,k1,e1,e2,e3⟩:=step a k i hi hl (hp i hi (Nat.le_refl i)) hk (by omega)
   obtain⟨k',f1,f2,f3⟩:=ih (i+1) (a.set i y) k1 (by rw[List.length_set];omega) (by rw[List.length_set];exact hl)
    (fun j hj hij=>by rw[List.getElem_set_ne (by omega)];exact hp j (by rw[List.length_set]at hj;exact hj) (by omega)) (by omega) (by omega)
   exact⟨k',e1.trans f1,by omega,by rw[hs];omega⟩
 exact key l.length 0 l k (by omega) hl (fun j hj _=>hP _ (List.getElem_mem hj)) hk hb
end Go.Proofs.YtjglhackafgjiaaGreatDoor.E
namespace Go.Proofs.YtjglhackafgjiaaGreatDoor.E.TB
open Go.Proofs.YtjglhackafgjiaaGreatDoor.E
set_option linter.unusedVariables false
theorem AM(l:List (List Int))(n:Int)(h:l.length≤9223372036854775807∧∀ x∈l,x.length≤9223372036854775807)(h0:0≤n)(h1:n≤1048576):∃ r,rp l n=some (r,())∧r≤1048576∧(0≤r→l.length≤1048576∧∀ x∈l,x.length≤1048576):=by
 have hl:=h.1
 rw[Me,aF (n:=n-(l.length:Int)) (by omega) (by omega)]
 by_cases c:n-(l.length:Int)<0
 ·rw[ak c];exact⟨-1,rfl,by omega,fun h=>by omega⟩
 ·rw[aj c]
  have key:∀ (d i:Nat) (k:Int),i+d=l.length→0≤k→k≤1048576→∃ r,rq l k i=some (r,())∧r≤1048576∧(0≤r→∀ j (h:j<l.length),i≤j→l[j].length≤1048576):=by
   intro d
   induction d with
   | zero =>
    intro i k hd k0 k1
    rw[Ct,aj (by omega)]
    exact⟨k,rfl,k1,fun _ j hj hij=>by omega⟩
   | succ d ih =>
    intro i k hd k0 k1
    have hi:i<l.length:=by omega
    have hx:=h.2 _ (List.getElem_mem hi)
    rw[Ct,ak (by omega),if_pos (by omega),aS hi,aR hi (by omega),aF (n:=k-(l[i].length:Int)) (by omega) (by omega)]
    by_cases g:k-(l[i].length:Int)<0
    ·rw[ak g];exact⟨-1,rfl,by omega,fun h=>by omega⟩
    ·rw[aj g]
     obtain⟨r,e1,e2,e3⟩:=ih (i+1) (k-(l[i].length:Int)) (by omega) (by omega) (by omega)
     refine⟨r,e1,e2,fun hr j hj hij=>?_⟩
     by_cases e:j=i
     ·subst e;omega
     ·exact e3 hr j hj (by omega)
  obtain⟨r,e1,e2,e3⟩:=key l.length 0 (n-l.length) (by omega) (by omega) (by omega)
  exact⟨r,e1,e2,fun hr=>⟨by omega,fun x hx=>by
   obtain⟨j,hj,rfl⟩:=List.mem_iff_getElem.1 hx
   exact e3 hr j hj (by omega)⟩⟩
theorem AO(l:List (List Int))(h:l.length≤1048576∧∀ x∈l,x.length≤1048576):rt l=some (l,()):=by
 rw[Mi,if_pos (by have:=h.1;rw[aN];omega)]
 have:=FN (fun acc i=>mn l acc i) id l (fun acc i hi ha=>by
  show mn l acc i=_
  have hl:=h.1
  rw[Cv,ak (by omega),if_pos (by omega),if_pos (by omega),aR hi (by omega),af,bj hi]
  rfl) (fun acc ha=>by
  show mn l acc _=_
  rw[Cv,if_neg (by simp)]) (List.replicate (List.length l:Int).toNat []) (by simp)
 rw[List.map_id]at this
 exact this
theorem AD(l:List (List Int))(h:l.length≤2097152∧∀ x∈l,x.length≤2097152):rg l l=some (true,()):=by
 have hl:=h.1
 rw[LV,if_neg (by simp)]
 exact p8 (fun i=>mh l l i) l _ (fun i hi=>by
  show mh l l i=_
  rw[Ci,ak (by omega),if_pos (by omega),if_pos (by omega),if_neg (by simp),aR hi (by omega)]) (by
  show mh l l _=_
  rw[Ci,if_neg (by simp)])
theorem AJ(l:List (List Int))(k:Int)(h:l.length≤2097152∧∀ x∈l,x.length≤2097152)(hk:0≤k)(hb:k+2097152≤2305843009213693952):∃ k',rl l k=some (k',())∧k≤k'∧k'≤k+2097152:=by
 have hl:=h.1
 rw[L8]
 obtain⟨k',e1,e2,e3⟩:=CM (fun a k i=>kJ a k i) (fun _=>True) 1 2305843009213693952 (fun a k=>by show kJ a k _=_;rw[Cp,if_neg (by simp)])
  (fun a k i hi ha hp hk hb=>⟨kM k,k+1,by
   show kJ a k i=kJ _ _ _
   rw[Cp,ak (by omega),jr _ (by omega),aa,if_pos (by omega),aF (n:=k+1) (by omega) (by omega),aR hi (by omega),af],by omega,by omega⟩) l k (by omega) (fun _ _=>trivial) hk (by omega)
 exact⟨k',e1,e2,by omega⟩
def de(M:Nat)(x:ax):Prop:=x.S.length≤M
def fm(M:Nat)(x:am):Prop:=x.S.length≤M
def eo(M:Nat)(x:ay):Prop:=(x.Vars.length≤M∧∀ y∈x.Vars,y.length≤M)∧(x.Cells.length≤M∧∀ y∈x.Cells,y.length≤M)∧(x.Start.length≤M∧∀ y∈x.Start,de M y)∧(x.Main.length≤M∧∀ y∈x.Main,de M y)
def iI(M:Nat)(x:ap):Prop:=(x.Vars.length≤M∧∀ y∈x.Vars,y.length≤M)∧(x.Cells.length≤M∧∀ y∈x.Cells,y.length≤M)∧(x.Start.length≤M∧∀ y∈x.Start,fm M y)∧(x.Main.length≤M∧∀ y∈x.Main,fm M y)
theorem AF{d:Nat}{x:ax}(h:en (G:=gam) (d+3) (.nm 1) x):de 9223372036854775807 x:=by
 have h':_∧_∧(x.S.length≤9223372036854775807∧_)∧_:=h
 unfold de
 exact h'.2.2.1.1
theorem Jt{d:Nat}{x:ay}(h:en (G:=gam) (d+5) (.nm 0) x):eo 9223372036854775807 x:=by
 have h':(x.Vars.length≤9223372036854775807∧∀ y∈x.Vars,(y.length≤9223372036854775807∧∀ b∈y,0≤b∧b≤255))∧(x.Cells.length≤9223372036854775807∧∀ y∈x.Cells,(y.length≤9223372036854775807∧∀ b∈y,0≤b∧b≤255))∧(x.Start.length≤9223372036854775807∧∀ y∈x.Start,en (G:=gam) (d+3) (.nm 1) y)∧(x.Main.length≤9223372036854775807∧∀ y∈x.Main,en (G:=gam) (d+3) (.nm 1) y)∧_:=h
 unfold eo
 exact⟨⟨h'.1.1,fun y hy=>(h'.1.2 y hy).1⟩,⟨h'.2.1.1,fun y hy=>(h'.2.1.2 y hy).1⟩,⟨h'.2.2.1.1,fun y hy=>AF (d:=d+0) (h'.2.2.1.2 y hy)⟩,⟨h'.2.2.2.1.1,fun y hy=>AF (d:=d+0) (h'.2.2.2.1.2 y hy)⟩⟩
theorem Jz(x:ax)(n:Int)(h:de 9223372036854775807 x)(h0:0≤n)(h1:n≤1048576):∃ r,rn x n=some (r,())∧r≤1048576∧(0≤r→de 1048576 x):=by
 unfold de at h
 rw[Mc]
 have hl0:=h
 rw[aF (n:=n-(x.S.length:Int)) (by omega) (by omega)]
 by_cases c0:n-(x.S.length:Int)<0
 ·rw[ak c0];exact⟨-1,rfl,by omega,fun h=>by omega⟩
 rw[aj c0]
 exact⟨_,rfl,by omega,fun _=>by unfold de;exact by omega⟩
def jc(x:ax):am:=⟨x.Code,x.N,x.S⟩
theorem JB(x:ax)(h:de 1048576 x):wm x=some (jc x,()):=by
 unfold de at h
 rw[Mg]
 rfl
theorem AG{x:ax}{M:Nat}(h:de M x):fm M (jc x):=by
 unfold de at h
 unfold fm jc
 exact h
theorem Jo(x:am)(h:fm 2097152 x):wb x x=some (true,()):=by
 unfold fm at h
 rw[LS]
 simp
theorem AL(l:List ax)(n:Int)(h:l.length≤9223372036854775807∧∀ x∈l,de 9223372036854775807 x)(h0:0≤n)(h1:n≤1048576):∃ r,ro l n=some (r,())∧r≤1048576∧(0≤r→l.length≤1048576∧∀ x∈l,de 1048576 x):=by
 have hl:=h.1
 rw[Mb,aF (n:=n-(l.length:Int)) (by omega) (by omega)]
 by_cases c:n-(l.length:Int)<0
 ·rw[ak c];exact⟨-1,rfl,by omega,fun h=>by omega⟩
 ·rw[aj c]
  obtain⟨r,e1,e2,e3⟩:=QB (fun k i=>mj l k i) rn l (de 1048576) (by omega) (fun x hx k k0 k1=>Jz x k (h.2 x hx) k0 k1)
   (fun k=>by show mj l k _=_;rw[Cs,if_neg (by simp)])
   (fun k i hi=>by show mj l k i=_;rw[Cs,ak (by omega),if_pos (by omega),aS hi,aR hi (by omega)]) (n-l.length) (by omega) (by omega)
  exact⟨r,e1,e2,fun hr=>⟨by omega,e3 hr⟩⟩
theorem AN(l:List ax)(h:l.length≤1048576∧∀ x∈l,de 1048576 x):rr l=some (l.map jc,()):=by
 rw[Mf,if_pos (by have:=h.1;rw[aN];omega)]
 have:=FN (fun acc i=>ml l acc i) jc l (fun acc i hi ha=>by
  show ml l acc i=_
  have hl:=h.1
  rw[Cu,ak (by omega),if_pos (by omega),aS hi,JB _ (h.2 _ (List.getElem_mem hi)),aa,if_pos (by omega),aR hi (by omega),af]
  ) (fun acc ha=>by
  show ml l acc _=_
  rw[Cu,if_neg (by simp)]) (List.replicate (List.length l:Int).toNat bg) (by simp)
 exact this
theorem AC(l:List am)(h:l.length≤2097152∧∀ x∈l,fm 2097152 x):rf l l=some (true,()):=by
 have hl:=h.1
 rw[LR,if_neg (by simp)]
 exact p8 (fun i=>mg l l i) l _ (fun i hi=>by
  show mg l l i=_
  rw[Ch,ak (by omega),if_pos (by omega),if_pos (by omega),aS hi,Jo _ (h.2 _ (List.getElem_mem hi)),aa,if_neg (by simp),aR hi (by omega)]) (by
  show mg l l _=_
  rw[Ch,if_neg (by simp)])
theorem AH(l:List am)(k:Int)(h:l.length≤2097152∧∀ x∈l,fm 2097152 x)(hk:0≤k)(hb:k+6291456≤2305843009213693952):∃ k',rj l k=some (k',())∧k≤k'∧k'≤k+6291456:=by
 have hl:=h.1
 rw[L5]
 have step:∀ (a:List am) (k:Int) (i:Nat) (hi:i<a.length),a.length≤4294967296→(fm 2097152) a[i]→0≤k→k+(3:Nat)≤2305843009213693952→∃ y k',ie a k i=ie (a.set i y) k' ((i+1:Nat):Int)∧k≤k'∧k'≤k+(3:Nat):=by
  intro a k i hi ha hp hk hb
  have c:(0:Int)≤(i:Int)∧(i:Int)<(a.length:Int):=by omega
  refine⟨⟨k,k+1,kM (k+1+1)⟩,k+1+1+1,?_,by omega,by omega⟩
  show ie a k i=ie _ _ _
  rw[Cn,ak c.2,if_pos c,aF (n:=k+1) (by omega) (by omega),aF (n:=k+1+1) (by omega) (by omega),aF (n:=k+1+1+1) (by omega) (by omega),aR hi (by omega),jr _ (by omega)]
  simp only[List.length_set,if_pos c,aa,af,lP,hi,List.set_set]
 obtain⟨k',e1,e2,e3⟩:=CM (fun a k i=>ie a k i) (fm 2097152) 3 2305843009213693952 (fun a k=>by show ie a k _=_;rw[Cn,if_neg (by simp)]) step l k (by omega) h.2 hk (by omega)
 exact⟨k',e1,e2,by omega⟩
theorem JA(x:ay)(n:Int)(h:eo 9223372036854775807 x)(h0:0≤n)(h1:n≤1048576):∃ r,wl x n=some (r,())∧r≤1048576∧(0≤r→eo 1048576 x):=by
 unfold eo at h
 rw[Md]
 obtain⟨r0,e0,f0,g0⟩:=AM x.Vars n (h.1) (by omega) (by omega)
 rw[e0,aa]
 dsimp only
 by_cases c0:r0<0
 ·rw[ak c0];exact⟨-1,rfl,by omega,fun h=>by omega⟩
 rw[aj c0]
 obtain⟨r1,e1,f1,g1⟩:=AM x.Cells r0 (h.2.1) (by omega) (by omega)
 rw[e1,aa]
 dsimp only
 by_cases c1:r1<0
 ·rw[ak c1];exact⟨-1,rfl,by omega,fun h=>by omega⟩
 rw[aj c1]
 obtain⟨r2,e2,f2,g2⟩:=AL x.Start r1 (h.2.2.1) (by omega) (by omega)
 rw[e2,aa]
 dsimp only
 by_cases c2:r2<0
 ·rw[ak c2];exact⟨-1,rfl,by omega,fun h=>by omega⟩
 rw[aj c2]
 obtain⟨r3,e3,f3,g3⟩:=AL x.Main r2 (h.2.2.2) (by omega) (by omega)
 rw[e3,aa]
 dsimp only
 by_cases c3:r3<0
 ·rw[ak c3];exact⟨-1,rfl,by omega,fun h=>by omega⟩
 rw[aj c3]
 exact⟨_,rfl,by omega,fun _=>by unfold eo;exact⟨g0 (by omega),g1 (by omega),g2 (by omega),g3 (by omega)⟩⟩
def gf(x:ay):ap:=⟨x.Vars,x.Cells,(x.Start.map jc),(x.Main.map jc)⟩
theorem JC(x:ay)(h:eo 1048576 x):mm x=some (gf x,()):=by
 unfold eo at h
 rw[Mh]
 rw[AO _ (h.1),aa]
 rw[AO _ (h.2.1),aa]
 rw[AN _ (h.2.2.1),aa]
 rw[AN _ (h.2.2.2),aa]
 rfl
theorem Ju{x:ay}{M:Nat}(h:eo M x):iI M (gf x):=by
 unfold eo at h
 unfold iI gf
 exact⟨h.1,h.2.1,⟨by rw[List.length_map];exact(h.2.2.1).1,fun y hy=>by obtain⟨x',hx',rfl⟩:=List.mem_map.1 hy;exact AG ((h.2.2.1).2 x' hx')⟩,⟨by rw[List.length_map];exact(h.2.2.2).1,fun y hy=>by obtain⟨x',hx',rfl⟩:=List.mem_map.1 hy;exact AG ((h.2.2.2).2 x' hx')⟩⟩
theorem Jp(x:ap)(h:iI 2097152 x):wc x x=some (true,()):=by
 unfold iI at h
 rw[LT]
 rw[AD _ (h.1),AD _ (h.2.1),AC _ (h.2.2.1),AC _ (h.2.2.2)]
 simp
theorem Jw(x:ap)(k:Int)(h:iI 2097152 x)(hk:0≤k)(hb:k+16777216≤2305843009213693952):∃ k',wi x k=some (k',())∧k≤k'∧k'≤k+16777216:=by
 unfold iI at h
 obtain⟨k0,a0,c0,d0⟩:=AJ x.Vars k (h.1) (by omega) (by omega)
 obtain⟨k1,a1,c1,d1⟩:=AJ x.Cells k0 (h.2.1) (by omega) (by omega)
 obtain⟨k2,a2,c2,d2⟩:=AH x.Start k1 (h.2.2.1) (by omega) (by omega)
 obtain⟨k3,a3,c3,d3⟩:=AH x.Main k2 (h.2.2.2) (by omega) (by omega)
 refine⟨k3,?_,by omega,by omega⟩
 rw[L6,a0,aa,a1,aa,a2,aa,a3,aa]
theorem ey(a b c:Int):bH a b c=some (decide (b≤a∧a≤c),()):=by
 rw[Kt]
 by_cases h:a≥b
 ·rw[if_pos (by simp[h])];simp[show b≤a from h]
 ·rw[if_neg (by simp[h])];simp[show ¬ b≤a from h]
theorem cP(a b c:Int):cw a b c=some (decide (b≤a∧a≤c),()):=by
 rw[Ez]
 by_cases h:b≤a
 ·rw[if_pos (by simp[h])];simp[h]
 ·rw[if_neg (by simp[h])];simp[h]
inductive Small:aq→Prop
 | mk (x:aq):x.Kids.length≤100→(∀ k∈x.Kids,Small k)→Small x
theorem pu{x:aq}(h:x.Kids=[]):Small x:=.mk x (by rw[h];decide) (fun k hk=>by rw[h]at hk;cases hk)
theorem CV(a b:Int):mxI a b=if a>b then a else b:=by unfold mxI;split <;> split <;> omega
theorem uo{x:aq}(h:Small x):∃ v,gx x=some (v,())∧gh x=some (v,()):=by
 induction h with
 | mk x hl hs ih =>
  rw[EB,BI]
  have key:∀ (n i:Nat) (t:Int),i+n=x.Kids.length→∃ v,sw t i x=some (v,())∧oj t x.Kids x.Kids.length i=some (v,()):=by
   intro n
   induction n with
   | zero =>
    intro i t hi
    rw[xN,qW,aj (by omega),aj (by omega)]
    exact⟨_,rfl,rfl⟩
   | succ n ihn =>
    intro i t hi
    have hi':i<x.Kids.length:=by omega
    obtain⟨v,e1,e2⟩:=ih x.Kids[i] (List.getElem_mem hi')
    rw[xN,ak (by omega),if_pos (by omega),qW,ak (by omega),if_pos (by omega),aS hi',e1,e2,aa,aa]
    dsimp only
    rw[xM,CV,aR hi' (by omega)]
    by_cases c:t>v
    ·rw[ak c,if_pos c,aa];exact ihn (i+1) t (by omega)
    ·rw[aj c,if_neg c,aa];exact ihn (i+1) v (by omega)
  exact key x.Kids.length 0 0 (by omega)
theorem C1{c:aB}{b:Int}(h:c.bad=true):fS c b=some (false,c,()):=by rw[xO,if_neg (by simp[h])]
theorem gq{S:List Int}{p:Nat}{b:Int}(h:S.length≤p):fS ⟨S,p,false⟩ b=some (false,⟨S,p,false⟩,()):=by
 rw[xO,if_pos (by simp),aj (by simp;omega)]
theorem kP{S:List Int}{p:Nat}{b:Int}(h:p<S.length):fS ⟨S,p,false⟩ b=some (decide (S[p]=b),⟨S,p,false⟩,()):=by
 rw[xO];dsimp only
 rw[if_pos (by simp),ak (by omega),if_pos (by omega),aS h]
theorem cO{r:av}(h:r.s=[]∨r.bad=true):jg r=some (0,false,r,()):=by
 rw[BJ]
 by_cases h1:r.s=[]
 ·rw[ak h1]
 ·rw[aj h1,if_pos (h.resolve_left h1)]
theorem dH{b:Int}{s:List Int}:jg ⟨b::s,false⟩=some (b,true,⟨b::s,false⟩,()):=by
 rw[BJ,if_neg (by simp),if_neg (by simp),if_pos (by simp)]
 rfl
theorem nI(b:Int)(s:List Int):List.take ((b::s).length-1) (List.drop 1 (b::s))=s:=by simp
theorem eJ{r:av}{b:Int}(h:r.s=[]∨r.bad=true):g8 r b=some (false,r,()):=by
 rw[vz,cO h,aa,if_pos (by simp)]
theorem iy{b:Int}{s:List Int}:g8 ⟨b::s,false⟩ b=some (true,⟨s,false⟩,()):=by
 rw[vz,dH,aa,if_neg (by simp),if_neg (by simp),if_pos (by simp;omega)]
 dsimp only
 rw[nI]
theorem ix{a b:Int}{s:List Int}(h:a≠b):g8 ⟨a::s,false⟩ b=some (false,⟨a::s,false⟩,()):=by
 rw[vz,dH,aa,if_neg (by simp),if_pos (by simp[h])]
theorem fa(r:av):(r.s=[]∨r.bad=true)∨∃ b s,r=⟨b::s,false⟩:=by
 obtain⟨s,bad⟩:=r
 cases s with
 | nil=>exact .inl (.inl rfl)
 | cons b s=>cases bad with
  | true=>exact .inl (.inr rfl)
  | false=>exact .inr ⟨b,s,rfl⟩
def cS(f:List Bool)(j:Nat):Nat→List Bool
 | 0=>f
 | n+1=>cS (f.set j true) (j+1) n
theorem fD(n:Nat):∀ (f:List Bool) (j:Nat),(cS f j n).length=f.length:=by
 induction n with
 | zero=>intro f j;rfl
 | succ n ih=>intro f j;unfold cS;rw[ih,List.length_set]
theorem I4{k hi:Int}(c:aB)(z w:aq)(hh:hi≤255):∀ (n:Nat) (f:List Bool) (j:Nat),f.length=256→(hi+1-j).toNat=n→pg f k hi j c z w=jQ (cS f j n) (w64 (k+1)) c z w:=by
 intro n
 induction n with
 | zero=>intro f j hf hn;rw[EG,aj (by omega)];rfl
 | succ n ih =>
  intro f j hf hn
  rw[EG,if_pos (by rw[ab];omega),if_pos (by omega),aF (n:=(j:Int)+1) (by omega) (by omega),af]
  exact ih (f.set j true) (j+1) (by rw[List.length_set];exact hf) (by omega)
theorem I2{t:List Int}{k hi:Int}(c:av)(z w:aq)(hh:hi≤255):∀ (n:Nat) (f:List Bool) (j:Nat),f.length=256→(hi+1-j).toNat=n→om t f k hi j c z w=lZ t (cS f j n) (w64 (k+1)) c z w:=by
 intro n
 induction n with
 | zero=>intro f j hf hn;rw[BM,aj (by omega)];rfl
 | succ n ih =>
  intro f j hf hn
  rw[BM,if_pos (by rw[ab];omega),if_pos (by omega),aF (n:=(j:Int)+1) (by omega) (by omega),af]
  exact ih (f.set j true) (j+1) (by rw[List.length_set];exact hf) (by omega)
def bz:Nat→List Int→List Bool→Bool→List Bool×Bool
 | 0,_,f,b=>(f,b)
 | _+1,[],f,b=>(f,b)
 | n+1,lo::t,f,b=>match t with
  | d::hi::u=>if d=45 then bz n u (cS f lo.toNat (hi+1-lo).toNat) (b||decide (hi<lo))else bz n t (cS f lo.toNat (lo+1-lo).toNat) b
  | _=>bz n t (cS f lo.toNat (lo+1-lo).toNat) b
theorem E5(n:Nat):∀ (l:List Int) (f:List Bool) (b:Bool),(bz n l f b).1.length=f.length:=by
 induction n with
 | zero=>intro l f b;rfl
 | succ n ih =>
  intro l f b
  match l with
  | []=>rfl
  | [lo]=>show(bz n [] _ b).1.length=_;rw[ih,fD]
  | [lo,d]=>show(bz n [d] _ b).1.length=_;rw[ih,fD]
  | lo::d::hi::u =>
   show(if d=45 then _ else _:List Bool×Bool).1.length=_
   split
   ·rw[ih,fD]
   ·rw[ih,fD]
def iS(f:List Bool):Nat→Nat→List Int→List Int
 | _,0,t=>t
 | j,n+1,t=>iS f (j+1) n (if f.getD j false=true then t++[w8 j]else t)
theorem Ii(c:aB)(z w:aq){f:List Bool}(hf:f.length=256):∀ (n j:Nat) (t:List Int),j+n=256→t.length≤j→pf f t j c z w=some (⟨w.Op,w.C,iS f j n t,w.Not,w.Kids⟩,c,()):=by
 intro n
 induction n with
 | zero=>intro j t hj ht;rw[EF,aj (by omega)];rfl
 | succ n ih =>
  intro j t hj ht
  rw[EF,if_pos (by rw[ab];omega),if_pos (by omega),aF (n:=(j:Int)+1) (by omega) (by omega),af]
  unfold iS
  by_cases c:f.getD j false=true
  ·rw[if_pos c,if_pos c,if_pos (by rw[aN];omega)]
   exact ih (j+1) _ (by omega) (by simp;omega)
  ·rw[if_neg c,if_neg c]
   exact ih (j+1) _ (by omega) (by omega)
theorem Ih(c:av)(z w:aq){f:List Bool}(hf:f.length=256):∀ (n j:Nat) (t:List Int),j+n=256→t.length≤j→jk t f 256 j c z w=some (⟨w.Op,w.C,iS f j n t,w.Not,w.Kids⟩,c,()):=by
 intro n
 induction n with
 | zero=>intro j t hj ht;rw[BL,aj (by omega)];rfl
 | succ n ih =>
  intro j t hj ht
  rw[BL,if_pos (by rw[ab];omega),if_pos (by omega),aF (n:=(j:Int)+1) (by omega) (by omega),af]
  unfold iS
  by_cases c:f.getD j false=true
  ·rw[if_pos c,if_pos c,if_pos (by rw[aN];omega)]
   exact ih (j+1) _ (by omega) (by simp;omega)
  ·rw[if_neg c,if_neg c]
   exact ih (j+1) _ (by omega) (by omega)
theorem sP(n:Nat)(lo:Int)(f:List Bool)(b:Bool):∀ (t:List Int),(∀ hi u,t≠45::hi::u)→bz (n+1) (lo::t) f b=bz n t (cS f lo.toNat (lo+1-lo).toNat) b
 | [],_=>rfl
 | [_],_=>rfl
 | d::hi::u,h=>by
  show(if d=45 then _ else _:List Bool×Bool)=_
  rw[if_neg (fun e=>h hi u (by rw[e]))]
theorem sO(n:Nat)(lo hi:Int)(u:List Int)(f:List Bool)(b:Bool):bz (n+1) (lo::45::hi::u) f b=bz n u (cS f lo.toNat (hi+1-lo).toNat) (b||decide (hi<lo)):=by
 rw[bz]
 exact if_pos rfl
theorem po(n:Nat)(f:List Bool)(b:Bool):bz n [] f b=(f,b):=by cases n <;> rfl
def n93(x:Int):Bool:=!decide (x=93)
def aM(l:List Int):List Int:=l.takeWhile n93
theorem HE:aM []=[]:=rfl
theorem ke{l:List Int}:aM (93::l)=[]:=rfl
theorem gH{a:Int}{l:List Int}(h:a≠93):aM (a::l)=a::aM l:=List.takeWhile_cons_of_pos (by unfold n93;simp[h])
theorem tX(l:List Int):(aM l).length≤l.length:=(List.takeWhile_sublist _).length_le
theorem Ac{k lo hi:Int}(c:aB)(z w:aq)(hh:hi≤255)(hl:0≤lo)(f:List Bool)(hf:f.length=256):pg f k hi lo c z w=jQ (cS f lo.toNat (hi+1-lo).toNat) (w64 (k+1)) c z w:=by
 have:=I4 (k:=k) c z w hh _ f lo.toNat hf rfl
 rwa [Int.toNat_of_nonneg hl]at this
theorem Ab{t:List Int}{k lo hi:Int}(c:av)(z w:aq)(hh:hi≤255)(hl:0≤lo)(f:List Bool)(hf:f.length=256):om t f k hi lo c z w=lZ t (cS f lo.toNat (hi+1-lo).toNat) (w64 (k+1)) c z w:=by
 have:=I2 (t:=t) (k:=k) c z w hh _ f lo.toNat hf rfl
 rwa [Int.toNat_of_nonneg hl]at this
theorem Ql(z w:aq){S:List Int}(hS:S.length≤60)(hB:∀ b∈S,0≤b∧b≤255):∀ (n p:Nat) (f:List Bool) (k:Int) (b:Bool),f.length=256→p≤S.length→(aM (S.drop p)).length≤n→0≤k→k≤p →
  jQ f k ⟨S,p,b⟩ z w=fU (bz n (aM (S.drop p)) f b).1 ⟨S,(p+(aM (S.drop p)).length:Nat),(decide (S.length≤p+(aM (S.drop p)).length)||(decide (k=0)&&decide (aM (S.drop p)=[])))||(bz n (aM (S.drop p)) f b).2⟩ z w:=by
 intro n
 induction n with
 | zero =>
  intro p f k b hf hp hn hk hkp
  have hn0:aM (S.drop p)=[]:=List.length_eq_zero_iff.1 (by omega)
  rw[hn0,po,sG]
  simp only[List.length_nil,Nat.add_zero,decide_true,Bool.and_true]
  by_cases h:p<S.length
  ·have h93:S[p]=93:=by
    rw[ai h]at hn0
    apply Classical.byContradiction
    intro hne
    rw[gH hne]at hn0
    cases hn0
   rw[if_pos (by rw[ab];omega),if_pos (by omega),aS h,h93,if_neg (by simp),aj (by omega)]
   by_cases hk0:k=0
   ·rw[ak hk0,ac hk0];simp
   ·rw[aj hk0,ae hk0,ae (p:=S.length≤p) (by omega)];simp
  ·rw[aj (by omega),if_pos (by rw[ab];omega),ac (p:=S.length≤p) (by omega)];simp
 | succ n ih =>
  intro p f k b hf hp hn hk hkp
  by_cases h:p<S.length
  ·by_cases h93:S[p]=93
   ·have hn0:aM (S.drop p)=[]:=by rw[ai h,h93,ke]
    rw[hn0,po,sG]
    simp only[List.length_nil,Nat.add_zero,decide_true,Bool.and_true]
    rw[if_pos (by rw[ab];omega),if_pos (by omega),aS h,h93,if_neg (by simp),aj (by omega)]
    by_cases hk0:k=0
    ·rw[ak hk0,ac hk0];simp
    ·rw[aj hk0,ae hk0,ae (p:=S.length≤p) (by omega)];simp
   ·have hlo:=hB _ (List.getElem_mem h)
    have e0:aM (S.drop p)=S[p]::aM (S.drop (p+1)):=by rw[ai h,gH h93]
    have hstep:∀ (t:List Int) (q:Nat) (f':List Bool) (b':Bool),f'.length=256→q≤S.length→p<q→(aM (S.drop q)).length≤n→p+(aM (S.drop p)).length=q+(aM (S.drop q)).length→bz (n+1) (aM (S.drop p)) f b=bz n (aM (S.drop q)) f' b' →
      jQ f' (w64 (k+1)) ⟨S,q,b'⟩ z w=fU (bz (n+1) (aM (S.drop p)) f b).1 ⟨S,(p+(aM (S.drop p)).length:Nat),(decide (S.length≤p+(aM (S.drop p)).length)||(decide (k=0)&&decide (aM (S.drop p)=[])))||(bz (n+1) (aM (S.drop p)) f b).2⟩ z w:=by
     intro t q f' b' hf' hq hpq hb he hr
     rw[hr,he,ih q f' _ b' hf' hq hb (by rw[aF (by omega) (by omega)];omega) (by rw[aF (by omega) (by omega)];omega)]
     have z1:decide (w64 (k+1)=0)=false:=by rw[aF (by omega) (by omega)];exact ae (by omega)
     have z2:decide (aM (S.drop p)=[])=false:=ae (by rw[e0];exact List.cons_ne_nil _ _)
     rw[z1,z2];simp
    have hno:li f k (w64 S[p]) (w64 S[p]) ⟨S,(w64 ((p:Int)+1)),b⟩ z w=jQ (cS f S[p].toNat (S[p]+1-S[p]).toNat) (w64 (k+1)) ⟨S,(p+1:Nat),b⟩ z w:=by
     rw[aF (n:=S[p]) (by omega) (by omega),ED,aj (by omega),EE,Ac _ z w hlo.2 hlo.1 f hf,aF (n:=(p:Int)+1) (by omega) (by omega)]
     rfl
    rw[sG];dsimp only
    rw[if_pos (by rw[ab];omega),if_pos (by omega),aS h,if_pos (by simp[h93]),if_pos (by omega)]
    have hl1:p+(aM (S.drop p)).length=p+1+(aM (S.drop (p+1))).length:=by rw[e0];simp;omega
    have hn1:(aM (S.drop (p+1))).length≤n:=by rw[e0]at hn;simpa using hn
    have hel:(∀ hi u,aM (S.drop (p+1))≠45::hi::u)→li f k (w64 S[p]) (w64 S[p]) ⟨S,(w64 ((p:Int)+1)),b⟩ z w=fU (bz (n+1) (aM (S.drop p)) f b).1 ⟨S,(p+(aM (S.drop p)).length:Nat),(decide (S.length≤p+(aM (S.drop p)).length)||(decide (k=0)&&decide (aM (S.drop p)=[])))||(bz (n+1) (aM (S.drop p)) f b).2⟩ z w:=fun hne=>by
     rw[hno]
     exact hstep [] (p+1) _ b (by rw[fD];exact hf) (by omega) (by omega) hn1 hl1 (by rw[e0];exact sP n _ f b _ hne)
    have w2:w64 (w64 ((p:Int)+1)+1)=((p+2:Nat):Int):=by rw[aF (n:=(p:Int)+1) (by omega) (by omega),aF (by omega) (by omega)];omega
    have w1:w64 ((p:Int)+1)=((p+1:Nat):Int):=by rw[aF (n:=(p:Int)+1) (by omega) (by omega)];omega
    by_cases h2:p+2<S.length
    ·have h1:p+1<S.length:=by omega
     rw[w2,if_pos (by rw[ab];omega),if_pos (by rw[w1];omega)]
     have g1:List.getD S (w64 ((p:Int)+1)).toNat 0=S[p+1]:=by rw[w1,aS h1]
     have g2:List.getD S ((p+2:Nat):Int).toNat 0=S[p+2]:=aS h2 0
     rw[g1,g2]
     by_cases c1:S[p+1]=45
     ·rw[ak c1,if_pos (by omega)]
      by_cases c2:S[p+2]=93
      ·rw[if_neg (by simp[c2])]
       refine hel fun hi u hu=>?_
       rw[ai h1,c1,gH (by decide),ai h2,c2,ke]at hu
       cases hu
      ·have hhi:=hB _ (List.getElem_mem h2)
       rw[if_pos (by simp[c2]),if_pos (by omega)]
       have e1:aM (S.drop (p+1))=45::S[p+2]::aM (S.drop (p+3)):=by
        rw[ai h1,c1,gH (by decide),ai h2,gH c2]
       have w3:w64 (w64 ((p:Int)+1)+2)=((p+3:Nat):Int):=by rw[w1,aF (by omega) (by omega)];omega
       rw[w3,aF (n:=S[p]) (by omega) (by omega),aF (n:=S[p+2]) (by omega) (by omega),ED]
       have hfin:∀ b',b'=(b||decide (S[p+2]<S[p]))→sH f k S[p] S[p+2] ⟨S,((p+3:Nat):Int),b'⟩ z w=fU (bz (n+1) (aM (S.drop p)) f b).1 ⟨S,(p+(aM (S.drop p)).length:Nat),(decide (S.length≤p+(aM (S.drop p)).length)||(decide (k=0)&&decide (aM (S.drop p)=[])))||(bz (n+1) (aM (S.drop p)) f b).2⟩ z w:=fun b' hb'=>by
        rw[EE,Ac _ z w hhi.2 hlo.1 f hf]
        refine hstep [] (p+3) _ b' (by rw[fD];exact hf) (by omega) (by omega) (by rw[e1]at hn1;simp at hn1;omega) (by rw[hl1,e1];simp;omega) ?_
        rw[e0,e1,sO,hb']
       by_cases c3:S[p+2]<S[p]
       ·rw[ak c3];exact hfin true (by rw[ac c3,Bool.or_true])
       ·rw[aj c3];exact hfin b (by rw[ae c3,Bool.or_false])
     ·rw[aj c1]
      refine hel fun hi u hu=>?_
      rw[ai h1]at hu
      by_cases c9:S[p+1]=93
      ·rw[c9,ke]at hu;cases hu
      ·rw[gH c9]at hu;exact c1 (List.cons.inj hu).1
    ·rw[w2,aj (by omega)]
     refine hel fun hi u hu=>?_
     have:=tX (S.drop (p+1))
     rw[hu,List.length_drop]at this
     simp at this
     omega
  ·have hd:S.drop p=[]:=List.drop_eq_nil_of_le (by omega)
   rw[hd,HE,po,sG]
   simp only[List.length_nil,Nat.add_zero,decide_true,Bool.and_true]
   rw[aj (by omega),if_pos (by rw[ab];omega),ac (p:=S.length≤p) (by omega)];simp
theorem Qk(z w:aq){s t:List Int}(ht:t.length≤60)(hB:∀ b∈t,0≤b∧b≤255):∀ (n i:Nat) (f:List Bool) (b:Bool),f.length=256→i≤t.length→(t.drop i).length≤n →
  lZ t f i ⟨s,b⟩ z w=jk [] (bz n (t.drop i) f b).1 256 0 ⟨s,(bz n (t.drop i) f b).2⟩ z w:=by
 intro n
 induction n with
 | zero =>
  intro i f b hf hi hn
  have hd:t.drop i=[]:=List.length_eq_zero_iff.1 (by omega)
  rw[List.length_drop]at hn
  rw[hd,po,vy,aj (by omega),hf]
  rfl
 | succ n ih =>
  intro i f b hf hi hn
  rw[List.length_drop]at hn
  by_cases h:i<t.length
  ·have hlo:=hB _ (List.getElem_mem h)
   rw[vy,if_pos (by rw[ab];omega),if_pos (by omega),if_pos (by omega),aS h]
   have e0:t.drop i=t[i]::t.drop (i+1):=ai h
   have hel:(∀ hi u,t.drop (i+1)≠45::hi::u)→kE t f i (w64 t[i]) (w64 t[i]) ⟨s,b⟩ z w=jk [] (bz (n+1) (t.drop i) f b).1 256 0 ⟨s,(bz (n+1) (t.drop i) f b).2⟩ z w:=fun hne=>by
    rw[BK,aF (n:=t[i]) (by omega) (by omega),Ab _ z w hlo.2 hlo.1 f hf,e0,sP n _ f b _ hne,aR h (by omega)]
    exact ih (i+1) _ b (by rw[fD];exact hf) (by omega) (by rw[List.length_drop];omega)
   have w1:w64 ((i:Int)+1)=((i+1:Nat):Int):=aR h (by omega)
   have w2:w64 ((i:Int)+2)=((i+2:Nat):Int):=by rw[aF (by omega) (by omega)];omega
   by_cases h2:i+2<t.length
   ·have h1:i+1<t.length:=by omega
    rw[w2,if_pos (by rw[ab];omega),w1,if_pos (by omega),aS h1]
    by_cases c1:t[i+1]=45
    ·have hhi:=hB _ (List.getElem_mem h2)
     rw[ak c1,if_pos (by omega),aS h2,aF (n:=t[i]) (by omega) (by omega),aF (n:=t[i+2]) (by omega) (by omega)]
     have e1:t.drop (i+1)=45::t[i+2]::t.drop (i+3):=by rw[ai h1,c1,ai h2]
     have hfin:∀ b',b'=(b||decide (t[i+2]<t[i]))→kE t f ((i+2:Nat):Int) t[i] t[i+2] ⟨s,b'⟩ z w=jk [] (bz (n+1) (t.drop i) f b).1 256 0 ⟨s,(bz (n+1) (t.drop i) f b).2⟩ z w:=fun b' hb'=>by
      rw[BK,Ab _ z w hhi.2 hlo.1 f hf,e0,e1,sO,hb',aR h2 (by omega)]
      exact ih (i+3) _ _ (by rw[fD];exact hf) (by omega) (by rw[List.length_drop];omega)
     cases b with
     | true=>rw[if_pos rfl];exact hfin true (by simp)
     | false=>rw[if_neg (by simp)];exact hfin _ (by simp)
    ·rw[aj c1]
     refine hel fun hi' u hu=>c1 ?_
     rw[ai h1]at hu
     exact(List.cons.inj hu).1
   ·rw[w2,aj (by omega)]
    refine hel fun hi' u hu=>?_
    have:=congrArg List.length hu
    rw[List.length_drop]at this
    simp at this
    omega
  ·have hd:t.drop i=[]:=List.drop_eq_nil_of_le (by omega)
   rw[hd,po,vy,aj (by omega),hf]
   rfl
theorem B1:∀ l:List Int,(bP l 93 = -1∧aM l=l)∨(bP l 93=(aM l).length∧(aM l).length<l.length)
 | []=>.inl ⟨rfl,rfl⟩
 | b::l=>by
  by_cases h:b=93
  ·subst h
   refine .inr ⟨?_,?_⟩
   ·rw[bP,if_pos rfl,ke];rfl
   ·rw[ke];simp
  ·rw[bP,if_neg h,gH h]
   rcases B1 l with ⟨e1,e2⟩ | ⟨e1,e2⟩
   ·rw[if_pos e1,e2];exact .inl ⟨rfl,rfl⟩
   ·rw[if_neg (by omega),e1];refine .inr ⟨by simp,by simp;omega⟩
theorem zn:∀ l:List Int,l.take (aM l).length=aM l
 | []=>rfl
 | b::l=>by
  by_cases h:b=93
  ·subst h;rw[ke];rfl
  ·rw[gH h,List.length_cons,List.take_succ_cons,zn l]
def dK(u:List Int)(nt:Bool):aq×av :=
 if(aM u).length=u.length∨aM u=[] then(⟨0,0,[],false,[]⟩,⟨u,true⟩)
 else(⟨3,0,iS (bz (aM u).length (aM u) (List.replicate 256 false) false).1 0 256 [],nt,[]⟩,⟨u.drop ((aM u).length+1),(bz (aM u).length (aM u) (List.replicate 256 false) false).2⟩)
theorem vD(u:List Int)(nt:Bool)(hu:u.length≤60)(hb:∀ b∈u,0≤b∧b≤255)(s:List Int)(ht:g8 ⟨s,false⟩ 94=some (nt,⟨u,false⟩,())) :
  lY ⟨s,false⟩=some ((dK u nt).1,(dK u nt).2,()):=by
 rw[KY,ht,aa]
 dsimp only
 rw[GS,Gq,Gi,aa,aa,aa]
 dsimp only
 unfold dK
 rcases B1 u with ⟨e1,e2⟩ | ⟨e1,e2⟩
 ·rw[e1,e2,if_pos (by decide),if_pos (.inl rfl)]
 ·by_cases h0:aM u=[]
  ·rw[e1,h0,if_pos (by simp),if_pos (.inr rfl)]
  ·have hl:0<(aM u).length:=List.length_pos_iff.2 h0
   have w1:w64 (((aM u).length:Int)+1)=(((aM u).length+1:Nat):Int):=by rw[aF (by omega) (by omega)];omega
   rw[e1,aj (by omega),if_pos (by omega),w1,if_pos (by omega),if_neg (fun h=>h.elim (by omega) h0)]
   dsimp only
   rw[af,af,Nat.sub_zero,List.drop_zero,zn,List.take_of_length_le (by simp)]
   have hi:=Qk (s:=u.drop ((aM u).length+1)) (aL) ⟨3,0,[],nt,[]⟩ (t:=aM u) (by omega) (fun b hx=>hb b ((List.takeWhile_sublist _).subset hx)) (aM u).length 0 (List.replicate 256 false) false List.length_replicate (by omega) (by rw[List.drop_zero];exact Nat.le_refl _)
   rw[List.drop_zero]at hi
   exact hi.trans (Ih _ _ _ (by rw[E5];exact List.length_replicate) 256 0 [] rfl (Nat.zero_le _))
theorem yd(s:List Int):∃ nt,∃ k:Nat,g8 ⟨s,false⟩ 94=some (nt,⟨s.drop k,false⟩,())∧((nt=true∧k=1∧∃ u,s=94::u)∨(nt=false∧k=0∧∀ u,s≠94::u)):=by
 cases s with
 | nil=>exact⟨false,0,eJ (.inl rfl),.inr ⟨rfl,rfl,fun u h=>by cases h⟩⟩
 | cons b u =>
  by_cases h:b=94
  ·subst h;exact⟨true,1,iy,.inl ⟨rfl,rfl,u,rfl⟩⟩
  ·exact⟨false,0,ix h,.inr ⟨rfl,rfl,fun v hv=>h (List.cons.inj hv).1⟩⟩
theorem Qe(u:List Int)(nt:Bool):(dK u nt).2.s <:+ u∧(dK u nt).1.Kids=[]:=by
 unfold dK
 split
 ·exact⟨List.suffix_refl _,rfl⟩
 ·exact⟨List.drop_suffix _ _,rfl⟩
def By(s:List Int):Prop:=s.length≤60∧∀ b∈s,0≤b∧b≤255
theorem By.suf{s t:List Int}(h:By s)(ht:t <:+ s):By t:=⟨Nat.le_trans ht.length_le h.1,fun b hb=>h.2 b (ht.subset hb)⟩
theorem BP(s:List Int)(h:By s):∃ y r,lY ⟨s,false⟩=some (y,r,())∧r.s <:+ s∧Small y:=by
 obtain⟨nt,k,e,_⟩:=yd s
 have hu:By (s.drop k):=h.suf (List.drop_suffix _ _)
 have hr:=Qe (s.drop k) nt
 exact⟨_,_,vD _ nt hu.1 hu.2 s e,hr.1.trans (List.drop_suffix _ _),pu hr.2⟩
def cq(F:av→Option (aq×av×Unit))(s:List Int)(b:Bool)(k:Nat):Prop :=
 ∃ y r,F ⟨s,b⟩=some (y,r,())∧r.s <:+ s∧r.s.length+k≤s.length∧(b=true→r.bad=true)∧Small y
theorem kp{b:Int}{s:List Int}:(⟨List.take ((b::s).length-1) (List.drop 1 (b::s)),false⟩:av)=⟨s,false⟩:=by rw[nI]
theorem iw{b:Int}{s t:List Int}(h:t <:+ s):t <:+ b::s:=h.trans (List.suffix_cons b s)
theorem qL(b:Int)(s:List Int)(h:By (b::s))(hp:cq eA s false 0):cq gX (b::s) false 1:=by
 have hs:By s:=h.suf (List.suffix_cons b s)
 unfold cq
 rw[vw,dH,aa]
 dsimp only
 rw[if_pos (by simp;omega),kp]
 have leaf:∀ (x:aq) (bad:Bool),x.Kids=[]→∃ y r,some (x,(⟨s,bad⟩:av),())=some (y,r,())∧r.s <:+ b::s∧r.s.length+1≤(b::s).length∧(false=true→r.bad=true)∧Small y :=
  fun x bad hx=>⟨_,_,rfl,List.suffix_cons b s,by simp,(fun h=>by cases h),pu hx⟩
 by_cases c1:b=40
 ·rw[ak c1]
  obtain⟨y,r,e,e1,e2,e3,e4⟩:=hp
  rw[e,aa]
  dsimp only
  rcases fa r with hr | ⟨a,t,hr⟩
  ·rw[eJ hr,aa];dsimp only
   rw[if_pos (by simp)]
   exact⟨_,_,rfl,iw e1,by simp;omega,(fun h=>by cases h),e4⟩
  ·subst hr
   by_cases ha:a=41
   ·subst ha
    rw[iy,aa];dsimp only
    rw[if_neg (by simp)]
    refine⟨_,_,rfl,iw ((List.suffix_cons 41 t).trans e1),?_,(fun h=>by cases h),e4⟩
    simp at e2 ⊢;omega
   ·rw[ix ha,aa];dsimp only
    rw[if_pos (by simp)]
    refine⟨_,_,rfl,iw e1,?_,(fun h=>by cases h),e4⟩
    simp at e2 ⊢;omega
 rw[aj c1]
 by_cases c2:b=46
 ·rw[ak c2];exact leaf _ _ rfl
 rw[aj c2]
 by_cases c3:b=94
 ·rw[ak c3];exact leaf _ _ rfl
 rw[aj c3]
 by_cases c4:b=36
 ·rw[ak c4];exact leaf _ _ rfl
 rw[aj c4]
 by_cases c5:b=91
 ·rw[ak c5]
  obtain⟨y,r,e,e1,e2⟩:=BP s hs
  rw[e,aa]
  exact⟨_,_,rfl,iw e1,by have:=e1.length_le;simp;omega,(fun h=>by cases h),e2⟩
 rw[aj c5]
 by_cases c6:b=92
 ·rw[ak c6]
  cases s with
  | nil=>rw[cO (.inl rfl),aa];dsimp only;rw[if_pos (by simp)];exact leaf _ _ rfl
  | cons a t =>
   rw[dH,aa];dsimp only
   rw[if_neg (by simp),if_pos (by simp;omega),nI]
   exact⟨_,_,rfl,iw (List.suffix_cons a t),by simp,(fun h=>by cases h),pu rfl⟩
 rw[aj c6]
 have l1:∀ (t:Bool),∃ y r,lW b t ⟨s,false⟩ aL=some (y,r,())∧r.s <:+ b::s∧r.s.length+1≤(b::s).length∧(false=true→r.bad=true)∧Small y:=fun t=>by
  rw[lX]
  cases t with
  | true=>rw[if_pos rfl];exact leaf _ _ rfl
  | false=>rw[if_neg (by simp)];exact leaf _ _ rfl
 by_cases c7:b=42
 ·rw[ak c7];exact l1 _
 rw[aj c7]
 by_cases c8:b=43
 ·rw[ak c8];exact l1 _
 rw[aj c8]
 exact l1 _
theorem rN(b:Int):∃ v,qV b=some (v,())∧((v=8∧b=42)∨(v=9∧b=43)∨(v=10∧b=63)∨(v=0∧b≠42∧b≠43∧b≠63)):=by
 rw[KX]
 by_cases c1:b=42
 ·rw[ak c1];exact⟨_,rfl,.inl ⟨rfl,c1⟩⟩
 rw[aj c1]
 by_cases c2:b=43
 ·rw[ak c2];exact⟨_,rfl,.inr (.inl ⟨rfl,c2⟩)⟩
 rw[aj c2]
 by_cases c3:b=63
 ·rw[ak c3];exact⟨_,rfl,.inr (.inr (.inl ⟨rfl,c3⟩))⟩
 rw[aj c3];exact⟨_,rfl,.inr (.inr (.inr ⟨rfl,c1,c2,c3⟩))⟩
theorem Qq{x:aq}(op:Int)(h:Small x):Small ⟨op,0,[],false,[x]⟩:=.mk _ (by simp) fun k hk=>by rw[List.mem_singleton.1 hk];exact h
theorem KR(z:aq):∀ (n:Nat) (r:av) (x:aq),r.s.length≤n→Small x→∃ y r',jj r z x=some (y,r',())∧r'.s <:+ r.s∧(r.bad=true→r'.bad=true)∧Small y:=by
 intro n
 induction n with
 | zero =>
  intro r x hn hx
  rw[g7,cO (.inl (List.length_eq_zero_iff.1 (by omega))),aa]
  dsimp only
  rw[if_pos (by simp)]
  exact⟨_,_,rfl,List.suffix_refl _,fun h=>h,hx⟩
 | succ n ih =>
  intro r x hn hx
  rw[g7]
  rcases fa r with hr | ⟨b,s,rfl⟩
  ·rw[cO hr,aa]
   dsimp only
   rw[if_pos (by simp)]
   exact⟨_,_,rfl,List.suffix_refl _,fun h=>h,hx⟩
  ·obtain⟨v,e,hv⟩:=rN b
   rw[dH,aa]
   dsimp only
   rw[if_neg (by simp),e,aa]
   dsimp only
   by_cases c:v=0
   ·rw[ak c];exact⟨_,_,rfl,List.suffix_refl _,fun h=>h,hx⟩
   ·rw[aj c,if_pos (by simp;omega),aa]
    dsimp only
    rw[kp]
    obtain⟨y,r',e1,e2,e3,e4⟩:=ih ⟨s,false⟩ _ (by simp at hn ⊢;omega) (Qq v hx)
    exact⟨y,r',e1,iw e2,(fun h=>by cases h),e4⟩
theorem BE(z:aq):∀ (n:Nat) (r:av) (x:aq),r.s.length≤n→∃ y r',jj r z x=some (y,r',())∧r'.s <:+ r.s∧(r.bad=true→r'.bad=true):=by
 intro n
 induction n with
 | zero =>
  intro r x hn
  rw[g7,cO (.inl (List.length_eq_zero_iff.1 (by omega))),aa]
  dsimp only
  rw[if_pos (by simp)]
  exact⟨_,_,rfl,List.suffix_refl _,fun h=>h⟩
 | succ n ih =>
  intro r x hn
  rw[g7]
  rcases fa r with hr | ⟨b,s,rfl⟩
  ·rw[cO hr,aa]
   dsimp only
   rw[if_pos (by simp)]
   exact⟨_,_,rfl,List.suffix_refl _,fun h=>h⟩
  ·obtain⟨v,e,hv⟩:=rN b
   rw[dH,aa]
   dsimp only
   rw[if_neg (by simp),e,aa]
   dsimp only
   by_cases c:v=0
   ·rw[ak c];exact⟨_,_,rfl,List.suffix_refl _,fun h=>h⟩
   ·rw[aj c,if_pos (by simp;omega),aa]
    dsimp only
    rw[kp]
    obtain⟨y,r',e1,e2,e3⟩:=ih ⟨s,false⟩ _ (by simp at hn ⊢;omega)
    exact⟨y,r',e1,iw e2,(fun h=>by cases h)⟩
theorem BG(b:Int)(s:List Int)(h:cq gX (b::s) false 1):cq eB (b::s) false 1:=by
 obtain⟨y,r,e,e1,e2,e3,e4⟩:=h
 unfold cq
 rw[vx,e,aa]
 obtain⟨y',r',f1,f2,f3,f4⟩:=KR aL _ r y (Nat.le_refl _) e4
 exact⟨y',r',f1,f2.trans e1,by have:=f2.length_le;omega,(fun h=>by cases h),f4⟩
theorem Fj{l:List aq}(op:Int)(hl:l.length≤100)(h:∀ x∈l,Small x):Small ⟨op,0,[],false,l⟩:=.mk _ hl h
def eH(l:List aq):aq:=if l.length=0 then⟨11,0,[],false,[]⟩else if l.length=1 then l.getD 0 aL else⟨6,0,[],false,l⟩
def ef(l:List aq):aq:=if l.length=1 then l.getD 0 aL else⟨7,0,[],false,l⟩
theorem cC{α:Type}(l:List aq)(r:α) :
  (if(decide ((List.length l:Int)=0))=true then some ((aq.mk 11 0 [] false []),r,()) else
   if(decide ((List.length l:Int)=1))=true then if(0:Int)≤0∧(0:Int)<(List.length l:Int)then some ((List.getD l 0 aL),r,())else none
   else some ((aq.mk 6 0 [] false l),r,()))=some (eH l,r,()):=by
 unfold eH
 by_cases c:l.length=0
 ·rw[ak (by omega),if_pos c]
 ·rw[aj (by omega),if_neg c]
  by_cases d:l.length=1
  ·rw[ak (by omega),if_pos (by omega),if_pos d]
  ·rw[aj (by omega),if_neg d]
theorem dI{α:Type}(l:List aq)(r:α) :
  (if(decide ((List.length l:Int)=1))=true then if(0:Int)≤0∧(0:Int)<(List.length l:Int)then some ((List.getD l 0 aL),r,())else none
   else some ((aq.mk 7 0 [] false l),r,()))=some (ef l,r,()):=by
 unfold ef
 by_cases d:l.length=1
 ·rw[ak (by omega),if_pos (by omega),if_pos d]
 ·rw[aj (by omega),if_neg d]
theorem Ay{l:List aq}(h:∀ x∈l,Small x)(hl:l.length=1):Small (l.getD 0 aL):=by
 match l,hl with
 | [x],_=>exact h x (List.mem_singleton.2 rfl)
theorem De{l:List aq}(hl:l.length≤100)(h:∀ x∈l,Small x):Small (eH l):=by
 unfold eH
 split
 ·exact pu rfl
 ·split
  ·exact Ay h ‹_›
  ·exact Fj 6 hl h
theorem Di{l:List aq}(hl:l.length≤100)(h:∀ x∈l,Small x):Small (ef l):=by
 unfold ef
 split
 ·exact Ay h ‹_›
 ·exact Fj 7 hl h
theorem Fi{l:List aq}{x:aq}(h:∀ y∈l,Small y)(hx:Small x):∀ y∈List.append l [x],Small y:=by
 intro y hy
 rcases List.mem_append.1 hy with hy | hy
 ·exact h y hy
 ·rw[List.mem_singleton.1 hy];exact hx
theorem vu(z:aq)(N:Nat)(hp:∀ b s,(b::s).length≤N→By (b::s)→cq eB (b::s) false 1):∀ (n:Nat) (r:av) (l:List aq),r.s.length≤n→n≤N→By r.s→l.length+n≤60→(∀ x∈l,Small x) →
  ∃ y r',jh l r z=some (y,r',())∧r'.s <:+ r.s∧(r.bad=true→r'.bad=true)∧Small y:=by
 intro n
 induction n with
 | zero =>
  intro r l hn hN hb hl hx
  rw[gY,cO (.inl (List.length_eq_zero_iff.1 (by omega))),aa]
  dsimp only
  rw[if_pos (by simp),cC]
  exact⟨_,_,rfl,List.suffix_refl _,fun h=>h,De (by omega) hx⟩
 | succ n ih =>
  intro r l hn hN hb hl hx
  rw[gY]
  have stop:∃ y r',some (eH l,r,())=some (y,r',())∧r'.s <:+ r.s∧(r.bad=true→r'.bad=true)∧Small y:=⟨_,_,rfl,List.suffix_refl _,fun h=>h,De (by omega) hx⟩
  rcases fa r with hr | ⟨b,s,rfl⟩
  ·rw[cO hr,aa]
   dsimp only
   rw[if_pos (by simp),cC]
   exact stop
  ·rw[dH,aa]
   dsimp only
   rw[if_neg (by simp)]
   by_cases c1:b=124
   ·rw[ak c1,cC];exact stop
   rw[aj c1]
   by_cases c2:b=41
   ·rw[ak c2,cC];exact stop
   rw[aj c2]
   obtain⟨y,r,e,e1,e2,e3,e4⟩:=hp b s (by have:(b::s).length≤n+1:=hn;omega) hb
   rw[e,aa]
   dsimp only
   rw[if_pos (by rw[aN];omega)]
   have h2:r.s.length≤n:=by simp only[List.length_cons]at e2 hn;omega
   obtain⟨y',r',f1,f2,f3,f4⟩:=ih r _ h2 (by omega) (hb.suf e1) (by show(l++[y]).length+n≤60;simp;omega) (Fi hx e4)
   exact⟨y',r',f1,f2.trans e1,(fun h=>by cases h),f4⟩
theorem BC(z:aq)(N:Nat)(hp:∀ s b,s.length≤N→By s→cq eU s b 0):∀ (n:Nat) (r:av) (l:List aq),r.s.length≤n→n≤N→By r.s→l.length+n≤61→(∀ x∈l,Small x) →
  ∃ y r',ji l r z=some (y,r',())∧r'.s <:+ r.s∧(r.bad=true→r'.bad=true)∧Small y:=by
 intro n
 induction n with
 | zero =>
  intro r l hn hN hb hl hx
  rw[gZ,eJ (.inl (List.length_eq_zero_iff.1 (by omega))),aa]
  dsimp only
  rw[if_neg (by simp),dI]
  exact⟨_,_,rfl,List.suffix_refl _,fun h=>h,Di (by omega) hx⟩
 | succ n ih =>
  intro r l hn hN hb hl hx
  rw[gZ]
  have stop:∃ y r',some (ef l,r,())=some (y,r',())∧r'.s <:+ r.s∧(r.bad=true→r'.bad=true)∧Small y:=⟨_,_,rfl,List.suffix_refl _,fun h=>h,Di (by omega) hx⟩
  rcases fa r with hr | ⟨b,s,rfl⟩
  ·rw[eJ hr,aa]
   dsimp only
   rw[if_neg (by simp),dI]
   exact stop
  ·by_cases c1:b=124
   ·subst c1
    rw[iy,aa]
    dsimp only
    have hbs:By s:=hb.suf (List.suffix_cons _ _)
    have hn':s.length≤n:=by simp only[List.length_cons]at hn;omega
    obtain⟨y,r,e,e1,e2,e3,e4⟩:=hp s false (by omega) hbs
    rw[if_pos rfl,e,aa]
    dsimp only
    rw[if_pos (by rw[aN];omega)]
    obtain⟨y',r',f1,f2,f3,f4⟩:=ih r _ (by omega) (by omega) (hbs.suf e1) (by show(l++[y]).length+n≤61;simp;omega) (Fi hx e4)
    exact⟨y',r',f1,iw (f2.trans e1),(fun h=>by cases h),f4⟩
   ·rw[ix c1,aa]
    dsimp only
    rw[if_neg (by simp),dI]
    exact stop
theorem ov:∀ (n:Nat) (s:List Int) (b:Bool),s.length≤n→By s→cq eA s b 0:=by
 intro n
 induction n with
 | zero =>
  intro s b hn hs
  have hpart:∀ s b,s.length≤0→By s→cq eU s b 0:=fun s b h hs=>by
   unfold cq
   rw[ol]
   obtain⟨y,r',f1,f2,f3,f4⟩:=vu aL 0 (fun b s h=>by simp at h) 0 ⟨s,b⟩ [] h (Nat.le_refl _) hs (by simp) (fun x hx=>by cases hx)
   exact⟨y,r',f1,f2,f2.length_le,f3,f4⟩
  unfold cq
  obtain⟨y,r,e,e1,e2,e3,e4⟩:=hpart s b hn hs
  rw[qX,e,aa]
  obtain⟨y',r',f1,f2,f3,f4⟩:=BC aL 0 hpart 0 r [y] (by have:=e1.length_le;omega) (Nat.le_refl _) (hs.suf e1) (by simp) (fun x hx=>by rw[List.mem_singleton.1 hx];exact e4)
  exact⟨y',r',f1,f2.trans e1,by have:=(f2.trans e1).length_le;omega,fun h=>f3 (e3 h),f4⟩
 | succ n ih =>
  intro s b hn hs
  have hpiece:∀ b s,(b::s).length≤n+1→By (b::s)→cq eB (b::s) false 1:=fun b s h hs =>
   BG b s (qL b s hs (ih s false (by simpa using h) (hs.suf (List.suffix_cons _ _))))
  have hpart:∀ s b,s.length≤n+1→By s→cq eU s b 0:=fun s b h hs=>by
   unfold cq
   rw[ol]
   obtain⟨y,r',f1,f2,f3,f4⟩:=vu aL (n+1) hpiece s.length ⟨s,b⟩ [] (Nat.le_refl _) h hs (by have:=hs.1;simp;omega) (fun x hx=>by cases hx)
   exact⟨y,r',f1,f2,f2.length_le,f3,f4⟩
  unfold cq
  obtain⟨y,r,e,e1,e2,e3,e4⟩:=hpart s b hn hs
  rw[qX,e,aa]
  have h60:=hs.1
  obtain⟨y',r',f1,f2,f3,f4⟩:=BC aL (n+1) hpart s.length r [y] (by have:=e1.length_le;omega) hn (hs.suf e1) (by simp;omega) (fun x hx=>by rw[List.mem_singleton.1 hx];exact e4)
  exact⟨y',r',f1,f2.trans e1,by have:=(f2.trans e1).length_le;omega,fun h=>f3 (e3 h),f4⟩
def Res(S:List Int)(p:Nat)(d:Int)(lo:Nat)(x:aq)(c:aB)(y:aq)(r:av):Prop :=
 (∃ q:Nat,p+lo≤q∧q≤S.length∧c=⟨S,(q:Int),false⟩∧r=⟨S.drop q,false⟩∧x=y)∨(c.bad=true∧(r.bad=false→(r.s.length:Int)+82≤S.length+d))
def Sim(S:List Int)(p:Nat)(d:Int)(lo:Nat)(fs:Option (aq×aB×Unit))(fi:Option (aq×av×Unit)):Prop :=
 ∃ x c y r,fs=some (x,c,())∧fi=some (y,r,())∧Res S p d lo x c y r
theorem lu{p:Nat}(h:p≤1000):w64 ((p:Int)+1)=((p+1:Nat):Int):=by rw[aF (by omega) (by omega)];omega
theorem E6{S:List Int}(hS:By S)(q:Nat)(hq:q≤S.length)(nt:Bool)(d:Int) :
  ∃ x c,sF ⟨S,(q:Int),false⟩ aL ⟨3,0,[],nt,[]⟩=some (x,c,())∧Res S q d 0 x c (dK (S.drop q) nt).1 (dK (S.drop q) nt).2:=by
 have h60:=hS.1
 have hl:=tX (S.drop q)
 rw[List.length_drop]at hl
 rw[PJ,Ql aL _ hS.1 hS.2 (aM (S.drop q)).length q _ 0 false List.length_replicate hq (Nat.le_refl _) (Int.le_refl _) (by omega),PK]
 dsimp only
 have hc:=fun c=>Ii c aL ⟨3,0,[],nt,[]⟩ (f:=(bz (aM (S.drop q)).length (aM (S.drop q)) (List.replicate 256 false) false).1) (by rw[E5];exact List.length_replicate) 256 0 [] rfl (Nat.zero_le _)
 rw[show((0:Nat):Int)=0 from rfl]at hc
 rw[lu (by omega),hc]
 refine⟨_,_,rfl,?_⟩
 unfold dK
 split
 ·rename_i h
  refine .inr ⟨?_,fun h=>by cases h⟩
  dsimp only
  rcases h with h | h
  ·rw[List.length_drop]at h
   rw[ac (p:=S.length≤q+(aM (S.drop q)).length) (by omega)];rfl
  ·rw[h,ac (p:=(0:Int)=0) rfl,ac (p:=([]:List Int)=[]) rfl,Bool.and_true,Bool.or_true,Bool.true_or]
 ·rename_i h
  have h1:¬ (aM (S.drop q)).length=(S.drop q).length:=fun e=>h (.inl e)
  have h2:¬ aM (S.drop q)=[]:=fun e=>h (.inr e)
  rw[List.length_drop]at h1
  dsimp only
  rw[ae (p:=S.length≤q+(aM (S.drop q)).length) (by omega),ae h2,Bool.and_false,Bool.or_false,Bool.false_or,List.drop_drop]
  cases (bz (aM (S.drop q)).length (aM (S.drop q)) (List.replicate 256 false) false).2 with
  | true=>exact .inr ⟨rfl,fun h=>by cases h⟩
  | false=>exact .inl ⟨q+(aM (S.drop q)).length+1,by omega,by omega,rfl,rfl,rfl⟩
theorem Qm{S:List Int}(hS:By S)(p:Nat)(hp:p≤S.length)(d:Int):Sim S p d 0 (xR ⟨S,(p:Int),false⟩) (lY ⟨S.drop p,false⟩):=by
 have h60:=hS.1
 obtain⟨nt,k,e,hk⟩:=yd (S.drop p)
 have hu:By ((S.drop p).drop k):=hS.suf ((List.drop_suffix _ _).trans (List.drop_suffix _ _))
 have hi:=vD _ nt hu.1 hu.2 _ e
 rw[PL]
 rcases hk with ⟨rfl,rfl,u,hu'⟩ | ⟨rfl,rfl,hu'⟩
 ·have hlt:p<S.length:=by
   have:=congrArg List.length hu'
   rw[List.length_drop]at this
   simp at this;omega
  have h94:S[p]=94:=by
   rw[ai hlt]at hu'
   exact(List.cons.inj hu').1
  rw[kP hlt,aa]
  dsimp only
  rw[ak h94,lu (by omega)]
  obtain⟨x,c,e1,e2⟩:=E6 hS (p+1) (by omega) true d
  rw[List.drop_drop]at hi
  refine⟨x,c,_,_,e1,hi,?_⟩
  rcases e2 with ⟨q,a,b⟩ | h
  ·exact .inl ⟨q,by omega,b⟩
  ·exact .inr h
 ·have hn:fS ⟨S,(p:Int),false⟩ 94=some (false,⟨S,(p:Int),false⟩,()):=by
   by_cases hlt:p<S.length
   ·rw[kP hlt]
    have:¬ S[p]=94:=fun h=>hu' (S.drop (p+1)) (by rw[ai hlt,h])
    rw[ae this]
   ·exact gq (by omega)
  rw[hn,aa]
  dsimp only
  rw[if_neg (by simp)]
  obtain⟨x,c,e1,e2⟩:=E6 hS p hp false d
  exact⟨x,c,_,_,e1,hi,e2⟩
theorem Hu{S:List Int}(hS:By S)(p:Nat)(hp:p<S.length)(d:Int)(hd:0≤d)(hdp:d≤p)
  (hpat:Sim S (p+1) (d+1) 0 (lh ⟨S,((p+1:Nat):Int),false⟩ (d+1)) (eA ⟨S.drop (p+1),false⟩)) :
  Sim S p d 1 (su ⟨S,(p:Int),false⟩ d) (gX ⟨S.drop p,false⟩):=by
 have h60:=hS.1
 have hdrop:=ai hp
 unfold Sim
 rw[PD]
 dsimp only
 rw[if_neg (by simp),aj (by omega)]
 by_cases h40:d>40
 ·rw[ak h40]
  have hb:=hS.suf (List.drop_suffix p S)
  rw[hdrop]at hb ⊢
  obtain⟨y,r,e,e1,e2,e3,e4⟩:=qL S[p] _ hb (ov _ _ false (Nat.le_refl _) (hS.suf (List.drop_suffix (p+1) S)))
  refine⟨_,_,_,_,rfl,e,.inr ⟨rfl,fun _=>?_⟩⟩
  simp only[List.length_cons,List.length_drop]at e2
  omega
 rw[aj h40,if_pos (by omega),aS hp,lu (by omega),aF (n:=d+1) (by omega) (by omega),hdrop,vw,dH,aa]
 dsimp only
 rw[if_pos (c:=(0:Int)≤1∧(1:Int)≤((S[p]::S.drop (p+1)).length:Int)) (by simp;omega),kp]
 by_cases c1:S[p]=40
 ·rw[ak c1,ak c1]
  obtain⟨x,c,y,r,e1,e2,e3⟩:=hpat
  rw[e1,e2,aa,aa]
  dsimp only
  rcases e3 with ⟨q,q1,q2,rfl,rfl,rfl⟩ | ⟨hc,hr⟩
  ·by_cases hq:q<S.length
   ·rw[kP hq,aa,ai hq]
    dsimp only
    by_cases ha:S[q]=41
    ·rw[ha,iy,aa,if_neg (by simp),lu (by omega)]
     dsimp only
     rw[if_neg (by simp)]
     exact⟨_,_,_,_,rfl,rfl,.inl ⟨q+1,by omega,by omega,rfl,rfl,rfl⟩⟩
    ·rw[ix ha,aa,if_pos (by simp[ha])]
     dsimp only
     rw[if_pos (by simp)]
     exact⟨_,_,_,_,rfl,rfl,.inr ⟨rfl,fun h=>by cases h⟩⟩
   ·rw[gq (by omega),aa,List.drop_eq_nil_of_le (by omega),eJ (.inl rfl),aa]
    dsimp only
    rw[if_pos (by simp),if_pos (by simp)]
    exact⟨_,_,_,_,rfl,rfl,.inr ⟨rfl,fun h=>by cases h⟩⟩
  ·rw[C1 hc,aa]
   dsimp only
   rw[if_pos (by simp)]
   rcases fa r with hr' | ⟨a,t,rfl⟩
   ·rw[eJ hr',aa]
    dsimp only
    rw[if_pos (by simp)]
    exact⟨_,_,_,_,rfl,rfl,.inr ⟨rfl,fun h=>by cases h⟩⟩
   ·have:=hr rfl
    simp only[List.length_cons]at this
    by_cases ha:a=41
    ·subst ha
     rw[iy,aa]
     dsimp only
     rw[if_neg (by simp)]
     exact⟨_,_,_,_,rfl,rfl,.inr ⟨rfl,fun h=>by dsimp only;omega⟩⟩
    ·rw[ix ha,aa]
     dsimp only
     rw[if_pos (by simp)]
     exact⟨_,_,_,_,rfl,rfl,.inr ⟨rfl,fun h=>by cases h⟩⟩
 have n1:¬ (decide (S[p]=40)=true):=by rw[ab];exact c1
 rw[if_neg n1,if_neg n1]
 have good:∀ x:aq,∃ x' c' y' r',some (x,(⟨S,((p+1:Nat):Int),false⟩:aB),())=some (x',c',())∧some (x,(⟨S.drop (p+1),false⟩:av),())=some (y',r',())∧Res S p d 1 x' c' y' r' :=
  fun x=>⟨_,_,_,_,rfl,rfl,.inl ⟨p+1,by omega,by omega,rfl,rfl,rfl⟩⟩
 have bad:∀ (x y:aq) (a:Int) (s:List Int),∃ x' c' y' r',some (x,(⟨S,a,true⟩:aB),())=some (x',c',())∧some (y,(⟨s,true⟩:av),())=some (y',r',())∧Res S p d 1 x' c' y' r' :=
  fun x y a s=>⟨_,_,_,_,rfl,rfl,.inr ⟨rfl,fun h=>by cases h⟩⟩
 by_cases c2:S[p]=46
 ·rw[ak c2,ak c2];exact good _
 have n2:¬ (decide (S[p]=46)=true):=by rw[ab];exact c2
 rw[if_neg n2,if_neg n2]
 by_cases c3:S[p]=94
 ·rw[ak c3,ak c3];exact good _
 have n3:¬ (decide (S[p]=94)=true):=by rw[ab];exact c3
 rw[if_neg n3,if_neg n3]
 by_cases c4:S[p]=36
 ·rw[ak c4,ak c4];exact good _
 have n4:¬ (decide (S[p]=36)=true):=by rw[ab];exact c4
 rw[if_neg n4,if_neg n4]
 by_cases c5:S[p]=91
 ·rw[ak c5,ak c5]
  obtain⟨x,c,y,r,e1,e2,e3⟩:=Qm hS (p+1) (by omega) d
  rw[e1,e2,aa,aa]
  refine⟨_,_,_,_,rfl,rfl,?_⟩
  rcases e3 with ⟨q,a,b⟩ | h
  ·exact .inl ⟨q,by omega,b⟩
  ·exact .inr h
 have n5:¬ (decide (S[p]=91)=true):=by rw[ab];exact c5
 rw[if_neg n5,if_neg n5]
 by_cases c6:S[p]=92
 ·rw[ak c6,ak c6]
  by_cases hq:p+1<S.length
  ·rw[aj (by omega),if_pos (by omega),aS hq,lu (by omega),ai hq,dH,aa]
   dsimp only
   rw[if_neg (by simp),if_pos (by simp;omega),nI]
   exact⟨_,_,_,_,rfl,rfl,.inl ⟨p+1+1,by omega,by omega,rfl,rfl,rfl⟩⟩
  ·rw[ak (by omega),List.drop_eq_nil_of_le (by omega),cO (.inl rfl),aa]
   dsimp only
   rw[if_pos (by simp)]
   exact bad _ _ _ _
 have n6:¬ (decide (S[p]=92)=true):=by rw[ab];exact c6
 rw[if_neg n6,if_neg n6]
 by_cases c7:S[p]=42
 ·rw[ak c7,ak c7,ak c7,sv,lX,ak c7];exact bad _ _ _ _
 have n7:¬ (decide (S[p]=42)=true):=by rw[ab];exact c7
 rw[if_neg n7,if_neg n7]
 by_cases c8:S[p]=43
 ·rw[ak c8,ak c8,ak c8,sv,lX,ak c8];exact bad _ _ _ _
 have n8:¬ (decide (S[p]=43)=true):=by rw[ab];exact c8
 rw[if_neg n8,if_neg n8]
 by_cases c9:S[p]=63
 ·rw[ak c9,sv,lX,ak c9];exact bad _ _ _ _
 have n9:¬ (decide (S[p]=63)=true):=by rw[ab];exact c9
 rw[if_neg n9,sv,lX,if_neg n9]
 exact good _
theorem Ns{c:aB}(z x:aq)(h:c.bad=true):pe c z x=some (x,c,()):=by
 rw[sA,if_neg (by simp[h])]
theorem Nt{S:List Int}(hS:By S)(d:Int):∀ (n p:Nat) (x:aq),p≤S.length→S.length-p≤n→Sim S p d 0 (pe ⟨S,(p:Int),false⟩ aL x) (jj ⟨S.drop p,false⟩ aL x):=by
 have h60:=hS.1
 have stop:∀ (p:Nat) (x:aq),p≤S.length→∃ x' c' y' r',some (x,(⟨S,(p:Int),false⟩:aB),())=some (x',c',())∧some (x,(⟨S.drop p,false⟩:av),())=some (y',r',())∧Res S p d 0 x' c' y' r' :=
  fun p x hp=>⟨_,_,_,_,rfl,rfl,.inl ⟨p,by omega,hp,rfl,rfl,rfl⟩⟩
 intro n
 induction n with
 | zero =>
  intro p x hp hn
  unfold Sim
  rw[sA,if_pos (by simp),gq (by omega),aa]
  dsimp only
  rw[if_neg (by simp),gq (by omega),aa]
  dsimp only
  rw[if_neg (by simp),gq (by omega),aa]
  dsimp only
  rw[if_neg (by simp),sB,if_pos (by simp),g7,cO (.inl (List.drop_eq_nil_of_le (by omega))),aa]
  dsimp only
  rw[if_pos (by simp)]
  exact stop p x hp
 | succ n ih =>
  intro p x hp hn
  by_cases hlt:p<S.length
  ·unfold Sim
   rw[sA,if_pos (by simp),kP hlt,aa]
   dsimp only
   rw[kP hlt,aa]
   dsimp only
   rw[kP hlt,aa,g7,ai hlt,dH,aa]
   dsimp only
   obtain⟨v,e,hv⟩:=rN S[p]
   rw[if_neg (c:=(!true)=true) (by simp),e,aa]
   dsimp only
   rw[aa]
   dsimp only
   rw[if_pos (c:=(0:Int)≤1∧(1:Int)≤((S[p]::S.drop (p+1)).length:Int)) (by simp;omega),kp]
   have go:∀ v:Int,v≠0→Sim S p d 0 (mP v ⟨S,(p:Int),false⟩ aL x) (jj ⟨S.drop (p+1),false⟩ aL ⟨v,0,[],false,[x]⟩):=fun v hv=>by
    rw[sB,aj hv]
    dsimp only
    rw[lu (by omega)]
    obtain⟨x',c',y',r',f1,f2,f3⟩:=ih (p+1) ⟨v,0,[],false,[x]⟩ (by omega) (by omega)
    refine⟨x',c',y',r',f1,f2,?_⟩
    rcases f3 with ⟨q,a,b⟩ | h
    ·exact .inl ⟨q,by omega,b⟩
    ·exact .inr h
   rcases hv with ⟨rfl,h⟩ | ⟨rfl,h⟩ | ⟨rfl,h⟩ | ⟨rfl,h1,h2,h3⟩
   ·rw[ak h,if_neg (by simp)];exact go 8 (by decide)
   ·rw[if_neg (by rw[h];simp),ak h,if_neg (by simp)];exact go 9 (by decide)
   ·rw[if_neg (by rw[h];simp),if_neg (by rw[h];simp),ak h,if_neg (by simp)];exact go 10 (by decide)
   ·rw[aj h1,aj h2,aj h3,if_pos (by simp),sB,if_pos (by simp),← ai hlt]
    exact stop p x hp
  ·have hz:S.length-p≤0:=by omega
   unfold Sim
   rw[sA,if_pos (by simp),gq (by omega),aa]
   dsimp only
   rw[if_neg (by simp),gq (by omega),aa]
   dsimp only
   rw[if_neg (by simp),gq (by omega),aa]
   dsimp only
   rw[if_neg (by simp),sB,if_pos (by simp),g7,cO (.inl (List.drop_eq_nil_of_le (by omega))),aa]
   dsimp only
   rw[if_pos (by simp)]
   exact stop p x hp
theorem Nu{S:List Int}(hS:By S)(p:Nat)(d:Int)(h:Sim S p d 1 (su ⟨S,(p:Int),false⟩ d) (gX ⟨S.drop p,false⟩)) :
  Sim S p d 1 (sy ⟨S,(p:Int),false⟩ d) (eB ⟨S.drop p,false⟩):=by
 obtain⟨x,c,y,r,e1,e2,e3⟩:=h
 unfold Sim
 rw[PG,vx,e1,e2,aa,aa]
 dsimp only
 rcases e3 with ⟨q,q1,q2,rfl,rfl,rfl⟩ | ⟨hc,hr⟩
 ·obtain⟨x',c',y',r',f1,f2,f3⟩:=Nt hS d _ q x q2 (Nat.le_refl _)
  refine⟨x',c',y',r',f1,f2,?_⟩
  rcases f3 with ⟨q',a,b⟩ | h
  ·exact .inl ⟨q',by omega,b⟩
  ·exact .inr h
 ·rw[Ns _ _ hc]
  obtain⟨y',r',f1,f2,f3⟩:=BE aL _ r y (Nat.le_refl _)
  refine⟨_,_,_,_,rfl,f1,.inr ⟨hc,fun h=>?_⟩⟩
  have:=f2.length_le
  have hb:r.bad=false:=by
   cases hb:r.bad with
   | false=>rfl
   | true=>rw[f3 hb]at h;cases h
  have:=hr hb
  omega
theorem Nj{c:aB}(d:Int)(l:List aq)(z:aq)(h:c.bad=true):pc d l c z=some (eH l,c,()):=by
 rw[xP,if_neg (by simp[h]),cC]
theorem wX{S:List Int}{p p' lo:Nat}{d:Int}{x:aq}{c:aB}{y:aq}{r:av}(lo':Nat)(h:Res S p' d lo x c y r)(hp:p+lo'≤p'+lo):Res S p d lo' x c y r:=by
 rcases h with ⟨q,a,b⟩ | h
 ·exact .inl ⟨q,by omega,b⟩
 ·exact .inr h
theorem tR{r r':av}{S:List Int}{d:Int}(hr:r.bad=false→(r.s.length:Int)+82≤S.length+d)(hs:r'.s <:+ r.s)(hb:r.bad=true→r'.bad=true) :
  r'.bad=false→(r'.s.length:Int)+82≤S.length+d:=by
 intro h
 have:=hs.length_le
 have hb':r.bad=false:=by
  cases hb':r.bad with
  | false=>rfl
  | true=>rw[hb hb']at h;cases h
 have:=hr hb'
 omega
theorem je(n:Nat):(∀ b s,(b::s).length≤n→By (b::s)→cq eB (b::s) false 1)∧(∀ s b,s.length≤n→By s→cq eU s b 0):=by
 have hpiece:∀ b s,(b::s).length≤n→By (b::s)→cq eB (b::s) false 1:=fun b s h hs =>
  BG b s (qL b s hs (ov _ s false (Nat.le_refl _) (hs.suf (List.suffix_cons _ _))))
 refine⟨hpiece,fun s b h hs=>?_⟩
 unfold cq
 rw[ol]
 obtain⟨y,r',f1,f2,f3,f4⟩:=vu aL n hpiece s.length ⟨s,b⟩ [] (Nat.le_refl _) h hs (by have:=hs.1;simp;omega) (fun x hx=>by cases hx)
 exact⟨y,r',f1,f2,f2.length_le,f3,f4⟩
theorem Df(z:aq)(r:av)(hb:By r.s):∀ (l:List aq),l.length+r.s.length≤60→∃ y r',jh l r z=some (y,r',())∧r'.s <:+ r.s∧(r.bad=true→r'.bad=true):=by
 have key:∀ (n:Nat) (r:av) (l:List aq),r.s.length≤n→By r.s→l.length+n≤60→∃ y r',jh l r z=some (y,r',())∧r'.s <:+ r.s∧(r.bad=true→r'.bad=true):=by
  intro n
  induction n with
  | zero =>
   intro r l hn hb hl
   rw[gY,cO (.inl (List.length_eq_zero_iff.1 (by omega))),aa]
   dsimp only
   rw[if_pos (by simp),cC]
   exact⟨_,_,rfl,List.suffix_refl _,fun h=>h⟩
  | succ n ih =>
   intro r l hn hb hl
   rw[gY]
   have stop:∃ y r',some (eH l,r,())=some (y,r',())∧r'.s <:+ r.s∧(r.bad=true→r'.bad=true):=⟨_,_,rfl,List.suffix_refl _,fun h=>h⟩
   rcases fa r with hr | ⟨b,s,rfl⟩
   ·rw[cO hr,aa]
    dsimp only
    rw[if_pos (by simp),cC]
    exact stop
   ·rw[dH,aa]
    dsimp only
    rw[if_neg (by simp)]
    by_cases c1:b=124
    ·rw[ak c1,cC];exact stop
    rw[aj c1]
    by_cases c2:b=41
    ·rw[ak c2,cC];exact stop
    rw[aj c2]
    obtain⟨y,r,e,e1,e2,e3,e4⟩:=(je _).1 b s (Nat.le_refl _) hb
    rw[e,aa]
    dsimp only
    rw[if_pos (by rw[aN];omega)]
    have h2:r.s.length≤n:=by have:(b::s).length≤n+1:=hn;omega
    obtain⟨y',r',f1,f2,f3⟩:=ih r _ h2 (hb.suf e1) (by show(l++[y]).length+n≤60;simp;omega)
    exact⟨y',r',f1,f2.trans e1,(fun h=>by cases h)⟩
 intro l hl
 exact key _ r l (Nat.le_refl _) hb hl
theorem rH(z:aq)(r:av)(hb:By r.s):∀ (l:List aq),l.length+r.s.length≤61→∃ y r',ji l r z=some (y,r',())∧r'.s <:+ r.s∧(r.bad=true→r'.bad=true):=by
 have key:∀ (n:Nat) (r:av) (l:List aq),r.s.length≤n→By r.s→l.length+n≤61→∃ y r',ji l r z=some (y,r',())∧r'.s <:+ r.s∧(r.bad=true→r'.bad=true):=by
  intro n
  induction n with
  | zero =>
   intro r l hn hb hl
   rw[gZ,eJ (.inl (List.length_eq_zero_iff.1 (by omega))),aa]
   dsimp only
   rw[if_neg (by simp),dI]
   exact⟨_,_,rfl,List.suffix_refl _,fun h=>h⟩
  | succ n ih =>
   intro r l hn hb hl
   rw[gZ]
   have stop:∃ y r',some (ef l,r,())=some (y,r',())∧r'.s <:+ r.s∧(r.bad=true→r'.bad=true):=⟨_,_,rfl,List.suffix_refl _,fun h=>h⟩
   rcases fa r with hr | ⟨b,s,rfl⟩
   ·rw[eJ hr,aa]
    dsimp only
    rw[if_neg (by simp),dI]
    exact stop
   ·by_cases c1:b=124
    ·subst c1
     rw[iy,aa]
     dsimp only
     have hbs:By s:=hb.suf (List.suffix_cons _ _)
     have hn':s.length≤n:=by have:(124::s).length≤n+1:=hn;simp only[List.length_cons]at this;omega
     obtain⟨y,r,e,e1,e2,e3,e4⟩:=(je _).2 s false (Nat.le_refl _) hbs
     rw[if_pos rfl,e,aa]
     dsimp only
     rw[if_pos (by rw[aN];omega)]
     obtain⟨y',r',f1,f2,f3⟩:=ih r _ (by omega) (hbs.suf e1) (by show(l++[y]).length+n≤61;simp;omega)
     exact⟨y',r',f1,iw (f2.trans e1),(fun h=>by cases h)⟩
    ·rw[ix c1,aa]
     dsimp only
     rw[if_neg (by simp),dI]
     exact stop
 intro l hl
 exact key _ r l (Nat.le_refl _) hb hl
theorem Nk{S:List Int}(hS:By S)(d:Int)(m:Nat)(hp:∀ p,p<S.length→S.length-p≤m→d≤p→Sim S p d 1 (sy ⟨S,(p:Int),false⟩ d) (eB ⟨S.drop p,false⟩)) :
  ∀ (n p:Nat) (l:List aq),p≤S.length→S.length-p≤n→n≤m→d≤p→l.length+n≤60→Sim S p d 0 (pc d l ⟨S,(p:Int),false⟩ aL) (jh l ⟨S.drop p,false⟩ aL):=by
 have h60:=hS.1
 intro n
 induction n with
 | zero =>
  intro p l h1 h2 h3 h4 h5
  unfold Sim
  rw[xP]
  dsimp only
  rw[if_pos (by simp),aj (by omega),cC,gY,cO (.inl (List.drop_eq_nil_of_le (by omega))),aa]
  dsimp only
  rw[if_pos (by simp),cC]
  exact⟨_,_,_,_,rfl,rfl,.inl ⟨p,by omega,h1,rfl,rfl,rfl⟩⟩
 | succ n ih =>
  intro p l h1 h2 h3 h4 h5
  unfold Sim
  have stop:∃ x' c' y' r',some (eH l,(⟨S,(p:Int),false⟩:aB),())=some (x',c',())∧some (eH l,(⟨S.drop p,false⟩:av),())=some (y',r',())∧Res S p d 0 x' c' y' r' :=
   ⟨_,_,_,_,rfl,rfl,.inl ⟨p,by omega,h1,rfl,rfl,rfl⟩⟩
  rw[xP]
  dsimp only
  by_cases hlt:p<S.length
  ·have hd:=ai hlt
   rw[if_pos (by simp),ak (by omega),if_pos (by omega),aS hlt,gY]
   obtain⟨x,c,y,r,e1,e2,e3⟩:=hp p hlt (by omega) h4
   rw[hd]at stop e2 ⊢
   rw[dH,aa]
   dsimp only
   rw[if_neg (c:=(!true)=true) (by simp)]
   by_cases c1:S[p]=124
   ·rw[if_neg (by simp[c1]),cC,ak c1,cC];exact stop
   have n1:¬ (decide (S[p]=124)=true):=by rw[ab];exact c1
   rw[if_pos (by rw[ae c1];rfl),if_pos (by omega),if_neg n1]
   by_cases c2:S[p]=41
   ·rw[if_neg (by simp[c2]),cC,ak c2,cC];exact stop
   have n2:¬ (decide (S[p]=41)=true):=by rw[ab];exact c2
   rw[if_pos (by rw[ae c2];rfl),if_neg n2,e1,e2,aa,aa]
   dsimp only
   rw[if_pos (by rw[aN];omega),if_pos (by rw[aN];omega)]
   have hl:∀ y:aq,(List.append l [y]).length=l.length+1:=fun y=>by show(l++[y]).length=_;simp
   rcases e3 with ⟨q,q1,q2,rfl,rfl,rfl⟩ | ⟨hc,hr⟩
   ·obtain⟨x',c',y',r',f1,f2,f3⟩:=ih q (List.append l [x]) q2 (by omega) (by omega) (by omega) (by rw[hl];omega)
    exact⟨x',c',y',r',f1,f2,wX 0 f3 (by omega)⟩
   ·rw[Nj _ _ _ hc]
    have hb:=hS.suf (List.drop_suffix p S)
    rw[hd]at hb
    obtain⟨y2,r2,g,g1,g2,g3,g4⟩:=(je _).1 S[p] _ (Nat.le_refl _) hb
    rw[e2]at g
    obtain⟨rfl,rfl⟩:y=y2∧r=r2:=by
     have:=Option.some.inj g
     exact⟨congrArg Prod.fst this,congrArg (fun z=>z.2.1) this⟩
    simp only[List.length_cons,List.length_drop]at g2
    obtain⟨y',r',f1,f2,f3⟩:=Df aL r (hb.suf g1) (List.append l [y]) (by rw[hl];omega)
    exact⟨_,_,_,_,rfl,f1,.inr ⟨hc,tR hr f2 f3⟩⟩
  ·rw[if_pos (by simp),aj (by omega),cC,gY,cO (.inl (List.drop_eq_nil_of_le (by omega))),aa]
   dsimp only
   rw[if_pos (by simp),cC]
   exact stop
theorem Dj{c:aB}(d:Int)(l:List aq)(z:aq)(h:c.bad=true):pd d l c z=some (ef l,c,()):=by
 rw[sx,C1 h,aa]
 dsimp only
 rw[if_neg (by simp),dI]
theorem Nm{S:List Int}(hS:By S)(d:Int)(m:Nat)(hp:∀ p,p≤S.length→S.length-p≤m→d≤p→Sim S p d 0 (pb ⟨S,(p:Int),false⟩ d) (eU ⟨S.drop p,false⟩)) :
  ∀ (n p:Nat) (l:List aq),p≤S.length→S.length-p≤n→n≤m→d≤p→l.length+n≤61→Sim S p d 0 (pd d l ⟨S,(p:Int),false⟩ aL) (ji l ⟨S.drop p,false⟩ aL):=by
 have h60:=hS.1
 intro n
 induction n with
 | zero =>
  intro p l h1 h2 h3 h4 h5
  unfold Sim
  rw[sx,gq (by omega),aa]
  dsimp only
  rw[if_neg (by simp),dI,gZ,eJ (.inl (List.drop_eq_nil_of_le (by omega))),aa]
  dsimp only
  rw[if_neg (by simp),dI]
  exact⟨_,_,_,_,rfl,rfl,.inl ⟨p,by omega,h1,rfl,rfl,rfl⟩⟩
 | succ n ih =>
  intro p l h1 h2 h3 h4 h5
  unfold Sim
  have stop:∃ x' c' y' r',some (ef l,(⟨S,(p:Int),false⟩:aB),())=some (x',c',())∧some (ef l,(⟨S.drop p,false⟩:av),())=some (y',r',())∧Res S p d 0 x' c' y' r' :=
   ⟨_,_,_,_,rfl,rfl,.inl ⟨p,by omega,h1,rfl,rfl,rfl⟩⟩
  by_cases hlt:p<S.length
  ·have hd:=ai hlt
   rw[sx,kP hlt,aa,gZ]
   dsimp only
   rw[hd]at stop ⊢
   by_cases c1:S[p]=124
   ·rw[c1,iy,aa,if_pos (by simp),lu (by omega)]
    dsimp only
    rw[if_pos rfl]
    obtain⟨x,c,y,r,e1,e2,e3⟩:=hp (p+1) (by omega) (by omega) (by omega)
    rw[e1,e2,aa,aa]
    dsimp only
    rw[if_pos (by rw[aN];omega),if_pos (by rw[aN];omega)]
    have hl:∀ y:aq,(List.append l [y]).length=l.length+1:=fun y=>by show(l++[y]).length=_;simp
    rcases e3 with ⟨q,q1,q2,rfl,rfl,rfl⟩ | ⟨hc,hr⟩
    ·obtain⟨x',c',y',r',f1,f2,f3⟩:=ih q (List.append l [x]) q2 (by omega) (by omega) (by omega) (by rw[hl];omega)
     exact⟨x',c',y',r',f1,f2,wX 0 f3 (by omega)⟩
    ·rw[Dj _ _ _ hc]
     have hb:=hS.suf (List.drop_suffix (p+1) S)
     obtain⟨y2,r2,g,g1,g2,g3,g4⟩:=(je _).2 _ false (Nat.le_refl _) hb
     rw[e2]at g
     obtain⟨rfl,rfl⟩:y=y2∧r=r2:=by
      have:=Option.some.inj g
      exact⟨congrArg Prod.fst this,congrArg (fun z=>z.2.1) this⟩
     simp only[List.length_drop]at g2
     obtain⟨y',r',f1,f2,f3⟩:=rH aL r (hb.suf g1) (List.append l [y]) (by rw[hl];omega)
     exact⟨_,_,_,_,rfl,f1,.inr ⟨hc,tR hr f2 f3⟩⟩
   ·rw[ix c1,aa,aj c1,dI]
    dsimp only
    rw[if_neg (by simp),dI]
    exact stop
  ·rw[sx,gq (by omega),aa]
   dsimp only
   rw[if_neg (by simp),dI,gZ,eJ (.inl (List.drop_eq_nil_of_le (by omega))),aa]
   dsimp only
   rw[if_neg (by simp),dI]
   exact stop
theorem Dk{S:List Int}(hS:By S)(m:Nat)(p:Nat)(d:Int)(hpat:∀ p',p'<S.length→S.length-p'≤m→d≤p'→Sim S (p'+1) (d+1) 0 (lh ⟨S,((p'+1:Nat):Int),false⟩ (d+1)) (eA ⟨S.drop (p'+1),false⟩))
  (h1:p≤S.length) (h2:S.length-p≤m) (h3:0≤d) (h4:d≤p) (hm:m≤60):Sim S p d 0 (lh ⟨S,(p:Int),false⟩ d) (eA ⟨S.drop p,false⟩):=by
 have h60:=hS.1
 have hpart:∀ p,p≤S.length→S.length-p≤m→d≤p→Sim S p d 0 (pb ⟨S,(p:Int),false⟩ d) (eU ⟨S.drop p,false⟩):=fun p a b c=>by
  rw[PE,ol]
  exact Nk hS d m (fun p' a' b' c'=>Nu hS p' d (Hu hS p' a' d h3 c' (hpat p' a' b' c'))) m p [] a b (Nat.le_refl _) c (by simp;omega)
 unfold Sim
 obtain⟨x,c,y,r,e1,e2,e3⟩:=hpart p h1 h2 h4
 rw[PF,qX,e1,e2,aa,aa]
 dsimp only
 rcases e3 with ⟨q,q1,q2,rfl,rfl,rfl⟩ | ⟨hc,hr⟩
 ·obtain⟨x',c',y',r',f1,f2,f3⟩:=Nm hS d m hpart m q [x] q2 (by omega) (Nat.le_refl _) (by omega) (by simp;omega)
  exact⟨x',c',y',r',f1,f2,wX 0 f3 (by omega)⟩
 ·rw[Dj _ _ _ hc]
  have hb:=hS.suf (List.drop_suffix p S)
  obtain⟨y2,r2,g,g1,g2,g3,g4⟩:=(je _).2 _ false (Nat.le_refl _) hb
  rw[e2]at g
  obtain⟨rfl,rfl⟩:y=y2∧r=r2:=by
   have:=Option.some.inj g
   exact⟨congrArg Prod.fst this,congrArg (fun z=>z.2.1) this⟩
  simp only[List.length_drop]at g2
  obtain⟨y',r',f1,f2,f3⟩:=rH aL r (hb.suf g1) [y] (by simp;omega)
  exact⟨_,_,_,_,rfl,f1,.inr ⟨hc,tR hr f2 f3⟩⟩
theorem Nn{S:List Int}(hS:By S):∀ (n p:Nat) (d:Int),p≤S.length→S.length-p≤n→0≤d→d≤p→Sim S p d 0 (lh ⟨S,(p:Int),false⟩ d) (eA ⟨S.drop p,false⟩):=by
 have h60:=hS.1
 intro n
 induction n with
 | zero =>
  intro p d h1 h2 h3 h4
  exact Dk hS 0 p d (fun p' h h' h''=>absurd h (by omega)) h1 h2 h3 h4 (by omega)
 | succ n ih =>
  intro p d h1 h2 h3 h4
  exact Dk hS (S.length-p) p d (fun p' h h' h''=>ih (p'+1) (d+1) (by omega) (by omega) (by omega) (by omega)) h1 (Nat.le_refl _) h3 h4 (by omega)
theorem DH(S:List Int)(hB:∀ b∈S,0≤b∧b≤255)(hl:S.length≤9223372036854775807):∃ x ok,kY S=some (x,ok,())∧lT S=some (x,ok,()):=by
 rw[OR,Bd]
 by_cases c:(S.length:Int)>60
 ·rw[ak c,ak c];exact⟨_,_,rfl,rfl⟩
 have n1:¬ (decide ((S.length:Int)>60)=true):=by rw[ab];exact c
 have hS:By S:=⟨by omega,hB⟩
 obtain⟨x,c,y,r,e1,e2,e3⟩:=Nn hS S.length 0 0 (Nat.zero_le _) (by omega) (Int.le_refl _) (Int.le_refl _)
 rw[List.drop_zero]at e2
 rw[show((0:Nat):Int)=0 from rfl]at e1
 rw[if_neg n1,if_neg n1,e1,e2,aa,aa]
 dsimp only
 obtain⟨y2,r2,g,g1,g2,g3,g4⟩:=ov _ S false (Nat.le_refl _) hS
 rw[e2]at g
 obtain⟨rfl,rfl⟩:y=y2∧r=r2:=by
  have:=Option.some.inj g
  exact⟨congrArg Prod.fst this,congrArg (fun z=>z.2.1) this⟩
 rcases e3 with ⟨q,q1,q2,rfl,rfl,rfl⟩ | ⟨hc,hr⟩
 ·dsimp only
  rw[if_neg (c:=false=true) (by simp),if_neg (c:=false=true) (by simp)]
  by_cases hq:q=S.length
  ·have a1:¬ ((!(decide ((q:Int)=(S.length:Int))))=true):=by rw[ac (by omega)];decide
   have a2:¬ ((!(decide (S.drop q=[])))=true):=by rw[ac (List.drop_eq_nil_of_le (by omega))];decide
   obtain⟨v,d1,d2⟩:=uo g4
   rw[if_neg a1,if_neg a2,d1,d2,aa]
   dsimp only
   by_cases hv:v>12
   ·rw[ak hv];exact⟨_,_,rfl,rfl⟩
   ·rw[aj hv];exact⟨_,_,rfl,rfl⟩
  ·have a1:(!(decide ((q:Int)=(S.length:Int))))=true:=by rw[ae (by omega)];rfl
   have a2:(!(decide (S.drop q=[])))=true:=by
    rw[ae (fun h=>by have:=congrArg List.length h;rw[List.length_drop]at this;simp at this;omega)];rfl
   rw[if_pos a1,if_pos a2];exact⟨_,_,rfl,rfl⟩
 ·rw[if_pos hc]
  cases hb:r.bad with
  | true=>rw[if_pos rfl];exact⟨_,_,rfl,rfl⟩
  | false=>have:=hr hb;have:=hS.1;omega
def dU(x:Int):Bool:=(decide (97≤x)&&decide (x≤122))||(decide (65≤x)&&decide (x≤90))
theorem Bp(x:Int):vi x=some (dU x,()):=by
 rw[Bo]
 unfold dU
 by_cases c1:x≥97
 ·by_cases c2:x≤122
  ·rw[ak c1,ak c2,ac (show 97≤x from c1),ac c2];rfl
  ·rw[ak c1,aj c2,ak (by omega),ae c2,Bool.and_false,Bool.false_or,ac (show 65≤x by omega),Bool.true_and]
 ·rw[aj c1,ae (show ¬ 97≤x from c1),Bool.false_and,Bool.false_or]
  by_cases c3:x≥65
  ·rw[ak c3,ac (show 65≤x from c3),Bool.true_and]
  ·rw[aj c3,ae (show ¬ 65≤x from c3),Bool.false_and]
theorem P4(x:Int):xZ x=some (dU x,()):=by
 have:=Bp x
 rw[Bo]at this
 rw[P3];exact this
theorem s6(l:List (List Int))(s:List Int)(hl:l.length≤4294967296):lk l s=some (decide (s∈l),()):=by
 rw[P5]
 have:=gM (fun i=>mT l s i) l.length (fun i=>decide (l.getD i []=s)) (some (true,())) (some (false,())) (fun i hi=>by
  show mT l s i=_
  rw[EO,ak (by omega),if_pos (by omega),aR hi (by omega),af]) (by
  show mT l s _=_
  rw[EO,if_neg (by simp)])
 rw[this,er l [] (fun x=>decide (x=s))]
 have:l.any (fun x=>decide (x=s))=decide (s∈l):=by
  rw[Bool.eq_iff_iff,List.any_eq_true,ab]
  constructor
  ·rintro ⟨x,hx,e⟩;rw[ab]at e;subst e;exact hx
  ·intro h;exact⟨s,h,ac rfl⟩
 rw[this]
 cases decide (s∈l) <;> rfl
theorem uj(l:List (List Int))(s:List Int)(hl:l.length≤4294967296):pD l s=some (decide (s∈l),()):=by
 rw[Rp,Rz]
 obtain⟨k,e,e1,_⟩:=g9 (fun i=>nf l s (l.length:Int) i) () l.length (fun i=>decide (s=l.getD i [])) (fun i hi=>by
  show nf l s _ i=_
  rw[GM,ak (by omega),if_pos (by omega),aR hi (by omega),af]) (by
  show nf l s _ _=_
  rw[GM,if_neg (by simp)])
 rw[e,aa]
 dsimp only
 rw[e1,er l [] (fun x=>decide (s=x))]
 congr 2
 rw[Bool.eq_iff_iff,List.any_eq_true,ab]
 constructor
 ·rintro ⟨x,hx,e⟩;rw[ab]at e;subst e;exact hx
 ·intro h;exact⟨s,h,ac rfl⟩
def kw1:List (List Int):=[[66,69,71,73,78],[112,114,105,110,116],[105,102],[101,108,115,101],[119,104,105,108,101],[110,101,120,116],[100,101,108,101,116,101],[78,82],[78,70]]
def kw2:List (List Int):=[[108,101,110,103,116,104],[115,117,98,115,116,114],[105,110,100,101,120],[105,110,116],[117,112,112,101,114],[108,111,119,101,114]]
def me(s:List Int):Bool:=decide (s∈kw1)||decide (s∈kw2)
theorem Ei:sL=some (kw2,()):=P0
theorem Bj:qN=some (kw2,()):=Kh
theorem OG(s:List Int):xm s=some (me s,()):=by
 have e:lk [[66,69,71,73,78],[112,114,105,110,116],[105,102],[101,108,115,101],[119,104,105,108,101],[110,101,120,116],[100,101,108,101,116,101],[78,82],[78,70]] s=some (decide (s∈kw1),()):=s6 kw1 s (by decide)
 rw[OE,e,aa,Ei,aa]
 dsimp only
 rw[s6 kw2 s (by decide),aa]
 unfold me
 cases decide (s∈kw1) <;> rfl
theorem JV(s:List Int)(b:Bool):fG s b=some (b||decide (s∈kw2),()):=by
 rw[JU,Bj,aa]
 dsimp only
 rw[uj kw2 s (by decide),aa]
 cases b <;> rfl
theorem JX(s:List Int):uS s=some (me s,()):=by
 rw[JW]
 simp only[JV]
 have:decide (s∈kw1)=(decide (s=[66,69,71,73,78])||(decide (s=[112,114,105,110,116])||(decide (s=[105,102])||(decide (s=[101,108,115,101])||(decide (s=[119,104,105,108,101])||(decide (s=[110,101,120,116])||(decide (s=[100,101,108,101,116,101])||(decide (s=[78,82])||decide (s=[78,70]))))))))):=by
  rw[Bool.eq_iff_iff]
  simp only[ab,Bool.or_eq_true,kw1,List.mem_cons,List.not_mem_nil,or_false]
 unfold me
 rw[this]
 cases decide (s=[66,69,71,73,78]) <;> cases decide (s=[112,114,105,110,116]) <;> cases decide (s=[105,102]) <;> cases decide (s=[101,108,115,101]) <;> cases decide (s=[119,104,105,108,101]) <;> cases decide (s=[110,101,120,116]) <;> cases decide (s=[100,101,108,101,116,101]) <;> cases decide (s=[78,82]) <;> rfl
def fL(s:List Int):Bool:=(decide (1≤(s.length:Int)∧(s.length:Int)≤8)&&s.all dU) && !me s
theorem EQ(s:List Int)(hl:s.length≤4294967296):sM s=some (fL s,()):=by
 rw[P6]
 have:=gM (fun i=>mU s i) s.length (fun i=>!dU (s.getD i 0)) (some (false,())) (some (decide (1≤(s.length:Int)∧(s.length:Int)≤8) && !me s,())) (fun i hi=>by
  show mU s i=_
  rw[EP,ak (by omega),if_pos (by omega),aR hi (by omega),af,P4,aa]) (by
  show mU s _=_
  rw[EP,if_neg (by simp),cP,aa,OG,aa]
  dsimp only
  cases decide (1≤(s.length:Int)∧(s.length:Int)≤8) <;> rfl)
 rw[this,er s 0 (fun x=>!dU x)]
 unfold fL
 have h:s.any (fun x=>!dU x) = !s.all dU:=by rw[← List.not_all_eq_any_not]
 rw[h]
 cases s.all dU <;> cases decide (1≤(s.length:Int)∧(s.length:Int)≤8) <;> rfl
theorem Ms(s:List Int)(hl:s.length≤4294967296):∃ k:Int,vl s 0=some (k,())∧decide (k=(s.length:Int))=s.all dU:=by
 rw[Ky]
 have key:∀ (d i:Nat),i+d=s.length→(∀ j (h:j<s.length),j<i→dU s[j]=true)→∃ k:Int,qQ s 0 (i:Int)=some (k,())∧decide (k=(s.length:Int))=s.all dU:=by
  intro d
  induction d with
  | zero =>
   intro i hd hj
   have hi:i=s.length:=by omega
   subst hi
   rw[Bq,aF (n:=0+(s.length:Int)) (by omega) (by omega),if_neg (by simp)]
   refine⟨_,rfl,?_⟩
   rw[ac rfl,eq_comm,List.all_eq_true]
   intro x hx
   obtain⟨j,h,rfl⟩:=List.mem_iff_getElem.1 hx
   exact hj j h h
  | succ d ih =>
   intro i hd hj
   have hi:i<s.length:=by omega
   rw[Bq,aF (n:=0+(i:Int)) (by omega) (by omega),Int.zero_add,ak (by omega),if_pos (by omega),aS hi,Bp,aa]
   dsimp only
   cases e:dU s[i] with
   | true =>
    rw[if_pos rfl,aR hi (by omega)]
    refine ih (i+1) (by omega) fun j h h'=>?_
    by_cases g:j=i
    ·subst g;exact e
    ·exact hj j h (by omega)
   | false =>
    rw[if_neg (by simp)]
    refine⟨_,rfl,?_⟩
    rw[ae (by omega),eq_comm]
    cases g:s.all dU with
    | false=>rfl
    | true=>have:=List.all_eq_true.1 g s[i] (List.getElem_mem hi);rw[e]at this;cases this
 exact key s.length 0 (by omega) (fun j _ h=>absurd h (by omega))
theorem Kv(s:List Int)(hl:s.length≤4294967296):vj s=some (fL s,()):=by
 obtain⟨k,e,e1⟩:=Ms s hl
 rw[Ku,ey,aa,e,aa]
 dsimp only
 rw[e1,JX,aa]
 unfold fL
 cases s.all dU <;> cases decide (1≤(s.length:Int)∧(s.length:Int)≤8) <;> rfl
noncomputable def mC(s:List Int):Bool:=match kY s with
 | some (_,ok,_)=>ok
 | none=>false
theorem DI(s:List Int)(hb:∀ b∈s,0≤b∧b≤255)(hl:s.length≤9223372036854775807):(∃ x,kY s=some (x,mC s,())∧lT s=some (x,mC s,())):=by
 obtain⟨x,ok,e1,e2⟩:=DH s hb hl
 have:mC s=ok:=by unfold mC;rw[e1]
 rw[this];exact⟨x,e1,e2⟩
noncomputable def opB(o:am)(n v c:Int):Bool :=
 if o.Code=1 then decide (-9000000000000≤o.N∧o.N≤9000000000000)&&decide (o.S=[])
 else if o.Code=2 then decide (o.N=0)
 else if o.Code=3∨o.Code=4∨o.Code=5 then(decide (o.N≥0)&&decide (o.N<v))&&decide (o.S=[])
 else if o.Code=6∨o.Code=7∨o.Code=8∨o.Code=35 then(decide (o.N≥0)&&decide (o.N<c))&&decide (o.S=[])
 else if o.Code=24∨o.Code=25 then mC o.S&&decide (o.N=0)
 else if o.Code=29 then decide (1≤o.N∧o.N≤3)&&decide (o.S∈kw2)
 else if o.Code=30∨o.Code=31 then decide (0≤o.N∧o.N≤w64 (n-1))&&decide (o.S=[])
 else if o.Code=33 then decide (0≤o.N∧o.N≤1)&&decide (o.S=[])
 else(decide (1≤o.Code∧o.Code≤36)&&decide (o.N=0))&&decide (o.S=[])
theorem Oy(n:Int):eg n=some (decide (-9000000000000≤n∧n≤9000000000000),()):=by rw[D0,cP];rfl
theorem JP(n:Int):cf n=some (decide (-9000000000000≤n∧n≤9000000000000),()):=by rw[AX,ey];rfl
theorem Kx(s:List Int)(hb:∀ b∈s,0≤b∧b≤255)(hl:s.length≤9223372036854775807):vk s=some (mC s,()):=by
 obtain⟨x,e1,e2⟩:=DI s hb hl
 rw[Kw,e2];rfl
theorem vV(a b:Bool):(if a=true then some (b,())else some (false,()))=some (a&&b,()):=by cases a <;> rfl
theorem in4(t1:Int)(c:Int)(b:Bool)(o:am):sk t1 c b o=some (if b=true then decide (0≤o.N∧o.N≤w64 (t1-1))&&decide (o.S=[])else if c=33 then decide (0≤o.N∧o.N≤1)&&decide (o.S=[]) else(decide (1≤o.Code∧o.Code≤36)&&decide (o.N=0))&&decide (o.S=[]),()):=by
 rw[Pl,cP,cP,cP]
 simp only[aa,vV]
 cases b with
 | true=>rfl
 | false =>
  by_cases h:c=33
  ·simp[h]
  ·simp[h,Bool.and_assoc]
theorem Pn(o:am)(n v c:Int)(hb:∀ b∈o.S,0≤b∧b≤255)(hl:o.S.length≤9223372036854775807):xD o n v c=some (opB o n v c,()):=by
 obtain⟨x,e1,e2⟩:=DI o.S hb hl
 rw[Pm,Oy]
 simp only[aa,vV,Pi,Pj,Pk,in4,e1,Ei,cP,s6 kw2 _ (by decide)]
 unfold opB
 by_cases c1:o.Code=1
 ·simp[c1,Bool.and_assoc]
 by_cases c2:o.Code=2
 ·simp[c2,Bool.and_assoc]
 by_cases c3:o.Code=3
 ·simp[c3,Bool.and_assoc]
 by_cases c4:o.Code=4
 ·simp[c4,Bool.and_assoc]
 by_cases c5:o.Code=5
 ·simp[c5,Bool.and_assoc]
 by_cases c6:o.Code=6
 ·simp[c6,Bool.and_assoc]
 by_cases c7:o.Code=7
 ·simp[c7,Bool.and_assoc]
 by_cases c8:o.Code=8
 ·simp[c8,Bool.and_assoc]
 by_cases c35:o.Code=35
 ·simp[c35,Bool.and_assoc]
 by_cases c24:o.Code=24
 ·simp[c24,Bool.and_assoc]
 by_cases c25:o.Code=25
 ·simp[c25,Bool.and_assoc]
 by_cases c29:o.Code=29
 ·simp[c29,Bool.and_assoc]
 by_cases c30:o.Code=30
 ·simp[c30,Bool.and_assoc]
 by_cases c31:o.Code=31
 ·simp[c31,Bool.and_assoc]
 by_cases c33:o.Code=33
 ·simp[c33,Bool.and_assoc]
 simp[Bool.and_assoc,c1,c2,c3,c4,c5,c6,c7,c8,c35,c24,c25,c29,c30,c31,c33]
def uI(c:Int):List Int:=if c=1 then [100]else if c=2∨c=24∨c=25 then [115]else if c=29 then [110,115]else if c=3∨c=4∨c=5∨c=6∨c=7∨c=8∨c=35∨c=30∨c=31∨c=33 then [110]else []
def opNames:List (List Int):=[[],[110,117,109],[116,101,120,116],[118,97,114],[115,101,116,118,97,114],[112,108,117,115,118,97,114],[99,101,108,108],[115,101,116,99,101,108,108],[112,108,117,115,99,101,108,108],[102,105,101,108,100],[110,114],[110,102],[97,100,100],[115,117,98],[109,117,108],[100,105,118],[109,111,100],[99,97,116],[108,101,115,115],[109,111,115,116],[109,111,114,101],[108,101,97,115,116],[115,97,109,101],[111,116,104,101,114],[102,105,116,115],[108,105,110,101],[110,111,116],[109,105,110,117,115],[98,111,111,108],[99,97,108,108],[106,117,109,112],[122,101,114,111],[112,111,112],[115,104,111,119],[101,110,100,108],[100,114,111,112],[110,101,120,116]]
theorem M4(c:Int)(h:1≤c∧c≤36):opNames.getD c.toNat []≠[]:=by
 have:∀ n:Nat,n<37→1≤n→opNames.getD n []≠[]:=by decide
 exact this c.toNat (by omega) (by omega)
theorem M2(c:Int)(f:List Int)(h:1≤c∧c≤36):kD c opNames f=some (opNames.getD c.toNat [],f,()):=by
 rw[KB,if_pos (by show(0:Int)≤c∧c<37;omega)]
theorem M3(c:Int):vm c=some (if 1≤c∧c≤36 then opNames.getD c.toNat []else [],if 1≤c∧c≤36 then uI c else [],()):=by
 rw[KE,ey,aa]
 dsimp only
 by_cases h:1≤c∧c≤36
 ·rw[ac h,if_neg (by simp),if_pos h,if_pos h]
  have e:=fun f=>M2 c f h
  unfold opNames at e ⊢
  simp only[KC,KD,e]
  unfold uI
  by_cases c1:c=1
  ·simp[c1]
  by_cases c2:c=2
  ·simp[c2]
  by_cases c24:c=24
  ·simp[c24]
  by_cases c25:c=25
  ·simp[c25]
  by_cases c29:c=29
  ·simp[c29]
  by_cases c3:c=3
  ·simp[c3]
  by_cases c4:c=4
  ·simp[c4]
  by_cases c5:c=5
  ·simp[c5]
  by_cases c6:c=6
  ·simp[c6]
  by_cases c7:c=7
  ·simp[c7]
  by_cases c8:c=8
  ·simp[c8]
  by_cases c35:c=35
  ·simp[c35]
  by_cases c30:c=30
  ·simp[c30]
  by_cases c31:c=31
  ·simp[c31]
  by_cases c33:c=33
  ·simp[c33]
  simp[c1,c2,c3,c4,c5,c6,c7,c8,c35,c24,c25,c29,c30,c31,c33]
 ·rw[ae h,if_pos (by simp),if_neg h,if_neg h]
theorem KK(o:am)(n v c:Int)(hb:∀ b∈o.S,0≤b∧b≤255)(hl:o.S.length≤9223372036854775807):vn o n v c=some (opB o n v c,()):=by
 rw[KJ,M3,aa]
 dsimp only
 by_cases h:1≤o.Code∧o.Code≤36
 ·rw[if_pos h,if_pos h,aj (by exact M4 _ h)]
  simp only[JP,aa,vV,KF,KG,KH,KI,Kx o.S hb hl,Bj,ey,uj kw2 _ (by decide)]
  unfold opB uI
  by_cases c1:o.Code=1
  ·simp[c1,Bool.and_assoc] <;> by_cases hN:o.N=0 <;> by_cases hS:o.S=[] <;> simp[hN,hS]
  by_cases c2:o.Code=2
  ·simp[c2,Bool.and_assoc] <;> by_cases hN:o.N=0 <;> by_cases hS:o.S=[] <;> simp[hN,hS]
  by_cases c3:o.Code=3
  ·simp[c3,Bool.and_assoc] <;> by_cases hN:o.N=0 <;> by_cases hS:o.S=[] <;> simp[hN,hS]
  by_cases c4:o.Code=4
  ·simp[c4,Bool.and_assoc] <;> by_cases hN:o.N=0 <;> by_cases hS:o.S=[] <;> simp[hN,hS]
  by_cases c5:o.Code=5
  ·simp[c5,Bool.and_assoc] <;> by_cases hN:o.N=0 <;> by_cases hS:o.S=[] <;> simp[hN,hS]
  by_cases c6:o.Code=6
  ·simp[c6,Bool.and_assoc] <;> by_cases hN:o.N=0 <;> by_cases hS:o.S=[] <;> simp[hN,hS]
  by_cases c7:o.Code=7
  ·simp[c7,Bool.and_assoc] <;> by_cases hN:o.N=0 <;> by_cases hS:o.S=[] <;> simp[hN,hS]
  by_cases c8:o.Code=8
  ·simp[c8,Bool.and_assoc] <;> by_cases hN:o.N=0 <;> by_cases hS:o.S=[] <;> simp[hN,hS]
  by_cases c35:o.Code=35
  ·simp[c35,Bool.and_assoc] <;> by_cases hN:o.N=0 <;> by_cases hS:o.S=[] <;> simp[hN,hS]
  by_cases c24:o.Code=24
  ·simp[c24,Bool.and_assoc] <;> by_cases hN:o.N=0 <;> by_cases hS:o.S=[] <;> simp[hN,hS]
  by_cases c25:o.Code=25
  ·simp[c25,Bool.and_assoc] <;> by_cases hN:o.N=0 <;> by_cases hS:o.S=[] <;> simp[hN,hS]
  by_cases c29:o.Code=29
  ·simp[c29,Bool.and_assoc] <;> by_cases hN:o.N=0 <;> by_cases hS:o.S=[] <;> simp[hN,hS]
  by_cases c30:o.Code=30
  ·simp[c30,Bool.and_assoc] <;> by_cases hN:o.N=0 <;> by_cases hS:o.S=[] <;> simp[hN,hS]
  by_cases c31:o.Code=31
  ·simp[c31,Bool.and_assoc] <;> by_cases hN:o.N=0 <;> by_cases hS:o.S=[] <;> simp[hN,hS]
  by_cases c33:o.Code=33
  ·simp[c33,Bool.and_assoc] <;> by_cases hN:o.N=0 <;> by_cases hS:o.S=[] <;> simp[hN,hS]
  simp[c1,c2,c3,c4,c5,c6,c7,c8,c35,c24,c25,c29,c30,c31,c33,h,Bool.and_assoc]
  by_cases hN:o.N=0 <;> by_cases hS:o.S=[] <;> simp[hN,hS]
 ·rw[if_neg h,if_neg h,if_pos (by simp)]
  unfold opB
  rw[if_neg (by omega),if_neg (by omega),if_neg (by omega),if_neg (by omega),if_neg (by omega),if_neg (by omega),if_neg (by omega),if_neg (by omega),ae h]
  rfl
def isD(x:Int):Bool:=decide (48≤x)&&decide (x≤57)
theorem mc(x:Int):isD x=true↔48≤x∧x≤57:=by unfold isD;rw[Bool.and_eq_true,ab,ab]
def a7(l:List Int):List Int:=l.takeWhile isD
theorem IC{x:Int}{l:List Int}(h:isD x=true):a7 (x::l)=x::a7 l:=List.takeWhile_cons_of_pos h
theorem IB{x:Int}{l:List Int}(h:isD x=false):a7 (x::l)=[]:=List.takeWhile_cons_of_neg (by rw[h];decide)
theorem qn{s:List Int}{i:Nat}(hi:i<s.length)(h:isD s[i]=true):a7 (s.drop i)=s[i]::a7 (s.drop (i+1)):=by rw[ai hi,IC h]
theorem nJ{s:List Int}{i:Nat}(hi:i<s.length)(h:isD s[i]=false):a7 (s.drop i)=[]:=by rw[ai hi,IB h]
theorem lJ{s:List Int}{i:Nat}(hi:s.length≤i):a7 (s.drop i)=[]:=by rw[List.drop_eq_nil_of_le hi];rfl
def AllD(l:List Int):Prop:=∀ x∈l,48≤x∧x≤57
theorem ko(l:List Int):AllD (a7 l):=fun x hx=>(mc x).1 (List.all_eq_true.1 (List.all_takeWhile ..) x hx)
theorem AllD.tail{c:Int}{l:List Int}(h:AllD (c::l)):AllD l:=fun x hx=>h x (List.mem_cons_of_mem _ hx)
theorem AllD.head{c:Int}{l:List Int}(h:AllD (c::l)):48≤c∧c≤57:=h c (List.mem_cons_self ..)
theorem qo(l:List Int):(a7 l).length≤l.length:=(List.takeWhile_sublist _).length_le
theorem zQ(l:List Int):l.take (a7 l).length=a7 l:=by
 unfold a7
 have h:=List.takeWhile_append_dropWhile (p:=isD) (l:=l)
 have:l.take (l.takeWhile isD).length=(l.takeWhile isD++l.dropWhile isD).take (l.takeWhile isD).length:=by rw[h]
 rw[this,List.take_left]
def dv(a:Int)(l:List Int):Int:=l.foldl (fun n c=>10*n+(c-48)) a
theorem gd(a c:Int)(l:List Int):dv a (c::l)=dv (10*a+(c-48)) l:=rfl
theorem uw(a:Int)(l m:List Int):dv a (l++m)=dv (dv a l) m:=List.foldl_append ..
theorem iX:∀ (l:List Int) (a:Int),dv a l=a*10 ^ l.length+dv 0 l
 | [],a=>by simp[dv]
 | c::l,a=>by
  rw[gd,gd,iX l (10*a+(c-48)),iX l (10*0+(c-48)),List.length_cons,Int.pow_succ,Int.add_mul,Int.mul_zero,Int.zero_add,← Int.add_assoc]
  congr 2
  rw[Int.mul_comm 10 a,Int.mul_assoc,Int.mul_comm 10]
theorem iW:∀ (l:List Int) (a:Int),AllD l→0≤a→0≤dv a l
 | [],a,_,h=>h
 | c::l,a,hd,h=>iW l (10*a+(c-48)) hd.tail (by have:=hd.head;omega)
theorem zV:∀ (l:List Int),dv 0 (l.dropWhile (fun x=>decide (x=48)))=dv 0 l
 | []=>rfl
 | c::l=>by
  by_cases h:c=48
  ·rw[List.dropWhile_cons_of_pos (by simp[h]),zV l,gd,h];rfl
  ·rw[List.dropWhile_cons_of_neg (by simp[h])]
theorem ux:∀ (l:List Int),AllD l→dv 0 l<10 ^ l.length
 | [],_=>by simp[dv]
 | c::l,hd=>by
  have h1:=ux l hd.tail
  have h2:=hd.head
  rw[gd,iX,List.length_cons,Int.pow_succ]
  have:(10*0+(c-48))*10 ^ l.length≤9*10 ^ l.length:=Int.mul_le_mul_of_nonneg_right (by omega) (Int.le_of_lt (Int.pow_pos (by omega)))
  omega
theorem IJ{l:List Int}(hd:AllD l)(h0:∀ c r,l=c::r→c≠48)(h:7<l.length):10000000≤dv 0 l:=by
 cases l with
 | nil=>cases h
 | cons c r =>
  have h1:=hd.head
  have h2:=h0 c r rfl
  have h3:=iW r 0 hd.tail (Int.le_refl 0)
  rw[gd,iX]
  simp only[List.length_cons]at h
  have h4:(10:Int) ^ 7≤10 ^ r.length:=by
   have:(10:Nat) ^ 7≤10 ^ r.length:=Nat.pow_le_pow_right (by omega) (by omega)
   exact_mod_cast this
  have h5:1*(10:Int) ^ r.length≤(10*0+(c-48))*10 ^ r.length:=Int.mul_le_mul_of_nonneg_right (by omega) (Int.le_of_lt (Int.pow_pos (by omega)))
  omega
def fr:List Int→Int→Int
 | [],_=>0
 | c::l,u=>(c-48)*u+fr l (u/10)
theorem As:∀ l:List Int,fr l 0=0
 | []=>rfl
 | c::l=>by show(c-48)*0+fr l (0/10)=0;rw[Int.mul_zero,show(0:Int)/10=0 from rfl,As l];rfl
def s5:Nat→Int
 | 0=>0
 | k+1=>10 ^ k
theorem QS(k:Nat):s5 (k+1)/10=s5 k:=by
 cases k with
 | zero=>rfl
 | succ k=>show(10:Int) ^ (k+1)/10=10 ^ k;rw[Int.pow_succ];omega
theorem uy:∀ k:Nat,dv 0 (List.replicate k 48)=0
 | 0=>rfl
 | k+1=>by rw[List.replicate_succ,gd];exact uy k
theorem uJ:∀ (l:List Int) (k m:Nat),k≤m→fr l (s5 k)=dv 0 ((l++List.replicate m 48).take k)
 | [],k,m,h=>by rw[List.nil_append,List.take_replicate,Nat.min_eq_left h,uy];rfl
 | c::l,0,m,h=>by rw[List.take_zero];exact As _
 | c::l,k+1,m,h=>by
  rw[List.cons_append,List.take_succ_cons,gd,iX,List.length_take,ag,List.length_replicate,Nat.min_eq_left (by omega),← uJ l k m (by omega)]
  show(c-48)*10 ^ k+fr l (s5 (k+1)/10)=_
  rw[QS,Int.mul_zero,Int.zero_add]
theorem nS(l:List Int)(hd:AllD l):0≤fr l 100000∧fr l 100000<1000000:=by
 have e:fr l 100000=dv 0 ((l++List.replicate 6 48).take 6):=uJ l 6 6 (Nat.le_refl 6)
 have hd':AllD ((l++List.replicate 6 48).take 6):=fun x hx=>by
  rcases List.mem_append.1 (List.mem_of_mem_take hx)with h | h
  ·exact hd x h
  ·rw[(List.mem_replicate.1 h).2];omega
 have h1:=ux _ hd'
 have h2:((l++List.replicate 6 48).take 6).length=6:=by rw[List.length_take,ag,List.length_replicate];omega
 rw[h2]at h1
 rw[e]
 exact⟨iW _ _ hd' (Int.le_refl 0),h1⟩
def sat:Int→List Int→Int
 | n,[]=>n
 | n,c::l=>if n≤9000000000000 then sat (10*n+(c-48)*1000000) l else sat n l
theorem ET:∀ (l:List Int) (n:Int),9000000000000<n→sat n l=n
 | [],n,_=>rfl
 | c::l,n,h=>by unfold sat;rw[if_neg (by omega)];exact ET l n h
theorem EU:∀ (l:List Int) (a:Int),AllD l→0≤a→(sat (a*1000000) l=dv a l*1000000)∨(9000000000000<sat (a*1000000) l∧9000000000000<dv a l*1000000)
 | [],a,_,_=>.inl rfl
 | c::l,a,hd,h=>by
  have hc:=hd.head
  unfold sat
  rw[gd]
  by_cases hn:a*1000000≤9000000000000
  ·rw[if_pos hn,show 10*(a*1000000)+(c-48)*1000000=(10*a+(c-48))*1000000 by omega]
   exact EU l _ hd.tail (by omega)
  ·rw[if_neg hn,ET _ _ (by omega)]
   refine .inr ⟨by omega,?_⟩
   have h1:=iW l 0 hd.tail (Int.le_refl 0)
   have h2:a*1≤(10*a+(c-48))*10 ^ l.length:=Int.mul_le_mul (by omega) (by have:(0:Int)<10 ^ l.length:=Int.pow_pos (by omega);omega) (by omega) (by omega)
   rw[iX]
   omega
theorem yf(c:Int):∀ l:List Int,l.length≤4294967296→ng l c=some (l.dropWhile (fun x=>decide (x=c)),())
 | [],h=>by rw[GV,if_neg (by simp)];rfl
 | x::l,h=>by
  simp only[List.length_cons]at h
  rw[GV,ak ((by simp only[List.length_cons];omega)),if_pos (by simp only[List.length_cons];omega)]
  by_cases hx:x=c
  ·rw[if_pos (by simp[hx]),if_pos (by simp only[List.length_cons];omega),List.dropWhile_cons_of_pos (by simp[hx])]
   have:List.take ((x::l).length-1) (List.drop 1 (x::l))=l:=by simp
   rw[this]
   exact yf c l (by omega)
  ·rw[if_neg (by simpa using hx),List.dropWhile_cons_of_neg (by simpa using hx)]
theorem yU(l:List Int)(c:Int)(hc:c<128)(h:l.length≤4294967296):tr l [c]=some (l.dropWhile (fun x=>decide (x=c)),()):=by
 rw[RH]
 by_cases h0:l=[]
 ·rw[ak h0,h0];rfl
 ·rw[aj h0,if_neg (by simp),if_pos (by simp),if_pos (by simp),if_pos (by simpa using hc),if_pos (by simp),GW]
  show Option.bind (ng l c) _=_
  rw[yf c l h];rfl
theorem QN(c:Int):∀ (n:Nat) (l:List Int),l.length=n→l.length≤4294967296→∃ r,lB l c=some (r,())∧r.length≤l.length∧((∀ x∈r,x=c) ↔ ∀ x∈l,x=c):=by
 intro n
 induction n with
 | zero =>
  intro l hl h
  have:l=[]:=List.eq_nil_of_length_eq_zero hl
  subst this
  exact⟨[],by rw[tt,if_neg (by simp)],Nat.le_refl _,Iff.rfl⟩
 | succ n ih =>
  intro l hl h
  rw[tt,ak (by omega),aF (by omega) (by omega),if_pos (by omega),show((l.length:Int)-1).toNat=l.length-1 by omega,bj (by omega)]
  by_cases hx:l[l.length-1]=c
  ·rw[ak hx,if_pos (by omega)]
   have e:List.take (l.length-1-0) (List.drop 0 l)=l.take (l.length-1):=rfl
   rw[e]
   obtain⟨r,r1,r2,r3⟩:=ih (l.take (l.length-1)) (by rw[List.length_take];omega) (by rw[List.length_take];omega)
   have hs:l=l.take (l.length-1)++[c]:=by
    have h1:=List.take_append_drop (l.length-1) l
    have h2:l.drop (l.length-1)=[l[l.length-1]]:=by
     rw[ai (by omega),List.drop_eq_nil_of_le (by omega)]
    rw[h2,hx]at h1
    exact h1.symm
   rw[List.length_take]at r2
   refine⟨r,r1,by omega,r3.trans ?_⟩
   constructor
   ·intro h5 x hx5
    rw[hs]at hx5
    rcases List.mem_append.1 hx5 with h6 | h6
    ·exact h5 x h6
    ·exact List.mem_singleton.1 h6
   ·intro h5 x hx5
    exact h5 x (List.mem_of_mem_take hx5)
  ·rw[aj hx]
   exact⟨l,rfl,Nat.le_refl _,Iff.rfl⟩
theorem zS(c:Int):∀ l:List Int,l.dropWhile (fun x=>decide (x=c))=[] ↔ ∀ x∈l,x=c
 | []=>by simp
 | a::l=>by
  by_cases h:a=c
  ·rw[List.dropWhile_cons_of_pos (by simp[h]),zS c l]
   simp[h]
  ·rw[List.dropWhile_cons_of_neg (by simp[h])]
   simp[h]
theorem Hf(l:List Int)(h:l.length≤4294967296):∃ r,yC l [32]=some (r,())∧(r=[] ↔ ∀ x∈l,x=32):=by
 rw[RJ]
 by_cases h0:l=[]
 ·rw[ak h0];exact⟨l,rfl,by simp[h0]⟩
 ·obtain⟨r,r1,r2,r3⟩:=QN 32 l.length l rfl h
  rw[aj h0,if_neg (by simp),if_pos (by simp),if_pos (by simp),if_pos (by simp),if_pos (by simp),GX]
  show ∃ x,(Option.bind (lB l 32) _)=some (x,())∧_
  rw[r1,aa,if_pos (by simp),GW]
  show ∃ x,(Option.bind (ng r 32) _)=some (x,())∧_
  rw[yf 32 r (by omega)]
  exact⟨_,rfl,(zS 32 r).trans r3⟩
theorem Hs(t:List Int)(ht:t.length≤18)(hd:AllD t)(h0:∀ c r,t=c::r→c≠45)(hne:t≠[]):∀ (d i:Nat) (n:Int),i+d=t.length→0≤n→n<10 ^ i→tc t n t (t.length:Int) (i:Int)=some (dv n (t.drop i),(),()):=by
 intro d
 induction d with
 | zero =>
  intro i n hi n0 n1
  rw[Gm,aj (by omega),if_pos (by have:=List.length_pos_iff.2 hne;omega),List.drop_eq_nil_of_le (by omega)]
  cases t with
  | nil=>exact absurd rfl hne
  | cons c r=>rw[if_neg (by have:=h0 c r rfl;simpa using this)];rfl
 | succ d ih =>
  intro i n hi n0 n1
  have hlt:i<t.length:=by omega
  have hx:=hd _ (List.getElem_mem hlt)
  have hp:(10:Int) ^ i≤10 ^ 17:=by
   have:(10:Nat) ^ i≤10 ^ 17:=Nat.pow_le_pow_right (by omega) (by omega)
   exact_mod_cast this
  have hp1:(10:Int) ^ (i+1)=10 ^ i*10:=Int.pow_succ ..
  have e8:w8 (t[i]-48)=t[i]-48:=yl (by omega) (by omega)
  rw[Gm,ak (by omega),if_pos (by omega),aS hlt,e8,aj (by omega),aF (n:=n*10) (by omega) (by omega),aF (n:=t[i]-48) (by omega) (by omega),aF (by omega) (by omega),aR hlt (by omega),ih (i+1) _ (by omega) (by omega) (by omega),ai hlt,gd,Int.mul_comm n 10]
theorem Ht(t:List Int)(ht:t.length≤18)(hd:AllD t)(hne:t≠[]):yy t=some (dv 0 t,(),()):=by
 have hp:=List.length_pos_iff.2 hne
 have h0:∀ c r,t=c::r→c≠45∧c≠43:=fun c r h=>by
  subst h;have:=hd.head;omega
 have hg:∀ z,t.getD 0 z≠45∧t.getD 0 z≠43:=fun z=>by
  cases t with
  | nil=>exact absurd rfl hne
  | cons c r=>exact h0 c r rfl
 rw[RB,Q7,ak (by omega),ak (by omega),if_pos (by omega),aj (by exact(hg 0).1),if_pos (by omega),aj (by exact(hg 0).2),Q6,if_pos (by rw[aN];omega)]
 have:=Hs t ht hd (fun c r h=>(h0 c r h).1) hne t.length 0 0 (by omega) (by omega) (by simp)
 rw[show(((0:Nat)):Int)=0 from rfl,List.drop_zero]at this
 rw[this];rfl
theorem df(n:Int):cf n=some (decide (-9000000000000≤n∧n≤9000000000000),()):=by rw[AX,ey];rfl
theorem oq(n:Int):kF n=some (if -9000000000000≤n∧n≤9000000000000 then(n,true,()) else(0,false,())):=by
 rw[K3,df,aa]
 by_cases h:-9000000000000≤n∧n≤9000000000000
 ·rw[ac h,if_neg (by simp),if_pos h]
 ·rw[ae h,if_pos (by simp),if_neg h]
theorem MK(w r:List Int)(hw:AllD w)(hr:AllD r)(lw:w.length≤1000000)(lr:r.length≤1000000):ob w r=some (if dv 0 w*1000000+fr r 100000≤9000000000000 then(dv 0 w*1000000+fr r 100000,true,()) else(0,false,())):=by
 rw[Kz,yU _ _ (by omega) (by omega),aa]
 have hb:=nS r hr
 have hz:=zV w
 have hT:AllD (w.dropWhile (fun x=>decide (x=48))):=fun x hx=>hw x ((List.dropWhile_sublist _).subset hx)
 have hTl:(w.dropWhile (fun x=>decide (x=48))).length≤w.length:=(List.dropWhile_sublist _).length_le
 have hT0:∀ c r,w.dropWhile (fun x=>decide (x=48))=c::r→c≠48:=fun c r h=>by
  have:=List.head?_dropWhile_not (fun x=>decide (x=48)) w
  rw[h]at this
  simpa using this
 generalize w.dropWhile (fun x=>decide (x=48))=T at *
 rw[if_pos (by simp only[List.length_cons,List.length_nil];omega),if_pos (by rw[ag];simp only[List.length_cons,List.length_nil];omega)]
 by_cases h7:(T.length:Int)>7
 ·have:=IJ hT hT0 (by omega)
  rw[ak h7,if_neg (by omega)]
 ·have e6:List.take (6-0) (List.drop 0 (r++[48,48,48,48,48,48]))=(r++List.replicate 6 48).take 6:=rfl
  have hR:AllD ((r++List.replicate 6 48).take 6):=fun x hx=>by
   rcases List.mem_append.1 (List.mem_of_mem_take hx)with h | h
   ·exact hr x h
   ·rw[(List.mem_replicate.1 h).2];omega
  have hRl:((r++List.replicate 6 48).take 6).length=6:=by rw[List.length_take,ag,List.length_replicate];omega
  have hRv:dv 0 ((r++List.replicate 6 48).take 6)=fr r 100000:=(uJ r 6 6 (Nat.le_refl 6)).symm
  rw[e6,aj h7]
  generalize (r++List.replicate 6 48).take 6=R at *
  rw[if_pos (by simp only[List.length_cons,List.length_nil];omega),if_pos (by simp only[ag,List.length_cons,List.length_nil];omega)]
  have hall:AllD (([48]++T)++R):=fun x hx=>by
   rcases List.mem_append.1 hx with h | h
   ·rcases List.mem_append.1 h with h | h
    ·rw[List.mem_singleton.1 h];omega
    ·exact hT x h
   ·exact hR x h
  rw[Ht _ (by simp only[ag,List.length_cons,List.length_nil];omega) hall (by simp),aa]
  have ev:dv 0 (([48]++T)++R)=dv 0 w*1000000+fr r 100000:=by
   rw[uw,uw,iX,hRl,hRv,show dv 0 [48]=0 from rfl,hz];rfl
  have hn:=iW w 0 hw (Int.le_refl 0)
  rw[ev,oq,aa]
  by_cases hm:dv 0 w*1000000+fr r 100000≤9000000000000
  ·rw[if_pos hm,if_pos ⟨by omega,hm⟩]
  ·rw[if_neg hm,if_neg (fun x=>hm x.2)]
def Bt(b:List Int):Prop:=∀ x∈b,0≤x∧x≤255
theorem v6(x:Int):lf x=some (isD x,()):=by
 rw[PA]
 unfold isD
 by_cases h:x≥48
 ·rw[ak h,show decide (48≤x)=true from ac h,Bool.true_and]
 ·rw[aj h,show decide (48≤x)=false from ae h,Bool.false_and]
def fin(p:Int)(b:Bool)(n m:Int):Option (Int×Int×Unit):=if m=0 then some (0,0,())else if n>9000000000000 then some (0,0,())else some (if b=true then 0-n else n,p,())
theorem yP(p:Int)(b:Bool)(n m:Int)(h0:0≤n):dX p b n m=fin p b n m:=by
 rw[Ot]
 unfold fin
 by_cases h1:m=0
 ·rw[ak h1,if_pos h1]
 ·rw[aj h1,if_neg h1]
  by_cases h2:n>9000000000000
  ·rw[ak h2,if_pos h2]
  ·rw[aj h2,if_neg h2,aF (by omega) (by omega)]
   cases b <;> rfl
theorem G8(s:List Int)(hs:s.length≤1000000)(b:Bool):∀ (d i:Nat) (n m u:Int),i+d=s.length→0≤n→0≤u→u≤100000→n≤200000000000000+1000000*i→0≤m→m≤2000000+i →
  ∃ n',mE s (i:Int) b n m u=dX ((i+(a7 (s.drop i)).length:Nat):Int) b n' (m+(a7 (s.drop i)).length)∧n'=n+fr (a7 (s.drop i)) u:=by
 intro d
 induction d with
 | zero =>
  intro i n m u hd h0 hu hu2 hn hm hm2
  rw[lJ (show s.length≤i by omega)]
  refine⟨n,?_,by show n=n+0;omega⟩
  rw[DY,aj (by omega)]
  simp
 | succ d ih =>
  intro i n m u hd h0 hu hu2 hn hm hm2
  have hi:i<s.length:=by omega
  rw[DY,ak (by omega),if_pos (by omega),aS hi,v6,aa]
  cases hx:isD s[i] with
  | true =>
   have hxb:=(mc _).1 hx
   have hmul:0≤(s[i]-48)*u∧(s[i]-48)*u≤900000:=by
    have h1:(s[i]-48)*u≤9*u:=Int.mul_le_mul_of_nonneg_right (by omega) hu
    exact⟨Int.mul_nonneg (by omega) hu,by omega⟩
   rw[if_pos rfl,if_pos (by omega),Int.tdiv_eq_ediv_of_nonneg hu,aF (n:=s[i]) (by omega) (by omega),aF (n:=s[i]-48) (by omega) (by omega),aF (n:=(s[i]-48)*u) (by omega) (by omega),aF (n:=n+(s[i]-48)*u) (by omega) (by omega),aF (n:=m+1) (by omega) (by omega),aF (n:=u/10) (by omega) (by omega),aR hi (by omega)]
   obtain⟨n',e1,e2⟩:=ih (i+1) (n+(s[i]-48)*u) (m+1) (u/10) (by omega) (by omega) (by omega) (by omega) (by omega) (by omega) (by omega)
   rw[qn hi hx,List.length_cons]
   refine⟨n',?_,?_⟩
   ·rw[e1]
    congr 1
    ·omega
    ·omega
   ·rw[e2]
    show _=n+((s[i]-48)*u+fr _ (u/10))
    omega
  | false =>
   rw[if_neg (by simp),nJ hi hx]
   exact⟨n,by simp,by show n=n+0;omega⟩
def bN(s:List Int)(p:Nat):List Int:=if s[p]? = some 46 then a7 (s.drop (p+1))else []
def eS(s:List Int)(p:Nat):Nat:=if bN s p=[]then p else p+1+(bN s p).length
theorem yO(s:List Int)(hs:s.length≤1000000)(b:Bool)(p:Nat)(hp:p≤s.length)(n m:Int)(h0:0≤n)(hn:n≤100000000000000)(hm:0≤m)(hm2:m≤1000000) :
  (if(decide ((w64 ((p:Int)+1))<(List.length s:Int)))=true then
   if(0:Int)≤(p:Int)∧(p:Int)<(List.length s:Int) then
    if(decide ((List.getD s (p:Int).toNat 0)=46))=true then
     if(0:Int)≤(w64 ((p:Int)+1))∧(w64 ((p:Int)+1))<(List.length s:Int) then
      (lf (List.getD s (w64 ((p:Int)+1)).toNat 0)).bind fun(r2:Bool×Unit) =>
      if r2.1=true then
       mE s (w64 ((p:Int)+1)) b n m 100000
      else
       dX (p:Int) b n m
     else none
    else
     dX (p:Int) b n m
   else none
  else
   dX (p:Int) b n m)=fin (eS s p) b (n+fr (bN s p) 100000) (m+(bN s p).length):=by
 have hw:w64 ((p:Int)+1)=((p+1:Nat):Int):=aR (n:=1000001) (by omega) (by omega)
 rw[hw]
 have none:bN s p=[]→dX (p:Int) b n m=fin (eS s p) b (n+fr (bN s p) 100000) (m+(bN s p).length):=by
  intro h
  unfold eS
  rw[h,if_pos rfl,yP _ _ _ _ h0]
  show fin p b n m=fin p b (n+0) (m+(0:Nat))
  congr 1
  ·omega
  ·omega
 by_cases h1:((p+1:Nat):Int)<(s.length:Int)
 ·have hp1:p<s.length:=by omega
  have hp2:p+1<s.length:=by omega
  rw[ak h1,if_pos (by omega),aS hp1]
  by_cases h2:s[p]=46
  ·rw[ak h2,if_pos (by omega),aS hp2,v6,aa]
   have hf:bN s p=a7 (s.drop (p+1)):=by unfold bN;rw[List.getElem?_eq_getElem hp1,h2,if_pos rfl]
   cases hx:isD s[p+1] with
   | true =>
    rw[if_pos rfl]
    obtain⟨n',e1,e2⟩:=G8 s hs b (s.length-(p+1)) (p+1) n m 100000 (by omega) h0 (by omega) (by omega) (by omega) hm (by omega)
    have hb:=nS _ (ko (s.drop (p+1)))
    have hne:bN s p≠[]:=by
     rw[hf,qn hp2 hx]
     exact List.cons_ne_nil _ _
    rw[e1,e2,yP _ _ _ _ (by omega),hf]
    unfold eS
    rw[if_neg hne,hf]
   | false =>
    rw[if_neg (by simp)]
    refine none ?_
    rw[hf,nJ hp2 hx]
  ·rw[aj h2]
   refine none ?_
   unfold bN
   rw[List.getElem?_eq_getElem hp1,if_neg (by simpa using h2)]
 ·rw[aj h1]
  refine none ?_
  unfold bN
  split
  ·exact lJ (by omega)
  ·rfl
theorem G7(s:List Int)(hs:s.length≤1000000)(hb:Bt s)(b:Bool):∀ (d i:Nat) (n m:Int),i+d=s.length→0≤n→n≤100000000000000→0≤m→m≤i →
  oR s (i:Int) b n m=fin (eS s (i+(a7 (s.drop i)).length)) b (sat n (a7 (s.drop i))+fr (bN s (i+(a7 (s.drop i)).length)) 100000) (m+(a7 (s.drop i)).length+(bN s (i+(a7 (s.drop i)).length)).length):=by
 intro d
 induction d with
 | zero =>
  intro i n m hd h0 hn hm hm2
  rw[DX,aj (by omega),yO s hs b i (by omega) n m h0 hn hm (by omega),lJ (show s.length≤i by omega)]
  simp[sat]
 | succ d ih =>
  intro i n m hd h0 hn hm hm2
  have hi:i<s.length:=by omega
  have hx0:=hb _ (List.getElem_mem hi)
  rw[DX,ak (by omega),if_pos (by omega)]
  have hg:List.getD s (i:Int).toNat 0=s[i]:=aS hi 0
  rw[hg,v6,aa]
  cases hx:isD s[i] with
  | true =>
   have hxb:=(mc _).1 hx
   have hdg:a7 (s.drop i)=s[i]::a7 (s.drop (i+1)):=qn hi hx
   rw[if_pos rfl,hdg]
   simp only[List.length_cons,sat]
   have el:i+((a7 (s.drop (i+1))).length+1)=i+1+(a7 (s.drop (i+1))).length:=by omega
   rw[el,aR hi (by omega),aF (n:=m+1) (by omega) (by omega)]
   by_cases hmx:n≤9000000000000
   ·rw[ak hmx,if_pos (by omega),if_pos hmx,aF (n:=10*n) (by omega) (by omega),aF (n:=s[i]) (by omega) (by omega),aF (n:=s[i]-48) (by omega) (by omega),aF (n:=(s[i]-48)*1000000) (by omega) (by omega),aF (n:=10*n+(s[i]-48)*1000000) (by omega) (by omega),
     ih (i+1) _ (m+1) (by omega) (by omega) (by omega) (by omega) (by omega)]
    congr 1
    omega
   ·rw[aj hmx,if_neg hmx,ih (i+1) n (m+1) (by omega) h0 hn (by omega) (by omega)]
    congr 1
    omega
  | false =>
   have hdg:a7 (s.drop i)=[]:=nJ hi hx
   rw[if_neg (by simp),hdg]
   have he:=yO s hs b i (by omega) n m h0 hn hm (by omega)
   rw[hg]at he
   simp only[List.length_nil,Nat.add_zero,sat]
   rw[he]
   congr 1
   omega
theorem zP(s:List Int)(hs:s.length≤1000000):∀ (d p j:Nat),p+j+d=s.length+1→qO s (p:Int) (j:Int)=some (((j+(a7 (s.drop (p+j))).length:Nat):Int),()):=by
 intro d
 induction d with
 | zero =>
  intro p j hd
  rw[Bl,aF (by omega) (by omega),aj (by omega),lJ (by omega)]
  simp
 | succ d ih =>
  intro p j hd
  rw[Bl,aF (n:=(p:Int)+j) (by omega) (by omega)]
  by_cases hlt:(p:Int)+j<(s.length:Int)
  ·have hi:p+j<s.length:=by omega
   have hg:List.getD s ((p:Int)+j).toNat 0=s[p+j]:=by
    rw[show((p:Int)+j).toNat=p+j by omega];exact bj hi 0
   rw[ak hlt,if_pos (by omega),hg,aR (n:=1000001) (by omega) (by omega)]
   by_cases h1:s[p+j]≥48
   ·rw[ak h1,if_pos (by omega)]
    by_cases h2:s[p+j]≤57
    ·have hx:isD s[p+j]=true:=(mc _).2 ⟨h1,h2⟩
     rw[ak h2,ih p (j+1) (by omega),qn hi hx,List.length_cons,show p+(j+1)=p+j+1 by omega]
     congr 3
     omega
    ·have hx:isD s[p+j]=false:=by
      cases h:isD s[p+j] with
      | false=>rfl
      | true=>exact absurd ((mc _).1 h).2 h2
     rw[aj h2,nJ hi hx]
     simp
   ·have hx:isD s[p+j]=false:=by
     cases h:isD s[p+j] with
     | false=>rfl
     | true=>exact absurd ((mc _).1 h).1 h1
    rw[aj h1,nJ hi hx]
    simp
  ·rw[aj hlt,lJ (by omega)]
   simp
theorem A2(p:Int)(b:Bool)(w r:List Int)(hw:AllD w)(hr:AllD r)(lw:w.length≤1000000)(lr:r.length≤1000000):kx p b w r=fin p b (dv 0 w*1000000+fr r 100000) ((w.length:Int)+r.length):=by
 have hb:=nS r hr
 have hn:=iW w 0 hw (Int.le_refl 0)
 have tail:0<w.length+r.length→((ob w r).bind fun(r1:Int×Bool×Unit)=>if(!r1.2.1)=true then some ((0:Int),(0:Int),())else if b=true then some ((w64 (0-r1.1)),p,())else some (r1.1,p,()))=fin p b (dv 0 w*1000000+fr r 100000) ((w.length:Int)+r.length):=by
  intro hl
  rw[MK w r hw hr lw lr,aa]
  unfold fin
  rw[if_neg (show ¬ (w.length:Int)+r.length=0 by omega)]
  by_cases h:dv 0 w*1000000+fr r 100000≤9000000000000
  ·rw[if_pos h]
   dsimp only
   rw[if_neg (show ¬ (!true)=true by decide),if_neg (show ¬ dv 0 w*1000000+fr r 100000>9000000000000 by omega),aF (by omega) (by omega)]
   cases b <;> rfl
  ·rw[if_neg h]
   dsimp only
   rw[if_pos (show(!false)=true by decide),if_pos (by omega)]
 rw[JL]
 by_cases h1:w=[]
 ·rw[ak h1]
  by_cases h2:r=[]
  ·rw[ak h2,h1,h2];rfl
  ·rw[aj h2]
   exact tail (by have:=List.length_pos_iff.2 h2;omega)
 ·rw[aj h1]
  exact tail (by have:=List.length_pos_iff.2 h1;omega)
theorem A1(s:List Int)(hs:s.length≤1000000)(b:Bool)(i:Nat)(hi:i≤s.length) :
  fF s (i:Int) b=fin (eS s (i+(a7 (s.drop i)).length)) b (dv 0 (a7 (s.drop i))*1000000+fr (bN s (i+(a7 (s.drop i)).length)) 100000) ((a7 (s.drop i)).length+(bN s (i+(a7 (s.drop i)).length)).length):=by
 have hdl:=qo (s.drop i)
 rw[List.length_drop]at hdl
 have hD:=ko (s.drop i)
 rw[JK,Bm,show(0:Int)=((0:Nat):Int)from rfl,zP s hs (s.length+1-i) i 0 (by omega),aa,Nat.zero_add,Nat.add_zero]
 dsimp only
 rw[aF (by omega) (by omega)]
 have hcut:List.take (((i:Int)+((a7 (s.drop i)).length:Nat)).toNat-(i:Int).toNat) (List.drop (i:Int).toNat s)=a7 (s.drop i):=by
  rw[show((i:Int)+((a7 (s.drop i)).length:Nat)).toNat-(i:Int).toNat=(a7 (s.drop i)).length by omega,af]
  exact zQ _
 rw[hcut]
 generalize hDD:a7 (s.drop i)=D at *
 have hz:(((0:Nat)):Int)=0:=rfl
 rw[hz,if_pos (by omega)]
 have hp:(i:Int)+(D.length:Nat)=((i+D.length:Nat):Int):=by omega
 rw[hp]
 generalize hP:i+D.length=P at *
 have none:bN s P=[]→kx (P:Int) b D []=fin (eS s P) b (dv 0 D*1000000+fr (bN s P) 100000) (D.length+(bN s P).length):=by
  intro h
  rw[A2 _ _ _ _ hD (fun x hx=>by cases hx) (by omega) (by simp)]
  unfold eS
  rw[h,if_pos rfl]
 by_cases h1:(P:Int)<(s.length:Int)
 ·have hP1:P<s.length:=by omega
  rw[ak h1,if_pos (by omega),aS hP1]
  by_cases h2:s[P]=46
  ·have hw:w64 ((P:Int)+1)=((P+1:Nat):Int):=aR hP1 (by omega)
   have hf:bN s P=a7 (s.drop (P+1)):=by unfold bN;rw[List.getElem?_eq_getElem hP1,h2,if_pos rfl]
   have hfl:=qo (s.drop (P+1))
   rw[List.length_drop]at hfl
   have hF:=ko (s.drop (P+1))
   rw[ak h2,hw,Bm,show(0:Int)=((0:Nat):Int)from rfl,zP s hs (s.length-P) (P+1) 0 (by omega),aa,Nat.zero_add,Nat.add_zero]
   dsimp only
   rw[hz,aF (n:=1+(((a7 (s.drop (P+1))).length:Nat):Int)) (by omega) (by omega),aF (n:=((P+1:Nat):Int)+(((a7 (s.drop (P+1))).length:Nat):Int)) (by omega) (by omega),aF (n:=(P:Int)+(1+(((a7 (s.drop (P+1))).length:Nat):Int))) (by omega) (by omega)]
   have hcut2:List.take ((((P+1:Nat):Int)+((a7 (s.drop (P+1))).length:Nat)).toNat-((P+1:Nat):Int).toNat) (List.drop ((P+1:Nat):Int).toNat s)=a7 (s.drop (P+1)):=by
    rw[show(((P+1:Nat):Int)+((a7 (s.drop (P+1))).length:Nat)).toNat-((P+1:Nat):Int).toNat=(a7 (s.drop (P+1))).length by omega,af]
    exact zQ _
   rw[hcut2]
   generalize hFF:a7 (s.drop (P+1))=F at *
   by_cases h3:(F.length:Int)>0
   ·rw[ak h3,if_pos (by omega),A2 _ _ _ _ hD hF (by omega) (by omega)]
    unfold eS
    rw[hf,if_neg (fun h=>by rw[h]at h3;simp at h3)]
    congr 1
    omega
   ·rw[aj h3]
    exact none (by rw[hf];exact List.eq_nil_of_length_eq_zero (by omega))
  ·rw[aj h2]
   refine none ?_
   unfold bN
   rw[List.getElem?_eq_getElem hP1,if_neg (by simpa using h2)]
 ·rw[aj h1]
  refine none ?_
  unfold bN
  split
  ·exact lJ (by omega)
  ·rfl
theorem se(s:List Int)(hs:s.length≤1000000)(hb:Bt s)(b:Bool)(i:Nat)(hi:i≤s.length):di s (i:Int) b=fF s (i:Int) b:=by
 rw[Or,G7 s hs hb b (s.length-i) i 0 0 (by omega) (by omega) (by omega) (by omega) (by omega),A1 s hs b i hi]
 have hD:=ko (s.drop i)
 have hF:AllD (bN s (i+(a7 (s.drop i)).length)):=by
  unfold bN
  split
  ·exact ko _
  ·intro x hx;cases hx
 generalize a7 (s.drop i)=D at *
 generalize bN s (i+D.length)=F at *
 have hfb:=nS F hF
 have hsat:=EU D 0 hD (Int.le_refl 0)
 rw[Int.zero_mul]at hsat
 rcases hsat with h | ⟨h1,h2⟩
 ·rw[h,Int.zero_add]
 ·unfold fin
  rw[Int.zero_add]
  by_cases hm:((D.length:Nat):Int)+(F.length:Nat)=0
  ·rw[if_pos hm,if_pos hm]
  ·rw[if_neg hm,if_neg hm,if_pos (by omega),if_pos (by omega)]
theorem I5{p:Int}{b:Bool}{n m:Int}(h0:0≤n):∃ v e,fin p b n m=some (v,e,())∧(e=0∨e=p)∧(-9000000000000≤v∧v≤9000000000000):=by
 unfold fin
 split
 ·exact⟨0,0,rfl,.inl rfl,by omega,by omega⟩
 ·split
  ·exact⟨0,0,rfl,.inl rfl,by omega,by omega⟩
  ·refine⟨_,p,rfl,.inr rfl,?_⟩
   split <;> omega
theorem IL(s:List Int)(p:Nat)(hp:p≤s.length):eS s p≤s.length:=by
 unfold eS
 split
 ·exact hp
 ·rename_i h
  unfold bN at h ⊢
  by_cases h46:s[p]? = some 46
  ·rw[if_pos h46]at h ⊢
   have:=qo (s.drop (p+1))
   rw[List.length_drop]at this
   have hlt:p<s.length:=by
    by_cases h':p<s.length
    ·exact h'
    ·rw[List.getElem?_eq_none (by omega)]at h46;cases h46
   omega
  ·rw[if_neg h46]at h;exact absurd rfl h
theorem uT(s:List Int)(hs:s.length≤1000000)(b:Bool)(i:Nat)(hi:i≤s.length):∃ v e,fF s (i:Int) b=some (v,e,())∧(0≤e∧e≤(s.length:Int))∧(-9000000000000≤v∧v≤9000000000000):=by
 have hdl:=qo (s.drop i)
 rw[List.length_drop]at hdl
 have hF:AllD (bN s (i+(a7 (s.drop i)).length)):=by
  unfold bN
  split
  ·exact ko _
  ·intro x hx;cases hx
 rw[A1 s hs b i hi]
 have h1:=iW _ 0 (ko (s.drop i)) (Int.le_refl 0)
 have h2:=nS _ hF
 have h3:=IL s (i+(a7 (s.drop i)).length) (by omega)
 obtain⟨v,e,k1,k2,k3⟩:=I5 (p:=(eS s (i+(a7 (s.drop i)).length):Nat)) (b:=b) (n:=dv 0 (a7 (s.drop i))*1000000+fr (bN s (i+(a7 (s.drop i)).length)) 100000) (m:=((a7 (s.drop i)).length+(bN s (i+(a7 (s.drop i)).length)).length)) (by omega)
 exact⟨v,e,k1,by rcases k2 with rfl | rfl <;> omega,k3⟩
def cg(l:List Int):Nat:=(l.takeWhile (fun x=>decide (x=32))).length
noncomputable def front(s:List Int)(p:Nat):Option (Int×Int×Unit) :=
 if s[p]? = some 45 then fF s ((p+1:Nat):Int) true else if s[p]? = some 43 then fF s ((p+1:Nat):Int) false else fF s (p:Int) false
theorem OZ(s:List Int)(hs:s.length≤1000000)(hb:Bt s):∀ (d i:Nat),i+d=s.length→rW s (i:Int)=front s (i+cg (s.drop i)):=by
 intro d
 induction d with
 | zero =>
  intro i hd
  rw[DW,aj (by omega),aj (by omega),aj (by omega),se s hs hb false i (by omega),List.drop_eq_nil_of_le (by omega)]
  rw[show i+cg []=i from rfl]
  unfold front
  rw[List.getElem?_eq_none (by omega),if_neg (by simp),if_neg (by simp)]
 | succ d ih =>
  intro i hd
  have hi:i<s.length:=by omega
  have c1:(i:Int)<(s.length:Int):=by omega
  have c2:(0:Int)≤(i:Int)∧(i:Int)<(s.length:Int):=by omega
  have hg:List.getD s (i:Int).toNat 0=s[i]:=aS hi 0
  have hdr:=ai hi
  rw[DW,ak c1,if_pos c2,hg,aR hi (by omega)]
  by_cases h:s[i]=32
  ·rw[ak h,ih (i+1) (by omega),hdr]
   unfold cg
   rw[List.takeWhile_cons_of_pos (by simp[h]),List.length_cons,show i+1+(List.takeWhile (fun x=>decide (x=32)) (List.drop (i+1) s)).length=i+((List.takeWhile (fun x=>decide (x=32)) (List.drop (i+1) s)).length+1) by omega]
  ·have hl:cg (s.drop i)=0:=by
    unfold cg
    rw[hdr,List.takeWhile_cons_of_neg (by simpa using h)];rfl
   rw[aj h,ak c1,if_pos c2,ak c1,if_pos c2,hl,show i+0=i from rfl]
   unfold front
   rw[List.getElem?_eq_getElem hi]
   by_cases h1:s[i]=45
   ·rw[ak h1,if_pos (by rw[h1]),ac h1]
    exact se s hs hb true (i+1) (by omega)
   ·rw[aj h1,if_pos c2,if_neg (show ¬ some s[i]=some 45 by simpa using h1),ae h1]
    by_cases h2:s[i]=43
    ·rw[ak h2,if_pos (by rw[h2])]
     exact se s hs hb false (i+1) (by omega)
    ·rw[aj h2,if_neg (by simpa using h2)]
     exact se s hs hb false i (by omega)
theorem Mq(s:List Int):(s.length:Int)-(s.dropWhile (fun x=>decide (x=32))).length=cg s:=by
 have h:=congrArg List.length (List.takeWhile_append_dropWhile (p:=fun x=>decide (x=(32:Int))) (l:=s))
 rw[ag]at h
 unfold cg
 omega
theorem Cz(s:List Int):cg s≤s.length:=(List.takeWhile_sublist _).length_le
theorem Ks(s:List Int)(hs:s.length≤1000000):nU s=front s (cg s):=by
 have hL:=Mq s
 have hle:=Cz s
 rw[JM,yU _ _ (by omega) (by omega),aa]
 dsimp only
 rw[hL,aF (n:=(cg s:Int)) (by omega) (by omega)]
 unfold front
 by_cases c1:(cg s:Int)<(s.length:Int)
 ·have hi:cg s<s.length:=by omega
  have c2:(0:Int)≤(cg s:Int)∧(cg s:Int)<(s.length:Int):=by omega
  have hg:List.getD s (cg s:Int).toNat 0=s[cg s]:=aS hi 0
  rw[ak c1,if_pos c2,hg,aR hi (by omega),List.getElem?_eq_getElem hi]
  by_cases h2:s[cg s]=43
  ·rw[ak h2,if_pos c2,if_neg (by rw[h2];simp),if_pos (by rw[h2]),ae (by rw[h2];decide)]
  ·rw[aj h2,if_pos c2]
   by_cases h1:s[cg s]=45
   ·rw[ak h1,if_pos c2,if_pos (by rw[h1]),ac h1]
   ·rw[aj h1,if_neg (by simpa using h1),if_neg (by simpa using h2)]
 ·rw[aj c1,List.getElem?_eq_none (by omega),if_neg (by simp),if_neg (by simp)]
theorem um(s:List Int)(hs:s.length≤1000000)(hb:Bt s):∃ v e,oQ s=some (v,e,())∧nU s=some (v,e,())∧(0≤e∧e≤(s.length:Int))∧(-9000000000000≤v∧v≤9000000000000):=by
 have h1:oQ s=front s (cg s):=by
  have:=OZ s hs hb s.length 0 (by omega)
  rw[show(((0:Nat)):Int)=0 from rfl,List.drop_zero,Nat.zero_add]at this
  rw[Ou,this]
 rw[h1,Ks s hs]
 have hle:=Cz s
 have hlt:∀ c:Int,s[cg s]? = some c→cg s+1≤s.length:=fun c h=>by
  by_cases h':cg s<s.length
  ·exact h'
  ·rw[List.getElem?_eq_none (by omega)]at h;cases h
 unfold front
 split
 ·rename_i h
  obtain⟨v,e,k1,k2,k3⟩:=uT s hs true (cg s+1) (hlt _ h)
  exact⟨v,e,k1,k1,k2,k3⟩
 ·split
  ·rename_i h
   obtain⟨v,e,k1,k2,k3⟩:=uT s hs false (cg s+1) (hlt _ h)
   exact⟨v,e,k1,k1,k2,k3⟩
  ·obtain⟨v,e,k1,k2,k3⟩:=uT s hs false (cg s) hle
   exact⟨v,e,k1,k1,k2,k3⟩
theorem Mz(s:List Int)(hs:s.length≤1000000)(v:Int):∀ (d i:Nat),i+d=s.length→rY s v (i:Int)=some (if ∀ x∈s.drop i,x=32 then(v,true,()) else(0,false,())):=by
 intro d
 induction d with
 | zero =>
  intro i hd
  rw[DZ,aj (by omega),List.drop_eq_nil_of_le (by omega),if_pos (by simp)]
 | succ d ih =>
  intro i hd
  have hi:i<s.length:=by omega
  rw[DZ,ak (by omega),if_pos (by omega),aS hi,aR hi (by omega),ih (i+1) (by omega),ai hi]
  by_cases h:s[i]=32
  ·rw[if_neg (by simp[h])]
   simp[h]
  ·rw[if_pos (by simp[h]),if_neg (fun hh=>h (hh _ (List.mem_cons_self ..)))]
theorem zM(s:List Int)(hs:s.length≤1000000)(hb:Bt s):∃ v ok,rX s=some (v,ok,())∧uP s=some (v,ok,())∧(-9000000000000≤v∧v≤9000000000000):=by
 obtain⟨v,e,k1,k2,k3,k4⟩:=um s hs hb
 rw[Ow,JO,k1,k2]
 simp only[aa]
 by_cases h:e=0
 ·rw[ak h,ak h];exact⟨0,false,rfl,rfl,by omega,by omega⟩
 ·obtain⟨n,rfl⟩:=Int.eq_ofNat_of_zero_le k3.1
  rw[aj h,aj h,if_pos k3,Mz s hs v (s.length-n) n (by omega)]
  have hcut:List.take (s.length-(n:Int).toNat) (List.drop (n:Int).toNat s)=s.drop n:=by
   rw[af,List.take_of_length_le (by rw[List.length_drop];omega)]
  rw[hcut]
  obtain⟨r,r1,r2⟩:=Hf (s.drop n) (by rw[List.length_drop];omega)
  rw[r1,aa]
  by_cases hr:r=[]
  ·rw[if_pos (r2.1 hr),if_neg (by simp[hr])];exact⟨v,true,rfl,rfl,k4⟩
  ·rw[if_neg (fun hh=>hr (r2.2 hh)),if_pos (by simp[hr])];exact⟨0,false,rfl,rfl,by omega,by omega⟩
theorem ul(s:List Int)(hs:s.length≤9223372036854775807):jf s=some (s.take 300,()):=by
 rw[Ko]
 have hm:mnI (s.length:Int) 300=min (s.length:Int) 300:=by unfold mnI;split <;> omega
 rw[hm,if_pos (by omega),List.drop_zero,Nat.sub_zero]
 by_cases h:s.length≤300
 ·rw[List.take_of_length_le (by omega),List.take_of_length_le h]
 ·rw[show(min (s.length:Int) 300).toNat=300 by omega]
theorem NO(s:List Int)(hs:s.length≤9223372036854775807)(hb:Bt s):∃ v,kX s=some (v,())∧kz s=some (v,()):=by
 have hbt:Bt (s.take 300):=fun x hx=>hb x (List.mem_of_mem_take hx)
 obtain⟨v,ok,k1,k2,_⟩:=zM (s.take 300) (by rw[List.length_take];omega) hbt
 have e1:kX s=sd (s.take 300) aD:=by
  rw[OP]
  by_cases h:(s.length:Int)>300
  ·rw[ak h,if_pos (by omega)];rfl
  ·rw[aj h,List.take_of_length_le (by omega)]
 rw[e1,OO,Bc,ul s hs,k1,aa,aa]
 dsimp only
 rw[k2,aa]
 dsimp only
 cases ok with
 | true=>exact⟨_,rfl,rfl⟩
 | false=>rw[jo];exact⟨_,rfl,rfl⟩
noncomputable def ry(s:List Int):Int×Bool:=match rX s with
 | some (v,ok,_)=>(v,ok)
 | none=>(0,false)
noncomputable def gC(v:au):Bool:=(decide (-9000000000000≤v.N∧v.N≤9000000000000) && !decide ((v.S.length:Int)>300)) &&
 (if v.Kind=0 then decide (v.N=0)&&decide (v.S=[])else if v.Kind=1 then decide (v.S=[])else if v.Kind=2 then decide (v.N=0)else if v.Kind=3 then(ry v.S).2&&decide ((ry v.S).1=v.N)else false)
def bU(a b:al):Bool:=decide (a.Name<b.Name)||(decide (a.Name=b.Name)&&ltS a.Key b.Key)
theorem O5(a:al)(n:Int)(k:List Int):xA a n k=some (decide (a.Name<n)||(decide (a.Name=n)&&ltS a.Key k),()):=by
 rw[O4]
 cases decide (a.Name<n) <;> cases decide (a.Name=n) <;> rfl
theorem Qz(a b:List Int):jZ a b=some (bV a b,()):=by
 rw[GQ,Gf,Gk];rfl
noncomputable def ue(l:List al)(c:Int)(i:Nat):Bool :=
 decide ((l.getD i bf).Name<0)||(decide ((l.getD i bf).Name≥c)||(decide (((l.getD i bf).Key.length:Int)>300)||(!gC (l.getD i bf).Val||(decide ((i:Int)>0) && !bU (l.getD (i-1) bf) (l.getD i bf)))))
noncomputable def mW(s:ar)(v c:Int):Bool :=
 decide ((s.Vars.length:Int)=v)&&(!s.Vars.any (fun x=>!gC x)&&(decide ((s.Cells.length:Int)≤40)&&(decide (0≤s.Nr∧s.Nr≤1000000)&&(decide (0≤s.Err∧s.Err≤7) && !cH (ue s.Cells c) s.Cells.length))))
def pM(s:ar):Prop:=(s.Vars.length≤2097152∧∀ v∈s.Vars,Bt v.S)∧s.Cells.length≤2097152∧∀ c∈s.Cells,Bt c.Val.S
def j1(l:List am):Prop:=l.length≤2097152∧∀ o∈l,(∀ b∈o.S,0≤b∧b≤255)∧o.S.length≤2097152
def lD(p:ap):Prop:=(p.Vars.length≤2097152∧∀ s∈p.Vars,s.length≤2097152)∧(p.Cells.length≤2097152∧∀ s∈p.Cells,s.length≤2097152)∧j1 p.Start∧j1 p.Main
noncomputable def eF(l:List am)(v c:Int):Bool :=
 decide (1≤(l.length:Int)∧(l.length:Int)≤1500)&&(decide ((l.getD (l.length-1) bg).Code=36) && !l.any (fun o=>!opB o l.length v c))
theorem Eb(l:List am)(v c:Int)(h:j1 l):sb l v c=some (eF l v c,()):=by
 have h1:=h.1
 rw[OM,cP,aa]
 dsimp only
 unfold eF
 by_cases g:1≤(l.length:Int)∧(l.length:Int)≤1500
 ·have w1:w64 ((l.length:Int)-1)=((l.length-1:Nat):Int):=by rw[aF (by omega) (by omega)];omega
  have f:=gM (fun i=>mF l v c (l.length:Int) i) l.length (fun i=>!opB (l.getD i bg) l.length v c) (some (false,())) (some (true,())) (fun i hi=>by
   show mF l v c _ i=_
   rw[Ea,ak (by omega),if_pos (by omega),aR hi (by omega),af,Pn _ _ _ _ (by rw[bj hi];exact(h.2 _ (List.getElem_mem hi)).1) (by rw[bj hi];have:=(h.2 _ (List.getElem_mem hi)).2;omega),aa]) (by
   show mF l v c _ _=_
   rw[Ea,if_neg (by simp)])
  rw[ac g,if_neg (by simp),w1,if_pos (by omega),af,f,er l bg (fun o=>!opB o l.length v c)]
  cases decide ((l.getD (l.length-1) bg).Code=36) <;> cases l.any (fun o=>!opB o l.length v c) <;> rfl
 ·rw[ae g];rfl
theorem Hn(l:List am)(v c:Int)(h:j1 l):yu l l v c=some (l.any (fun o=>!opB o l.length v c),l,v,c,()):=by
 have h1:=h.1
 rw[Rl,Ru]
 obtain⟨k,e,e1,_⟩:=g9 (fun i=>na l (l.length:Int) i l v c) (l,v,c,()) l.length (fun i=>!opB (l.getD i bg) l.length v c) (fun i hi=>by
  show na l _ i l v c=_
  rw[GC,ak (by omega),if_pos (by omega),aR hi (by omega),af,J3,KK _ _ _ _ (by rw[bj hi];exact(h.2 _ (List.getElem_mem hi)).1) (by rw[bj hi];have:=(h.2 _ (List.getElem_mem hi)).2;omega),aa,aa]) (by
  show na l _ _ l v c=_
  rw[GC,if_neg (by simp)])
 rw[e,aa]
 dsimp only
 rw[e1,er l bg (fun o=>!opB o l.length v c)]
theorem A9(l:List am)(v c:Int)(h:j1 l):qJ l v c=some (eF l v c,()):=by
 have h1:=h.1
 rw[J4,ey,aa]
 dsimp only
 unfold eF
 by_cases g:1≤(l.length:Int)∧(l.length:Int)≤1500
 ·have w1:w64 ((l.length:Int)-1)=((l.length-1:Nat):Int):=by rw[aF (by omega) (by omega)];omega
  rw[ac g,if_neg (by simp),w1,if_pos (by omega),af,Hn l v c h,aa]
  cases decide ((l.getD (l.length-1) bg).Code=36) <;> rfl
 ·rw[ae g];rfl
def fM(l:List (List Int))(i:Nat):Bool:=!fL (l.getD i [])||(decide ((i:Int)>0) && !ltS (l.getD (i-1) []) (l.getD i []))
def jt(l:List (List Int)):Bool:=!cH (fM l) l.length&&decide ((l.length:Int)≤8)
theorem Bu(l:List (List Int))(hl:l.length≤2097152)(hs:∀ s∈l,s.length≤2097152):qS l=some (jt l,()):=by
 rw[KA]
 have f:=gM (fun i=>kC l l (l.length:Int) i) l.length (fM l) (some (false,())) (some (decide ((l.length:Int)≤8),())) (fun i hi=>by
  show kC l l _ i=_
  rw[Br,ak (by omega),if_pos (by omega),aR hi (by omega),af,Kv _ (by rw[bj hi];have:=hs _ (List.getElem_mem hi);omega),aa]
  dsimp only
  unfold fM
  by_cases h0:(i:Int)>0
  ·have w1:w64 ((i:Int)-1)=((i-1:Nat):Int):=by rw[aF (by omega) (by omega)];omega
   rw[ac h0,w1,af,if_pos (c:=(true=true)) rfl,if_pos (c:=0≤((i-1:Nat):Int)∧((i-1:Nat):Int)<(l.length:Int)) (by omega)]
   cases fL (l.getD i []) <;> rfl
  ·rw[ae h0,if_neg (c:=(false=true)) (by simp)]
   cases fL (l.getD i []) <;> rfl) (by
  show kC l l _ _=_
  rw[Br,if_neg (by simp)])
 rw[f]
 unfold jt
 cases cH (fM l) l.length <;> rfl
noncomputable def eZ(p:ap):Bool :=
 jt p.Vars&&(jt p.Cells&&(!p.Vars.any (fun s=>decide (s∈p.Cells))&&(eF p.Start p.Vars.length p.Cells.length&&eF p.Main p.Vars.length p.Cells.length)))
theorem Hm(p:ap)(h:lD p):yv p.Vars p=some (p.Vars.any (fun s=>decide (s∈p.Cells)),p,()):=by
 have h1:=h.1.1
 have h2:=h.2.1.1
 rw[Rn,Rx]
 obtain⟨k,e,e1,_⟩:=g9 (fun i=>nb p.Vars (p.Vars.length:Int) i p) (p,()) p.Vars.length (fun i=>decide (p.Vars.getD i []∈p.Cells)) (fun i hi=>by
  show nb p.Vars _ i p=_
  rw[GI,ak (by omega),if_pos (by omega),aR hi (by omega),af,J5,uj _ _ (by omega),aa,aa]) (by
  show nb p.Vars _ _ p=_
  rw[GI,if_neg (by simp)])
 rw[e,aa]
 dsimp only
 rw[e1,er p.Vars [] (fun s=>decide (s∈p.Cells))]
theorem Bb(p:ap)(h:lD p):uY p=some (eZ p,()):=by
 rw[J6,Bu _ h.1.1 h.1.2,Bu _ h.2.1.1 h.2.1.2,Hm p h]
 simp only[aa]
 rw[A9 _ _ _ h.2.2.1,A9 _ _ _ h.2.2.2]
 unfold eZ
 cases jt p.Vars <;> cases jt p.Cells <;> cases p.Vars.any (fun s=>decide (s∈p.Cells)) <;> cases eF p.Start p.Vars.length p.Cells.length <;> rfl
theorem Ee(p:ap)(h:lD p):xt p=some (eZ p,()):=by
 have h1:=h.1.1
 have h2:=h.2.1.1
 rw[ON]
 have f2:=gM (fun i=>jL i p) p.Cells.length (fM p.Cells) (some (false,())) (some (decide ((p.Vars.length:Int)≤8)&&(decide ((p.Cells.length:Int)≤8)&&(eF p.Start p.Vars.length p.Cells.length&&eF p.Main p.Vars.length p.Cells.length)),())) (fun i hi=>by
  show jL i p=_
  rw[Ed,ak (by omega),if_pos (by omega),aR hi (by omega),af,EQ _ (by rw[bj hi];have:=h.2.1.2 _ (List.getElem_mem hi);omega),aa]
  dsimp only
  unfold fM
  by_cases h0:(i:Int)>0
  ·have w1:w64 ((i:Int)-1)=((i-1:Nat):Int):=by rw[aF (by omega) (by omega)];omega
   rw[ac h0,w1,af,if_pos (c:=(true=true)) rfl,if_pos (c:=0≤((i-1:Nat):Int)∧((i-1:Nat):Int)<(p.Cells.length:Int)) (by omega),if_pos (c:=0≤(i:Int)∧(i:Int)<(p.Cells.length:Int)) (by omega)]
   cases fL (p.Cells.getD i []) <;> rfl
  ·rw[ae h0,if_neg (c:=(false=true)) (by simp)]
   cases fL (p.Cells.getD i []) <;> rfl) (by
  show jL _ p=_
  rw[Ed,if_neg (by simp),Eb _ _ _ h.2.2.1,Eb _ _ _ h.2.2.2,aa,aa]
  cases decide ((p.Vars.length:Int)≤8) <;> cases decide ((p.Cells.length:Int)≤8) <;> cases eF p.Start p.Vars.length p.Cells.length <;> rfl)
 have f1:=gM (fun i=>kW i p) p.Vars.length (fun i=>fM p.Vars i||decide (p.Vars.getD i []∈p.Cells)) (some (false,())) (jL 0 p) (fun i hi=>by
  show kW i p=_
  rw[Ec,ak (by omega),if_pos (by omega),aR hi (by omega),af,EQ _ (by rw[bj hi];have:=h.1.2 _ (List.getElem_mem hi);omega),aa,s6 _ _ (by omega),aa]
  dsimp only
  rw[if_pos (c:=0≤(i:Int)∧(i:Int)<(p.Vars.length:Int)) (by omega)]
  unfold fM
  by_cases h0:(i:Int)>0
  ·have w1:w64 ((i:Int)-1)=((i-1:Nat):Int):=by rw[aF (by omega) (by omega)];omega
   rw[ac h0,w1,af,if_pos (c:=(true=true)) rfl,if_pos (c:=0≤((i-1:Nat):Int)∧((i-1:Nat):Int)<(p.Vars.length:Int)) (by omega),if_pos (c:=0≤(i:Int)∧(i:Int)<(p.Vars.length:Int)) (by omega)]
   cases fL (p.Vars.getD i []) <;> cases decide (p.Vars.getD i []∈p.Cells) <;> cases ltS (p.Vars.getD (i-1) []) (p.Vars.getD i []) <;> rfl
  ·rw[ae h0,if_neg (c:=(false=true)) (by simp)]
   cases fL (p.Vars.getD i []) <;> cases decide (p.Vars.getD i []∈p.Cells) <;> rfl) (by
  show kW _ p=_
  rw[Ec,if_neg (by simp)])
 rw[f1,f2,Hl (fM p.Vars) (fun i=>decide (p.Vars.getD i []∈p.Cells)),er p.Vars [] (fun s=>decide (s∈p.Cells))]
 unfold eZ jt
 cases cH (fM p.Vars) p.Vars.length <;> cases cH (fM p.Cells) p.Cells.length <;> cases p.Vars.any (fun s=>decide (s∈p.Cells)) <;> cases decide ((p.Vars.length:Int)≤8) <;> cases decide ((p.Cells.length:Int)≤8) <;> rfl
theorem zY{d:Nat}{x:ax}(h:en (G:=gam) (d+3) (.nm 1) x):∀ b∈x.S,0≤b∧b≤255:=by
 have h':_∧_∧(x.S.length≤9223372036854775807∧∀ b∈x.S,0≤b∧b≤255)∧_:=h
 exact h'.2.2.1.2
def yQ(x:ay):Prop:=(∀ y∈x.Start,∀ b∈y.S,0≤b∧b≤255)∧∀ y∈x.Main,∀ b∈y.S,0≤b∧b≤255
theorem IZ{d:Nat}{x:ay}(h:en (G:=gam) (d+5) (.nm 0) x):yQ x:=by
 have h':_∧_∧(x.Start.length≤9223372036854775807∧∀ y∈x.Start,en (G:=gam) (d+3) (.nm 1) y)∧(x.Main.length≤9223372036854775807∧∀ y∈x.Main,en (G:=gam) (d+3) (.nm 1) y)∧_:=h
 exact⟨fun y hy=>zY (d:=d+0) (h'.2.2.1.2 y hy),fun y hy=>zY (d:=d+0) (h'.2.2.2.1.2 y hy)⟩
theorem zd{l:List ax}(h:l.length≤1048576∧∀ y∈l,de 1048576 y)(hb:∀ y∈l,∀ b∈y.S,0≤b∧b≤255):j1 (l.map jc):=by
 refine⟨by rw[List.length_map];have:=h.1;omega,fun o ho=>?_⟩
 obtain⟨y,hy,rfl⟩:=List.mem_map.1 ho
 have:=h.2 y hy
 unfold de at this
 exact⟨hb y hy,by show y.S.length≤_;omega⟩
theorem Hv{x:ay}(h:eo 1048576 x)(hb:yQ x):lD (gf x):=by
 unfold eo at h
 obtain⟨h1,h2,h3,h4⟩:=h
 exact⟨⟨by show x.Vars.length≤_;have:=h1.1;omega,fun y hy=>by have:=h1.2 y hy;omega⟩,⟨by show x.Cells.length≤_;have:=h2.1;omega,fun y hy=>by have:=h2.2 y hy;omega⟩,zd h3 hb.1,zd h4 hb.2⟩
theorem Az{x:ay}(h:eo 1048576 x):iI 2097152 (gf x):=by
 have:=Ju h
 unfold iI fm at *
 obtain⟨h1,h2,h3,h4⟩:=this
 exact⟨⟨by omega,fun y hy=>by have:=h1.2 y hy;omega⟩,⟨by omega,fun y hy=>by have:=h2.2 y hy;omega⟩,⟨by omega,fun y hy=>by have:=h3.2 y hy;omega⟩,⟨by omega,fun y hy=>by have:=h4.2 y hy;omega⟩⟩
def cJ(n:Nat):List Int:=(Lib.decDigits n).map fun b=>(b.toNat:Int)
theorem qm{n:Nat}(h:n<10):cJ n=[48+(n:Int)]:=by
 unfold cJ
 rw[Lib.decDigits,dif_pos h]
 have:(UInt8.ofNat (48+n)).toNat=48+n:=by rw[UInt8.toNat_ofNat'];omega
 simp only[List.map_cons,List.map_nil,this]
 congr 1
theorem ur{n:Nat}(h:¬ n<10):cJ n=cJ (n/10)++[48+((n%10:Nat):Int)]:=by
 unfold cJ
 rw[Lib.decDigits,dif_neg h]
 have:(UInt8.ofNat (48+n%10)).toNat=48+n%10:=by rw[UInt8.toNat_ofNat'];omega
 simp only[List.map_append,List.map_cons,List.map_nil,this]
 congr 2
theorem LH(n:Nat):hZ (n:Int)=cJ n:=by
 unfold hZ Lib.itoa cJ
 rw[if_neg (by omega),af]
theorem AllD.app{l m:List Int}(h:AllD l)(g:AllD m):AllD (l++m):=fun x hx=>(List.mem_append.1 hx).elim (h x) (g x)
theorem zO(n:Nat):AllD (cJ n)∧dv 0 (cJ n)=n∧cJ n≠[]∧(0<n→∃ c r,cJ n=c::r∧49≤c):=by
 induction n using Nat.strongRecOn with
 | ind n ih =>
  by_cases h:n<10
  ·rw[qm h]
   refine⟨fun x hx=>?_,?_,by simp,fun h0=>⟨_,_,rfl,by omega⟩⟩
   ·rw[List.mem_singleton.1 hx];omega
   ·simp only[dv,List.foldl_cons,List.foldl_nil];omega
  ·obtain⟨h1,h2,h3,h4⟩:=ih (n/10) (by omega)
   rw[ur h]
   refine⟨h1.app fun x hx=>?_,?_,by simp,fun _=>?_⟩
   ·rw[List.mem_singleton.1 hx];omega
   ·rw[uw,h2];simp only[dv,List.foldl_cons,List.foldl_nil];omega
   ·obtain⟨c,r,e,hc⟩:=h4 (by omega)
    rw[e]
    exact⟨c,r++_,rfl,hc⟩
theorem ql{n k:Nat}(h:n<10 ^ k)(hk:0<k):(cJ n).length≤k:=by
 induction k generalizing n with
 | zero=>omega
 | succ k ih =>
  by_cases h9:n<10
  ·rw[qm h9];simp
  ·rw[ur h9,ag,List.length_singleton]
   have hk0:0<k:=by
    rcases Nat.eq_zero_or_pos k with h0 | h0
    ·subst h0;omega
    ·exact h0
   have:=ih (n:=n/10) (by rw[Nat.pow_succ]at h;omega) hk0
   omega
theorem ut{r:Nat}(h:r<1000000):∃ l,cJ (1000000+r)=49::l∧l.length=6∧AllD l∧dv 0 l=r:=by
 obtain⟨h1,h2,h3,h4⟩:=zO (1000000+r)
 obtain⟨c,l,e,hc⟩:=h4 (by omega)
 have hlen:=ql (n:=1000000+r) (k:=7) (by omega) (by omega)
 rw[e]at h1 h2 hlen
 have hl:=ux l h1.tail
 have hn:=iW l 0 h1.tail (Int.le_refl 0)
 have hc9:=h1.head
 rw[gd,iX]at h2
 simp only[List.length_cons]at hlen
 have h6:l.length=6:=by
  by_cases h6:l.length=6
  ·exact h6
  ·exfalso
   have h5:(10:Int) ^ l.length≤10 ^ 5:=by
    have:(10:Nat) ^ l.length≤10 ^ 5:=Nat.pow_le_pow_right (by omega) (by omega)
    exact_mod_cast this
   have:(10*0+(c-48))*10 ^ l.length≤9*10 ^ 5:=Int.mul_le_mul (by omega) h5 (Int.le_of_lt (Int.pow_pos (by omega))) (by omega)
   omega
 rw[h6]at h2 hl
 have hc1:c=49:=by omega
 subst hc1
 exact⟨l,e,h6,h1.tail,by omega⟩
theorem LN(n:Nat):∀ acc:List Int,acc.length+n≤9223372036854775807→sr (n:Int) acc=some ((if n=0 then []else cJ n)++acc,()):=by
 induction n using Nat.strongRecOn with
 | ind n ih =>
  intro acc hb
  rw[PB]
  by_cases h0:n=0
  ·rw[aj (by omega),if_pos h0];rfl
  ·have e1:Int.tdiv (n:Int) 10=((n/10:Nat):Int):=rfl
   have e2:Int.tmod (n:Int) 10=((n%10:Nat):Int):=rfl
   have e3:w8 (w64 (48+((n%10:Nat):Int)))=48+((n%10:Nat):Int):=by rw[aF (by omega) (by omega),yl (by omega) (by omega)]
   rw[ak (by omega),e1,e2,e3,if_pos (by rw[List.length_singleton];omega),aF (by omega) (by omega),if_neg h0,ih (n/10) (by omega) _ (by rw[ag,List.length_singleton];omega)]
   by_cases h9:n<10
   ·rw[if_pos (by omega),qm h9,Nat.mod_eq_of_lt h9];rfl
   ·rw[if_neg (by omega),ur h9,ah]
theorem Cf(n:Nat)(h:n≤9223372036854775807):sq (n:Int)=some (cJ n,()):=by
 rw[PC]
 by_cases h0:n=0
 ·subst h0
  rw[ak (by omega),qm (by omega)];rfl
 ·rw[aj (by omega),LN n [] (by simpa using h),if_neg h0,List.append_nil]
def dq(c:Int)(l:List Int):List Int:=(l.reverse.dropWhile (fun x=>decide (x=c))).reverse
theorem yi(c:Int)(l:List Int):dq c (l++[c])=dq c l:=by
 unfold dq
 rw[List.reverse_append,List.reverse_singleton,List.singleton_append,List.dropWhile_cons_of_pos (by simp)]
theorem yh{c x:Int}(h:x≠c)(l:List Int):dq c (l++[x])=l++[x]:=by
 unfold dq
 rw[List.reverse_append,List.reverse_singleton,List.singleton_append,List.dropWhile_cons_of_neg (by simpa using h),List.reverse_cons,List.reverse_reverse]
theorem sU{l:List Int}{n:Nat}(h:l.length=n+1):l=l.take (l.length-1)++[l[l.length-1]]:=by
 have h1:=List.take_append_drop (l.length-1) l
 have h2:l.drop (l.length-1)=[l[l.length-1]]:=by
  rw[ai (by omega),List.drop_eq_nil_of_le (by omega)]
 rw[h2]at h1
 exact h1.symm
theorem FP(c:Int):∀ (n:Nat) (l:List Int),l.length=n→∃ k,l=dq c l++List.replicate k c∧((∃ x∈l,x≠c)→dq c l≠[])
 | 0,l,h=>by
  have:l=[]:=List.eq_nil_of_length_eq_zero h
  subst this
  exact⟨0,rfl,fun⟨x,hx,_⟩=>by cases hx⟩
 | n+1,l,h=>by
  have hs:=sU h
  generalize hA:l.take (l.length-1)=A at hs
  generalize l[l.length-1]=x at hs
  have hAl:A.length=n:=by rw[← hA,List.length_take];omega
  subst hs
  by_cases hx:x=c
  ·subst hx
   obtain⟨k,e,g⟩:=FP x n A hAl
   rw[yi]
   refine⟨k+1,?_,fun⟨y,hy,hne⟩=>g ⟨y,?_,hne⟩⟩
   ·rw[List.replicate_succ',← ah,← e]
   ·rcases List.mem_append.1 hy with hy | hy
    ·exact hy
    ·exact absurd (List.mem_singleton.1 hy) hne
  ·rw[yh hx]
   exact⟨0,by simp,fun _=>by simp⟩
theorem yg(c:Int)(l:List Int):(dq c l).length≤l.length:=by
 obtain⟨k,e,_⟩:=FP c l.length l rfl
 have:=congrArg List.length e
 rw[ag]at this
 omega
theorem FQ(c:Int):∀ (n:Nat) (l:List Int),l.length=n→l.length≤4294967296→lB l c=some (dq c l,())
 | 0,l,hl,h=>by
  have:l=[]:=List.eq_nil_of_length_eq_zero hl
  subst this
  rw[tt,if_neg (by simp)];rfl
 | n+1,l,hl,h=>by
  rw[tt,ak (by omega),aF (by omega) (by omega),if_pos (by omega),show((l.length:Int)-1).toNat=l.length-1 by omega,bj (by omega)]
  have hs:=sU hl
  have e:List.take (l.length-1-0) (List.drop 0 l)=l.take (l.length-1):=rfl
  by_cases hx:l[l.length-1]=c
  ·rw[ak hx,if_pos (by omega),e,FQ c n _ (by rw[List.length_take];omega) (by rw[List.length_take];omega)]
   rw[hx]at hs
   generalize l.take (l.length-1)=A at *
   subst hs
   rw[yi]
  ·rw[aj hx]
   have:dq c l=l:=by
    generalize hA:l.take (l.length-1)=A at hs
    generalize l[l.length-1]=x at hs hx
    rw[hs];exact yh hx _
   rw[this]
theorem He(l:List Int)(h:l.length≤4294967296):yD l [48]=some (dq 48 l,()):=by
 rw[RI]
 by_cases h0:l=[]
 ·rw[ak h0,h0];rfl
 ·rw[aj h0,if_neg (by simp),if_pos (by simp),if_pos (by simp),if_pos (by simp),if_pos (by simp),GX]
  show Option.bind (lB l 48) _=_
  rw[FQ 48 _ l rfl h];rfl
theorem ES(t0:Int)(t4:List Int)(h4:t4.length≤1000):∀ (n:Nat) (l:List Int),l.length=n→l.length≤1000→(∃ x∈l,x≠48)→rZ t0 t4 l=oS t0 (t4++[46]++dq 48 l)
 | 0,l,hl,_,⟨x,hx,_⟩=>by
  have:l=[]:=List.eq_nil_of_length_eq_zero hl
  subst this
  cases hx
 | n+1,l,hl,h,hne=>by
  rw[OA,aF (by omega) (by omega),if_pos (by omega),show((l.length:Int)-1).toNat=l.length-1 by omega,bj (by omega)]
  have hs:=sU hl
  have e:List.take (l.length-1-0) (List.drop 0 l)=l.take (l.length-1):=rfl
  by_cases hx:l[l.length-1]=48
  ·rw[ak hx,if_pos (by omega),e]
   rw[hx]at hs
   obtain⟨x,hx1,hx2⟩:=hne
   have hx3:x∈l.take (l.length-1):=by
    rw[hs]at hx1
    rcases List.mem_append.1 hx1 with h1 | h1
    ·exact h1
    ·exact absurd (List.mem_singleton.1 h1) hx2
   rw[ES t0 t4 h4 n _ (by rw[List.length_take];omega) (by rw[List.length_take];omega) ⟨x,hx3,hx2⟩]
   have:dq 48 l=dq 48 (l.take (l.length-1)):=by
    generalize l.take (l.length-1)=A at *
    rw[hs];exact yi 48 A
   rw[this]
  ·rw[aj hx,if_pos (by simp only[List.length_singleton];omega),if_pos (by rw[ag];simp only[List.length_singleton];omega)]
   have:dq 48 l=l:=by
    generalize hA:l.take (l.length-1)=A at hs
    generalize l[l.length-1]=x at hs hx
    rw[hs];exact yh hx _
   rw[this]
def lO(r:Nat):List Int:=if 0<r then 46::dq 48 ((cJ (1000000+r)).drop 1)else []
def kj(n:Nat):List Int:=cJ (n/1000000)++lO (n%1000000)
def gJ(n:Int):List Int:=if -9000000000000≤n∧n≤9000000000000 then(if n<0 then [45]else [])++kj n.natAbs else []
theorem Jd{r:Nat}(h:r<1000000):(lO r).length≤7:=by
 unfold lO
 obtain⟨l,e,h6,_⟩:=ut h
 split
 ·rw[e,List.drop_one,List.tail_cons,List.length_cons]
  have:=yg 48 l
  omega
 ·simp
theorem Iu{n:Nat}(h:n≤9000000000000):(kj n).length≤14:=by
 unfold kj
 have h1:=ql (n:=n/1000000) (k:=7) (by omega) (by omega)
 have h2:=Jd (r:=n%1000000) (by omega)
 rw[ag];omega
theorem Iw(n:Int):(gJ n).length≤15:=by
 unfold gJ
 split
 ·rename_i h
  have:=Iu (n:=n.natAbs) (by omega)
  rw[ag]
  split
  ·simp only[List.length_singleton];omega
  ·simp only[List.length_nil];omega
 ·simp
theorem Cc(n:Nat):tn (n:Int)=some (cJ n,()):=by rw[RC,LH]
theorem AZ(n:Nat)(h:n≤9000000000000)(t:List Int)(ht:t.length≤1):qF (n:Int) t=some (t++kj n,()):=by
 have e1:Int.tdiv (n:Int) 1000000=((n/1000000:Nat):Int):=rfl
 have e2:Int.tmod (n:Int) 1000000=((n%1000000:Nat):Int):=rfl
 have h1:=ql (n:=n/1000000) (k:=7) (by omega) (by omega)
 rw[JQ,e1,e2,aF (by omega) (by omega),Cc,aa]
 dsimp only
 rw[if_pos (by omega)]
 unfold kj lO
 by_cases h0:0<n%1000000
 ·have e3:w64 (1000000+((n%1000000:Nat):Int))=((1000000+n%1000000:Nat):Int):=by rw[aF (by omega) (by omega)];omega
  obtain⟨l,e,h6,_⟩:=ut (r:=n%1000000) (by omega)
  have e4:List.take ((49::l).length-1) (List.drop 1 (49::l))=l:=by simp
  have h7:=yg 48 l
  rw[ak (by omega),e3,Cc,aa,if_pos h0]
  dsimp only
  rw[e,e4,if_pos (by rw[List.length_cons];omega),He l (by omega),aa]
  dsimp only
  rw[if_pos (by rw[List.length_singleton];omega),if_pos (by simp only[ag,List.length_singleton];omega),ah,List.drop_one,List.tail_cons]
  rfl
 ·rw[aj (by omega),if_neg h0,List.append_nil]
theorem JS(n:Int):uQ n=some (gJ n,()):=by
 rw[JR,df,aa]
 dsimp only
 unfold gJ
 by_cases h:-9000000000000≤n∧n≤9000000000000
 ·rw[ac h,if_neg (by decide),if_pos h]
  by_cases h0:n<0
  ·rw[ak h0,if_pos h0,aF (by omega) (by omega),show(0:Int)-n=((n.natAbs:Nat):Int) by omega,AZ _ (by omega) _ (by simp)]
  ·have e:n=((n.natAbs:Nat):Int):=by omega
   rw[aj h0,if_neg h0]
   have:=AZ n.natAbs (by omega) [] (by simp)
   rw[← e]at this
   exact this
 ·rw[ae h,if_pos (by decide),if_neg h]
theorem D3(n:Int)(t:List Int)(h:t.length≤1000):oS n t=some ((if n<0 then [45]else [])++t,()):=by
 rw[OB]
 by_cases h0:n<0
 ·rw[ak h0,if_pos h0,if_pos (by rw[List.length_singleton];omega)]
 ·rw[aj h0,if_neg h0];rfl
theorem gv(n:Int):eg n=some (decide (-9000000000000≤n∧n≤9000000000000),()):=by
 rw[D0,Ez]
 by_cases h:n ≥ -9000000000000
 ·rw[ak h]
  simp[show -9000000000000≤n from h]
 ·rw[aj h]
  simp[show ¬ -9000000000000≤n from h]
theorem OD(n:Int):xl n=some (gJ n,()):=by
 rw[OC,gv,aa]
 dsimp only
 unfold gJ
 by_cases h:-9000000000000≤n∧n≤9000000000000
 ·rw[ac h,if_neg (by decide),if_pos h]
  have ea:mN n=some (((n.natAbs:Nat):Int),()):=by
   rw[Ey]
   by_cases h0:n<0
   ·rw[ak h0,aF (by omega) (by omega),show(0:Int)-n=((n.natAbs:Nat):Int) by omega]
   ·rw[aj h0,show((n.natAbs:Nat):Int)=n by omega]
  rw[ea,aa]
  dsimp only
  generalize hm:n.natAbs=m
  have e1:Int.tdiv (m:Int) 1000000=((m/1000000:Nat):Int):=rfl
  have e2:Int.tmod (m:Int) 1000000=((m%1000000:Nat):Int):=rfl
  have h1:=ql (n:=m/1000000) (k:=7) (by omega) (by omega)
  rw[e1,e2,aF (by omega) (by omega),Cf _ (by omega),aa]
  dsimp only
  unfold kj lO
  by_cases h0:0<m%1000000
  ·have e3:w64 (1000000+((m%1000000:Nat):Int))=((1000000+m%1000000:Nat):Int):=by rw[aF (by omega) (by omega)];omega
   obtain⟨l,e,h6,hd,hv⟩:=ut (r:=m%1000000) (by omega)
   have e4:List.take ((49::l).length-1) (List.drop 1 (49::l))=l:=by simp
   have h7:=yg 48 l
   have hne:∃ x∈l,x≠48:=by
    by_cases hh:∃ x∈l,x≠48
    ·exact hh
    ·exfalso
     have hall:∀ x∈l,x=48:=fun x hx=>by
      by_cases hx48:x=48
      ·exact hx48
      ·exact absurd ⟨x,hx,hx48⟩ hh
     rw[List.eq_replicate_of_mem hall,uy]at hv
     omega
   rw[ak (by omega),e3,Cf _ (by omega),aa,if_pos h0]
   dsimp only
   rw[e,e4,if_pos (by rw[List.length_cons];omega),ES n _ (by omega) _ l rfl (by omega) hne,D3 _ _ (by simp only[ag,List.length_singleton];omega),List.drop_one,List.tail_cons,ah (cJ _)]
   rfl
  ·rw[aj (by omega),if_neg h0,List.append_nil,D3 _ _ (by omega)]
 ·rw[ae h,if_pos (by decide),if_neg h]
def pZ(v:au):Prop:=v.S.length≤100000∧Bt v.S
def aW(v:au):List Int:=if v.Kind=1 then gJ v.N else v.S
theorem dQ(v:au):cA v=some (aW v,()):=by
 rw[J9]
 unfold aW
 by_cases h:v.Kind=1
 ·rw[ak h,if_pos h,JS];rfl
 ·rw[aj h,if_neg h]
theorem dY(v:au):dj v=some (aW v,()):=by
 rw[OT]
 unfold aW
 by_cases h:v.Kind=1
 ·rw[ak h,if_pos h,OD];rfl
 ·rw[aj h,if_neg h]
theorem FM{v:au}(h:pZ v):∃ n,d9 v=some (n,())∧cX v=some (n,()):=by
 obtain⟨x,e,k1,k2,_⟩:=um v.S (by have:=h.1;omega) h.2
 have key:∀ b:Bool,∃ n,nY v.Kind b v=some (n,())∧oW v.Kind b v=some (n,()):=fun b=>by
  rw[Bf,Eg,k1,k2]
  cases b with
  | true=>exact⟨_,rfl,rfl⟩
  | false =>
   by_cases h2:v.Kind=2
   ·rw[if_neg (by decide),ak h2];exact⟨_,rfl,rfl⟩
   ·rw[if_neg (by decide),aj h2];exact⟨_,rfl,rfl⟩
 rw[Bg,Eh]
 split
 ·exact key _
 ·exact key _
theorem FC(a b:List Int):jZ a b=some (bV a b,()):=by
 rw[GQ,Gf,Gk];rfl
theorem CK:∀ a b:List Int,ltS a b=true→ltS b a=false
 | a,[],h=>by cases a <;> cases h
 | [],y::b,h=>rfl
 | x::a,y::b,h=>by
  unfold ltS at h ⊢
  rw[Bool.or_eq_true,Bool.and_eq_true,ab,ab]at h
  rcases h with h | ⟨h1,h2⟩
  ·rw[ae (by omega),ae (by omega)];rfl
  ·subst h1
   rw[CK a b h2];simp
theorem Ib(a b:List Int):bV b a=0-bV a b:=by
 unfold bV
 cases h:ltS a b with
 | true=>rw[CK a b h];rfl
 | false =>
  cases h2:ltS b a with
  | true=>rfl
  | false=>rfl
theorem zm(b:Bool):la b=some (if b=true then 1 else 0,()):=by rw[xL];cases b <;> rfl
theorem Ik{a b:au}(ha:pZ a)(hb:pZ b):∃ c,lQ a b=some (c,())∧rV a b=some (c,())∧lQ b a=some (0-c,())∧(-1≤c∧c≤1):=by
 obtain⟨x,x1,x2⟩:=FM ha
 obtain⟨y,y1,y2⟩:=FM hb
 have htext:∃ c,((cA a).bind fun(r0:(List Int)×Unit)=>(cA b).bind fun(r1:(List Int)×Unit)=>(jZ r0.1 r1.1).bind fun(r2:Int×Unit)=>some (r2.1,()))=some (c,()) ∧
   (if(ltS (aW a) (aW b))=true then some ((-1),()) else(la (ltS (aW b) (aW a))).bind fun(r9:Int×Unit)=>some (r9.1,()))=some (c,()) ∧
   ((cA b).bind fun(r0:(List Int)×Unit)=>(cA a).bind fun(r1:(List Int)×Unit)=>(jZ r0.1 r1.1).bind fun(r2:Int×Unit)=>some (r2.1,()))=some (0-c,())∧(-1≤c∧c≤1):=by
  refine⟨bV (aW a) (aW b),?_,?_,?_,zy _ _⟩
  ·rw[dQ,dQ,aa,aa,FC];rfl
  ·rw[zm]
   unfold bV
   cases ltS (aW a) (aW b) <;> cases ltS (aW b) (aW a) <;> rfl
  ·rw[dQ,dQ,aa,aa,FC,Ib];rfl
 obtain⟨c,c1,c2,c3,c4⟩:=htext
 rw[AR a b,On,AR b a,dY,dY]
 simp only[aa]
 by_cases ka:a.Kind=2
 ·have a1:decide (a.Kind=2)=true:=ac ka
  have a2:¬ (!decide (a.Kind=2))=true:=by rw[a1];decide
  rw[if_neg a2]
  by_cases kb:b.Kind=2
  ·have b1:decide (b.Kind=2)=true:=ac kb
   rw[if_pos a1,if_pos b1];exact⟨c,c1,c2,c3,c4⟩
  ·have b1:¬ decide (b.Kind=2)=true:=by rw[ab];exact kb
   rw[if_pos a1,if_neg b1,if_pos a1];exact⟨c,c1,c2,c3,c4⟩
 ·have a1:¬ decide (a.Kind=2)=true:=by rw[ab];exact ka
  have a2:(!decide (a.Kind=2))=true:=by rw[Bool.not_eq_true]at a1;rw[a1];rfl
  rw[if_neg a1,if_pos a2]
  by_cases kb:b.Kind=2
  ·have b1:decide (b.Kind=2)=true:=ac kb
   have b2:¬ (!decide (b.Kind=2))=true:=by rw[b1];decide
   rw[if_pos b1,if_neg b2,if_pos b1];exact⟨c,c1,c2,c3,c4⟩
  ·have b1:¬ decide (b.Kind=2)=true:=by rw[ab];exact kb
   have b2:(!decide (b.Kind=2))=true:=by rw[Bool.not_eq_true]at b1;rw[b1];rfl
   rw[if_neg b1,if_pos b2,if_neg b1,if_neg a1,x1,x2,y1,y2]
   simp only[aa,zm,ab]
   by_cases l1:x<y
   ·refine⟨-1,by rw[if_pos l1],by rw[if_pos l1],?_,by omega,by omega⟩
    rw[if_neg (by omega),if_pos (by omega)];rfl
   ·by_cases l2:x>y
    ·refine⟨1,by rw[if_neg l1,if_pos l2],by rw[if_neg l1,if_pos l2],?_,by omega,by omega⟩
     rw[if_pos (by omega)];rfl
    ·refine⟨0,by rw[if_neg l1,if_neg l2],by rw[if_neg l1,if_neg l2],?_,by omega,by omega⟩
     rw[if_neg (by omega),if_neg (by omega)];rfl
theorem cF{n:Int}(h:0≤n)(h':n≤18446744073709551615):aH n=n:=by
 show IntKind.u64.wrap n=n
 rw[IntKind.wrap_u64];omega
theorem iC(n:Int):aH n=n%18446744073709551616:=by
 show IntKind.u64.wrap n=_
 rw[IntKind.wrap_u64]
theorem o9(n:Int):fR n=some (if -9000000000000≤n∧n≤9000000000000 then(n,true,()) else(0,false,())):=by
 rw[Pz,gv,aa]
 dsimp only
 by_cases c:-9000000000000≤n∧n≤9000000000000
 ·rw[ac c,if_pos c];rfl
 ·rw[ae c,if_neg c];rfl
def Dc(n:Int):Prop:=-9000000000000≤n∧n≤9000000000000
theorem Hh(a b:Int):xg a b=lR a b:=by
 rw[Oo,AU,gv,gv,df,df,o9,oq]
theorem QA(a b:Int):xk a b=qE a b:=by
 rw[Oz,AY,gv,gv,df,df,o9,oq]
theorem IE(a b:Int):xh a b=nT a b:=by
 rw[Oq,AV,gv,gv,df,df,o9,oq]
theorem nA{n:Int}(h:0≤n)(h':n≤18446744073709551615):Go.bits .and .u64 n 4294967295=n%4294967296 :=
 bits_mask .u64 64 (by decide) (fun n h₀ h₁=>cF h₀ (by omega)) 32 (by decide) n h (by omega)
theorem x6{n:Int}:cE .u64 n 44=(n*17592186044416)%18446744073709551616:=iC _
theorem Qo{n:Int}:bI .u64 n 20=n/1048576:=by
 show n.fdiv 1048576=_
 rw[Int.fdiv_eq_ediv_of_nonneg _ (by decide)]
theorem pq{n:Int}:bI .u64 n 32=n/4294967296:=by
 show n.fdiv 4294967296=_
 rw[Int.fdiv_eq_ediv_of_nonneg _ (by decide)]
theorem Nd{h l:Int}(h0:0≤h)(h1:h<1048576)(l0:0≤l)(l1:l<17592186044416):Go.bits .or .u64 (h*17592186044416) l=h*17592186044416+l:=by
 obtain⟨a,rfl⟩:=Int.eq_ofNat_of_zero_le h0
 obtain⟨b,rfl⟩:=Int.eq_ofNat_of_zero_le l0
 have e:=(bits_nat .u64 64 (by decide) (fun n h₀ h₁=>cF h₀ (by omega)) (a*17592186044416) b (by omega) (by omega)).2
 have e2:=Nat.two_pow_add_eq_or_of_lt (i:=44) (b:=b) (by omega) a
 have e3:((a*17592186044416:Nat):Int)=(a:Int)*17592186044416:=by omega
 rw[← e3,e]
 have e4:2 ^ 44*a=a*17592186044416:=by omega
 rw[e4]at e2
 rw[← e2,Int.natCast_add]
theorem ML{x y:Int}(x0:0≤x)(x1:x≤9000000000000)(y0:0≤y)(y1:y≤9000000000000):tj x y=some (x*y/18446744073709551616,x*y%18446744073709551616,()):=by
 rw[Rj]
 have hx:x=4294967296*(x/4294967296)+x%4294967296:=by omega
 have hy:y=4294967296*(y/4294967296)+y%4294967296:=by omega
 rw[pq,pq,nA x0 (by omega),nA y0 (by omega)]
 have a0:0≤x/4294967296:=by omega
 have a1:x/4294967296≤2100:=by omega
 have b0:0≤x%4294967296:=by omega
 have b1:x%4294967296≤4294967295:=by omega
 have c0:0≤y/4294967296:=by omega
 have c1:y/4294967296≤2100:=by omega
 have d0:0≤y%4294967296:=by omega
 have d1:y%4294967296≤4294967295:=by omega
 have hp:x*y=(x/4294967296*(y/4294967296))*18446744073709551616+(x/4294967296*(y%4294967296))*4294967296+(x%4294967296*(y/4294967296))*4294967296+x%4294967296*(y%4294967296):=by
  generalize x/4294967296=a at *
  generalize x%4294967296=b at *
  generalize y/4294967296=c at *
  generalize y%4294967296=d at *
  subst hx;subst hy
  grind
 rw[hp]
 have m1:=Int.mul_nonneg a0 c0
 have m2:=Int.mul_nonneg a0 d0
 have m3:=Int.mul_nonneg b0 c0
 have m4:=Int.mul_nonneg b0 d0
 have n1:=Int.mul_le_mul a1 c1 c0 (by decide)
 have n2:=Int.mul_le_mul a1 d1 d0 (by decide)
 have n3:=Int.mul_le_mul b1 c1 c0 (by decide)
 have n4:=Int.mul_le_mul b1 d1 d0 (by decide)
 generalize x/4294967296*(y/4294967296)=p11 at *
 generalize x/4294967296*(y%4294967296)=p10 at *
 generalize x%4294967296*(y/4294967296)=p01 at *
 generalize x%4294967296*(y%4294967296)=p00 at *
 clear hp hx hy a0 a1 b0 b1 c0 c1 d0 d1 x0 x1 y0 y1
 simp only[pq]
 rw[cF m1 (by omega),cF m2 (by omega),cF m3 (by omega),cF m4 (by omega)]
 rw[cF (n:=p10+p00/4294967296) (by omega) (by omega),nA (by omega) (by omega),cF (n:=(p10+p00/4294967296)%4294967296+p01) (by omega) (by omega),
  cF (n:=p11+(p10+p00/4294967296)/4294967296) (by omega) (by omega),cF (n:=p11+(p10+p00/4294967296)/4294967296+((p10+p00/4294967296)%4294967296+p01)/4294967296) (by omega) (by omega),iC]
 congr 2
 omega
theorem MB:yp 1000000=some (44,()):=by
 rw[Rf,Ri,if_neg (by decide),Rg,if_pos (by decide),Rh,if_neg (by decide),if_pos (by decide)]
 rfl
theorem ID{p:Int}(p0:0≤p)(p1:p/18446744073709551616<1000000):∃ r,td (p/18446744073709551616) (p%18446744073709551616) 1000000=some (p/1000000%18446744073709551616,r,()):=by
 have hh0:0≤p/18446744073709551616:=by omega
 have hl0:0≤p%18446744073709551616:=by omega
 have hl1:p%18446744073709551616≤18446744073709551615:=by omega
 have hpp:p=p/18446744073709551616*18446744073709551616+p%18446744073709551616:=by omega
 generalize p/18446744073709551616=h at *
 generalize p%18446744073709551616=l at *
 subst hpp
 rw[Re,if_neg (by decide),Q8,aj (by omega),Q9]
 by_cases c:h=0
 ·subst c
  rw[if_pos (by decide),if_pos (by decide),if_pos (by decide),Int.tdiv_eq_ediv_of_nonneg hl0,iC,Int.zero_mul,Int.zero_add]
  exact⟨_,rfl⟩
 ·rw[aj c,MB,aa]
  dsimp only
  have k1:aH 44=44:=cF (by decide) (by decide)
  have k2:aH (64-44)=20:=cF (by decide) (by decide)
  have k3:cE .u64 1000000 44=17592186044416000000:=by rw[x6];rfl
  have k4:bI .u64 17592186044416000000 32=4096000000:=by rw[pq];rfl
  have k5:Go.bits .and .u64 17592186044416000000 4294967295=0:=by rw[nA (by decide) (by decide)];rfl
  have k6:cE .u64 h 44=h*17592186044416:=by rw[x6];omega
  have k7:Go.bits .or .u64 (cE .u64 h 44) (bI .u64 l 20)=h*17592186044416+l/1048576:=by rw[k6,Qo,Nd hh0 (by omega) (by omega) (by omega)]
  have k8:cE .u64 l 44=(l%1048576)*17592186044416:=by rw[x6];omega
  have k9:bI .u64 ((l%1048576)*17592186044416) 32=(l%1048576)*4096:=by rw[pq];omega
  have k10:Go.bits .and .u64 ((l%1048576)*17592186044416) 4294967295=0:=by rw[nA (by omega) (by omega)];omega
  rw[k1,k2,if_pos (by decide),if_pos (by decide),if_pos (by decide),if_pos (by decide),k3,k4,k5,k7,k8,k9,k10,if_pos (by decide)]
  have u0:0≤h*17592186044416+l/1048576:=by omega
  have u1:h*17592186044416+l/1048576<17592186044416000000:=by omega
  have t0:0≤(l%1048576)*4096:=by omega
  have t1:(l%1048576)*4096<4294967296:=by omega
  have hN:(h*17592186044416+l/1048576)*4294967296+(l%1048576)*4096=(h*18446744073709551616+l)*4096:=by omega
  generalize h*17592186044416+l/1048576=u at *
  generalize (l%1048576)*4096=v at *
  generalize h*18446744073709551616+l=P at *
  clear k6 k7 k8 k9 k10 k1 k2 k3 k4 k5
  rw[Int.tdiv_eq_ediv_of_nonneg u0]
  have q0:aH (u/4096000000)=u/4096000000:=cF (by omega) (by omega)
  have q1:aH (u/4096000000*4096000000)=u/4096000000*4096000000:=cF (by omega) (by omega)
  have q2:aH (u-u/4096000000*4096000000)=u%4096000000:=by rw[cF (by omega) (by omega)];omega
  rw[q0,q1,q2,Ra,aj (by omega),Int.mul_zero,iC 0,if_neg (by rw[ab,iC];omega),Rb,if_pos (by decide)]
  have q3:aH (aH (aH (u*4294967296)+v)-aH (u/4096000000*17592186044416000000))=(u%4096000000)*4294967296+v:=by
   simp only[iC];omega
  rw[q3]
  have w0:0≤(u%4096000000)*4294967296+v:=by omega
  have w1:(u%4096000000)*4294967296+v<17592186044416000000:=by omega
  have w2:(u/4096000000)*4294967296+((u%4096000000)*4294967296+v)/4096000000=P/1000000:=by omega
  generalize hW:(u%4096000000)*4294967296+v=W at *
  rw[Int.tdiv_eq_ediv_of_nonneg w0]
  have r0:aH (W/4096000000)=W/4096000000:=cF (by omega) (by omega)
  have r1:aH (W/4096000000*4096000000)=W/4096000000*4096000000:=cF (by omega) (by omega)
  have r2:aH (W-W/4096000000*4096000000)=W%4096000000:=by rw[cF (by omega) (by omega)];omega
  rw[r0,r1,r2,Rc,aj (by omega),Int.mul_zero,iC 0,if_neg (by rw[ab,iC];omega),Rd,if_pos (by decide)]
  rw[cF (n:=u/4096000000*4294967296) (by omega) (by omega),iC (_+_),w2]
  exact⟨_,rfl⟩
theorem p9{a:Int}(h:Dc a):qK a=some (if a<0 then 0-a else a,()):=by
 unfold Dc at h
 rw[Kc]
 by_cases c:a<0
 ·rw[ak c,if_pos c,aF (by omega) (by omega),cF (by omega) (by omega)]
 ·rw[aj c,if_neg c,cF (by omega) (by omega)]
theorem yV{a:Int}(h:Dc a):mN a=some (if a<0 then 0-a else a,()):=by
 unfold Dc at h
 rw[Ey]
 by_cases c:a<0
 ·rw[ak c,if_pos c,aF (by omega) (by omega)]
 ·rw[aj c,if_neg c]
def mp(x y:Int)(n:Bool):Option (Int×Bool×Unit):=if x*y/1000000>9000000000000 then some (0,false,())else if n=true then some (0-x*y/1000000,true,())else some (x*y/1000000,true,())
theorem CR{x y:Int}(x0:0≤x)(x1:x≤9000000000000)(y0:0≤y)(y1:y≤9000000000000)(n:Bool) :
  ((tj x y).bind fun(r4:Int×Int×Unit) =>
   if(decide (r4.1≥1000000))=true then
    some (0,false,())
   else
    (td r4.1 r4.2.1 1000000).bind fun(r5:Int×Int×Unit) =>
    if(decide (r5.1>9000000000000))=true then
     some (0,false,())
    else
     if n=true then
      some ((w64 (0-(w64 r5.1))),true,())
     else
      some ((w64 r5.1),true,()))=mp x y n:=by
 have p0:=Int.mul_nonneg x0 y0
 rw[ML x0 x1 y0 y1,aa]
 dsimp only
 unfold mp
 generalize x*y=p at *
 by_cases c:p/18446744073709551616≥1000000
 ·rw[ak c,if_pos (by omega)]
 ·obtain⟨r,e⟩:=ID p0 (by omega)
  rw[aj c,e,aa]
  dsimp only
  have hm:p/1000000%18446744073709551616=p/1000000:=by omega
  rw[hm]
  by_cases d:p/1000000>9000000000000
  ·rw[ak d,if_pos d]
  ·rw[aj d,if_neg d,aF (n:=p/1000000) (by omega) (by omega),aF (by omega) (by omega)]
theorem CS{x y:Int}(x0:0≤x)(x1:x≤9000000000000)(y0:0≤y)(y1:y≤9000000000000)(hw:x/1000000*y≤9000000000000) :
  w64 ((w64 ((w64 (Int.tdiv x 1000000))*y))+(w64 (Int.tdiv (w64 ((Int.tmod x 1000000)*y)) 1000000)))=x*y/1000000∧x*y/1000000≤18100000000000:=by
 have hx:x=1000000*(x/1000000)+x%1000000:=by omega
 have hp:x*y=1000000*(x/1000000*y)+x%1000000*y:=by
  generalize x/1000000=a at *
  generalize x%1000000=b at *
  subst hx
  grind
 have m0:0≤x/1000000*y:=Int.mul_nonneg (by omega) y0
 have r0:0≤x%1000000*y:=Int.mul_nonneg (by omega) y0
 have r1:x%1000000*y≤999999*9000000000000:=Int.mul_le_mul (by omega) y1 y0 (by decide)
 rw[Int.tdiv_eq_ediv_of_nonneg x0,Int.tmod_eq_emod_of_nonneg x0,aF (n:=x/1000000) (by omega) (by omega),hp]
 generalize x/1000000*y=a at *
 generalize x%1000000*y=b at *
 rw[aF (n:=a) (by omega) (by omega),aF (n:=b) (by omega) (by omega),Int.tdiv_eq_ediv_of_nonneg r0,aF (n:=b/1000000) (by omega) (by omega),aF (by omega) (by omega)]
 omega
theorem CT{x y:Int}(n:Bool)(h0:0≤x*y/1000000)(h1:x*y/1000000≤18100000000000) :
  (if n=true then(fR (w64 (0-(x*y/1000000)))).bind fun(r4:Int×Bool×Unit)=>some (r4.1,r4.2.1,()) else(fR (x*y/1000000)).bind fun(r5:Int×Bool×Unit)=>some (r5.1,r5.2.1,()))=mp x y n:=by
 unfold mp
 generalize x*y/1000000=q at *
 rw[o9,o9,aF (by omega) (by omega)]
 have h2:(q>9000000000000)∨(q≤9000000000000):=by omega
 rcases h2 with c | c
 ·have d1:¬ (-9000000000000≤0-q∧0-q≤9000000000000):=by omega
  have d2:¬ (-9000000000000≤q∧q≤9000000000000):=by omega
  simp only[if_pos c,if_neg d1,if_neg d2,aa,ite_self]
 ·have c':¬ q>9000000000000:=by omega
  have d1:-9000000000000≤0-q∧0-q≤9000000000000:=by omega
  have d2:-9000000000000≤q∧q≤9000000000000:=by omega
  simp only[if_neg c',if_pos d1,if_pos d2,aa]
theorem MM(a b:Int):xj a b=qD a b:=by
 rw[Ox,AW,gv,gv,df,df]
 simp only[aa]
 by_cases ha:Dc a
 ·have ha':=ha
  unfold Dc at ha'
  simp only[ac ha',Bool.not_true,Bool.false_eq_true,if_false]
  by_cases hb:Dc b
  ·have hb':=hb
   unfold Dc at hb'
   simp only[ac hb',Bool.not_true,Bool.false_eq_true,if_false,yV ha,yV hb,p9 ha,p9 hb,aa]
   have x0:0≤(if a<0 then 0-a else a):=by split <;> omega
   have x1:(if a<0 then 0-a else a)≤9000000000000:=by split <;> omega
   have y0:0≤(if b<0 then 0-b else b):=by split <;> omega
   have y1:(if b<0 then 0-b else b)≤9000000000000:=by split <;> omega
   generalize (if a<0 then 0-a else a)=x at *
   generalize (if b<0 then 0-b else b)=y at *
   generalize (!(decide ((decide (a<0))=(decide (b<0)))))=n
   rw[CR x0 x1 y0 y1 n]
   have p0:=Int.mul_nonneg x0 y0
   by_cases c:y>0
   ·have hx:x=1000000*(x/1000000)+x%1000000:=by omega
    have hp:x*y=1000000*(x/1000000*y)+x%1000000*y:=by
     generalize x/1000000=a at *
     generalize x%1000000=b at *
     subst hx
     grind
    have r0:0≤x%1000000*y:=Int.mul_nonneg (by omega) y0
    have hM:(0:Int)≤9000000000000/y:=Int.ediv_nonneg (by decide) y0
    have hM1:9000000000000/y≤9000000000000:=Int.ediv_le_self _ (by decide)
    rw[ak c,if_pos (by omega),Int.tdiv_eq_ediv_of_nonneg (a:=x) x0,Int.tdiv_eq_ediv_of_nonneg (a:=9000000000000) (by decide),aF (n:=x/1000000) (by omega) (by omega),aF (n:=9000000000000/y) (by omega) (by omega)]
    by_cases d:x/1000000>9000000000000/y
    ·rw[ak d]
     have:¬ (x/1000000*y≤9000000000000):=fun h=>by
      have:=(Int.le_ediv_iff_mul_le c).2 h
      omega
     unfold mp
     rw[if_pos]
     rw[hp];omega
    ·have hw:=(Int.le_ediv_iff_mul_le c).1 (show x/1000000≤9000000000000/y by omega)
     obtain⟨e1,e2⟩:=CS x0 x1 y0 y1 hw
     rw[Int.tdiv_eq_ediv_of_nonneg (a:=x) x0,aF (n:=x/1000000) (by omega) (by omega)]at e1
     rw[aj d,e1]
     exact CT n (by omega) e2
   ·have hy:y=0:=by omega
    obtain⟨e1,e2⟩:=CS x0 x1 y0 y1 (by rw[hy];simp)
    rw[aj c,e1]
    exact CT n (by omega) e2
  ·have hb':=hb
   unfold Dc at hb'
   simp only[ae hb',Bool.not_false,if_true]
 ·have ha':=ha
  unfold Dc at ha'
  simp only[ae ha',Bool.not_false,if_true]
def spl:List Int→List (List Int)
 | []=>[[]]
 | c::l=>if c=32 then []::spl l else((c::(spl l).getD 0 [])::(spl l).drop 1)
def pre(w:List Int):List (List Int)→List (List Int)
 | []=>[w]
 | x::xs=>(w++x)::xs
def ne(w:List Int):Bool:=!decide (w=[])
def bM(l:List Int):List (List Int):=(spl l).filter ne
theorem yb(l:List Int):∃ x xs,spl l=x::xs:=by
 cases l with
 | nil=>exact⟨_,_,rfl⟩
 | cons c l=>rw[spl];split <;> exact⟨_,_,rfl⟩
theorem sW{c:Int}(h:c≠32)(l:List Int):spl (c::l)=pre [c] (spl l):=by
 obtain⟨x,xs,e⟩:=yb l
 rw[spl,if_neg h,e];rfl
theorem sV:∀ l:List Int,(spl l).length=l.count 32+1
 | []=>rfl
 | c::l=>by
  by_cases h:c=32
  ·subst h;rw[spl,if_pos rfl,List.length_cons,sV l,List.count_cons_self]
  ·obtain⟨x,xs,e⟩:=yb l
   rw[sW h,List.count_cons_of_ne h,← sV l,e];rfl
theorem CW{w:List Int}(h:w≠[]):ne w=true:=by unfold ne;rw[ae h];rfl
theorem vM:∀ l:List Int,(32∉l∧ba l [32] = -1∧spl l=[l])∨(∃ w r,l=w++32::r∧ba l [32]=(w.length:Int)∧spl l=w::spl r∧l.count 32=r.count 32+1)
 | []=>.inl ⟨by simp,rfl,rfl⟩
 | c::l=>by
  by_cases h:c=32
  ·subst h
   refine .inr ⟨[],l,rfl,?_,?_,?_⟩
   ·unfold ba;rw[if_pos (by simp[List.isPrefixOf])];rfl
   ·rw[spl,if_pos rfl]
   ·rw[List.count_cons_self]
  ·have hp:¬ ([32]:List Int).isPrefixOf (c::l)=true:=by
    rw[List.isPrefixOf_iff_prefix,List.cons_prefix_cons]
    exact fun e=>h e.1.symm
   rcases vM l with ⟨h1,h2,h3⟩ | ⟨w,r,h1,h2,h3,h4⟩
   ·refine .inl ⟨by simp[h1];exact fun e=>h e.symm,?_,?_⟩
    ·unfold ba;rw[if_neg hp,if_pos h2]
    ·rw[sW h,h3];rfl
   ·refine .inr ⟨c::w,r,by rw[h1];rfl,?_,?_,?_⟩
    ·unfold ba;rw[if_neg hp,if_neg (by omega),h2];simp
    ·rw[sW h,h3];rfl
    ·rw[List.count_cons_of_ne h,h4]
theorem Jf(n:Nat)(hn:n≤4294967290):∀ (k:Nat) (s:List Int) (done:List (List Int)),s.count 32=k→s.length≤4294967000→done.length+k+1=n→pG s [32] 0 ((n-1:Nat):Int) (done++List.replicate (k+1) []) (done.length:Int)=some (done++spl s,()):=by
 intro k
 induction k with
 | zero =>
  intro s done hk hs hd
  have hw:w64 ((done.length:Int)+1)=((done.length+1:Nat):Int):=by rw[aF (by omega) (by omega)];omega
  have hset:(done++List.replicate (0+1) ([]:List Int)).set done.length s=done++[s]:=by
   rw[List.set_append_right _ _ (Nat.le_refl _),Nat.sub_self];rfl
  have hsp:spl s=[s]:=by
   rcases vM s with ⟨_,_,h⟩ | ⟨w,r,_,_,_,h⟩
   ·exact h
   ·omega
  rw[GU,aj (by omega),af,hset,hw,if_pos (by simp;omega),if_pos (by simp;omega),af,List.take_of_length_le (by simp),hsp]
 | succ k ih =>
  intro s done hk hs hd
  have hw:w64 ((done.length:Int)+1)=((done.length+1:Nat):Int):=by rw[aF (by omega) (by omega)];omega
  rcases vM s with ⟨h,_,_⟩ | ⟨w,r,h1,h2,h3,h4⟩
  ·have:=List.count_eq_zero.2 h;omega
  ·have hsl:s.length=w.length+1+r.length:=by rw[h1];simp;omega
   have hw2:w64 ((w.length:Int)+0)=(w.length:Int):=by rw[aF (by omega) (by omega)];omega
   have hw3:w64 ((w.length:Int)+(([32]:List Int).length:Int))=((w.length+1:Nat):Int):=by rw[aF (by simp;omega) (by simp;omega)];simp
   have hset:∀ x:List Int,(done++List.replicate (k+1+1) ([]:List Int)).set done.length x=(done++[x])++List.replicate (k+1) []:=fun x=>by
    rw[List.set_append_right _ _ (Nat.le_refl _),Nat.sub_self,List.replicate_succ,ah];rfl
   have ht:List.take (w.length-0) (List.drop 0 s)=w:=by rw[h1];simp
   have hdr:List.take (s.length-(w.length+1)) (List.drop (w.length+1) s)=r:=by
    rw[h1,show w++32::r=(w++[32])++r by simp,List.drop_left' (by simp)]
    exact List.take_of_length_le (by simp;omega)
   rw[GU,ak (by omega),yA,if_pos (by omega),aa,h2]
   dsimp only
   rw[aj (by omega),hw2,if_pos (by omega),if_pos (by simp;omega),hw3,if_pos (by omega),af,af,af,hset,ht,hdr,hw]
   have:=ih r (done++[w]) (by omega) (by omega) (by simp;omega)
   rw[ag,List.length_singleton]at this
   rw[this,h3,ah]
   rfl
theorem Qt(t:List Int)(ht:t.length≤4294967000):yB t [32]=some (spl t,()):=by
 have hc:=List.count_le_length (a:=(32:Int)) (l:=t)
 rw[RG,RM,if_neg (by decide),if_neg (by decide),if_pos (by decide),RF,if_neg (by simp),if_pos (by simp),if_pos (by simp),Q5,aa,aa]
 dsimp only
 have hcv:cI t (List.getD [32] 0 0)=(t.count 32:Nat):=rfl
 have hw:w64 (((t.count 32:Nat):Int)+1)=((t.count 32+1:Nat):Int):=by rw[aF (by omega) (by omega)];omega
 have hw2:w64 ((t.length:Int)+1)=((t.length+1:Nat):Int):=by rw[aF (by omega) (by omega)];omega
 have hmn:mnI ((t.count 32+1:Nat):Int) ((t.length+1:Nat):Int)=((t.count 32+1:Nat):Int):=by unfold mnI;rw[if_neg (by omega)]
 have hw3:w64 (((t.count 32+1:Nat):Int)-1)=((t.count 32+1-1:Nat):Int):=by rw[aF (by omega) (by omega)];omega
 rw[hcv,hw,RL,hw2,hmn,if_pos ⟨by omega,by omega,by rw[aN];omega⟩,hw3,af]
 have:=Jf (t.count 32+1) (by omega) (t.count 32) t [] rfl ht (by simp)
 rw[List.nil_append,List.nil_append]at this
 have h0:pG t [32] 0 ((t.count 32+1-1:Nat):Int) (List.replicate (t.count 32+1) []) 0=some (spl t,()):=this
 rw[h0];rfl
theorem R5{α:Type}(lo hi:Nat)(z:α)(l:List α)(h:lo≤hi)(hl:hi=l.length):(fg lo hi z l).take lo=l.take lo∧(fg lo hi z l).length=l.length:=by
 unfold fg
 have e:List.append (List.append (List.take lo l) (List.replicate (hi-lo) z)) (List.drop hi l)=(l.take lo++List.replicate (hi-lo) z)++l.drop hi:=rfl
 rw[e]
 constructor
 ·rw[ah,List.take_left' (by rw[List.length_take];omega)]
 ·simp;omega
theorem Iz(n:Nat)(hn:n≤4294967296):∀ (d j i:Nat) (t:List (List Int)),j+d=n→i<j→t.length=n→pE t (i:Int) (j:Int)=some (t.take i++(t.drop j).filter ne,()):=by
 intro d
 induction d with
 | zero =>
  intro j i t hj hi ht
  obtain⟨z1,z2⟩:=R5 i t.length ([]:List Int) t (by omega) rfl
  rw[Gv,aj (by omega),if_pos (by omega),af,z2,if_pos (by omega),z1,List.drop_eq_nil_of_le (by omega),List.filter_nil,List.append_nil]
 | succ d ih =>
  intro j i t hj hi ht
  have hj':j<t.length:=by omega
  rw[Gv,ak (by omega),if_pos (by omega),aS hj',A0,aa,aR hj' (by omega),aR (show i<t.length by omega) (by omega)]
  dsimp only
  rw[ai hj']
  by_cases c:t[j]=[]
  ·rw[if_neg (by simp[c]),List.filter_cons_of_neg (by rw[c];decide)]
   exact ih (j+1) i t (by omega) (by omega) ht
  ·rw[if_pos (by simp[c]),if_pos (by omega),List.filter_cons_of_pos (CW c),af,ih (j+1) (i+1) _ (by omega) (by omega) (by rw[List.length_set];exact ht)]
   congr 2
   have h1:(t.set i t[j]).take (i+1)=t.take i++[t[j]]:=by
    rw[List.take_add_one,List.take_set_of_le (Nat.le_refl _),List.getElem?_set_self (by omega)];rfl
   rw[h1,List.drop_set_of_lt (by omega),ah];rfl
theorem Ae{l:List (List Int)}(h:∀ w∈l,w≠[]):l.filter ne=l:=List.filter_eq_self.2 fun w hw=>CW (h w hw)
theorem uq(t:List (List Int))(ht:t.length≤4294967296):yx t=some (t.filter ne,()):=by
 obtain⟨k,e1,e2,e3,e4,e5⟩:=g9 (fun i=>lz t (t.length:Int) i) () t.length (fun i=>decide (t.getD i []=[]))
  (fun i hi=>by
   show lz t _ _=_
   rw[GG,ak (by omega),if_pos (by omega),aS hi,A0,aa,bj hi,aR hi (by omega)])
  (by show lz t _ _=_;rw[GG,if_neg (by simp)])
 have e1':lz t (t.length:Int) 0=some (k,()):=e1
 rw[Rq,Rw,e1',aa]
 dsimp only
 by_cases c:k = -1
 ·rw[ak c,Ae]
  intro w hw e
  have:cH (fun i=>decide (t.getD i []=[])) t.length=true:=by
   obtain⟨i,hi,rfl⟩:=List.mem_iff_getElem.1 hw
   exact anyB_iff.2 ⟨i,hi,by rw[bj hi,e];rfl⟩
  rw[← e2,ab]at this
  omega
 ·have hk:0≤k:=by
   rcases Int.lt_or_le k 0 with h | h
   ·exact absurd (e5 h) c
   ·exact h
  obtain⟨f1,f2⟩:=e4 hk
  have hkn:k=((k.toNat:Nat):Int):=by omega
  have hkl:k.toNat<t.length:=by omega
  rw[aj c,hkn,aR hkl (by omega),Iz t.length ht (t.length-(k.toNat+1)) (k.toNat+1) k.toNat t (by omega) (by omega) rfl]
  congr 2
  have hs:t=t.take k.toNat++(t[k.toNat]::t.drop (k.toNat+1)):=by rw[← ai hkl,List.take_append_drop]
  have hz:t[k.toNat]=[]:=by have:=f1;rw[bj hkl,ab]at this;exact this
  have hpre:(t.take k.toNat).filter ne=t.take k.toNat:=Ae fun w hw e=>by
   obtain⟨i,hi,rfl⟩:=List.mem_iff_getElem.1 hw
   rw[List.length_take]at hi
   have:=f2 i (by omega)
   rw[List.getElem_take]at e
   rw[bj (by omega),e]at this
   cases this
  rw (occs:=.pos [3]) [hs]
  rw[List.filter_append,List.filter_cons_of_neg (by rw[hz];decide),hpre]
theorem Bn(t:List Int)(ht:t.length≤4294967000):qG t=some (bM t,()):=by
 have hc:=List.count_le_length (a:=(32:Int)) (l:=t)
 have:=sV t
 rw[JT,Qt t ht,aa]
 dsimp only
 rw[uq _ (by omega)]
 rfl
theorem qr(t:List Int):(bM t).length≤t.length+1:=by
 have hc:=List.count_le_length (a:=(32:Int)) (l:=t)
 have:=sV t
 have:=List.length_filter_le ne (spl t)
 unfold bM
 omega
theorem Fq:∀ (l:List Int) (P:Int→Prop),(∀ x∈l,P x)→∀ w∈spl l,(∀ x∈w,P x)∧w.length≤l.length
 | [],P,h,w,hw=>by rw[List.mem_singleton.1 hw];exact⟨fun x hx=>(by cases hx),Nat.le_refl _⟩
 | c::l,P,h,w,hw=>by
  have ih:=Fq l P fun x hx=>h x (List.mem_cons_of_mem _ hx)
  by_cases hc:c=32
  ·rw[spl,if_pos hc]at hw
   rcases List.mem_cons.1 hw with rfl | hw
   ·exact⟨fun x hx=>(by cases hx),Nat.zero_le _⟩
   ·exact⟨(ih w hw).1,by have:=(ih w hw).2;rw[List.length_cons];omega⟩
  ·obtain⟨x,xs,e⟩:=yb l
   rw[sW hc,e]at hw
   rcases List.mem_cons.1 (show w∈([c]++x)::xs from hw)with rfl | hw
   ·obtain⟨g1,g2⟩:=ih x (by rw[e];exact List.mem_cons_self ..)
    refine⟨fun y hy=>?_,by simp;omega⟩
    rcases List.mem_cons.1 (show y∈c::x from hy)with rfl | hy
    ·exact h _ (List.mem_cons_self ..)
    ·exact g1 y hy
   ·obtain⟨g1,g2⟩:=ih w (by rw[e];exact List.mem_cons_of_mem _ hw)
    exact⟨g1,by rw[List.length_cons];omega⟩
theorem z8{l:List Int}{P:Int→Prop}(h:∀ x∈l,P x){w:List Int}(hw:w∈bM l):(∀ x∈w,P x)∧w.length≤l.length:=Fq l P h w (List.mem_filter.1 hw).1
def VG(v:au):Prop:=gC v=true∧Bt v.S
theorem VG.bd{v:au}(h:VG v):Dc v.N∧v.S.length≤300:=by
 have h1:=h.1
 unfold gC at h1
 rw[Bool.and_eq_true,Bool.and_eq_true,ab,Bool.not_eq_true',decide_eq_false_iff_not]at h1
 exact⟨h1.1.1,by have:=h1.1.2;omega⟩
theorem VG.drawn{v:au}(h:VG v):pZ v:=⟨by have:=h.bd.2;omega,h.2⟩
theorem fv{n:Int}(h:Dc n):VG ⟨1,n,[]⟩:=by
 refine⟨?_,fun x hx=>by cases hx⟩
 unfold gC
 unfold Dc at h
 simp[h]
theorem nz{s:List Int}(h:s.length≤300)(hb:Bt s):VG ⟨2,0,s⟩:=by
 refine⟨?_,hb⟩
 unfold gC
 simp;omega
theorem ny:VG ⟨0,0,[]⟩:=by
 refine⟨?_,fun x hx=>by cases hx⟩
 unfold gC
 simp
noncomputable def bm(v:au):Int:=match d9 v with
 | some (n,_)=>n
 | none=>0
theorem bW{v:au}(h:VG v):d9 v=some (bm v,())∧cX v=some (bm v,())∧Dc (bm v):=by
 have key:∃ n,d9 v=some (n,())∧cX v=some (n,())∧Dc n:=by
  obtain⟨hn,hs⟩:=h.bd
  obtain⟨x,e,k1,k2,_,k3⟩:=um v.S (by omega) h.2
  rw[Bg,Eh]
  have key:∀ b:Bool,∃ n,nY v.Kind b v=some (n,())∧oW v.Kind b v=some (n,())∧Dc n:=fun b=>by
   rw[Bf,Eg,k1,k2]
   cases b with
   | true=>exact⟨_,rfl,rfl,hn⟩
   | false =>
    by_cases h2:v.Kind=2
    ·rw[if_neg (by decide),ak h2];exact⟨_,rfl,rfl,k3⟩
    ·rw[if_neg (by decide),aj h2];exact⟨_,rfl,rfl,by unfold Dc;omega⟩
  by_cases h1:v.Kind=1
  ·rw[ak h1,ak h1];exact key _
  ·rw[aj h1,aj h1];exact key _
 obtain⟨n,e1,e2,e3⟩:=key
 have:bm v=n:=by unfold bm;rw[e1]
 rw[this]
 exact⟨e1,e2,e3⟩
theorem zN(n:Nat):Bt (cJ n):=fun x hx=>by have:=(zO n).1 x hx;omega
theorem QM(c:Int)(l:List Int):∀ x∈dq c l,x∈l:=fun x hx=>by
 unfold dq at hx
 rw[List.mem_reverse]at hx
 have:=(List.dropWhile_sublist _).subset hx
 rwa [List.mem_reverse]at this
theorem Iv(n:Int):Bt (gJ n):=by
 intro x hx
 unfold gJ at hx
 split at hx
 ·rcases List.mem_append.1 hx with hx | hx
  ·split at hx
   ·rw[List.mem_singleton.1 hx];omega
   ·cases hx
  ·unfold kj at hx
   rcases List.mem_append.1 hx with hx | hx
   ·exact zN _ x hx
   ·unfold lO at hx
    split at hx
    ·rcases List.mem_cons.1 hx with rfl | hx
     ·omega
     ·exact zN _ x (List.mem_of_mem_drop (QM _ _ x hx))
    ·cases hx
 ·cases hx
theorem dl{v:au}(h:VG v):(aW v).length≤300∧Bt (aW v):=by
 unfold aW
 split
 ·have:=Iw v.N;exact⟨by omega,Iv _⟩
 ·exact⟨h.bd.2,h.2⟩
def jU(v:au):Bool:=if v.Kind=1∨v.Kind=3 then !decide (v.N=0)else if v.Kind=2 then !decide (v.S=[])else false
theorem mY(v:au):nZ v=some (jU v,())∧oX v=some (jU v,()):=by
 rw[Kb,OV]
 simp only[Ka,OU]
 unfold jU
 by_cases c1:v.Kind=1
 ·simp[c1]
 by_cases c3:v.Kind=3
 ·simp[c3]
 by_cases c2:v.Kind=2
 ·simp[c2]
 simp[c1,c2,c3]
noncomputable def d7(a b:au):Int:=match lQ a b with
 | some (n,_)=>n
 | none=>0
theorem zB{a b:au}(ha:VG a)(hb:VG b):lQ a b=some (d7 a b,())∧rV a b=some (d7 a b,()):=by
 obtain⟨c,e1,e2,_⟩:=Ik ha.drawn hb.drawn
 have:d7 a b=c:=by unfold d7;rw[e1]
 rw[this];exact⟨e1,e2⟩
noncomputable def jG(s:List Int):au:=match kz s with
 | some (v,_)=>v
 | none=>aD
theorem my{s:List Int}(hs:s.length≤9223372036854775807)(hb:Bt s):kz s=some (jG s,())∧kX s=some (jG s,())∧VG (jG s):=by
 obtain⟨w,k1,k2⟩:=NO s hs hb
 have:jG s=w:=by unfold jG;rw[k2]
 rw[this]
 have hbt:Bt (s.take 300):=fun x hx=>hb x (List.mem_of_mem_take hx)
 have hl:(s.take 300).length≤300:=by rw[List.length_take];omega
 have hd:decide (((s.take 300).length:Int)>300)=false:=ae (by omega)
 obtain⟨v,ok,l1,l2,l3⟩:=zM (s.take 300) (by omega) hbt
 refine⟨k2,k1,?_⟩
 rw[Bc,ul s hs,aa]at k2
 dsimp only at k2
 rw[l2,aa]at k2
 dsimp only at k2
 have e:ry (s.take 300)=(v,ok):=by unfold ry;rw[l1]
 cases ok with
 | true =>
  have hw:au.mk 3 v (s.take 300)=w:=congrArg Prod.fst (Option.some.inj k2)
  subst hw
  refine⟨?_,hbt⟩
  unfold gC
  dsimp only
  rw[ac l3,e,hd,ac (show(v,true).1=v from rfl)]
  rfl
 | false =>
  rw[if_neg (by decide),jo,aa]at k2
  have hw:au.mk 2 0 (s.take 300)=w:=congrArg Prod.fst (Option.some.inj k2)
  subst hw
  refine⟨?_,hbt⟩
  unfold gC
  dsimp only
  rw[ac (show(-9000000000000:Int)≤0∧(0:Int)≤9000000000000 by omega),hd]
  rfl
def dG(v:au):List Int:=(aW v).take 300
theorem Cd(v:au):(dG v).length≤300:=by unfold dG;rw[List.length_take];omega
theorem gk{v:au}(h:VG v):jf (aW v)=some (dG v,())∧mK v=some (dG v,()):=by
 have hl:=(dl h).1
 refine⟨ul _ (by omega),?_⟩
 rw[Pc,dY,aa]
 dsimp only
 unfold dG
 rw[aj (by omega),List.take_of_length_le hl]
theorem FK{n:Int}(h:Dc n):-9000000≤Int.tdiv n 1000000∧Int.tdiv n 1000000≤9000000:=by
 unfold Dc at h
 rcases Int.lt_or_le n 0 with c | c
 ·have e:Int.tdiv n 1000000 = -(Int.tdiv (-n) 1000000):=by rw[Int.neg_tdiv,Int.neg_neg]
  rw[e,Int.tdiv_eq_ediv_of_nonneg (by omega)];omega
 ·rw[Int.tdiv_eq_ediv_of_nonneg c];omega
theorem QL{n:Int}(h:Dc n):-1000000<Int.tmod n 1000000∧Int.tmod n 1000000<1000000:=by
 have h1:=Int.tmod_lt_of_pos n (show(0:Int)<1000000 by decide)
 have h2:-1000000<Int.tmod n 1000000:=by
  have h3:=Int.tmod_lt_of_pos (-n) (show(0:Int)<1000000 by decide)
  rw[Int.neg_tmod]at h3
  omega
 exact⟨h2,h1⟩
theorem qk{n:Int}(h:Dc n):qC n=some (Int.tdiv n 1000000*1000000,())∧xi n=some (Int.tdiv n 1000000*1000000,())∧Dc (Int.tdiv n 1000000*1000000):=by
 have hb:=FK h
 have hm:=QL h
 have hd:1000000*Int.tdiv n 1000000+Int.tmod n 1000000=n:=Int.mul_tdiv_add_tmod n 1000000
 have hsame:0≤n→0≤Int.tmod n 1000000:=fun h0=>Int.tmod_nonneg _ h0
 have hneg:n≤0→Int.tmod n 1000000≤0:=fun h0=>by
  have:Int.tmod n 1000000 = -(Int.tmod (-n) 1000000):=by rw[Int.neg_tmod,Int.neg_neg]
  rw[this]
  have:=Int.tmod_nonneg (a:=-n) 1000000 (by omega)
  omega
 unfold Dc at h ⊢
 rw[JN,Ov,aF (n:=Int.tdiv n 1000000) (by omega) (by omega),aF (n:=Int.tdiv n 1000000*1000000) (by omega) (by omega),show n-Int.tmod n 1000000=Int.tdiv n 1000000*1000000 by omega,aF (by omega) (by omega)]
 exact⟨rfl,rfl,by omega⟩
noncomputable def bX(v:au):Int:=Int.tdiv (bm v) 1000000
theorem mZ{v:au}(h:VG v):ow v=some (bX v,())∧w64 (Int.tdiv (bm v) 1000000)=bX v∧(-9000000≤bX v∧bX v≤9000000):=by
 obtain⟨e1,e2,e3⟩:=bW h
 have hb:=FK e3
 have e4:=(qk e3).1
 unfold bX
 refine⟨?_,aF (by omega) (by omega),hb⟩
 rw[Lj,e1,aa]
 dsimp only
 rw[e4,aa]
 dsimp only
 rw[Int.mul_tdiv_cancel _ (by decide),aF (by omega) (by omega)]
noncomputable def nM(line:List Int)(n:Int):au :=
 if n=0 then jG line else if 1≤n∧n≤((bM line).length:Int)then jG ((bM line).getD (n-1).toNat [])else jG []
theorem z7{line:List Int}(hl:line.length≤4294967000)(hb:Bt line)(n:Int):vh line n=some (nM line n,())∧VG (nM line n):=by
 have hf:=qr line
 obtain⟨r1,_,r3⟩:=my (s:=line) (by omega) hb
 obtain⟨z1,_,z3⟩:=my (s:=[]) (by simp) (fun x hx=>by cases hx)
 rw[Kq]
 unfold nM
 by_cases c:n=0
 ·rw[ak c,if_pos c,r1];exact⟨rfl,r3⟩
 ·rw[aj c,if_neg c,Bn line hl,aa,ey,aa]
  dsimp only
  by_cases d:1≤n∧n≤((bM line).length:Int)
  ·have hi:(n-1).toNat<(bM line).length:=by omega
   obtain⟨g1,g2⟩:=z8 (P:=fun x=>0≤x∧x≤255) hb (List.getElem_mem hi)
   obtain⟨q1,_,q3⟩:=my (s:=(bM line)[(n-1).toNat]) (by omega) g1
   rw[ak d,if_pos d,aF (by omega) (by omega),if_pos (by omega),bj hi,q1]
   exact⟨rfl,q3⟩
  ·rw[aj d,if_neg d,z1];exact⟨rfl,z3⟩
theorem wy:∀ a b:List Int,ltS a b=false→ltS b a=false→a=b
 | [],[],_,_=>rfl
 | [],y::b,h,_=>by cases h
 | x::a,[],_,h=>by cases h
 | x::a,y::b,h,g=>by
  unfold ltS at h g
  rw[Bool.or_eq_false_iff,decide_eq_false_iff_not]at h g
  have e:x=y:=by omega
  subst e
  rw[ac rfl,Bool.true_and]at h g
  rw[wy a b h.2 g.2]
theorem CL:∀ a b c:List Int,ltS a b=true→ltS b c=true→ltS a c=true
 | a,[],c,h,_=>by cases a <;> cases h
 | a,y::b,[],_,h=>by cases h
 | [],y::b,z::c,_,_=>rfl
 | x::a,y::b,z::c,h,g=>by
  unfold ltS at h g ⊢
  rw[Bool.or_eq_true,Bool.and_eq_true,ab,ab]at h g ⊢
  rcases h with h | ⟨h1,h2⟩
  ·rcases g with g | ⟨g1,g2⟩
   ·exact .inl (by omega)
   ·exact .inl (by omega)
  ·rcases g with g | ⟨g1,g2⟩
   ·exact .inl (by omega)
   ·exact .inr ⟨by omega,CL a b c h2 g2⟩
theorem uf{a b:al}:bU a b=true↔a.Name<b.Name∨(a.Name=b.Name∧ltS a.Key b.Key=true):=by
 unfold bU
 rw[Bool.or_eq_true,Bool.and_eq_true,ab,ab]
theorem ug{a b c:al}(h:bU a b=true)(g:bU b c=true):bU a c=true:=by
 rw[uf]at *
 rcases h with h | ⟨h1,h2⟩
 ·rcases g with g | ⟨g1,g2⟩
  ·exact .inl (by omega)
  ·exact .inl (by omega)
 ·rcases g with g | ⟨g1,g2⟩
  ·exact .inl (by omega)
  ·exact .inr ⟨by omega,CL _ _ _ h2 g2⟩
theorem H0{a b:al}(h:bU a b=false)(hk:¬ (a.Name=b.Name∧a.Key=b.Key)):bU b a=true:=by
 rw[uf]
 have h':¬ (a.Name<b.Name∨(a.Name=b.Name∧ltS a.Key b.Key=true)):=by rw[← uf,h];decide
 by_cases c:b.Name<a.Name
 ·exact .inl c
 ·have e:b.Name=a.Name:=by
   rcases Int.lt_trichotomy a.Name b.Name with h | h | h
   ·exact absurd (.inl h) h'
   ·exact h.symm
   ·omega
  refine .inr ⟨e,?_⟩
  cases g:ltS b.Key a.Key with
  | true=>rfl
  | false =>
   have g2:ltS a.Key b.Key=false:=by
    cases g3:ltS a.Key b.Key with
    | false=>rfl
    | true=>exact absurd (.inr ⟨e.symm,g3⟩) h'
   exact absurd ⟨e.symm,wy _ _ g2 g⟩ hk
theorem Hz(a b:al)(hk:¬ (a.Name=b.Name∧a.Key=b.Key)):∃ k,ve a b=some (k,())∧decide (k>0) = !bU a b:=by
 rw[Kk,Qz,aa]
 unfold bU
 by_cases h:a.Name<b.Name
 ·rw[ak h,ac h];exact⟨_,rfl,rfl⟩
 ·rw[aj h,ae h]
  by_cases g:a.Name>b.Name
  ·rw[ak g,ae (by omega)];exact⟨_,rfl,rfl⟩
  ·have e:a.Name=b.Name:=by omega
   rw[aj g,ac e]
   refine⟨_,rfl,?_⟩
   dsimp only
   unfold bV
   cases h1:ltS a.Key b.Key with
   | true=>rfl
   | false =>
    cases h2:ltS b.Key a.Key with
    | true=>rfl
    | false=>exact absurd ⟨e,wy _ _ h1 h2⟩ hk
def atP(n:Int)(k:List Int)(c:al):Bool:=decide (c.Name=n)&&decide (c.Key=k)
theorem atP_iff{n:Int}{k:List Int}{c:al}:atP n k c=true↔c.Name=n∧c.Key=k:=by
 unfold atP;rw[Bool.and_eq_true,ab,ab]
def atV(l:List al)(n:Int)(k:List Int):Int:=if l.any (atP n k)=true then(l.findIdx (atP n k):Int)else -1
theorem uE{α:Type}{l:List α}{p:α→Bool}{z:α}{k:Int}(h0:0≤k)(hl:k<(l.length:Int))(h1:p (l.getD k.toNat z)=true)(h2:∀ j:Nat,(j:Int)<k→p (l.getD j z)=false):(l.findIdx p:Int)=k:=by
 have hk:k.toNat<l.length:=by omega
 have h3:l.findIdx p=k.toNat:=by
  rw[List.findIdx_eq hk]
  refine⟨by rw[← bj hk z];exact h1,fun j hj=>?_⟩
  rw[← bj (by omega) z]
  exact h2 j (by omega)
 rw[h3];omega
theorem vd(s:ar)(n:Int)(k:List Int)(hl:s.Cells.length≤100000):oa s n k=some (atV s.Cells n k,()):=by
 obtain⟨v,e1,e2,e3,e4,e5⟩:=g9 (fun i=>lx s.Cells (s.Cells.length:Int) i n k) (n,k,()) s.Cells.length (fun i=>atP n k (s.Cells.getD i bf))
  (fun i hi=>by
   show lx s.Cells _ _ n k=_
   rw[GA,ak (by omega),if_pos (by omega),aS hi,Ki,bj hi,aR hi (by omega)]
   unfold atP
   by_cases c:s.Cells[i].Name=n
   ·rw[ac c,if_pos rfl,aa,Bool.true_and]
   ·rw[ae c,if_neg (by decide),aa,Bool.false_and])
  (by show lx s.Cells _ _ n k=_;rw[GA,if_neg (by simp)])
 have e1':lx s.Cells (s.Cells.length:Int) 0 n k=some (v,n,k,()):=e1
 rw[Kj,Rt,e1',aa]
 dsimp only
 congr 2
 unfold atV
 rw[er s.Cells bf (atP n k)]at e2
 by_cases c:0≤v
 ·rw[← e2,ak c]
  exact(uE c e3 (e4 c).1 (e4 c).2).symm
 ·rw[← e2,aj c]
  exact e5 (by omega)
theorem xz(s:ar)(n:Int)(k:List Int)(hl:s.Cells.length≤100000):oY s n k=some (atV s.Cells n k,()):=by
 obtain⟨v,e1,e2,e3,e4,e5⟩:=g9 (fun i=>jN n k i s) () s.Cells.length (fun i=>atP n k (s.Cells.getD i bf))
  (fun i hi=>by
   show jN n k _ s=_
   rw[Ej,ak (by omega),if_pos (by omega),aS hi,bj hi,aR hi (by omega)]
   unfold atP
   by_cases c:s.Cells[i].Name=n
   ·rw[ac c,if_pos rfl,if_pos (by omega),Bool.true_and]
   ·rw[ae c,if_neg (by decide),Bool.false_and,if_neg (by decide)])
  (by show jN n k _ s=_;rw[Ej,if_neg (by simp)])
 have e1':jN n k 0 s=some (v,()):=e1
 rw[O2,e1']
 congr 2
 unfold atV
 rw[er s.Cells bf (atP n k)]at e2
 by_cases c:0≤v
 ·rw[← e2,ak c]
  exact(uE c e3 (e4 c).1 (e4 c).2).symm
 ·rw[← e2,aj c]
  exact e5 (by omega)
theorem kd(l:List al)(n:Int)(k:List Int):(atV l n k = -1∧∀ c∈l,¬ (c.Name=n∧c.Key=k))∨(0≤atV l n k∧atV l n k<(l.length:Int)):=by
 unfold atV
 by_cases c:l.any (atP n k)=true
 ·rw[if_pos c]
  have:=List.findIdx_lt_length_of_exists (xs:=l) (p:=atP n k) (by obtain⟨x,hx,e⟩:=List.any_eq_true.1 c;exact⟨x,hx,e⟩)
  exact .inr (by omega)
 ·rw[if_neg c]
  refine .inl ⟨rfl,fun x hx h=>c (List.any_eq_true.2 ⟨x,hx,atP_iff.2 h⟩)⟩
def ge(l:List al)(n:Int)(k:List Int):au:=if atV l n k<0 then aD else(l.getD (atV l n k).toNat bf).Val
theorem qy(s:ar)(n:Int)(k:List Int)(hl:s.Cells.length≤100000):qz s n k=some (ge s.Cells n k,())∧rS s n k=some (ge s.Cells n k,()):=by
 rw[JE,Oj,vd s n k hl,xz s n k hl]
 simp only[aa]
 unfold ge
 rcases kd s.Cells n k with ⟨h,_⟩ | h
 ·rw[ak (by omega),if_pos (c:=atV s.Cells n k<0) (by omega)];exact⟨rfl,rfl⟩
 ·rw[aj (by omega),if_pos h,if_neg (c:=atV s.Cells n k<0) (by omega)];exact⟨rfl,rfl⟩
def dh(l:List al)(c:al):Nat:=l.findIdx fun x=>!bU x c
def gu(l:List al)(n:Int)(k:List Int)(v:au):Option (List al) :=
 if 0≤atV l n k then some (l.set (atV l n k).toNat ⟨(l.getD (atV l n k).toNat bf).Name,(l.getD (atV l n k).toNat bf).Key,v⟩)
 else if 40≤l.length then none else some (dg l (dh l ⟨n,k,v⟩) [⟨n,k,v⟩])
theorem qg{s:ar}(hv:s.Vars.length≤100000)(hc:s.Cells.length≤100000):mG s=some (s,()):=by
 rw[O3,if_pos (by rw[aN];omega),if_pos (by rw[aN];omega)];rfl
theorem H7(l:List au)(h:l.length≤100000):tk l=some (l,()):=by
 rw[Gu]
 cases l with
 | nil=>rw[if_pos (c:=Nat.beq (List.length ([]:List au)) 0=true) rfl,if_pos (by rw[aN];simp)];exact yZ _
 | cons v l=>rw[if_neg (c:=Nat.beq (List.length (v::l)) 0=true) (show ¬ (false=true) by decide),if_pos (by rw[aN];omega)];rfl
theorem H6(l:List al)(h:l.length≤100000):yt l=some (l,()):=by
 rw[Rk]
 cases l with
 | nil=>rw[if_pos (c:=Nat.beq (List.length ([]:List al)) 0=true) rfl,if_pos (by rw[aN];simp)];exact yZ _
 | cons v l=>rw[if_neg (c:=Nat.beq (List.length (v::l)) 0=true) (show ¬ (false=true) by decide),if_pos (by rw[aN];omega)];rfl
theorem qf{s:ar}(hv:s.Vars.length≤100000)(hc:s.Cells.length≤100000):lU s=some (s,()):=by
 rw[Kl,H7 _ hv,H6 _ hc];rfl
theorem Dv(l:List al)(c:al):dh l c≤l.length:=List.findIdx_le_length
theorem NI(s:ar)(n:Int)(k:List Int)(v:au)(hv:s.Vars.length≤100000)(hl:s.Cells.length≤100000) :
  uN s n k v=some (match gu s.Cells n k v with | some C=>(⟨s.Vars,C,s.Nr,s.Err⟩,true,()) | none=>(s,false,())):=by
 rw[JG,qf hv hl,vd s n k hl,aa,aa]
 dsimp only
 unfold gu
 rcases kd s.Cells n k with ⟨h,hno⟩ | h
 ·rw[aj (by omega),if_neg (c:=0≤atV s.Cells n k) (by omega)]
  by_cases c:40≤s.Cells.length
  ·rw[ak (by omega),if_pos c]
  ·rw[aj (by omega),if_neg c]
   obtain⟨j,e1,e2,e3,e4,e5⟩:=g9 (fun i=>lv s.Cells (s.Cells.length:Int) i ⟨n,k,v⟩) ((⟨n,k,v⟩:al),()) s.Cells.length (fun i=>!bU (s.Cells.getD i bf) ⟨n,k,v⟩)
    (fun i hi=>by
     show lv s.Cells _ _ _=_
     obtain⟨q,g1,g2⟩:=Hz s.Cells[i] ⟨n,k,v⟩ (hno _ (List.getElem_mem hi))
     rw[Gy,ak (by omega),if_pos (by omega),aS hi,JF,g1,aa,aa,bj hi,aR hi (by omega)]
     dsimp only
     rw[g2])
    (by show lv s.Cells _ _ _=_;rw[Gy,if_neg (by simp)])
   have e1':lv s.Cells (s.Cells.length:Int) 0 ⟨n,k,v⟩=some (j,⟨n,k,v⟩,()):=e1
   rw[Rs,e1',aa]
   dsimp only
   rw[er s.Cells bf (fun x=>!bU x ⟨n,k,v⟩)]at e2
   have hins:∀ q:Int,q=(dh s.Cells ⟨n,k,v⟩:Int)→tm s.Cells q [⟨n,k,v⟩]=some (dg s.Cells (dh s.Cells ⟨n,k,v⟩) [⟨n,k,v⟩],()):=fun q hq=>by
    have:=Dv s.Cells ⟨n,k,v⟩
    subst hq
    rw[RA]
    unfold ma
    rw[if_pos ⟨⟨by omega,by omega⟩,rfl,by omega⟩,af]
   by_cases c2:j<0
   ·have hz:(s.Cells.any fun x=>!bU x ⟨n,k,v⟩)=false:=by rw[← e2];exact ae (by omega)
    have hp:dh s.Cells ⟨n,k,v⟩=s.Cells.length:=by
     unfold dh
     rw[List.findIdx_eq_length]
     intro x hx
     have:=List.any_eq_false.1 hz x hx
     simpa using this
    rw[ak c2,hins _ (by rw[hp])];rfl
   ·have hp:(dh s.Cells ⟨n,k,v⟩:Int)=j:=uE (p:=fun x=>!bU x ⟨n,k,v⟩) (z:=bf) (by omega) e3 (e4 (by omega)).1 (e4 (by omega)).2
    rw[aj c2,hins _ hp.symm];rfl
 ·rw[ak (by omega),if_pos h,if_pos h.1]
theorem NJ(s:ar)(n:Int)(k:List Int)(v:au)(hv:s.Vars.length≤100000)(hl:s.Cells.length≤100000) :
  xf s n k v=some (match gu s.Cells n k v with | some C=>(⟨s.Vars,C,s.Nr,s.Err⟩,true,()) | none=>(s,false,())):=by
 rw[Ol,qg hv hl,xz s n k hl,aa,aa]
 dsimp only
 unfold gu
 rcases kd s.Cells n k with ⟨h,hno⟩ | h
 ·rw[aj (by omega),if_neg (c:=0≤atV s.Cells n k) (by omega)]
  by_cases c:40≤s.Cells.length
  ·rw[ak (by omega),if_pos c]
  ·rw[aj (by omega),if_neg c]
   have fin:∀ i:Nat,i≤s.Cells.length→(List.append (List.append (List.append [] (List.take ((i:Int).toNat-0) (List.drop 0 s.Cells))) [(al.mk n k v)]) (List.take ((List.length s.Cells)-(i:Int).toNat) (List.drop (i:Int).toNat s.Cells)))=dg s.Cells i [⟨n,k,v⟩]:=fun i hi=>by
    unfold dg
    simp only[af,Nat.sub_zero,List.drop_zero]
    rw[List.take_of_length_le (i:=s.Cells.length-i) (by rw[List.length_drop];omega)]
    show([]++s.Cells.take i)++[(⟨n,k,v⟩:al)]++s.Cells.drop i=_
    simp
   have key:∀ (d i:Nat),i+d=s.Cells.length→(∀ j,j<i→bU (s.Cells.getD j bf) ⟨n,k,v⟩=true)→rT n k (i:Int) s v pH s=some (⟨s.Vars,dg s.Cells (dh s.Cells ⟨n,k,v⟩) [⟨n,k,v⟩],s.Nr,s.Err⟩,true,()):=by
    intro d
    induction d with
    | zero =>
     intro i hi hj
     have hp:dh s.Cells ⟨n,k,v⟩=i:=by
      rw[show i=s.Cells.length by omega]
      unfold dh
      rw[List.findIdx_eq_length]
      intro x hx
      obtain⟨j,hj',rfl⟩:=List.mem_iff_getElem.1 hx
      have:=hj j (by omega)
      rw[bj hj']at this
      rw[this];rfl
     rw[DT,aj (by omega),if_pos (by omega),if_pos (by rw[aN];simp;omega),if_pos (by rw[aN];simp;omega),if_pos (by omega),if_pos (by rw[aN];simp;omega),fin i (by omega),hp]
    | succ d ih =>
     intro i hi hj
     have hi':i<s.Cells.length:=by omega
     rw[DT,ak (by omega),if_pos (by omega),aS hi',O5,aa]
     dsimp only
     rw[show(decide (s.Cells[i].Name<n)||(decide (s.Cells[i].Name=n)&&ltS s.Cells[i].Key k))=bU s.Cells[i] ⟨n,k,v⟩from rfl]
     cases c3:bU s.Cells[i] ⟨n,k,v⟩ with
     | true =>
      rw[if_pos rfl,aR hi' (by omega)]
      refine ih (i+1) (by omega) fun j hji=>?_
      by_cases e:j=i
      ·subst e;rw[bj hi'];exact c3
      ·exact hj j (by omega)
     | false =>
      have hp:dh s.Cells ⟨n,k,v⟩=i:=by
       unfold dh
       rw[List.findIdx_eq hi']
       refine⟨by rw[c3];rfl,fun j hji=>?_⟩
       have:=hj j hji
       rw[bj (by omega)]at this
       rw[this];rfl
      rw[if_neg (by decide),if_pos (by omega),if_pos (by rw[aN];simp;omega),if_pos (by rw[aN];simp;omega),if_pos (by omega),if_pos (by rw[aN];simp;omega),fin i (by omega),hp]
   exact key s.Cells.length 0 (by omega) fun j hj=>absurd hj (by omega)
 ·rw[ak (by omega),if_pos h,if_pos h.1]
def lK(l:List al)(n:Int)(k:List Int):List al:=if 0≤atV l n k then eQ l (atV l n k).toNat ((atV l n k).toNat+1)else l
theorem zU(s:ar)(n:Int)(k:List Int)(hv:s.Vars.length≤100000)(hl:s.Cells.length≤100000):uM s n k=some (⟨s.Vars,lK s.Cells n k,s.Nr,s.Err⟩,())∧xe s n k=some (⟨s.Vars,lK s.Cells n k,s.Nr,s.Err⟩,()):=by
 rw[JD,Oi,qf hv hl,qg hv hl,vd s n k hl,xz s n k hl]
 simp only[aa]
 unfold lK
 rcases kd s.Cells n k with ⟨h,hno⟩ | h
 ·have h1:¬ decide (atV s.Cells n k≥0)=true:=by rw[ab];omega
  rw[if_neg h1,if_neg h1,if_neg (c:=0≤atV s.Cells n k) (by omega)];exact⟨rfl,rfl⟩
 ·have h1:decide (atV s.Cells n k≥0)=true:=ac (by omega)
  have hw:w64 (atV s.Cells n k+1)=atV s.Cells n k+1:=aF (by omega) (by omega)
  rw[if_pos h1,if_pos h1,if_pos h.1,hw]
  have e0:(atV s.Cells n k+1).toNat=(atV s.Cells n k).toNat+1:=by omega
  constructor
  ·rw[Rr]
   unfold lI
   rw[if_pos (by omega),e0];rfl
  ·rw[if_pos (by omega),if_pos (by rw[aN];simp;omega),if_pos (by omega),if_pos (by rw[aN];simp;omega),e0]
   congr 3
   unfold eQ
   rw[List.take_of_length_le (i:=s.Cells.length-((atV s.Cells n k).toNat+1)) (by rw[List.length_drop];omega),Nat.sub_zero,List.drop_zero]
   rfl
def CG(nc:Int)(l:List al):Prop:=l.length≤40∧(∀ c∈l,0≤c.Name∧c.Name<nc∧c.Key.length≤300∧VG c.Val)∧l.Pairwise fun a b=>bU a b=true
theorem qx{nc:Int}{l:List al}(h:CG nc l)(n:Int)(k:List Int):VG (ge l n k):=by
 unfold ge
 split
 ·exact ny
 ·rcases kd l n k with h1 | h1
  ·omega
  ·rw[bj (by omega)];exact(h.2.1 _ (List.getElem_mem _)).2.2.2
theorem NH{nc:Int}{l l':List al}(h:CG nc l){n:Int}{k:List Int}{v:au}(hn:0≤n∧n<nc)(hk:k.length≤300)(hv:VG v)(e:gu l n k v=some l'):CG nc l':=by
 obtain⟨h1,h2,h3⟩:=h
 unfold gu at e
 by_cases c:0≤atV l n k
 ·rw[if_pos c]at e
  have e:=Option.some.inj e
  have hb:(atV l n k).toNat<l.length:=by
   rcases kd l n k with h | h <;> omega
  rw[bj hb]at e
  subst e
  refine⟨by rw[List.length_set];exact h1,fun x hx=>?_,?_⟩
  ·rcases List.mem_or_eq_of_mem_set hx with hx | hx
   ·exact h2 x hx
   ·obtain⟨g1,g2,g3,g4⟩:=h2 _ (List.getElem_mem hb)
    rw[hx];exact⟨g1,g2,g3,hv⟩
  ·rw[List.pairwise_iff_getElem]at h3 ⊢
   intro i j hi hj hij
   rw[List.length_set]at hi hj
   have hcong:∀ (q:Nat) (hq:q<l.length),((l.set (atV l n k).toNat ⟨l[(atV l n k).toNat].Name,l[(atV l n k).toNat].Key,v⟩)[q]'(by rw[List.length_set];exact hq)).Name=l[q].Name∧((l.set (atV l n k).toNat ⟨l[(atV l n k).toNat].Name,l[(atV l n k).toNat].Key,v⟩)[q]'(by rw[List.length_set];exact hq)).Key=l[q].Key:=fun q hq=>by
    rw[List.getElem_set]
    split
    ·rename_i hqe;subst hqe;exact⟨rfl,rfl⟩
    ·exact⟨rfl,rfl⟩
   have:=h3 i j hi hj hij
   unfold bU at this ⊢
   rw[(hcong i hi).1,(hcong i hi).2,(hcong j hj).1,(hcong j hj).2]
   exact this
 ·rw[if_neg c]at e
  by_cases d:40≤l.length
  ·rw[if_pos d]at e;cases e
  ·rw[if_neg d]at e
   have e:=Option.some.inj e
   subst e
   have hp:=Dv l ⟨n,k,v⟩
   have hno:∀ x∈l,¬ (x.Name=n∧x.Key=k):=by
    rcases kd l n k with h | h
    ·exact h.2
    ·omega
   refine⟨by rw[B8 hp];simp;omega,fun x hx=>?_,?_⟩
   ·unfold dg at hx
    rcases List.mem_append.1 hx with hx | hx
    ·exact h2 x (List.mem_of_mem_take hx)
    ·rcases List.mem_append.1 hx with hx | hx
     ·rw[List.mem_singleton.1 hx];exact⟨hn.1,hn.2,hk,hv⟩
     ·exact h2 x (List.mem_of_mem_drop hx)
   ·unfold dg
    have hA:∀ x∈l.take (dh l ⟨n,k,v⟩),bU x ⟨n,k,v⟩=true:=fun x hx=>by
     obtain⟨i,hi,rfl⟩:=List.mem_iff_getElem.1 hx
     rw[List.length_take]at hi
     rw[List.getElem_take]
     have:=List.not_of_lt_findIdx (xs:=l) (p:=fun x=>!bU x ⟨n,k,v⟩) (i:=i) (by unfold dh at hi;omega)
     simpa using this
    have hB:∀ x∈l.drop (dh l ⟨n,k,v⟩),bU ⟨n,k,v⟩ x=true:=fun x hx=>by
     obtain⟨i,hi,rfl⟩:=List.mem_iff_getElem.1 hx
     rw[List.length_drop]at hi
     rw[List.getElem_drop]
     have hlt:dh l ⟨n,k,v⟩<l.length:=by omega
     have h0:bU l[dh l ⟨n,k,v⟩] ⟨n,k,v⟩=false:=by
      have h5:(!bU l[dh l ⟨n,k,v⟩] ⟨n,k,v⟩)=true:=List.findIdx_getElem (xs:=l) (p:=fun x=>!bU x ⟨n,k,v⟩) (w:=hlt)
      rwa [Bool.not_eq_true']at h5
     have h4:=H0 h0 (hno _ (List.getElem_mem hlt))
     by_cases e0:i=0
     ·subst e0;exact h4
     ·exact ug h4 (List.pairwise_iff_getElem.1 h3 _ _ hlt (by omega) (by omega))
    rw[List.pairwise_append]
    refine⟨h3.sublist (List.take_sublist _ _),?_,fun x hx y hy=>?_⟩
    ·show List.Pairwise _ ((⟨n,k,v⟩:al)::l.drop _)
     rw[List.pairwise_cons]
     exact⟨hB,h3.sublist (List.drop_sublist _ _)⟩
    ·rcases List.mem_append.1 hy with hy | hy
     ·rw[List.mem_singleton.1 hy];exact hA x hx
     ·exact ug (hA x hx) (hB y hy)
theorem II{nc:Int}{l:List al}(h:CG nc l)(n:Int)(k:List Int):CG nc (lK l n k):=by
 unfold lK
 split
 ·have hs:(eQ l (atV l n k).toNat ((atV l n k).toNat+1)).Sublist l:=by
   unfold eQ
   have h1:(l.take (atV l n k).toNat++l.drop ((atV l n k).toNat+1)).Sublist (l.take (atV l n k).toNat++l.drop (atV l n k).toNat):=(List.Sublist.refl _).append (by rw[← List.drop_drop];exact List.drop_sublist _ _)
   rwa [List.take_append_drop]at h1
  exact⟨Nat.le_trans hs.length_le h.1,fun c hc=>h.2.1 c (hs.subset hc),h.2.2.sublist hs⟩
 ·exact h
end Go.Proofs.YtjglhackafgjiaaGreatDoor.E.TB
