/- What the pure statement needs (1). No condition. -/
import Derived.Test.YtijfhaljjmhibaaGreatDoorEG4
import Derived.Laws.BitsLemmas
import Derived.Test.YtijfhaljjmhibaaGreatDoorTVe1
import Derived.Test.YtijfhaljjmhibaaGreatDoorTVe2
import Derived.Test.YtijfhaljjmhibaaGreatDoorTVe3
namespace Go.Proofs.YtijfhaljjmhibaaGreatDoor.E
set_option linter.unusedVariables false
theorem aa{α β:Type _}(a:α)(f:α→Option β):(some a).bind f=f a:=rfl
theorem ab{p:Prop}[Decidable p]:(decide p=true)=p:=decide_eq_true_eq
theorem ac{p:Prop}[Decidable p](a:p):decide p=true:=decide_eq_true a
theorem ae{p:Prop}[Decidable p](a:¬p):decide p=false:=decide_eq_false a
theorem af(n:Nat):((n:Int)).toNat=n:=Int.toNat_natCast n
theorem ag{α:Type _}{x y:List α}:(x++y).length=x.length+y.length:=List.length_append
theorem ah{α:Type _}(x y z:List α):x++y++z=x++(y++z):=List.append_assoc x y z
theorem ai{α:Type _}{i:Nat}{l:List α}(h:i<l.length):l.drop i=l[i]::l.drop (i+1):=List.drop_eq_getElem_cons h
theorem aj{α:Sort _}{p:Prop}[Decidable p]{a b:α}(h:¬p):(if decide p=true then a else b)=b:=if_neg (by rw[decide_eq_true_eq];exact h)
theorem ak{α:Sort _}{p:Prop}[Decidable p]{a b:α}(h:p):(if decide p=true then a else b)=a:=if_pos (decide_eq_true h)
theorem aI{n:Int}(h:-9223372036854775808≤n)(h':n≤9223372036854775807):w64 n=n:=by
 show IntKind.i64.wrap n=n
 rw[IntKind.wrap_i64];omega
theorem zh{n:Int}(h:0≤n)(h':n≤255):w8 n=n:=by
 show IntKind.u8.wrap n=n
 rw[IntKind.wrap_u8];omega
theorem SF(n:Int):0≤w8 n∧w8 n≤255:=by
 show 0≤IntKind.u8.wrap n∧IntKind.u8.wrap n≤255
 rw[IntKind.wrap_u8];omega
theorem aS{i:Nat}{n:Nat}(h:i<n)(hn:n≤9223372036854775807):w64 ((i:Int)+1)=((i+1:Nat):Int):=by
 rw[aI (by omega) (by omega)];omega
theorem aR:room=4294967296:=rfl
theorem qF{ρ:Type}(a:Option ρ):amb a a=a:=by unfold amb;rw[if_pos rfl]
theorem bk{α:Type}{l:List α}{i:Nat}(h:i<l.length)(z:α):l.getD i z=l[i]:=by
 rw[List.getD_eq_getElem?_getD,List.getElem?_eq_getElem h];rfl
theorem aW{α:Type}{l:List α}{i:Nat}(h:i<l.length)(z:α):l.getD (i:Int).toNat z=l[i]:=by
 rw[af];exact bk h z
theorem tK{α β:Type}(L:List β→Int→Option (List β×Unit))(f:α→β)(l:List α)
  (step:∀ (acc:List β) (i:Nat) (h:i<l.length),acc.length=l.length→L acc i=L (acc.set i (f l[i])) ((i+1:Nat):Int))
  (stop:∀ acc:List β,acc.length=l.length→L acc (l.length:Int)=some (acc,())) (acc:List β) (ha:acc.length=l.length):L acc 0=some (l.map f,()):=by
 have key:∀ (d i:Nat) (acc:List β),acc.length=l.length→i+d=l.length→(∀ j (hj:j<i) (h:j<l.length),acc[j]? = some (f l[j]))→L acc (i:Int)=some (l.map f,()):=by
  intro d
  induction d with
  | zero =>
   intro i acc ha hd hj
   have hi:i=l.length:=by omega
   subst hi
   rw[stop acc ha]
   congr 2
   apply List.ext_getElem?
   intro j
   by_cases h:j<l.length
   ·rw[hj j h h,List.getElem?_map,List.getElem?_eq_getElem h];rfl
   ·rw[List.getElem?_eq_none (by omega),List.getElem?_eq_none (by rw[List.length_map];omega)]
  | succ d ih =>
   intro i acc ha hd hj
   have hi:i<l.length:=by omega
   rw[step acc i hi ha]
   refine ih (i+1) _ (by rw[List.length_set];exact ha) (by omega) fun j hji h=>?_
   by_cases e:i=j
   ·subst e
    rw[List.getElem?_set_self (by omega)]
   ·rw[List.getElem?_set_ne e]
    exact hj j (by omega) h
 exact key l.length 0 acc ha (by omega) fun j hj _=>absurd hj (by omega)
theorem qE{ρ α:Type}(L:Int→Option ρ)(l:List α)(y:Option ρ)(step:∀ (i:Nat) (h:i<l.length),L i=L ((i+1:Nat):Int))(stop:L (l.length:Int)=y):L 0=y:=by
 have key:∀ (d i:Nat),i+d=l.length→L (i:Int)=y:=by
  intro d
  induction d with
  | zero=>intro i hd;rw[show i=l.length by omega];exact stop
  | succ d ih=>intro i hd;rw[step i (by omega)];exact ih (i+1) (by omega)
 exact key l.length 0 (by omega)
theorem mc{α:Type}{l:List α}{i:Nat}(h:i<l.length)(a z:α):(l.set i a).getD i z=a:=by
 rw[List.getD_eq_getElem?_getD,List.getElem?_set_self h];rfl
theorem y8{α:Type}(L:Int→Int→Option (Int×Unit))(S:α→Int→Option (Int×Unit))(l:List α)(Q:α→Prop)(hl:l.length≤9223372036854775807)
  (hS:∀ x∈l,∀ k:Int,0≤k→k≤1048576→∃ r,S x k=some (r,())∧r≤1048576∧(0≤r→Q x))
  (stop:∀ k,L k (l.length:Int)=some (k,()))
  (step:∀ (k:Int) (i:Nat) (h:i<l.length),L k i=(S l[i] k).bind fun(r0:Int×Unit)=>if(decide (r0.1<0))=true then some ((-1),())else L r0.1 ((i+1:Nat):Int))
  (n:Int) (h0:0≤n) (h1:n≤1048576):∃ r,L n 0=some (r,())∧r≤1048576∧(0≤r→∀ x∈l,Q x):=by
 have key:∀ (d i:Nat) (k:Int),i+d=l.length→0≤k→k≤1048576→∃ r,L k i=some (r,())∧r≤1048576∧(0≤r→∀ j (h:j<l.length),i≤j→Q l[j]):=by
  intro d
  induction d with
  | zero =>
   intro i k hd k0 k1
   have hi:i=l.length:=by omega
   subst hi
   exact⟨k,stop k,k1,fun _ j hj hij=>by omega⟩
  | succ d ih =>
   intro i k hd k0 k1
   have hi:i<l.length:=by omega
   obtain⟨r,e1,e2,e3⟩:=hS l[i] (List.getElem_mem hi) k k0 k1
   rw[step k i hi,e1,aa]
   by_cases h:r<0
   ·rw[ak h]
    exact⟨-1,rfl,by omega,fun h=>by omega⟩
   ·rw[aj h]
    obtain⟨r',g1,g2,g3⟩:=ih (i+1) r (by omega) (by omega) e2
    refine⟨r',g1,g2,fun hr j hj hij=>?_⟩
    by_cases e:j=i
    ·subst e;exact e3 (by omega)
    ·exact g3 hr j hj (by omega)
 obtain⟨r,e1,e2,e3⟩:=key l.length 0 n (by omega) h0 h1
 exact⟨r,e1,e2,fun hr x hx=>by
  obtain⟨j,hj,rfl⟩:=List.mem_iff_getElem.1 hx
  exact e3 hr j hj (by omega)⟩
theorem DX{α:Type}(L:List α→Int→Int→Option (Int×List α×Unit))(H:List α→Int→Int→Option (Int×Unit))(P:α→Prop)(b:Nat)(bd:Int)
  (stop:∀ a k,L a k (a.length:Int)=some (k,a,())) (hstop:∀ a k,H a k (a.length:Int)=some (k,()))
  (step:∀ (a:List α) (k:Int) (i:Nat) (h:i<a.length),a.length≤4294967296→P a[i]→0≤k→k+b≤bd →
   ∃ y k',L a k i=L (a.set i y) k' ((i+1:Nat):Int)∧k≤k'∧k'≤k+b∧∀ (c:List α) (hc:i<c.length),c.length≤4294967296→c[i]=y→H c k i=H c k' ((i+1:Nat):Int))
  (l:List α) (k:Int) (hl:l.length≤4294967296) (hP:∀ x∈l,P x) (hk:0≤k) (hb:k+b*l.length≤bd) :
  ∃ k' l',L l k 0=some (k',l',())∧H l' k 0=some (k',())∧l'.length=l.length∧k≤k'∧k'≤k+b*l.length:=by
 have hs:∀ d:Nat,(b*((d+1:Nat):Int):Int)=b*d+b:=fun d=>by rw[Int.natCast_add,Int.mul_add];simp
 have hz:∀ d:Nat,(0:Int)≤b*d:=fun d=>by exact_mod_cast Nat.zero_le (b*d)
 have key:∀ (d i:Nat) (a:List α) (k:Int),i+d=a.length→a.length≤4294967296→(∀ j (h:j<a.length),i≤j→P a[j])→0≤k→k+b*d≤bd →
   ∃ k' a',L a k (i:Int)=some (k',a',())∧k≤k'∧k'≤k+b*d∧a'.length=a.length∧(∀ j,j<i→a'[j]? = a[j]?) ∧
    ∀ c:List α,c.length=a.length→(∀ j,i≤j→c[j]? = a'[j]?)→H c k (i:Int)=some (k',()):=by
  intro d
  induction d with
  | zero =>
   intro i a k hd hl hp hk hb
   have hi:i=a.length:=by omega
   subst hi
   refine⟨k,a,stop a k,Int.le_refl k,by simp,rfl,fun _ _=>rfl,fun c hc _=>?_⟩
   rw[← hc];exact hstop c k
  | succ d ih =>
   intro i a k hd hl hp hk hb
   have hi:i<a.length:=by omega
   have h0:=hz d
   rw[hs]at hb
   obtain⟨y,k1,e1,e2,e3,e4⟩:=step a k i hi hl (hp i hi (Nat.le_refl i)) hk (by omega)
   obtain⟨k',a',f1,f2,f3,f4,f5,f6⟩:=ih (i+1) (a.set i y) k1 (by rw[List.length_set];omega) (by rw[List.length_set];exact hl)
    (fun j hj hij=>by rw[List.getElem_set_ne (by omega)];exact hp j (by rw[List.length_set]at hj;exact hj) (by omega)) (by omega) (by omega)
   rw[List.length_set]at f4 f6
   refine⟨k',a',e1.trans f1,by omega,by rw[hs];omega,f4,fun j hj=>?_,fun c hc hcj=>?_⟩
   ·rw[f5 j (by omega),List.getElem?_set_ne (by omega)]
   ·have hic:i<c.length:=by omega
    have hc0:c[i]? = some y:=by rw[hcj i (Nat.le_refl i),f5 i (by omega),List.getElem?_set_self hi]
    rw[List.getElem?_eq_getElem hic]at hc0
    rw[e4 c hic (by omega) (Option.some.inj hc0)]
    exact f6 c hc fun j hj=>hcj j (by omega)
 obtain⟨k',a',e1,e2,e3,e4,_,e6⟩:=key l.length 0 l k (by omega) hl (fun j hj _=>hP _ (List.getElem_mem hj)) hk hb
 exact⟨k',a',e1,e6 a' e4 fun _ _=>rfl,e4,e2,e3⟩
end Go.Proofs.YtijfhaljjmhibaaGreatDoor.E
namespace Go.Proofs.YtijfhaljjmhibaaGreatDoor.E.TV
open Go.Proofs.YtijfhaljjmhibaaGreatDoor.E
set_option linter.unusedVariables false
theorem Om(n:Nat):∀ (k:Int) (s:List Int),k≤9223372036854775807→0≤k→k<10 ^ n→s.length+n≤1000→∃ t,rU k s=some (t,()):=by
 induction n with
 | zero =>
  intro k s h h0 hk hs
  have:k=0:=by simp at hk;omega
  subst this
  rw[Dv,if_neg (by simp),if_pos (by show 1+s.length≤_;omega)]
  exact⟨_,rfl⟩
 | succ n ih =>
  intro k s h h0 hk hs
  rw[Dv]
  by_cases h:k>0
  ·rw[ak h,if_pos (by show 1+s.length≤_;omega),Int.tdiv_eq_ediv_of_nonneg h0,aI (n:=k/10) (by omega) (by omega)]
   refine ih (k/10) _ (by omega) (by omega) ?_ (by show(s.length+1)+n≤1000;omega)
   rw[Int.pow_succ]at hk
   omega
  ·rw[aj h,if_pos (by show 1+s.length≤_;omega)]
   exact⟨_,rfl⟩
theorem On(k:Int)(h:k≤9223372036854775807):∃ t,fm k=some (t,()):=by
 rw[NG]
 by_cases h0:k≤0
 ·rw[ak h0];exact⟨_,rfl⟩
 ·rw[aj h0]
  exact Om 19 k [] h (by omega) (by omega) (by simp)
open Classical in
noncomputable def li(k:Int):List Int:=if h:∃ t,fm k=some (t,())then Classical.choose h else []
theorem jL(k:Int)(h:k≤9223372036854775807):fm k=some (li k,()):=by
 have:=On k h
 unfold li
 rw[dif_pos this]
 exact Classical.choose_spec this
def dL(M:Nat)(x:aB):Prop:=x.S.length≤M
def eF(M:Nat)(x:au):Prop:=x.S.length≤M
def dV(M:Nat)(x:ax):Prop:=x.Key.length≤M∧dL M x.Val
def fH(M:Nat)(x:al):Prop:=x.Key.length≤M∧eF M x.Val
def fa(M:Nat)(x:aA):Prop:=(x.Vars.length≤M∧∀ y∈x.Vars,dL M y)∧(x.Cells.length≤M∧∀ y∈x.Cells,dV M y)
def eo(M:Nat)(x:ar):Prop:=(x.Vars.length≤M∧∀ y∈x.Vars,eF M y)∧(x.Cells.length≤M∧∀ y∈x.Cells,fH M y)
theorem BD{d:Nat}{x:aB}(h:b9 (G:=gam) (d+3) (.nm 3) x):dL 9223372036854775807 x:=by
 have h':_∧_∧(x.S.length≤9223372036854775807∧_)∧_:=h
 unfold dL
 exact h'.2.2.1.1
theorem KL{d:Nat}{x:ax}(h:b9 (G:=gam) (d+4) (.nm 4) x):dV 9223372036854775807 x:=by
 have h':_∧(x.Key.length≤9223372036854775807∧_)∧b9 (G:=gam) (d+3) (.nm 3) x.Val∧_:=h
 unfold dV
 exact⟨h'.2.1.1,BD (d:=d+0) h'.2.2.1⟩
theorem KN{d:Nat}{x:aA}(h:b9 (G:=gam) (d+6) (.nm 2) x):fa 9223372036854775807 x:=by
 have h':(x.Vars.length≤9223372036854775807∧∀ y∈x.Vars,b9 (G:=gam) (d+4) (.nm 3) y)∧(x.Cells.length≤9223372036854775807∧∀ y∈x.Cells,b9 (G:=gam) (d+4) (.nm 4) y)∧_∧_∧_:=h
 unfold fa
 exact⟨⟨h'.1.1,fun y hy=>BD (d:=d+1) (h'.1.2 y hy)⟩,⟨h'.2.1.1,fun y hy=>KL (d:=d+0) (h'.2.1.2 y hy)⟩⟩
theorem BM(x:aB)(n:Int)(h:dL 9223372036854775807 x)(h0:0≤n)(h1:n≤1048576):∃ r,pf x n=some (r,())∧r≤1048576∧(0≤r→dL 1048576 x):=by
 unfold dL at h
 rw[NQ]
 have hl0:=h
 rw[aI (n:=n-(x.S.length:Int)) (by omega) (by omega)]
 by_cases c0:n-(x.S.length:Int)<0
 ·rw[ak c0];exact⟨-1,rfl,by omega,fun h=>by omega⟩
 rw[aj c0]
 exact⟨_,rfl,by omega,fun _=>by unfold dL;exact by omega⟩
def jr(x:aB):au:=⟨x.Kind,x.N,x.S⟩
theorem BP(x:aB)(h:dL 1048576 x):sd x=some (jr x,()):=by
 unfold dL at h
 rw[NZ]
 rfl
theorem BF{x:aB}{M:Nat}(h:dL M x):eF M (jr x):=by
 unfold dL at h
 unfold eF jr
 exact h
theorem BB(x:au)(h:eF 2097152 x):rP x x=some (true,()):=by
 unfold eF at h
 rw[Nx]
 simp
theorem KZ(l:List aB)(n:Int)(h:l.length≤9223372036854775807∧∀ x∈l,dL 9223372036854775807 x)(h0:0≤n)(h1:n≤1048576):∃ r,xd l n=some (r,())∧r≤1048576∧(0≤r→l.length≤1048576∧∀ x∈l,dL 1048576 x):=by
 have hl:=h.1
 rw[NP,aI (n:=n-(l.length:Int)) (by omega) (by omega)]
 by_cases c:n-(l.length:Int)<0
 ·rw[ak c];exact⟨-1,rfl,by omega,fun h=>by omega⟩
 ·rw[aj c]
  obtain⟨r,e1,e2,e3⟩:=y8 (fun k i=>mI l k i) pf l (dL 1048576) (by omega) (fun x hx k k0 k1=>BM x k (h.2 x hx) k0 k1)
   (fun k=>by show mI l k _=_;rw[DA,if_neg (by simp)])
   (fun k i hi=>by show mI l k i=_;rw[DA,ak (by omega),if_pos (by omega),aW hi,aS hi (by omega)]) (n-l.length) (by omega) (by omega)
  exact⟨r,e1,e2,fun hr=>⟨by omega,e3 hr⟩⟩
theorem K5(l:List aB)(h:l.length≤1048576∧∀ x∈l,dL 1048576 x):xh l=some (l.map jr,()):=by
 rw[NY,if_pos (by have:=h.1;rw[aR];omega)]
 have:=tK (fun acc i=>mO l acc i) jr l (fun acc i hi ha=>by
  show mO l acc i=_
  have hl:=h.1
  rw[DE,ak (by omega),if_pos (by omega),aW hi,BP _ (h.2 _ (List.getElem_mem hi)),aa,if_pos (by omega),aS hi (by omega),af]
  ) (fun acc ha=>by
  show mO l acc _=_
  rw[DE,if_neg (by simp)]) (List.replicate (List.length l:Int).toNat aG) (by simp)
 exact this
theorem KK(l:List au)(h:l.length≤2097152∧∀ x∈l,eF 2097152 x):wX l l=some (true,()):=by
 have hl:=h.1
 rw[Nw,if_neg (by simp)]
 exact qE (fun i=>mF l l i) l _ (fun i hi=>by
  show mF l l i=_
  rw[Dp,ak (by omega),if_pos (by omega),if_pos (by omega),aW hi,BB _ (h.2 _ (List.getElem_mem hi)),aa,if_neg (by simp),aS hi (by omega)]) (by
  show mF l l _=_
  rw[Dp,if_neg (by simp)])
theorem KT(l:List au)(k:Int)(h:l.length≤2097152∧∀ x∈l,eF 2097152 x)(hk:0≤k)(hb:k+6291456≤2305843009213693952):∃ k' l',w7 l k=some (k',l',())∧wZ l' k=some (k',())∧l'.length=l.length∧k≤k'∧k'≤k+6291456:=by
 have hl:=h.1
 rw[NH]
 have step:∀ (a:List au) (k:Int) (i:Nat) (hi:i<a.length),a.length≤4294967296→(eF 2097152) a[i]→0≤k→k+(3:Nat)≤2305843009213693952→∃ y k',iA a k i=iA (a.set i y) k' ((i+1:Nat):Int)∧k≤k'∧k'≤k+(3:Nat)∧∀ (d:List au) (hd:i<d.length),d.length≤4294967296→d[i]=y→ix d k i=ix d k' ((i+1:Nat):Int):=by
  intro a k i hi ha hp hk hb
  have c:(0:Int)≤(i:Int)∧(i:Int)<(a.length:Int):=by omega
  refine⟨⟨k,k+1,li (k+1+1)⟩,k+1+1+1,?_,by omega,by omega,fun d hd hdl hdy=>?_⟩
  ·show iA a k i=iA _ _ _
   rw[Dw,ak c.2,if_pos c,aI (n:=k+1) (by omega) (by omega),aI (n:=k+1+1) (by omega) (by omega),aI (n:=k+1+1+1) (by omega) (by omega),aS hi (by omega),jL _ (by omega)]
   simp only[List.length_set,if_pos c,aa,af,mc,hi,List.set_set]
  ·show ix d k i=ix _ _ _
   have c2:(0:Int)≤(i:Int)∧(i:Int)<(d.length:Int):=by omega
   rw[Dr,ak c2.2,aI (n:=k+1) (by omega) (by omega),aI (n:=k+1+1) (by omega) (by omega),aI (n:=k+1+1+1) (by omega) (by omega),aS hd (by omega),jL _ (by omega),aW hd,hdy]
   simp only[if_pos c2,aa,decide_true,Bool.not_true,Bool.false_eq_true,if_false]
 obtain⟨k',l',e1,e2,e3,e4,e5⟩:=DX (fun a k i=>iA a k i) (fun a k i=>ix a k i) (eF 2097152) 3 2305843009213693952
  (fun a k=>by show iA a k _=_;rw[Dw,if_neg (by simp)])
  (fun a k=>by show ix a k _=_;rw[Dr,if_neg (by simp)])
  step l k (by omega) (h.2) hk (by omega)
 exact⟨k',l',e1,by rw[NA];exact e2,e3,e4,by omega⟩
theorem KU(x:ax)(n:Int)(h:dV 9223372036854775807 x)(h0:0≤n)(h1:n≤1048576):∃ r,rV x n=some (r,())∧r≤1048576∧(0≤r→dV 1048576 x):=by
 unfold dV at h
 rw[NJ]
 have hl0:=h.1
 rw[aI (n:=n-(x.Key.length:Int)) (by omega) (by omega)]
 by_cases c0:n-(x.Key.length:Int)<0
 ·rw[ak c0];exact⟨-1,rfl,by omega,fun h=>by omega⟩
 rw[aj c0]
 obtain⟨r1,e1,f1,g1⟩:=BM x.Val (n-(x.Key.length:Int)) (h.2) (by omega) (by omega)
 rw[e1,aa]
 dsimp only
 by_cases c1:r1<0
 ·rw[ak c1];exact⟨-1,rfl,by omega,fun h=>by omega⟩
 rw[aj c1]
 exact⟨_,rfl,by omega,fun _=>by unfold dV;exact⟨by omega,g1 (by omega)⟩⟩
def kL(x:ax):al:=⟨x.Name,x.Key,(jr x.Val)⟩
theorem K0(x:ax)(h:dV 1048576 x):xe x=some (kL x,()):=by
 unfold dV at h
 rw[NS]
 rw[BP _ (h.2),aa]
 rfl
theorem KO{x:ax}{M:Nat}(h:dV M x):fH M (kL x):=by
 unfold dV at h
 unfold fH kL
 exact⟨h.1,BF (h.2)⟩
theorem KG(x:al)(h:fH 2097152 x):wS x x=some (true,()):=by
 unfold fH at h
 rw[Np]
 rw[BB _ (h.2)]
 simp
theorem KV(l:List ax)(n:Int)(h:l.length≤9223372036854775807∧∀ x∈l,dV 9223372036854775807 x)(h0:0≤n)(h1:n≤1048576):∃ r,w9 l n=some (r,())∧r≤1048576∧(0≤r→l.length≤1048576∧∀ x∈l,dV 1048576 x):=by
 have hl:=h.1
 rw[NI,aI (n:=n-(l.length:Int)) (by omega) (by omega)]
 by_cases c:n-(l.length:Int)<0
 ·rw[ak c];exact⟨-1,rfl,by omega,fun h=>by omega⟩
 ·rw[aj c]
  obtain⟨r,e1,e2,e3⟩:=y8 (fun k i=>mG l k i) rV l (dV 1048576) (by omega) (fun x hx k k0 k1=>KU x k (h.2 x hx) k0 k1)
   (fun k=>by show mG l k _=_;rw[Dx,if_neg (by simp)])
   (fun k i hi=>by show mG l k i=_;rw[Dx,ak (by omega),if_pos (by omega),aW hi,aS hi (by omega)]) (n-l.length) (by omega) (by omega)
  exact⟨r,e1,e2,fun hr=>⟨by omega,e3 hr⟩⟩
theorem K1(l:List ax)(h:l.length≤1048576∧∀ x∈l,dV 1048576 x):xf l=some (l.map kL,()):=by
 rw[NR,if_pos (by have:=h.1;rw[aR];omega)]
 have:=tK (fun acc i=>mJ l acc i) kL l (fun acc i hi ha=>by
  show mJ l acc i=_
  have hl:=h.1
  rw[DB,ak (by omega),if_pos (by omega),aW hi,K0 _ (h.2 _ (List.getElem_mem hi)),aa,if_pos (by omega),aS hi (by omega),af]
  ) (fun acc ha=>by
  show mJ l acc _=_
  rw[DB,if_neg (by simp)]) (List.replicate (List.length l:Int).toNat aQ) (by simp)
 exact this
theorem KH(l:List al)(h:l.length≤2097152∧∀ x∈l,fH 2097152 x):wU l l=some (true,()):=by
 have hl:=h.1
 rw[Nn,if_neg (by simp)]
 exact qE (fun i=>mB l l i) l _ (fun i hi=>by
  show mB l l i=_
  rw[Dl,ak (by omega),if_pos (by omega),if_pos (by omega),aW hi,KG _ (h.2 _ (List.getElem_mem hi)),aa,if_neg (by simp),aS hi (by omega)]) (by
  show mB l l _=_
  rw[Dl,if_neg (by simp)])
theorem KR(l:List al)(k:Int)(h:l.length≤2097152∧∀ x∈l,fH 2097152 x)(hk:0≤k)(hb:k+10485760≤2305843009213693952):∃ k' l',w5 l k=some (k',l',())∧wY l' k=some (k',())∧l'.length=l.length∧k≤k'∧k'≤k+10485760:=by
 have hl:=h.1
 rw[NB]
 have step:∀ (a:List al) (k:Int) (i:Nat) (hi:i<a.length),a.length≤4294967296→(fH 2097152) a[i]→0≤k→k+(5:Nat)≤2305843009213693952→∃ y k',iy a k i=iy (a.set i y) k' ((i+1:Nat):Int)∧k≤k'∧k'≤k+(5:Nat)∧∀ (d:List al) (hd:i<d.length),d.length≤4294967296→d[i]=y→iw d k i=iw d k' ((i+1:Nat):Int):=by
  intro a k i hi ha hp hk hb
  have c:(0:Int)≤(i:Int)∧(i:Int)<(a.length:Int):=by omega
  refine⟨⟨k,li (k+1),⟨k+1+1,k+1+1+1,li (k+1+1+1+1)⟩⟩,k+1+1+1+1+1,?_,by omega,by omega,fun d hd hdl hdy=>?_⟩
  ·show iy a k i=iy _ _ _
   rw[Ds,ak c.2,if_pos c,aI (n:=k+1) (by omega) (by omega),aI (n:=k+1+1) (by omega) (by omega),aI (n:=k+1+1+1) (by omega) (by omega),aI (n:=k+1+1+1+1) (by omega) (by omega),aI (n:=k+1+1+1+1+1) (by omega) (by omega),aS hi (by omega),jL _ (by omega),jL _ (by omega)]
   simp only[List.length_set,if_pos c,aa,af,mc,hi,List.set_set]
  ·show iw d k i=iw _ _ _
   have c2:(0:Int)≤(i:Int)∧(i:Int)<(d.length:Int):=by omega
   rw[Dq,ak c2.2,aI (n:=k+1) (by omega) (by omega),aI (n:=k+1+1) (by omega) (by omega),aI (n:=k+1+1+1) (by omega) (by omega),aI (n:=k+1+1+1+1) (by omega) (by omega),aI (n:=k+1+1+1+1+1) (by omega) (by omega),aS hd (by omega),jL _ (by omega),jL _ (by omega),aW hd,hdy]
   simp only[if_pos c2,aa,decide_true,Bool.not_true,Bool.false_eq_true,if_false]
 obtain⟨k',l',e1,e2,e3,e4,e5⟩:=DX (fun a k i=>iy a k i) (fun a k i=>iw a k i) (fH 2097152) 5 2305843009213693952
  (fun a k=>by show iy a k _=_;rw[Ds,if_neg (by simp)])
  (fun a k=>by show iw a k _=_;rw[Dq,if_neg (by simp)])
  step l k (by omega) (h.2) hk (by omega)
 exact⟨k',l',e1,by rw[Ny];exact e2,e3,e4,by omega⟩
theorem KY(x:aA)(n:Int)(h:fa 9223372036854775807 x)(h0:0≤n)(h1:n≤1048576):∃ r,xc x n=some (r,())∧r≤1048576∧(0≤r→fa 1048576 x):=by
 unfold fa at h
 rw[NN]
 obtain⟨r0,e0,f0,g0⟩:=KZ x.Vars n (h.1) (by omega) (by omega)
 rw[e0,aa]
 dsimp only
 by_cases c0:r0<0
 ·rw[ak c0];exact⟨-1,rfl,by omega,fun h=>by omega⟩
 rw[aj c0]
 obtain⟨r1,e1,f1,g1⟩:=KV x.Cells r0 (h.2) (by omega) (by omega)
 rw[e1,aa]
 dsimp only
 by_cases c1:r1<0
 ·rw[ak c1];exact⟨-1,rfl,by omega,fun h=>by omega⟩
 rw[aj c1]
 exact⟨_,rfl,by omega,fun _=>by unfold fa;exact⟨g0 (by omega),g1 (by omega)⟩⟩
def md(x:aA):ar:=⟨(x.Vars.map jr),(x.Cells.map kL),x.Nr,x.Err⟩
theorem K4(x:aA)(h:fa 1048576 x):mM x=some (md x,()):=by
 unfold fa at h
 rw[NW]
 rw[K5 _ (h.1),aa]
 rw[K1 _ (h.2),aa]
 rfl
theorem KQ{x:aA}{M:Nat}(h:fa M x):eo M (md x):=by
 unfold fa at h
 unfold eo md
 exact⟨⟨by rw[List.length_map];exact(h.1).1,fun y hy=>by obtain⟨x',hx',rfl⟩:=List.mem_map.1 hy;exact BF ((h.1).2 x' hx')⟩,⟨by rw[List.length_map];exact(h.2).1,fun y hy=>by obtain⟨x',hx',rfl⟩:=List.mem_map.1 hy;exact KO ((h.2).2 x' hx')⟩⟩
theorem Bz(x:ar)(h:eo 2097152 x):mD x x=some (true,()):=by
 unfold eo at h
 rw[Nu]
 rw[KK _ (h.1),KH _ (h.2)]
 simp
theorem BH(x:ar)(k:Int)(h:eo 2097152 x)(hk:0≤k)(hb:k+16777216≤2305843009213693952):∃ k' x',rS x k=some (k',x',())∧rQ x' k=some (k',())∧k≤k'∧k'≤k+16777216:=by
 unfold eo at h
 obtain⟨k0,x0,a0,b0,_,c0,d0⟩:=KT x.Vars k (h.1) (by omega) (by omega)
 obtain⟨k1,x1,a1,b1,_,c1,d1⟩:=KR x.Cells k0 (h.2) (by omega) (by omega)
 refine⟨k1,⟨x0,x1,x.Nr,x.Err⟩,?_,?_,by omega,by omega⟩
 ·rw[NE,a0,aa,a1,aa]
 ·rw[Nz,b0,aa,aj (by omega),b1,aa,aj (by omega)]
end Go.Proofs.YtijfhaljjmhibaaGreatDoor.E.TV
namespace Go.Proofs.YtijfhaljjmhibaaGreatDoor.E
set_option linter.unusedVariables false
def cz(p:Nat→Bool)(n:Nat):Bool:=(List.range n).any p
theorem anyB_iff{p:Nat→Bool}{n:Nat}:cz p n=true ↔ ∃ i,i<n∧p i=true:=by
 unfold cz
 rw[List.any_eq_true]
 constructor
 ·rintro ⟨i,h,e⟩;exact⟨i,List.mem_range.1 h,e⟩
 ·rintro ⟨i,h,e⟩;exact⟨i,List.mem_range.2 h,e⟩
theorem anyB_false{p:Nat→Bool}{n:Nat}:cz p n=false ↔ ∀ i,i<n→p i=false:=by
 rw[← Bool.not_eq_true,anyB_iff]
 constructor
 ·intro h i hi
  cases e:p i with
  | false=>rfl
  | true=>exact absurd ⟨i,hi,e⟩ h
 ·rintro h ⟨i,hi,e⟩
  rw[h i hi]at e;cases e
theorem IC(p q:Nat→Bool)(n:Nat):cz (fun i=>p i||q i) n=(cz p n||cz q n):=by
 cases h:cz p n with
 | true =>
  obtain⟨i,hi,e⟩:=anyB_iff.1 h
  rw[Bool.true_or,anyB_iff];exact⟨i,hi,by rw[e];rfl⟩
 | false =>
  rw[Bool.false_or]
  have h':=anyB_false.1 h
  cases g:cz q n with
  | true =>
   obtain⟨i,hi,e⟩:=anyB_iff.1 g
   rw[anyB_iff];exact⟨i,hi,by rw[e,Bool.or_true]⟩
  | false=>rw[anyB_false];intro i hi;rw[h' i hi,anyB_false.1 g i hi];rfl
theorem fg{ρ:Type}(F:Int→Option ρ)(n:Nat)(p:Nat→Bool)(x y:Option ρ)
  (step:∀ i:Nat,i<n→F i=if p i=true then x else F ((i+1:Nat):Int)) (stop:F (n:Int)=y):F 0=if cz p n=true then x else y:=by
 have key:∀ (d i:Nat),i+d=n→(∀ j,j<i→p j=false)→F (i:Int)=if cz p n=true then x else y:=by
  intro d
  induction d with
  | zero =>
   intro i hd hj
   have hi:i=n:=by omega
   subst hi
   rw[stop,anyB_false.2 hj];rfl
  | succ d ih =>
   intro i hd hj
   rw[step i (by omega)]
   cases e:p i with
   | true=>rw[if_pos rfl,anyB_iff.2 ⟨i,by omega,e⟩,if_pos rfl]
   | false =>
    rw[if_neg (by simp)]
    refine ih (i+1) (by omega) fun j h=>?_
    by_cases h':j=i
    ·subst h';exact e
    ·exact hj j (by omega)
 exact key n 0 (by omega) (fun j h=>absurd h (by omega))
theorem gF{σ:Type}(F:Int→Option (Int×σ))(s:σ)(n:Nat)(p:Nat→Bool)
  (step:∀ i:Nat,i<n→F i=if p i=true then some ((i:Int),s)else F ((i+1:Nat):Int)) (stop:F (n:Int)=some (-1,s)) :
  ∃ k:Int,F 0=some (k,s)∧decide (k≥0)=cz p n∧k<n∧(0≤k→p k.toNat=true∧∀ j:Nat,(j:Int)<k→p j=false)∧(k<0→k = -1):=by
 have key:∀ (d i:Nat),i+d=n→(∀ j,j<i→p j=false)→∃ k:Int,F (i:Int)=some (k,s)∧decide (k≥0)=cz p n∧k<n∧(0≤k→p k.toNat=true∧∀ j:Nat,(j:Int)<k→p j=false)∧(k<0→k = -1):=by
  intro d
  induction d with
  | zero =>
   intro i hd hj
   have hi:i=n:=by omega
   subst hi
   exact⟨-1,stop,by rw[anyB_false.2 hj];rfl,by omega,fun h=>by omega,fun _=>rfl⟩
  | succ d ih =>
   intro i hd hj
   rw[step i (by omega)]
   cases e:p i with
   | true=>rw[if_pos rfl];exact⟨i,rfl,by rw[anyB_iff.2 ⟨i,by omega,e⟩];exact ac (by omega),by omega,fun _=>⟨by rw[af];exact e,fun j h=>hj j (by omega)⟩,fun h=>by omega⟩
   | false =>
    rw[if_neg (by simp)]
    refine ih (i+1) (by omega) fun j h=>?_
    by_cases h':j=i
    ·subst h';exact e
    ·exact hj j (by omega)
 exact key n 0 (by omega) (fun j h=>absurd h (by omega))
theorem dW{α:Type}(l:List α)(z:α)(p:α→Bool):cz (fun i=>p (l.getD i z)) l.length=l.any p:=by
 cases h:l.any p with
 | true =>
  obtain⟨x,hx,e⟩:=List.any_eq_true.1 h
  obtain⟨i,hi,rfl⟩:=List.mem_iff_getElem.1 hx
  exact anyB_iff.2 ⟨i,hi,by rw[bk hi];exact e⟩
 | false =>
  rw[anyB_false]
  intro i hi
  rw[bk hi]
  cases e:p l[i] with
  | false=>rfl
  | true =>
   have:l.any p=true:=List.any_eq_true.2 ⟨l[i],List.getElem_mem hi,e⟩
   rw[h]at this;cases this
theorem DW{α:Type}(L:List α→Int→Int→Option (Int×Unit))(P:α→Prop)(b:Nat)(bd:Int)
  (stop:∀ a k,L a k (a.length:Int)=some (k,()))
  (step:∀ (a:List α) (k:Int) (i:Nat) (h:i<a.length),a.length≤4294967296→P a[i]→0≤k→k+b≤bd→∃ y k',L a k i=L (a.set i y) k' ((i+1:Nat):Int)∧k≤k'∧k'≤k+b)
  (l:List α) (k:Int) (hl:l.length≤4294967296) (hP:∀ x∈l,P x) (hk:0≤k) (hb:k+b*l.length≤bd) :
  ∃ k',L l k 0=some (k',())∧k≤k'∧k'≤k+b*l.length:=by
 have hs:∀ d:Nat,(b*((d+1:Nat):Int):Int)=b*d+b:=fun d=>by rw[Int.natCast_add,Int.mul_add];simp
 have hz:∀ d:Nat,(0:Int)≤b*d:=fun d=>by exact_mod_cast Nat.zero_le (b*d)
 have key:∀ (d i:Nat) (a:List α) (k:Int),i+d=a.length→a.length≤4294967296→(∀ j (h:j<a.length),i≤j→P a[j])→0≤k→k+b*d≤bd →
   ∃ k',L a k (i:Int)=some (k',())∧k≤k'∧k'≤k+b*d:=by
  intro d
  induction d with
  | zero =>
   intro i a k hd hl hp hk hb
   have hi:i=a.length:=by omega
   subst hi
   exact⟨k,stop a k,Int.le_refl k,by simp⟩
  | succ d ih =>
   intro i a k hd hl hp hk hb
   have hi:i<a.length:=by omega
   have h0:=hz d
   rw[hs]at hb
   obtain⟨y,k1,e1,e2,e3⟩:=step a k i hi hl (hp i hi (Nat.le_refl i)) hk (by omega)
   obtain⟨k',f1,f2,f3⟩:=ih (i+1) (a.set i y) k1 (by rw[List.length_set];omega) (by rw[List.length_set];exact hl)
    (fun j hj hij=>by rw[List.getElem_set_ne (by omega)];exact hp j (by rw[List.length_set]at hj;exact hj) (by omega)) (by omega) (by omega)
   exact⟨k',e1.trans f1,by omega,by rw[hs];omega⟩
 exact key l.length 0 l k (by omega) hl (fun j hj _=>hP _ (List.getElem_mem hj)) hk hb
end Go.Proofs.YtijfhaljjmhibaaGreatDoor.E
namespace Go.Proofs.YtijfhaljjmhibaaGreatDoor.E.TV
open Go.Proofs.YtijfhaljjmhibaaGreatDoor.E
set_option linter.unusedVariables false
theorem BL(l:List (List Int))(n:Int)(h:l.length≤9223372036854775807∧∀ x∈l,x.length≤9223372036854775807)(h0:0≤n)(h1:n≤1048576):∃ r,rY l n=some (r,())∧r≤1048576∧(0≤r→l.length≤1048576∧∀ x∈l,x.length≤1048576):=by
 have hl:=h.1
 rw[NO,aI (n:=n-(l.length:Int)) (by omega) (by omega)]
 by_cases c:n-(l.length:Int)<0
 ·rw[ak c];exact⟨-1,rfl,by omega,fun h=>by omega⟩
 ·rw[aj c]
  have key:∀ (d i:Nat) (k:Int),i+d=l.length→0≤k→k≤1048576→∃ r,rZ l k i=some (r,())∧r≤1048576∧(0≤r→∀ j (h:j<l.length),i≤j→l[j].length≤1048576):=by
   intro d
   induction d with
   | zero =>
    intro i k hd k0 k1
    rw[Dz,aj (by omega)]
    exact⟨k,rfl,k1,fun _ j hj hij=>by omega⟩
   | succ d ih =>
    intro i k hd k0 k1
    have hi:i<l.length:=by omega
    have hx:=h.2 _ (List.getElem_mem hi)
    rw[Dz,ak (by omega),if_pos (by omega),aW hi,aS hi (by omega),aI (n:=k-(l[i].length:Int)) (by omega) (by omega)]
    by_cases g:k-(l[i].length:Int)<0
    ·rw[ak g];exact⟨-1,rfl,by omega,fun h=>by omega⟩
    ·rw[aj g]
     obtain⟨r,e1,e2,e3⟩:=ih (i+1) (k-(l[i].length:Int)) (by omega) (by omega) (by omega)
     refine⟨r,e1,e2,fun hr j hj hij=>?_⟩
     by_cases e:j=i
     ·subst e;omega
     ·exact e3 hr j hj (by omega)
  obtain⟨r,e1,e2,e3⟩:=key l.length 0 (n-l.length) (by omega) (by omega) (by omega)
  exact⟨r,e1,e2,fun hr=>⟨by omega,fun x hx=>by
   obtain⟨j,hj,rfl⟩:=List.mem_iff_getElem.1 hx
   exact e3 hr j hj (by omega)⟩⟩
theorem BO(l:List (List Int))(h:l.length≤1048576∧∀ x∈l,x.length≤1048576):sb l=some (l,()):=by
 rw[NX,if_pos (by have:=h.1;rw[aR];omega)]
 have:=tK (fun acc i=>mN l acc i) id l (fun acc i hi ha=>by
  show mN l acc i=_
  have hl:=h.1
  rw[DD,ak (by omega),if_pos (by omega),if_pos (by omega),aS hi (by omega),af,bk hi]
  rfl) (fun acc ha=>by
  show mN l acc _=_
  rw[DD,if_neg (by simp)]) (List.replicate (List.length l:Int).toNat []) (by simp)
 rw[List.map_id]at this
 exact this
theorem BA(l:List (List Int))(h:l.length≤2097152∧∀ x∈l,x.length≤2097152):rO l l=some (true,()):=by
 have hl:=h.1
 rw[Nv,if_neg (by simp)]
 exact qE (fun i=>mE l l i) l _ (fun i hi=>by
  show mE l l i=_
  rw[Dn,ak (by omega),if_pos (by omega),if_pos (by omega),if_neg (by simp),aS hi (by omega)]) (by
  show mE l l _=_
  rw[Dn,if_neg (by simp)])
theorem BI(l:List (List Int))(k:Int)(h:l.length≤2097152∧∀ x∈l,x.length≤2097152)(hk:0≤k)(hb:k+2097152≤2305843009213693952):∃ k',rT l k=some (k',())∧k≤k'∧k'≤k+2097152:=by
 have hl:=h.1
 rw[NF]
 obtain⟨k',e1,e2,e3⟩:=DW (fun a k i=>lf a k i) (fun _=>True) 1 2305843009213693952 (fun a k=>by show lf a k _=_;rw[Du,if_neg (by simp)])
  (fun a k i hi ha hp hk hb=>⟨li k,k+1,by
   show lf a k i=lf _ _ _
   rw[Du,ak (by omega),jL _ (by omega),aa,if_pos (by omega),aI (n:=k+1) (by omega) (by omega),aS hi (by omega),af],by omega,by omega⟩) l k (by omega) (fun _ _=>trivial) hk (by omega)
 exact⟨k',e1,e2,by omega⟩
def dk(M:Nat)(x:ay):Prop:=x.S.length≤M
def fI(M:Nat)(x:am):Prop:=x.S.length≤M
def eG(M:Nat)(x:az):Prop:=(x.Vars.length≤M∧∀ y∈x.Vars,y.length≤M)∧(x.Cells.length≤M∧∀ y∈x.Cells,y.length≤M)∧(x.Start.length≤M∧∀ y∈x.Start,dk M y)∧(x.Main.length≤M∧∀ y∈x.Main,dk M y)
def i7(M:Nat)(x:ap):Prop:=(x.Vars.length≤M∧∀ y∈x.Vars,y.length≤M)∧(x.Cells.length≤M∧∀ y∈x.Cells,y.length≤M)∧(x.Start.length≤M∧∀ y∈x.Start,fI M y)∧(x.Main.length≤M∧∀ y∈x.Main,fI M y)
theorem BC{d:Nat}{x:ay}(h:b9 (G:=gam) (d+3) (.nm 1) x):dk 9223372036854775807 x:=by
 have h':_∧_∧(x.S.length≤9223372036854775807∧_)∧_:=h
 unfold dk
 exact h'.2.2.1.1
theorem KM{d:Nat}{x:az}(h:b9 (G:=gam) (d+5) (.nm 0) x):eG 9223372036854775807 x:=by
 have h':(x.Vars.length≤9223372036854775807∧∀ y∈x.Vars,(y.length≤9223372036854775807∧∀ b∈y,0≤b∧b≤255))∧(x.Cells.length≤9223372036854775807∧∀ y∈x.Cells,(y.length≤9223372036854775807∧∀ b∈y,0≤b∧b≤255))∧(x.Start.length≤9223372036854775807∧∀ y∈x.Start,b9 (G:=gam) (d+3) (.nm 1) y)∧(x.Main.length≤9223372036854775807∧∀ y∈x.Main,b9 (G:=gam) (d+3) (.nm 1) y)∧_:=h
 unfold eG
 exact⟨⟨h'.1.1,fun y hy=>(h'.1.2 y hy).1⟩,⟨h'.2.1.1,fun y hy=>(h'.2.1.2 y hy).1⟩,⟨h'.2.2.1.1,fun y hy=>BC (d:=d+0) (h'.2.2.1.2 y hy)⟩,⟨h'.2.2.2.1.1,fun y hy=>BC (d:=d+0) (h'.2.2.2.1.2 y hy)⟩⟩
theorem KW(x:ay)(n:Int)(h:dk 9223372036854775807 x)(h0:0≤n)(h1:n≤1048576):∃ r,rW x n=some (r,())∧r≤1048576∧(0≤r→dk 1048576 x):=by
 unfold dk at h
 rw[NL]
 have hl0:=h
 rw[aI (n:=n-(x.S.length:Int)) (by omega) (by omega)]
 by_cases c0:n-(x.S.length:Int)<0
 ·rw[ak c0];exact⟨-1,rfl,by omega,fun h=>by omega⟩
 rw[aj c0]
 exact⟨_,rfl,by omega,fun _=>by unfold dk;exact by omega⟩
def jq(x:ay):am:=⟨x.Code,x.N,x.S⟩
theorem K2(x:ay)(h:dk 1048576 x):xg x=some (jq x,()):=by
 unfold dk at h
 rw[NU]
 rfl
theorem BE{x:ay}{M:Nat}(h:dk M x):fI M (jq x):=by
 unfold dk at h
 unfold fI jq
 exact h
theorem KI(x:am)(h:fI 2097152 x):wV x x=some (true,()):=by
 unfold fI at h
 rw[Ns]
 simp
theorem BK(l:List ay)(n:Int)(h:l.length≤9223372036854775807∧∀ x∈l,dk 9223372036854775807 x)(h0:0≤n)(h1:n≤1048576):∃ r,rX l n=some (r,())∧r≤1048576∧(0≤r→l.length≤1048576∧∀ x∈l,dk 1048576 x):=by
 have hl:=h.1
 rw[NK,aI (n:=n-(l.length:Int)) (by omega) (by omega)]
 by_cases c:n-(l.length:Int)<0
 ·rw[ak c];exact⟨-1,rfl,by omega,fun h=>by omega⟩
 ·rw[aj c]
  obtain⟨r,e1,e2,e3⟩:=y8 (fun k i=>mH l k i) rW l (dk 1048576) (by omega) (fun x hx k k0 k1=>KW x k (h.2 x hx) k0 k1)
   (fun k=>by show mH l k _=_;rw[Dy,if_neg (by simp)])
   (fun k i hi=>by show mH l k i=_;rw[Dy,ak (by omega),if_pos (by omega),aW hi,aS hi (by omega)]) (n-l.length) (by omega) (by omega)
  exact⟨r,e1,e2,fun hr=>⟨by omega,e3 hr⟩⟩
theorem BN(l:List ay)(h:l.length≤1048576∧∀ x∈l,dk 1048576 x):sa l=some (l.map jq,()):=by
 rw[NT,if_pos (by have:=h.1;rw[aR];omega)]
 have:=tK (fun acc i=>mK l acc i) jq l (fun acc i hi ha=>by
  show mK l acc i=_
  have hl:=h.1
  rw[DC,ak (by omega),if_pos (by omega),aW hi,K2 _ (h.2 _ (List.getElem_mem hi)),aa,if_pos (by omega),aS hi (by omega),af]
  ) (fun acc ha=>by
  show mK l acc _=_
  rw[DC,if_neg (by simp)]) (List.replicate (List.length l:Int).toNat bm) (by simp)
 exact this
theorem Bx(l:List am)(h:l.length≤2097152∧∀ x∈l,fI 2097152 x):rN l l=some (true,()):=by
 have hl:=h.1
 rw[Nq,if_neg (by simp)]
 exact qE (fun i=>mC l l i) l _ (fun i hi=>by
  show mC l l i=_
  rw[Dm,ak (by omega),if_pos (by omega),if_pos (by omega),aW hi,KI _ (h.2 _ (List.getElem_mem hi)),aa,if_neg (by simp),aS hi (by omega)]) (by
  show mC l l _=_
  rw[Dm,if_neg (by simp)])
theorem BG(l:List am)(k:Int)(h:l.length≤2097152∧∀ x∈l,fI 2097152 x)(hk:0≤k)(hb:k+6291456≤2305843009213693952):∃ k',rR l k=some (k',())∧k≤k'∧k'≤k+6291456:=by
 have hl:=h.1
 rw[NC]
 have step:∀ (a:List am) (k:Int) (i:Nat) (hi:i<a.length),a.length≤4294967296→(fI 2097152) a[i]→0≤k→k+(3:Nat)≤2305843009213693952→∃ y k',iz a k i=iz (a.set i y) k' ((i+1:Nat):Int)∧k≤k'∧k'≤k+(3:Nat):=by
  intro a k i hi ha hp hk hb
  have c:(0:Int)≤(i:Int)∧(i:Int)<(a.length:Int):=by omega
  refine⟨⟨k,k+1,li (k+1+1)⟩,k+1+1+1,?_,by omega,by omega⟩
  show iz a k i=iz _ _ _
  rw[Dt,ak c.2,if_pos c,aI (n:=k+1) (by omega) (by omega),aI (n:=k+1+1) (by omega) (by omega),aI (n:=k+1+1+1) (by omega) (by omega),aS hi (by omega),jL _ (by omega)]
  simp only[List.length_set,if_pos c,aa,af,mc,hi,List.set_set]
 obtain⟨k',e1,e2,e3⟩:=DW (fun a k i=>iz a k i) (fI 2097152) 3 2305843009213693952 (fun a k=>by show iz a k _=_;rw[Dt,if_neg (by simp)]) step l k (by omega) h.2 hk (by omega)
 exact⟨k',e1,e2,by omega⟩
theorem KX(x:az)(n:Int)(h:eG 9223372036854775807 x)(h0:0≤n)(h1:n≤1048576):∃ r,xa x n=some (r,())∧r≤1048576∧(0≤r→eG 1048576 x):=by
 unfold eG at h
 rw[NM]
 obtain⟨r0,e0,f0,g0⟩:=BL x.Vars n (h.1) (by omega) (by omega)
 rw[e0,aa]
 dsimp only
 by_cases c0:r0<0
 ·rw[ak c0];exact⟨-1,rfl,by omega,fun h=>by omega⟩
 rw[aj c0]
 obtain⟨r1,e1,f1,g1⟩:=BL x.Cells r0 (h.2.1) (by omega) (by omega)
 rw[e1,aa]
 dsimp only
 by_cases c1:r1<0
 ·rw[ak c1];exact⟨-1,rfl,by omega,fun h=>by omega⟩
 rw[aj c1]
 obtain⟨r2,e2,f2,g2⟩:=BK x.Start r1 (h.2.2.1) (by omega) (by omega)
 rw[e2,aa]
 dsimp only
 by_cases c2:r2<0
 ·rw[ak c2];exact⟨-1,rfl,by omega,fun h=>by omega⟩
 rw[aj c2]
 obtain⟨r3,e3,f3,g3⟩:=BK x.Main r2 (h.2.2.2) (by omega) (by omega)
 rw[e3,aa]
 dsimp only
 by_cases c3:r3<0
 ·rw[ak c3];exact⟨-1,rfl,by omega,fun h=>by omega⟩
 rw[aj c3]
 exact⟨_,rfl,by omega,fun _=>by unfold eG;exact⟨g0 (by omega),g1 (by omega),g2 (by omega),g3 (by omega)⟩⟩
def kM(x:az):ap:=⟨x.Vars,x.Cells,(x.Start.map jq),(x.Main.map jq)⟩
theorem K3(x:az)(h:eG 1048576 x):mL x=some (kM x,()):=by
 unfold eG at h
 rw[NV]
 rw[BO _ (h.1),aa]
 rw[BO _ (h.2.1),aa]
 rw[BN _ (h.2.2.1),aa]
 rw[BN _ (h.2.2.2),aa]
 rfl
theorem KP{x:az}{M:Nat}(h:eG M x):i7 M (kM x):=by
 unfold eG at h
 unfold i7 kM
 exact⟨h.1,h.2.1,⟨by rw[List.length_map];exact(h.2.2.1).1,fun y hy=>by obtain⟨x',hx',rfl⟩:=List.mem_map.1 hy;exact BE ((h.2.2.1).2 x' hx')⟩,⟨by rw[List.length_map];exact(h.2.2.2).1,fun y hy=>by obtain⟨x',hx',rfl⟩:=List.mem_map.1 hy;exact BE ((h.2.2.2).2 x' hx')⟩⟩
theorem KJ(x:ap)(h:i7 2097152 x):wW x x=some (true,()):=by
 unfold i7 at h
 rw[Nt]
 rw[BA _ (h.1),BA _ (h.2.1),Bx _ (h.2.2.1),Bx _ (h.2.2.2)]
 simp
theorem KS(x:ap)(k:Int)(h:i7 2097152 x)(hk:0≤k)(hb:k+16777216≤2305843009213693952):∃ k',w6 x k=some (k',())∧k≤k'∧k'≤k+16777216:=by
 unfold i7 at h
 obtain⟨k0,a0,c0,d0⟩:=BI x.Vars k (h.1) (by omega) (by omega)
 obtain⟨k1,a1,c1,d1⟩:=BI x.Cells k0 (h.2.1) (by omega) (by omega)
 obtain⟨k2,a2,c2,d2⟩:=BG x.Start k1 (h.2.2.1) (by omega) (by omega)
 obtain⟨k3,a3,c3,d3⟩:=BG x.Main k2 (h.2.2.2) (by omega) (by omega)
 refine⟨k3,?_,by omega,by omega⟩
 rw[ND,a0,aa,a1,aa,a2,aa,a3,aa]
theorem d4(a b c:Int):bK a b c=some (decide (b≤a∧a≤c),()):=by
 rw[LY]
 by_cases h:a≥b
 ·rw[if_pos (by simp[h])];simp[show b≤a from h]
 ·rw[if_neg (by simp[h])];simp[show ¬ b≤a from h]
theorem cB(a b c:Int):co a b c=some (decide (b≤a∧a≤c),()):=by
 rw[Gf]
 by_cases h:b≤a
 ·rw[if_pos (by simp[h])];simp[h]
 ·rw[if_neg (by simp[h])];simp[h]
inductive Small:aq→Prop
 | mk (x:aq):x.Kids.length≤100→(∀ k∈x.Kids,Small k)→Small x
theorem p9{x:aq}(h:x.Kids=[]):Small x:=.mk x (by rw[h];decide) (fun k hk=>by rw[h]at hk;cases hk)
theorem D7(a b:Int):mxI a b=if a>b then a else b:=by unfold mxI;split <;> split <;> omega
theorem ve{x:aq}(h:Small x):∃ v,gR x=some (v,())∧gD x=some (v,()):=by
 induction h with
 | mk x hl hs ih =>
  rw[Gh,CQ]
  have key:∀ (n i:Nat) (t:Int),i+n=x.Kids.length→∃ v,tc t i x=some (v,())∧oR t x.Kids x.Kids.length i=some (v,()):=by
   intro n
   induction n with
   | zero =>
    intro i t hi
    rw[yJ,rE,aj (by omega),aj (by omega)]
    exact⟨_,rfl,rfl⟩
   | succ n ihn =>
    intro i t hi
    have hi':i<x.Kids.length:=by omega
    obtain⟨v,e1,e2⟩:=ih x.Kids[i] (List.getElem_mem hi')
    rw[yJ,ak (by omega),if_pos (by omega),rE,ak (by omega),if_pos (by omega),aW hi',e1,e2,aa,aa]
    dsimp only
    rw[Gg,D7,aS hi' (by omega)]
    by_cases c:t>v
    ·rw[ak c,if_pos c,aa];exact ihn (i+1) t (by omega)
    ·rw[aj c,if_neg c,aa];exact ihn (i+1) v (by omega)
  exact key x.Kids.length 0 0 (by omega)
theorem Ec{c:aE}{b:Int}(h:c.bad=true):ge c b=some (false,c,()):=by rw[yK,if_neg (by simp[h])]
theorem gK{S:List Int}{p:Nat}{b:Int}(h:S.length≤p):ge ⟨S,p,false⟩ b=some (false,⟨S,p,false⟩,()):=by
 rw[yK,if_pos (by simp),aj (by simp;omega)]
theorem ll{S:List Int}{p:Nat}{b:Int}(h:p<S.length):ge ⟨S,p,false⟩ b=some (decide (S[p]=b),⟨S,p,false⟩,()):=by
 rw[yK];dsimp only
 rw[if_pos (by simp),ak (by omega),if_pos (by omega),aW h]
theorem cV{r:av}(h:r.s=[]∨r.bad=true):jz r=some (0,false,r,()):=by
 rw[CR]
 by_cases h1:r.s=[]
 ·rw[ak h1]
 ·rw[aj h1,if_pos (h.resolve_left h1)]
theorem dN{b:Int}{s:List Int}:jz ⟨b::s,false⟩=some (b,true,⟨b::s,false⟩,()):=by
 rw[CR,if_neg (by simp),if_neg (by simp),if_pos (by simp)]
 rfl
theorem ol(b:Int)(s:List Int):List.take ((b::s).length-1) (List.drop 1 (b::s))=s:=by simp
theorem eU{r:av}{b:Int}(h:r.s=[]∨r.bad=true):ip r b=some (false,r,()):=by
 rw[wq,cV h,aa,if_pos (by simp)]
theorem iR{b:Int}{s:List Int}:ip ⟨b::s,false⟩ b=some (true,⟨s,false⟩,()):=by
 rw[wq,dN,aa,if_neg (by simp),if_neg (by simp),if_pos (by simp;omega)]
 dsimp only
 rw[ol]
theorem iQ{a b:Int}{s:List Int}(h:a≠b):ip ⟨a::s,false⟩ b=some (false,⟨a::s,false⟩,()):=by
 rw[wq,dN,aa,if_neg (by simp),if_pos (by simp[h])]
theorem fw(r:av):(r.s=[]∨r.bad=true)∨∃ b s,r=⟨b::s,false⟩:=by
 obtain⟨s,bad⟩:=r
 cases s with
 | nil=>exact .inl (.inl rfl)
 | cons b s=>cases bad with
  | true=>exact .inl (.inr rfl)
  | false=>exact .inr ⟨b,s,rfl⟩
def cY(f:List Bool)(j:Nat):Nat→List Bool
 | 0=>f
 | n+1=>cY (f.set j true) (j+1) n
theorem fS(n:Nat):∀ (f:List Bool) (j:Nat),(cY f j n).length=f.length:=by
 induction n with
 | zero=>intro f j;rfl
 | succ n ih=>intro f j;unfold cY;rw[ih,List.length_set]
theorem Kp{k hi:Int}(c:aE)(z w:aq)(hh:hi≤255):∀ (n:Nat) (f:List Bool) (j:Nat),f.length=256→(hi+1-j).toNat=n→pR f k hi j c z w=j9 (cY f j n) (w64 (k+1)) c z w:=by
 intro n
 induction n with
 | zero=>intro f j hf hn;rw[Gm,aj (by omega)];rfl
 | succ n ih =>
  intro f j hf hn
  rw[Gm,if_pos (by rw[ab];omega),if_pos (by omega),aI (n:=(j:Int)+1) (by omega) (by omega),af]
  exact ih (f.set j true) (j+1) (by rw[List.length_set];exact hf) (by omega)
theorem Kn{t:List Int}{k hi:Int}(c:av)(z w:aq)(hh:hi≤255):∀ (n:Nat) (f:List Bool) (j:Nat),f.length=256→(hi+1-j).toNat=n→oT t f k hi j c z w=mo t (cY f j n) (w64 (k+1)) c z w:=by
 intro n
 induction n with
 | zero=>intro f j hf hn;rw[CU,aj (by omega)];rfl
 | succ n ih =>
  intro f j hf hn
  rw[CU,if_pos (by rw[ab];omega),if_pos (by omega),aI (n:=(j:Int)+1) (by omega) (by omega),af]
  exact ih (f.set j true) (j+1) (by rw[List.length_set];exact hf) (by omega)
def bD:Nat→List Int→List Bool→Bool→List Bool×Bool
 | 0,_,f,b=>(f,b)
 | _+1,[],f,b=>(f,b)
 | n+1,lo::t,f,b=>match t with
  | d::hi::u=>if d=45 then bD n u (cY f lo.toNat (hi+1-lo).toNat) (b||decide (hi<lo))else bD n t (cY f lo.toNat (lo+1-lo).toNat) b
  | _=>bD n t (cY f lo.toNat (lo+1-lo).toNat) b
theorem GJ(n:Nat):∀ (l:List Int) (f:List Bool) (b:Bool),(bD n l f b).1.length=f.length:=by
 induction n with
 | zero=>intro l f b;rfl
 | succ n ih =>
  intro l f b
  match l with
  | []=>rfl
  | [lo]=>show(bD n [] _ b).1.length=_;rw[ih,fS]
  | [lo,d]=>show(bD n [d] _ b).1.length=_;rw[ih,fS]
  | lo::d::hi::u =>
   show(if d=45 then _ else _:List Bool×Bool).1.length=_
   split
   ·rw[ih,fS]
   ·rw[ih,fS]
def jg(f:List Bool):Nat→Nat→List Int→List Int
 | _,0,t=>t
 | j,n+1,t=>jg f (j+1) n (if f.getD j false=true then t++[w8 j]else t)
theorem JI(c:aE)(z w:aq){f:List Bool}(hf:f.length=256):∀ (n j:Nat) (t:List Int),j+n=256→t.length≤j→pQ f t j c z w=some (⟨w.Op,w.C,jg f j n t,w.Not,w.Kids⟩,c,()):=by
 intro n
 induction n with
 | zero=>intro j t hj ht;rw[Gl,aj (by omega)];rfl
 | succ n ih =>
  intro j t hj ht
  rw[Gl,if_pos (by rw[ab];omega),if_pos (by omega),aI (n:=(j:Int)+1) (by omega) (by omega),af]
  unfold jg
  by_cases c:f.getD j false=true
  ·rw[if_pos c,if_pos c,if_pos (by rw[aR];omega)]
   exact ih (j+1) _ (by omega) (by simp;omega)
  ·rw[if_neg c,if_neg c]
   exact ih (j+1) _ (by omega) (by omega)
theorem JH(c:av)(z w:aq){f:List Bool}(hf:f.length=256):∀ (n j:Nat) (t:List Int),j+n=256→t.length≤j→jD t f 256 j c z w=some (⟨w.Op,w.C,jg f j n t,w.Not,w.Kids⟩,c,()):=by
 intro n
 induction n with
 | zero=>intro j t hj ht;rw[CT,aj (by omega)];rfl
 | succ n ih =>
  intro j t hj ht
  rw[CT,if_pos (by rw[ab];omega),if_pos (by omega),aI (n:=(j:Int)+1) (by omega) (by omega),af]
  unfold jg
  by_cases c:f.getD j false=true
  ·rw[if_pos c,if_pos c,if_pos (by rw[aR];omega)]
   exact ih (j+1) _ (by omega) (by simp;omega)
  ·rw[if_neg c,if_neg c]
   exact ih (j+1) _ (by omega) (by omega)
theorem tz(n:Nat)(lo:Int)(f:List Bool)(b:Bool):∀ (t:List Int),(∀ hi u,t≠45::hi::u)→bD (n+1) (lo::t) f b=bD n t (cY f lo.toNat (lo+1-lo).toNat) b
 | [],_=>rfl
 | [_],_=>rfl
 | d::hi::u,h=>by
  show(if d=45 then _ else _:List Bool×Bool)=_
  rw[if_neg (fun e=>h hi u (by rw[e]))]
theorem tw(n:Nat)(lo hi:Int)(u:List Int)(f:List Bool)(b:Bool):bD (n+1) (lo::45::hi::u) f b=bD n u (cY f lo.toNat (hi+1-lo).toNat) (b||decide (hi<lo)):=by
 rw[bD]
 exact if_pos rfl
theorem pY(n:Nat)(f:List Bool)(b:Bool):bD n [] f b=(f,b):=by cases n <;> rfl
def n93(x:Int):Bool:=!decide (x=93)
def aP(l:List Int):List Int:=l.takeWhile n93
theorem I2:aP []=[]:=rfl
theorem kD{l:List Int}:aP (93::l)=[]:=rfl
theorem g7{a:Int}{l:List Int}(h:a≠93):aP (a::l)=a::aP l:=List.takeWhile_cons_of_pos (by unfold n93;simp[h])
theorem uO(l:List Int):(aP l).length≤l.length:=(List.takeWhile_sublist _).length_le
theorem A6{k lo hi:Int}(c:aE)(z w:aq)(hh:hi≤255)(hl:0≤lo)(f:List Bool)(hf:f.length=256):pR f k hi lo c z w=j9 (cY f lo.toNat (hi+1-lo).toNat) (w64 (k+1)) c z w:=by
 have:=Kp (k:=k) c z w hh _ f lo.toNat hf rfl
 rwa [Int.toNat_of_nonneg hl]at this
theorem A5{t:List Int}{k lo hi:Int}(c:av)(z w:aq)(hh:hi≤255)(hl:0≤lo)(f:List Bool)(hf:f.length=256):oT t f k hi lo c z w=mo t (cY f lo.toNat (hi+1-lo).toNat) (w64 (k+1)) c z w:=by
 have:=Kn (t:=t) (k:=k) c z w hh _ f lo.toNat hf rfl
 rwa [Int.toNat_of_nonneg hl]at this
theorem R5(z w:aq){S:List Int}(hS:S.length≤60)(hB:∀ b∈S,0≤b∧b≤255):∀ (n p:Nat) (f:List Bool) (k:Int) (b:Bool),f.length=256→p≤S.length→(aP (S.drop p)).length≤n→0≤k→k≤p →
  j9 f k ⟨S,p,b⟩ z w=gh (bD n (aP (S.drop p)) f b).1 ⟨S,(p+(aP (S.drop p)).length:Nat),(decide (S.length≤p+(aP (S.drop p)).length)||(decide (k=0)&&decide (aP (S.drop p)=[])))||(bD n (aP (S.drop p)) f b).2⟩ z w:=by
 intro n
 induction n with
 | zero =>
  intro p f k b hf hp hn hk hkp
  have hn0:aP (S.drop p)=[]:=List.length_eq_zero_iff.1 (by omega)
  rw[hn0,pY,tm]
  simp only[List.length_nil,Nat.add_zero,decide_true,Bool.and_true]
  by_cases h:p<S.length
  ·have h93:S[p]=93:=by
    rw[ai h]at hn0
    apply Classical.byContradiction
    intro hne
    rw[g7 hne]at hn0
    cases hn0
   rw[if_pos (by rw[ab];omega),if_pos (by omega),aW h,h93,if_neg (by simp),aj (by omega)]
   by_cases hk0:k=0
   ·rw[ak hk0,ac hk0];simp
   ·rw[aj hk0,ae hk0,ae (p:=S.length≤p) (by omega)];simp
  ·rw[aj (by omega),if_pos (by rw[ab];omega),ac (p:=S.length≤p) (by omega)];simp
 | succ n ih =>
  intro p f k b hf hp hn hk hkp
  by_cases h:p<S.length
  ·by_cases h93:S[p]=93
   ·have hn0:aP (S.drop p)=[]:=by rw[ai h,h93,kD]
    rw[hn0,pY,tm]
    simp only[List.length_nil,Nat.add_zero,decide_true,Bool.and_true]
    rw[if_pos (by rw[ab];omega),if_pos (by omega),aW h,h93,if_neg (by simp),aj (by omega)]
    by_cases hk0:k=0
    ·rw[ak hk0,ac hk0];simp
    ·rw[aj hk0,ae hk0,ae (p:=S.length≤p) (by omega)];simp
   ·have hlo:=hB _ (List.getElem_mem h)
    have e0:aP (S.drop p)=S[p]::aP (S.drop (p+1)):=by rw[ai h,g7 h93]
    have hstep:∀ (t:List Int) (q:Nat) (f':List Bool) (b':Bool),f'.length=256→q≤S.length→p<q→(aP (S.drop q)).length≤n→p+(aP (S.drop p)).length=q+(aP (S.drop q)).length→bD (n+1) (aP (S.drop p)) f b=bD n (aP (S.drop q)) f' b' →
      j9 f' (w64 (k+1)) ⟨S,q,b'⟩ z w=gh (bD (n+1) (aP (S.drop p)) f b).1 ⟨S,(p+(aP (S.drop p)).length:Nat),(decide (S.length≤p+(aP (S.drop p)).length)||(decide (k=0)&&decide (aP (S.drop p)=[])))||(bD (n+1) (aP (S.drop p)) f b).2⟩ z w:=by
     intro t q f' b' hf' hq hpq hb he hr
     rw[hr,he,ih q f' _ b' hf' hq hb (by rw[aI (by omega) (by omega)];omega) (by rw[aI (by omega) (by omega)];omega)]
     have z1:decide (w64 (k+1)=0)=false:=by rw[aI (by omega) (by omega)];exact ae (by omega)
     have z2:decide (aP (S.drop p)=[])=false:=ae (by rw[e0];exact List.cons_ne_nil _ _)
     rw[z1,z2];simp
    have hno:lD f k (w64 S[p]) (w64 S[p]) ⟨S,(w64 ((p:Int)+1)),b⟩ z w=j9 (cY f S[p].toNat (S[p]+1-S[p]).toNat) (w64 (k+1)) ⟨S,(p+1:Nat),b⟩ z w:=by
     rw[aI (n:=S[p]) (by omega) (by omega),Gj,aj (by omega),Gk,A6 _ z w hlo.2 hlo.1 f hf,aI (n:=(p:Int)+1) (by omega) (by omega)]
     rfl
    rw[tm];dsimp only
    rw[if_pos (by rw[ab];omega),if_pos (by omega),aW h,if_pos (by simp[h93]),if_pos (by omega)]
    have hl1:p+(aP (S.drop p)).length=p+1+(aP (S.drop (p+1))).length:=by rw[e0];simp;omega
    have hn1:(aP (S.drop (p+1))).length≤n:=by rw[e0]at hn;simpa using hn
    have hel:(∀ hi u,aP (S.drop (p+1))≠45::hi::u)→lD f k (w64 S[p]) (w64 S[p]) ⟨S,(w64 ((p:Int)+1)),b⟩ z w=gh (bD (n+1) (aP (S.drop p)) f b).1 ⟨S,(p+(aP (S.drop p)).length:Nat),(decide (S.length≤p+(aP (S.drop p)).length)||(decide (k=0)&&decide (aP (S.drop p)=[])))||(bD (n+1) (aP (S.drop p)) f b).2⟩ z w:=fun hne=>by
     rw[hno]
     exact hstep [] (p+1) _ b (by rw[fS];exact hf) (by omega) (by omega) hn1 hl1 (by rw[e0];exact tz n _ f b _ hne)
    have w2:w64 (w64 ((p:Int)+1)+1)=((p+2:Nat):Int):=by rw[aI (n:=(p:Int)+1) (by omega) (by omega),aI (by omega) (by omega)];omega
    have w1:w64 ((p:Int)+1)=((p+1:Nat):Int):=by rw[aI (n:=(p:Int)+1) (by omega) (by omega)];omega
    by_cases h2:p+2<S.length
    ·have h1:p+1<S.length:=by omega
     rw[w2,if_pos (by rw[ab];omega),if_pos (by rw[w1];omega)]
     have g1:List.getD S (w64 ((p:Int)+1)).toNat 0=S[p+1]:=by rw[w1,aW h1]
     have g2:List.getD S ((p+2:Nat):Int).toNat 0=S[p+2]:=aW h2 0
     rw[g1,g2]
     by_cases c1:S[p+1]=45
     ·rw[ak c1,if_pos (by omega)]
      by_cases c2:S[p+2]=93
      ·rw[if_neg (by simp[c2])]
       refine hel fun hi u hu=>?_
       rw[ai h1,c1,g7 (by decide),ai h2,c2,kD]at hu
       cases hu
      ·have hhi:=hB _ (List.getElem_mem h2)
       rw[if_pos (by simp[c2]),if_pos (by omega)]
       have e1:aP (S.drop (p+1))=45::S[p+2]::aP (S.drop (p+3)):=by
        rw[ai h1,c1,g7 (by decide),ai h2,g7 c2]
       have w3:w64 (w64 ((p:Int)+1)+2)=((p+3:Nat):Int):=by rw[w1,aI (by omega) (by omega)];omega
       rw[w3,aI (n:=S[p]) (by omega) (by omega),aI (n:=S[p+2]) (by omega) (by omega),Gj]
       have hfin:∀ b',b'=(b||decide (S[p+2]<S[p]))→tn f k S[p] S[p+2] ⟨S,((p+3:Nat):Int),b'⟩ z w=gh (bD (n+1) (aP (S.drop p)) f b).1 ⟨S,(p+(aP (S.drop p)).length:Nat),(decide (S.length≤p+(aP (S.drop p)).length)||(decide (k=0)&&decide (aP (S.drop p)=[])))||(bD (n+1) (aP (S.drop p)) f b).2⟩ z w:=fun b' hb'=>by
        rw[Gk,A6 _ z w hhi.2 hlo.1 f hf]
        refine hstep [] (p+3) _ b' (by rw[fS];exact hf) (by omega) (by omega) (by rw[e1]at hn1;simp at hn1;omega) (by rw[hl1,e1];simp;omega) ?_
        rw[e0,e1,tw,hb']
       by_cases c3:S[p+2]<S[p]
       ·rw[ak c3];exact hfin true (by rw[ac c3,Bool.or_true])
       ·rw[aj c3];exact hfin b (by rw[ae c3,Bool.or_false])
     ·rw[aj c1]
      refine hel fun hi u hu=>?_
      rw[ai h1]at hu
      by_cases c9:S[p+1]=93
      ·rw[c9,kD]at hu;cases hu
      ·rw[g7 c9]at hu;exact c1 (List.cons.inj hu).1
    ·rw[w2,aj (by omega)]
     refine hel fun hi u hu=>?_
     have:=uO (S.drop (p+1))
     rw[hu,List.length_drop]at this
     simp at this
     omega
  ·have hd:S.drop p=[]:=List.drop_eq_nil_of_le (by omega)
   rw[hd,I2,pY,tm]
   simp only[List.length_nil,Nat.add_zero,decide_true,Bool.and_true]
   rw[aj (by omega),if_pos (by rw[ab];omega),ac (p:=S.length≤p) (by omega)];simp
theorem R4(z w:aq){s t:List Int}(ht:t.length≤60)(hB:∀ b∈t,0≤b∧b≤255):∀ (n i:Nat) (f:List Bool) (b:Bool),f.length=256→i≤t.length→(t.drop i).length≤n →
  mo t f i ⟨s,b⟩ z w=jD [] (bD n (t.drop i) f b).1 256 0 ⟨s,(bD n (t.drop i) f b).2⟩ z w:=by
 intro n
 induction n with
 | zero =>
  intro i f b hf hi hn
  have hd:t.drop i=[]:=List.length_eq_zero_iff.1 (by omega)
  rw[List.length_drop]at hn
  rw[hd,pY,wo,aj (by omega),hf]
  rfl
 | succ n ih =>
  intro i f b hf hi hn
  rw[List.length_drop]at hn
  by_cases h:i<t.length
  ·have hlo:=hB _ (List.getElem_mem h)
   rw[wo,if_pos (by rw[ab];omega),if_pos (by omega),if_pos (by omega),aW h]
   have e0:t.drop i=t[i]::t.drop (i+1):=ai h
   have hel:(∀ hi u,t.drop (i+1)≠45::hi::u)→kW t f i (w64 t[i]) (w64 t[i]) ⟨s,b⟩ z w=jD [] (bD (n+1) (t.drop i) f b).1 256 0 ⟨s,(bD (n+1) (t.drop i) f b).2⟩ z w:=fun hne=>by
    rw[CS,aI (n:=t[i]) (by omega) (by omega),A5 _ z w hlo.2 hlo.1 f hf,e0,tz n _ f b _ hne,aS h (by omega)]
    exact ih (i+1) _ b (by rw[fS];exact hf) (by omega) (by rw[List.length_drop];omega)
   have w1:w64 ((i:Int)+1)=((i+1:Nat):Int):=aS h (by omega)
   have w2:w64 ((i:Int)+2)=((i+2:Nat):Int):=by rw[aI (by omega) (by omega)];omega
   by_cases h2:i+2<t.length
   ·have h1:i+1<t.length:=by omega
    rw[w2,if_pos (by rw[ab];omega),w1,if_pos (by omega),aW h1]
    by_cases c1:t[i+1]=45
    ·have hhi:=hB _ (List.getElem_mem h2)
     rw[ak c1,if_pos (by omega),aW h2,aI (n:=t[i]) (by omega) (by omega),aI (n:=t[i+2]) (by omega) (by omega)]
     have e1:t.drop (i+1)=45::t[i+2]::t.drop (i+3):=by rw[ai h1,c1,ai h2]
     have hfin:∀ b',b'=(b||decide (t[i+2]<t[i]))→kW t f ((i+2:Nat):Int) t[i] t[i+2] ⟨s,b'⟩ z w=jD [] (bD (n+1) (t.drop i) f b).1 256 0 ⟨s,(bD (n+1) (t.drop i) f b).2⟩ z w:=fun b' hb'=>by
      rw[CS,A5 _ z w hhi.2 hlo.1 f hf,e0,e1,tw,hb',aS h2 (by omega)]
      exact ih (i+3) _ _ (by rw[fS];exact hf) (by omega) (by rw[List.length_drop];omega)
     cases b with
     | true=>rw[if_pos rfl];exact hfin true (by simp)
     | false=>rw[if_neg (by simp)];exact hfin _ (by simp)
    ·rw[aj c1]
     refine hel fun hi' u hu=>c1 ?_
     rw[ai h1]at hu
     exact(List.cons.inj hu).1
   ·rw[w2,aj (by omega)]
    refine hel fun hi' u hu=>?_
    have:=congrArg List.length hu
    rw[List.length_drop]at this
    simp at this
    omega
  ·have hd:t.drop i=[]:=List.drop_eq_nil_of_le (by omega)
   rw[hd,pY,wo,aj (by omega),hf]
   rfl
theorem C6:∀ l:List Int,(bV l 93 = -1∧aP l=l)∨(bV l 93=(aP l).length∧(aP l).length<l.length)
 | []=>.inl ⟨rfl,rfl⟩
 | b::l=>by
  by_cases h:b=93
  ·subst h
   refine .inr ⟨?_,?_⟩
   ·rw[bV,if_pos rfl,kD];rfl
   ·rw[kD];simp
  ·rw[bV,if_neg h,g7 h]
   rcases C6 l with ⟨e1,e2⟩ | ⟨e1,e2⟩
   ·rw[if_pos e1,e2];exact .inl ⟨rfl,rfl⟩
   ·rw[if_neg (by omega),e1];refine .inr ⟨by simp,by simp;omega⟩
theorem Am:∀ l:List Int,l.take (aP l).length=aP l
 | []=>rfl
 | b::l=>by
  by_cases h:b=93
  ·subst h;rw[kD];rfl
  ·rw[g7 h,List.length_cons,List.take_succ_cons,Am l]
def dR(u:List Int)(nt:Bool):aq×av :=
 if(aP u).length=u.length∨aP u=[] then(⟨0,0,[],false,[]⟩,⟨u,true⟩)
 else(⟨3,0,jg (bD (aP u).length (aP u) (List.replicate 256 false) false).1 0 256 [],nt,[]⟩,⟨u.drop ((aP u).length+1),(bD (aP u).length (aP u) (List.replicate 256 false) false).2⟩)
theorem wv(u:List Int)(nt:Bool)(hu:u.length≤60)(hb:∀ b∈u,0≤b∧b≤255)(s:List Int)(ht:ip ⟨s,false⟩ 94=some (nt,⟨u,false⟩,())) :
  mn ⟨s,false⟩=some ((dR u nt).1,(dR u nt).2,()):=by
 rw[Mx,ht,aa]
 dsimp only
 rw[H9,HG,Hz,aa,aa,aa]
 dsimp only
 unfold dR
 rcases C6 u with ⟨e1,e2⟩ | ⟨e1,e2⟩
 ·rw[e1,e2,if_pos (by decide),if_pos (.inl rfl)]
 ·by_cases h0:aP u=[]
  ·rw[e1,h0,if_pos (by simp),if_pos (.inr rfl)]
  ·have hl:0<(aP u).length:=List.length_pos_iff.2 h0
   have w1:w64 (((aP u).length:Int)+1)=(((aP u).length+1:Nat):Int):=by rw[aI (by omega) (by omega)];omega
   rw[e1,aj (by omega),if_pos (by omega),w1,if_pos (by omega),if_neg (fun h=>h.elim (by omega) h0)]
   dsimp only
   rw[af,af,Nat.sub_zero,List.drop_zero,Am,List.take_of_length_le (by simp)]
   have hi:=R4 (s:=u.drop ((aP u).length+1)) (aO) ⟨3,0,[],nt,[]⟩ (t:=aP u) (by omega) (fun b hx=>hb b ((List.takeWhile_sublist _).subset hx)) (aP u).length 0 (List.replicate 256 false) false List.length_replicate (by omega) (by rw[List.drop_zero];exact Nat.le_refl _)
   rw[List.drop_zero]at hi
   exact hi.trans (JH _ _ _ (by rw[GJ];exact List.length_replicate) 256 0 [] rfl (Nat.zero_le _))
theorem y9(s:List Int):∃ nt,∃ k:Nat,ip ⟨s,false⟩ 94=some (nt,⟨s.drop k,false⟩,())∧((nt=true∧k=1∧∃ u,s=94::u)∨(nt=false∧k=0∧∀ u,s≠94::u)):=by
 cases s with
 | nil=>exact⟨false,0,eU (.inl rfl),.inr ⟨rfl,rfl,fun u h=>by cases h⟩⟩
 | cons b u =>
  by_cases h:b=94
  ·subst h;exact⟨true,1,iR,.inl ⟨rfl,rfl,u,rfl⟩⟩
  ·exact⟨false,0,iQ h,.inr ⟨rfl,rfl,fun v hv=>h (List.cons.inj hv).1⟩⟩
theorem RW(u:List Int)(nt:Bool):(dR u nt).2.s <:+ u∧(dR u nt).1.Kids=[]:=by
 unfold dR
 split
 ·exact⟨List.suffix_refl _,rfl⟩
 ·exact⟨List.drop_suffix _ _,rfl⟩
def By(s:List Int):Prop:=s.length≤60∧∀ b∈s,0≤b∧b≤255
theorem By.suf{s t:List Int}(h:By s)(ht:t <:+ s):By t:=⟨Nat.le_trans ht.length_le h.1,fun b hb=>h.2 b (ht.subset hb)⟩
theorem CX(s:List Int)(h:By s):∃ y r,mn ⟨s,false⟩=some (y,r,())∧r.s <:+ s∧Small y:=by
 obtain⟨nt,k,e,_⟩:=y9 s
 have hu:By (s.drop k):=h.suf (List.drop_suffix _ _)
 have hr:=RW (s.drop k) nt
 exact⟨_,_,wv _ nt hu.1 hu.2 s e,hr.1.trans (List.drop_suffix _ _),p9 hr.2⟩
def cD(F:av→Option (aq×av×Unit))(s:List Int)(b:Bool)(k:Nat):Prop :=
 ∃ y r,F ⟨s,b⟩=some (y,r,())∧r.s <:+ s∧r.s.length+k≤s.length∧(b=true→r.bad=true)∧Small y
theorem kI{b:Int}{s:List Int}:(⟨List.take ((b::s).length-1) (List.drop 1 (b::s)),false⟩:av)=⟨s,false⟩:=by rw[ol]
theorem iP{b:Int}{s t:List Int}(h:t <:+ s):t <:+ b::s:=h.trans (List.suffix_cons b s)
theorem rq(b:Int)(s:List Int)(h:By (b::s))(hp:cD eK s false 0):cD ij (b::s) false 1:=by
 have hs:By s:=h.suf (List.suffix_cons b s)
 unfold cD
 rw[wm,dN,aa]
 dsimp only
 rw[if_pos (by simp;omega),kI]
 have leaf:∀ (x:aq) (bad:Bool),x.Kids=[]→∃ y r,some (x,(⟨s,bad⟩:av),())=some (y,r,())∧r.s <:+ b::s∧r.s.length+1≤(b::s).length∧(false=true→r.bad=true)∧Small y :=
  fun x bad hx=>⟨_,_,rfl,List.suffix_cons b s,by simp,(fun h=>by cases h),p9 hx⟩
 by_cases c1:b=40
 ·rw[ak c1]
  obtain⟨y,r,e,e1,e2,e3,e4⟩:=hp
  rw[e,aa]
  dsimp only
  rcases fw r with hr | ⟨a,t,hr⟩
  ·rw[eU hr,aa];dsimp only
   rw[if_pos (by simp)]
   exact⟨_,_,rfl,iP e1,by simp;omega,(fun h=>by cases h),e4⟩
  ·subst hr
   by_cases ha:a=41
   ·subst ha
    rw[iR,aa];dsimp only
    rw[if_neg (by simp)]
    refine⟨_,_,rfl,iP ((List.suffix_cons 41 t).trans e1),?_,(fun h=>by cases h),e4⟩
    simp at e2 ⊢;omega
   ·rw[iQ ha,aa];dsimp only
    rw[if_pos (by simp)]
    refine⟨_,_,rfl,iP e1,?_,(fun h=>by cases h),e4⟩
    simp at e2 ⊢;omega
 rw[aj c1]
 by_cases c2:b=46
 ·rw[ak c2];exact leaf _ _ rfl
 rw[aj c2]
 by_cases c3:b=94
 ·rw[ak c3];exact leaf _ _ rfl
 rw[aj c3]
 by_cases c4:b=36
 ·rw[ak c4];exact leaf _ _ rfl
 rw[aj c4]
 by_cases c5:b=91
 ·rw[ak c5]
  obtain⟨y,r,e,e1,e2⟩:=CX s hs
  rw[e,aa]
  exact⟨_,_,rfl,iP e1,by have:=e1.length_le;simp;omega,(fun h=>by cases h),e2⟩
 rw[aj c5]
 by_cases c6:b=92
 ·rw[ak c6]
  cases s with
  | nil=>rw[cV (.inl rfl),aa];dsimp only;rw[if_pos (by simp)];exact leaf _ _ rfl
  | cons a t =>
   rw[dN,aa];dsimp only
   rw[if_neg (by simp),if_pos (by simp;omega),ol]
   exact⟨_,_,rfl,iP (List.suffix_cons a t),by simp,(fun h=>by cases h),p9 rfl⟩
 rw[aj c6]
 have l1:∀ (t:Bool),∃ y r,ml b t ⟨s,false⟩ aO=some (y,r,())∧r.s <:+ b::s∧r.s.length+1≤(b::s).length∧(false=true→r.bad=true)∧Small y:=fun t=>by
  rw[mm]
  cases t with
  | true=>rw[if_pos rfl];exact leaf _ _ rfl
  | false=>rw[if_neg (by simp)];exact leaf _ _ rfl
 by_cases c7:b=42
 ·rw[ak c7];exact l1 _
 rw[aj c7]
 by_cases c8:b=43
 ·rw[ak c8];exact l1 _
 rw[aj c8]
 exact l1 _
theorem sC(b:Int):∃ v,rD b=some (v,())∧((v=8∧b=42)∨(v=9∧b=43)∨(v=10∧b=63)∨(v=0∧b≠42∧b≠43∧b≠63)):=by
 rw[Mw]
 by_cases c1:b=42
 ·rw[ak c1];exact⟨_,rfl,.inl ⟨rfl,c1⟩⟩
 rw[aj c1]
 by_cases c2:b=43
 ·rw[ak c2];exact⟨_,rfl,.inr (.inl ⟨rfl,c2⟩)⟩
 rw[aj c2]
 by_cases c3:b=63
 ·rw[ak c3];exact⟨_,rfl,.inr (.inr (.inl ⟨rfl,c3⟩))⟩
 rw[aj c3];exact⟨_,rfl,.inr (.inr (.inr ⟨rfl,c1,c2,c3⟩))⟩
theorem Sa{x:aq}(op:Int)(h:Small x):Small ⟨op,0,[],false,[x]⟩:=.mk _ (by simp) fun k hk=>by rw[List.mem_singleton.1 hk];exact h
theorem Mq(z:aq):∀ (n:Nat) (r:av) (x:aq),r.s.length≤n→Small x→∃ y r',jC r z x=some (y,r',())∧r'.s <:+ r.s∧(r.bad=true→r'.bad=true)∧Small y:=by
 intro n
 induction n with
 | zero =>
  intro r x hn hx
  rw[im,cV (.inl (List.length_eq_zero_iff.1 (by omega))),aa]
  dsimp only
  rw[if_pos (by simp)]
  exact⟨_,_,rfl,List.suffix_refl _,fun h=>h,hx⟩
 | succ n ih =>
  intro r x hn hx
  rw[im]
  rcases fw r with hr | ⟨b,s,rfl⟩
  ·rw[cV hr,aa]
   dsimp only
   rw[if_pos (by simp)]
   exact⟨_,_,rfl,List.suffix_refl _,fun h=>h,hx⟩
  ·obtain⟨v,e,hv⟩:=sC b
   rw[dN,aa]
   dsimp only
   rw[if_neg (by simp),e,aa]
   dsimp only
   by_cases c:v=0
   ·rw[ak c];exact⟨_,_,rfl,List.suffix_refl _,fun h=>h,hx⟩
   ·rw[aj c,if_pos (by simp;omega),aa]
    dsimp only
    rw[kI]
    obtain⟨y,r',e1,e2,e3,e4⟩:=ih ⟨s,false⟩ _ (by simp at hn ⊢;omega) (Sa v hx)
    exact⟨y,r',e1,iP e2,(fun h=>by cases h),e4⟩
theorem CM(z:aq):∀ (n:Nat) (r:av) (x:aq),r.s.length≤n→∃ y r',jC r z x=some (y,r',())∧r'.s <:+ r.s∧(r.bad=true→r'.bad=true):=by
 intro n
 induction n with
 | zero =>
  intro r x hn
  rw[im,cV (.inl (List.length_eq_zero_iff.1 (by omega))),aa]
  dsimp only
  rw[if_pos (by simp)]
  exact⟨_,_,rfl,List.suffix_refl _,fun h=>h⟩
 | succ n ih =>
  intro r x hn
  rw[im]
  rcases fw r with hr | ⟨b,s,rfl⟩
  ·rw[cV hr,aa]
   dsimp only
   rw[if_pos (by simp)]
   exact⟨_,_,rfl,List.suffix_refl _,fun h=>h⟩
  ·obtain⟨v,e,hv⟩:=sC b
   rw[dN,aa]
   dsimp only
   rw[if_neg (by simp),e,aa]
   dsimp only
   by_cases c:v=0
   ·rw[ak c];exact⟨_,_,rfl,List.suffix_refl _,fun h=>h⟩
   ·rw[aj c,if_pos (by simp;omega),aa]
    dsimp only
    rw[kI]
    obtain⟨y,r',e1,e2,e3⟩:=ih ⟨s,false⟩ _ (by simp at hn ⊢;omega)
    exact⟨y,r',e1,iP e2,(fun h=>by cases h)⟩
theorem CO(b:Int)(s:List Int)(h:cD ij (b::s) false 1):cD eL (b::s) false 1:=by
 obtain⟨y,r,e,e1,e2,e3,e4⟩:=h
 unfold cD
 rw[wn,e,aa]
 obtain⟨y',r',f1,f2,f3,f4⟩:=Mq aO _ r y (Nat.le_refl _) e4
 exact⟨y',r',f1,f2.trans e1,by have:=f2.length_le;omega,(fun h=>by cases h),f4⟩
theorem GT{l:List aq}(op:Int)(hl:l.length≤100)(h:∀ x∈l,Small x):Small ⟨op,0,[],false,l⟩:=.mk _ hl h
def eR(l:List aq):aq:=if l.length=0 then⟨11,0,[],false,[]⟩else if l.length=1 then l.getD 0 aO else⟨6,0,[],false,l⟩
def ez(l:List aq):aq:=if l.length=1 then l.getD 0 aO else⟨7,0,[],false,l⟩
theorem cJ{α:Type}(l:List aq)(r:α) :
  (if(decide ((List.length l:Int)=0))=true then some ((aq.mk 11 0 [] false []),r,()) else
   if(decide ((List.length l:Int)=1))=true then if(0:Int)≤0∧(0:Int)<(List.length l:Int)then some ((List.getD l 0 aO),r,())else none
   else some ((aq.mk 6 0 [] false l),r,()))=some (eR l,r,()):=by
 unfold eR
 by_cases c:l.length=0
 ·rw[ak (by omega),if_pos c]
 ·rw[aj (by omega),if_neg c]
  by_cases d:l.length=1
  ·rw[ak (by omega),if_pos (by omega),if_pos d]
  ·rw[aj (by omega),if_neg d]
theorem dP{α:Type}(l:List aq)(r:α) :
  (if(decide ((List.length l:Int)=1))=true then if(0:Int)≤0∧(0:Int)<(List.length l:Int)then some ((List.getD l 0 aO),r,())else none
   else some ((aq.mk 7 0 [] false l),r,()))=some (ez l,r,()):=by
 unfold ez
 by_cases d:l.length=1
 ·rw[ak (by omega),if_pos (by omega),if_pos d]
 ·rw[aj (by omega),if_neg d]
theorem Br{l:List aq}(h:∀ x∈l,Small x)(hl:l.length=1):Small (l.getD 0 aO):=by
 match l,hl with
 | [x],_=>exact h x (List.mem_singleton.2 rfl)
theorem Eo{l:List aq}(hl:l.length≤100)(h:∀ x∈l,Small x):Small (eR l):=by
 unfold eR
 split
 ·exact p9 rfl
 ·split
  ·exact Br h ‹_›
  ·exact GT 6 hl h
theorem Es{l:List aq}(hl:l.length≤100)(h:∀ x∈l,Small x):Small (ez l):=by
 unfold ez
 split
 ·exact Br h ‹_›
 ·exact GT 7 hl h
theorem GS{l:List aq}{x:aq}(h:∀ y∈l,Small y)(hx:Small x):∀ y∈List.append l [x],Small y:=by
 intro y hy
 rcases List.mem_append.1 hy with hy | hy
 ·exact h y hy
 ·rw[List.mem_singleton.1 hy];exact hx
theorem wk(z:aq)(N:Nat)(hp:∀ b s,(b::s).length≤N→By (b::s)→cD eL (b::s) false 1):∀ (n:Nat) (r:av) (l:List aq),r.s.length≤n→n≤N→By r.s→l.length+n≤60→(∀ x∈l,Small x) →
  ∃ y r',jA l r z=some (y,r',())∧r'.s <:+ r.s∧(r.bad=true→r'.bad=true)∧Small y:=by
 intro n
 induction n with
 | zero =>
  intro r l hn hN hb hl hx
  rw[ik,cV (.inl (List.length_eq_zero_iff.1 (by omega))),aa]
  dsimp only
  rw[if_pos (by simp),cJ]
  exact⟨_,_,rfl,List.suffix_refl _,fun h=>h,Eo (by omega) hx⟩
 | succ n ih =>
  intro r l hn hN hb hl hx
  rw[ik]
  have stop:∃ y r',some (eR l,r,())=some (y,r',())∧r'.s <:+ r.s∧(r.bad=true→r'.bad=true)∧Small y:=⟨_,_,rfl,List.suffix_refl _,fun h=>h,Eo (by omega) hx⟩
  rcases fw r with hr | ⟨b,s,rfl⟩
  ·rw[cV hr,aa]
   dsimp only
   rw[if_pos (by simp),cJ]
   exact stop
  ·rw[dN,aa]
   dsimp only
   rw[if_neg (by simp)]
   by_cases c1:b=124
   ·rw[ak c1,cJ];exact stop
   rw[aj c1]
   by_cases c2:b=41
   ·rw[ak c2,cJ];exact stop
   rw[aj c2]
   obtain⟨y,r,e,e1,e2,e3,e4⟩:=hp b s (by have:(b::s).length≤n+1:=hn;omega) hb
   rw[e,aa]
   dsimp only
   rw[if_pos (by rw[aR];omega)]
   have h2:r.s.length≤n:=by simp only[List.length_cons]at e2 hn;omega
   obtain⟨y',r',f1,f2,f3,f4⟩:=ih r _ h2 (by omega) (hb.suf e1) (by show(l++[y]).length+n≤60;simp;omega) (GS hx e4)
   exact⟨y',r',f1,f2.trans e1,(fun h=>by cases h),f4⟩
theorem CK(z:aq)(N:Nat)(hp:∀ s b,s.length≤N→By s→cD fj s b 0):∀ (n:Nat) (r:av) (l:List aq),r.s.length≤n→n≤N→By r.s→l.length+n≤61→(∀ x∈l,Small x) →
  ∃ y r',jB l r z=some (y,r',())∧r'.s <:+ r.s∧(r.bad=true→r'.bad=true)∧Small y:=by
 intro n
 induction n with
 | zero =>
  intro r l hn hN hb hl hx
  rw[il,eU (.inl (List.length_eq_zero_iff.1 (by omega))),aa]
  dsimp only
  rw[if_neg (by simp),dP]
  exact⟨_,_,rfl,List.suffix_refl _,fun h=>h,Es (by omega) hx⟩
 | succ n ih =>
  intro r l hn hN hb hl hx
  rw[il]
  have stop:∃ y r',some (ez l,r,())=some (y,r',())∧r'.s <:+ r.s∧(r.bad=true→r'.bad=true)∧Small y:=⟨_,_,rfl,List.suffix_refl _,fun h=>h,Es (by omega) hx⟩
  rcases fw r with hr | ⟨b,s,rfl⟩
  ·rw[eU hr,aa]
   dsimp only
   rw[if_neg (by simp),dP]
   exact stop
  ·by_cases c1:b=124
   ·subst c1
    rw[iR,aa]
    dsimp only
    have hbs:By s:=hb.suf (List.suffix_cons _ _)
    have hn':s.length≤n:=by simp only[List.length_cons]at hn;omega
    obtain⟨y,r,e,e1,e2,e3,e4⟩:=hp s false (by omega) hbs
    rw[if_pos rfl,e,aa]
    dsimp only
    rw[if_pos (by rw[aR];omega)]
    obtain⟨y',r',f1,f2,f3,f4⟩:=ih r _ (by omega) (by omega) (hbs.suf e1) (by show(l++[y]).length+n≤61;simp;omega) (GS hx e4)
    exact⟨y',r',f1,iP (f2.trans e1),(fun h=>by cases h),f4⟩
   ·rw[iQ c1,aa]
    dsimp only
    rw[if_neg (by simp),dP]
    exact stop
theorem oY:∀ (n:Nat) (s:List Int) (b:Bool),s.length≤n→By s→cD eK s b 0:=by
 intro n
 induction n with
 | zero =>
  intro s b hn hs
  have hpart:∀ s b,s.length≤0→By s→cD fj s b 0:=fun s b h hs=>by
   unfold cD
   rw[oS]
   obtain⟨y,r',f1,f2,f3,f4⟩:=wk aO 0 (fun b s h=>by simp at h) 0 ⟨s,b⟩ [] h (Nat.le_refl _) hs (by simp) (fun x hx=>by cases hx)
   exact⟨y,r',f1,f2,f2.length_le,f3,f4⟩
  unfold cD
  obtain⟨y,r,e,e1,e2,e3,e4⟩:=hpart s b hn hs
  rw[rF,e,aa]
  obtain⟨y',r',f1,f2,f3,f4⟩:=CK aO 0 hpart 0 r [y] (by have:=e1.length_le;omega) (Nat.le_refl _) (hs.suf e1) (by simp) (fun x hx=>by rw[List.mem_singleton.1 hx];exact e4)
  exact⟨y',r',f1,f2.trans e1,by have:=(f2.trans e1).length_le;omega,fun h=>f3 (e3 h),f4⟩
 | succ n ih =>
  intro s b hn hs
  have hpiece:∀ b s,(b::s).length≤n+1→By (b::s)→cD eL (b::s) false 1:=fun b s h hs =>
   CO b s (rq b s hs (ih s false (by simpa using h) (hs.suf (List.suffix_cons _ _))))
  have hpart:∀ s b,s.length≤n+1→By s→cD fj s b 0:=fun s b h hs=>by
   unfold cD
   rw[oS]
   obtain⟨y,r',f1,f2,f3,f4⟩:=wk aO (n+1) hpiece s.length ⟨s,b⟩ [] (Nat.le_refl _) h hs (by have:=hs.1;simp;omega) (fun x hx=>by cases hx)
   exact⟨y,r',f1,f2,f2.length_le,f3,f4⟩
  unfold cD
  obtain⟨y,r,e,e1,e2,e3,e4⟩:=hpart s b hn hs
  rw[rF,e,aa]
  have h60:=hs.1
  obtain⟨y',r',f1,f2,f3,f4⟩:=CK aO (n+1) hpart s.length r [y] (by have:=e1.length_le;omega) hn (hs.suf e1) (by simp;omega) (fun x hx=>by rw[List.mem_singleton.1 hx];exact e4)
  exact⟨y',r',f1,f2.trans e1,by have:=(f2.trans e1).length_le;omega,fun h=>f3 (e3 h),f4⟩
def Res(S:List Int)(p:Nat)(d:Int)(lo:Nat)(x:aq)(c:aE)(y:aq)(r:av):Prop :=
 (∃ q:Nat,p+lo≤q∧q≤S.length∧c=⟨S,(q:Int),false⟩∧r=⟨S.drop q,false⟩∧x=y)∨(c.bad=true∧(r.bad=false→(r.s.length:Int)+82≤S.length+d))
def Sim(S:List Int)(p:Nat)(d:Int)(lo:Nat)(fs:Option (aq×aE×Unit))(fi:Option (aq×av×Unit)):Prop :=
 ∃ x c y r,fs=some (x,c,())∧fi=some (y,r,())∧Res S p d lo x c y r
theorem lM{p:Nat}(h:p≤1000):w64 ((p:Int)+1)=((p+1:Nat):Int):=by rw[aI (by omega) (by omega)];omega
theorem GK{S:List Int}(hS:By S)(q:Nat)(hq:q≤S.length)(nt:Bool)(d:Int) :
  ∃ x c,tl ⟨S,(q:Int),false⟩ aO ⟨3,0,[],nt,[]⟩=some (x,c,())∧Res S q d 0 x c (dR (S.drop q) nt).1 (dR (S.drop q) nt).2:=by
 have h60:=hS.1
 have hl:=uO (S.drop q)
 rw[List.length_drop]at hl
 rw[Ru,R5 aO _ hS.1 hS.2 (aP (S.drop q)).length q _ 0 false List.length_replicate hq (Nat.le_refl _) (Int.le_refl _) (by omega),Rv]
 dsimp only
 have hc:=fun c=>JI c aO ⟨3,0,[],nt,[]⟩ (f:=(bD (aP (S.drop q)).length (aP (S.drop q)) (List.replicate 256 false) false).1) (by rw[GJ];exact List.length_replicate) 256 0 [] rfl (Nat.zero_le _)
 rw[show((0:Nat):Int)=0 from rfl]at hc
 rw[lM (by omega),hc]
 refine⟨_,_,rfl,?_⟩
 unfold dR
 split
 ·rename_i h
  refine .inr ⟨?_,fun h=>by cases h⟩
  dsimp only
  rcases h with h | h
  ·rw[List.length_drop]at h
   rw[ac (p:=S.length≤q+(aP (S.drop q)).length) (by omega)];rfl
  ·rw[h,ac (p:=(0:Int)=0) rfl,ac (p:=([]:List Int)=[]) rfl,Bool.and_true,Bool.or_true,Bool.true_or]
 ·rename_i h
  have h1:¬ (aP (S.drop q)).length=(S.drop q).length:=fun e=>h (.inl e)
  have h2:¬ aP (S.drop q)=[]:=fun e=>h (.inr e)
  rw[List.length_drop]at h1
  dsimp only
  rw[ae (p:=S.length≤q+(aP (S.drop q)).length) (by omega),ae h2,Bool.and_false,Bool.or_false,Bool.false_or,List.drop_drop]
  cases (bD (aP (S.drop q)).length (aP (S.drop q)) (List.replicate 256 false) false).2 with
  | true=>exact .inr ⟨rfl,fun h=>by cases h⟩
  | false=>exact .inl ⟨q+(aP (S.drop q)).length+1,by omega,by omega,rfl,rfl,rfl⟩
theorem R6{S:List Int}(hS:By S)(p:Nat)(hp:p≤S.length)(d:Int):Sim S p d 0 (yN ⟨S,(p:Int),false⟩) (mn ⟨S.drop p,false⟩):=by
 have h60:=hS.1
 obtain⟨nt,k,e,hk⟩:=y9 (S.drop p)
 have hu:By ((S.drop p).drop k):=hS.suf ((List.drop_suffix _ _).trans (List.drop_suffix _ _))
 have hi:=wv _ nt hu.1 hu.2 _ e
 rw[Rw]
 rcases hk with ⟨rfl,rfl,u,hu'⟩ | ⟨rfl,rfl,hu'⟩
 ·have hlt:p<S.length:=by
   have:=congrArg List.length hu'
   rw[List.length_drop]at this
   simp at this;omega
  have h94:S[p]=94:=by
   rw[ai hlt]at hu'
   exact(List.cons.inj hu').1
  rw[ll hlt,aa]
  dsimp only
  rw[ak h94,lM (by omega)]
  obtain⟨x,c,e1,e2⟩:=GK hS (p+1) (by omega) true d
  rw[List.drop_drop]at hi
  refine⟨x,c,_,_,e1,hi,?_⟩
  rcases e2 with ⟨q,a,b⟩ | h
  ·exact .inl ⟨q,by omega,b⟩
  ·exact .inr h
 ·have hn:ge ⟨S,(p:Int),false⟩ 94=some (false,⟨S,(p:Int),false⟩,()):=by
   by_cases hlt:p<S.length
   ·rw[ll hlt]
    have:¬ S[p]=94:=fun h=>hu' (S.drop (p+1)) (by rw[ai hlt,h])
    rw[ae this]
   ·exact gK (by omega)
  rw[hn,aa]
  dsimp only
  rw[if_neg (by simp)]
  obtain⟨x,c,e1,e2⟩:=GK hS p hp false d
  exact⟨x,c,_,_,e1,hi,e2⟩
theorem IP{S:List Int}(hS:By S)(p:Nat)(hp:p<S.length)(d:Int)(hd:0≤d)(hdp:d≤p)
  (hpat:Sim S (p+1) (d+1) 0 (lC ⟨S,((p+1:Nat):Int),false⟩ (d+1)) (eK ⟨S.drop (p+1),false⟩)) :
  Sim S p d 1 (ta ⟨S,(p:Int),false⟩ d) (ij ⟨S.drop p,false⟩):=by
 have h60:=hS.1
 have hdrop:=ai hp
 unfold Sim
 rw[Ro]
 dsimp only
 rw[if_neg (by simp),aj (by omega)]
 by_cases h40:d>40
 ·rw[ak h40]
  have hb:=hS.suf (List.drop_suffix p S)
  rw[hdrop]at hb ⊢
  obtain⟨y,r,e,e1,e2,e3,e4⟩:=rq S[p] _ hb (oY _ _ false (Nat.le_refl _) (hS.suf (List.drop_suffix (p+1) S)))
  refine⟨_,_,_,_,rfl,e,.inr ⟨rfl,fun _=>?_⟩⟩
  simp only[List.length_cons,List.length_drop]at e2
  omega
 rw[aj h40,if_pos (by omega),aW hp,lM (by omega),aI (n:=d+1) (by omega) (by omega),hdrop,wm,dN,aa]
 dsimp only
 rw[if_pos (c:=(0:Int)≤1∧(1:Int)≤((S[p]::S.drop (p+1)).length:Int)) (by simp;omega),kI]
 by_cases c1:S[p]=40
 ·rw[ak c1,ak c1]
  obtain⟨x,c,y,r,e1,e2,e3⟩:=hpat
  rw[e1,e2,aa,aa]
  dsimp only
  rcases e3 with ⟨q,q1,q2,rfl,rfl,rfl⟩ | ⟨hc,hr⟩
  ·by_cases hq:q<S.length
   ·rw[ll hq,aa,ai hq]
    dsimp only
    by_cases ha:S[q]=41
    ·rw[ha,iR,aa,if_neg (by simp),lM (by omega)]
     dsimp only
     rw[if_neg (by simp)]
     exact⟨_,_,_,_,rfl,rfl,.inl ⟨q+1,by omega,by omega,rfl,rfl,rfl⟩⟩
    ·rw[iQ ha,aa,if_pos (by simp[ha])]
     dsimp only
     rw[if_pos (by simp)]
     exact⟨_,_,_,_,rfl,rfl,.inr ⟨rfl,fun h=>by cases h⟩⟩
   ·rw[gK (by omega),aa,List.drop_eq_nil_of_le (by omega),eU (.inl rfl),aa]
    dsimp only
    rw[if_pos (by simp),if_pos (by simp)]
    exact⟨_,_,_,_,rfl,rfl,.inr ⟨rfl,fun h=>by cases h⟩⟩
  ·rw[Ec hc,aa]
   dsimp only
   rw[if_pos (by simp)]
   rcases fw r with hr' | ⟨a,t,rfl⟩
   ·rw[eU hr',aa]
    dsimp only
    rw[if_pos (by simp)]
    exact⟨_,_,_,_,rfl,rfl,.inr ⟨rfl,fun h=>by cases h⟩⟩
   ·have:=hr rfl
    simp only[List.length_cons]at this
    by_cases ha:a=41
    ·subst ha
     rw[iR,aa]
     dsimp only
     rw[if_neg (by simp)]
     exact⟨_,_,_,_,rfl,rfl,.inr ⟨rfl,fun h=>by dsimp only;omega⟩⟩
    ·rw[iQ ha,aa]
     dsimp only
     rw[if_pos (by simp)]
     exact⟨_,_,_,_,rfl,rfl,.inr ⟨rfl,fun h=>by cases h⟩⟩
 have n1:¬ (decide (S[p]=40)=true):=by rw[ab];exact c1
 rw[if_neg n1,if_neg n1]
 have good:∀ x:aq,∃ x' c' y' r',some (x,(⟨S,((p+1:Nat):Int),false⟩:aE),())=some (x',c',())∧some (x,(⟨S.drop (p+1),false⟩:av),())=some (y',r',())∧Res S p d 1 x' c' y' r' :=
  fun x=>⟨_,_,_,_,rfl,rfl,.inl ⟨p+1,by omega,by omega,rfl,rfl,rfl⟩⟩
 have bad:∀ (x y:aq) (a:Int) (s:List Int),∃ x' c' y' r',some (x,(⟨S,a,true⟩:aE),())=some (x',c',())∧some (y,(⟨s,true⟩:av),())=some (y',r',())∧Res S p d 1 x' c' y' r' :=
  fun x y a s=>⟨_,_,_,_,rfl,rfl,.inr ⟨rfl,fun h=>by cases h⟩⟩
 by_cases c2:S[p]=46
 ·rw[ak c2,ak c2];exact good _
 have n2:¬ (decide (S[p]=46)=true):=by rw[ab];exact c2
 rw[if_neg n2,if_neg n2]
 by_cases c3:S[p]=94
 ·rw[ak c3,ak c3];exact good _
 have n3:¬ (decide (S[p]=94)=true):=by rw[ab];exact c3
 rw[if_neg n3,if_neg n3]
 by_cases c4:S[p]=36
 ·rw[ak c4,ak c4];exact good _
 have n4:¬ (decide (S[p]=36)=true):=by rw[ab];exact c4
 rw[if_neg n4,if_neg n4]
 by_cases c5:S[p]=91
 ·rw[ak c5,ak c5]
  obtain⟨x,c,y,r,e1,e2,e3⟩:=R6 hS (p+1) (by omega) d
  rw[e1,e2,aa,aa]
  refine⟨_,_,_,_,rfl,rfl,?_⟩
  rcases e3 with ⟨q,a,b⟩ | h
  ·exact .inl ⟨q,by omega,b⟩
  ·exact .inr h
 have n5:¬ (decide (S[p]=91)=true):=by rw[ab];exact c5
 rw[if_neg n5,if_neg n5]
 by_cases c6:S[p]=92
 ·rw[ak c6,ak c6]
  by_cases hq:p+1<S.length
  ·rw[aj (by omega),if_pos (by omega),aW hq,lM (by omega),ai hq,dN,aa]
   dsimp only
   rw[if_neg (by simp),if_pos (by simp;omega),ol]
   exact⟨_,_,_,_,rfl,rfl,.inl ⟨p+1+1,by omega,by omega,rfl,rfl,rfl⟩⟩
  ·rw[ak (by omega),List.drop_eq_nil_of_le (by omega),cV (.inl rfl),aa]
   dsimp only
   rw[if_pos (by simp)]
   exact bad _ _ _ _
 have n6:¬ (decide (S[p]=92)=true):=by rw[ab];exact c6
 rw[if_neg n6,if_neg n6]
 by_cases c7:S[p]=42
 ·rw[ak c7,ak c7,ak c7,tb,mm,ak c7];exact bad _ _ _ _
 have n7:¬ (decide (S[p]=42)=true):=by rw[ab];exact c7
 rw[if_neg n7,if_neg n7]
 by_cases c8:S[p]=43
 ·rw[ak c8,ak c8,ak c8,tb,mm,ak c8];exact bad _ _ _ _
 have n8:¬ (decide (S[p]=43)=true):=by rw[ab];exact c8
 rw[if_neg n8,if_neg n8]
 by_cases c9:S[p]=63
 ·rw[ak c9,tb,mm,ak c9];exact bad _ _ _ _
 have n9:¬ (decide (S[p]=63)=true):=by rw[ab];exact c9
 rw[if_neg n9,tb,mm,if_neg n9]
 exact good _
theorem O6{c:aE}(z x:aq)(h:c.bad=true):pP c z x=some (x,c,()):=by
 rw[tg,if_neg (by simp[h])]
theorem O7{S:List Int}(hS:By S)(d:Int):∀ (n p:Nat) (x:aq),p≤S.length→S.length-p≤n→Sim S p d 0 (pP ⟨S,(p:Int),false⟩ aO x) (jC ⟨S.drop p,false⟩ aO x):=by
 have h60:=hS.1
 have stop:∀ (p:Nat) (x:aq),p≤S.length→∃ x' c' y' r',some (x,(⟨S,(p:Int),false⟩:aE),())=some (x',c',())∧some (x,(⟨S.drop p,false⟩:av),())=some (y',r',())∧Res S p d 0 x' c' y' r' :=
  fun p x hp=>⟨_,_,_,_,rfl,rfl,.inl ⟨p,by omega,hp,rfl,rfl,rfl⟩⟩
 intro n
 induction n with
 | zero =>
  intro p x hp hn
  unfold Sim
  rw[tg,if_pos (by simp),gK (by omega),aa]
  dsimp only
  rw[if_neg (by simp),gK (by omega),aa]
  dsimp only
  rw[if_neg (by simp),gK (by omega),aa]
  dsimp only
  rw[if_neg (by simp),th,if_pos (by simp),im,cV (.inl (List.drop_eq_nil_of_le (by omega))),aa]
  dsimp only
  rw[if_pos (by simp)]
  exact stop p x hp
 | succ n ih =>
  intro p x hp hn
  by_cases hlt:p<S.length
  ·unfold Sim
   rw[tg,if_pos (by simp),ll hlt,aa]
   dsimp only
   rw[ll hlt,aa]
   dsimp only
   rw[ll hlt,aa,im,ai hlt,dN,aa]
   dsimp only
   obtain⟨v,e,hv⟩:=sC S[p]
   rw[if_neg (c:=(!true)=true) (by simp),e,aa]
   dsimp only
   rw[aa]
   dsimp only
   rw[if_pos (c:=(0:Int)≤1∧(1:Int)≤((S[p]::S.drop (p+1)).length:Int)) (by simp;omega),kI]
   have go:∀ v:Int,v≠0→Sim S p d 0 (ny v ⟨S,(p:Int),false⟩ aO x) (jC ⟨S.drop (p+1),false⟩ aO ⟨v,0,[],false,[x]⟩):=fun v hv=>by
    rw[th,aj hv]
    dsimp only
    rw[lM (by omega)]
    obtain⟨x',c',y',r',f1,f2,f3⟩:=ih (p+1) ⟨v,0,[],false,[x]⟩ (by omega) (by omega)
    refine⟨x',c',y',r',f1,f2,?_⟩
    rcases f3 with ⟨q,a,b⟩ | h
    ·exact .inl ⟨q,by omega,b⟩
    ·exact .inr h
   rcases hv with ⟨rfl,h⟩ | ⟨rfl,h⟩ | ⟨rfl,h⟩ | ⟨rfl,h1,h2,h3⟩
   ·rw[ak h,if_neg (by simp)];exact go 8 (by decide)
   ·rw[if_neg (by rw[h];simp),ak h,if_neg (by simp)];exact go 9 (by decide)
   ·rw[if_neg (by rw[h];simp),if_neg (by rw[h];simp),ak h,if_neg (by simp)];exact go 10 (by decide)
   ·rw[aj h1,aj h2,aj h3,if_pos (by simp),th,if_pos (by simp),← ai hlt]
    exact stop p x hp
  ·have hz:S.length-p≤0:=by omega
   unfold Sim
   rw[tg,if_pos (by simp),gK (by omega),aa]
   dsimp only
   rw[if_neg (by simp),gK (by omega),aa]
   dsimp only
   rw[if_neg (by simp),gK (by omega),aa]
   dsimp only
   rw[if_neg (by simp),th,if_pos (by simp),im,cV (.inl (List.drop_eq_nil_of_le (by omega))),aa]
   dsimp only
   rw[if_pos (by simp)]
   exact stop p x hp
theorem O8{S:List Int}(hS:By S)(p:Nat)(d:Int)(h:Sim S p d 1 (ta ⟨S,(p:Int),false⟩ d) (ij ⟨S.drop p,false⟩)) :
  Sim S p d 1 (te ⟨S,(p:Int),false⟩ d) (eL ⟨S.drop p,false⟩):=by
 obtain⟨x,c,y,r,e1,e2,e3⟩:=h
 unfold Sim
 rw[Rr,wn,e1,e2,aa,aa]
 dsimp only
 rcases e3 with ⟨q,q1,q2,rfl,rfl,rfl⟩ | ⟨hc,hr⟩
 ·obtain⟨x',c',y',r',f1,f2,f3⟩:=O7 hS d _ q x q2 (Nat.le_refl _)
  refine⟨x',c',y',r',f1,f2,?_⟩
  rcases f3 with ⟨q',a,b⟩ | h
  ·exact .inl ⟨q',by omega,b⟩
  ·exact .inr h
 ·rw[O6 _ _ hc]
  obtain⟨y',r',f1,f2,f3⟩:=CM aO _ r y (Nat.le_refl _)
  refine⟨_,_,_,_,rfl,f1,.inr ⟨hc,fun h=>?_⟩⟩
  have:=f2.length_le
  have hb:r.bad=false:=by
   cases hb:r.bad with
   | false=>rfl
   | true=>rw[f3 hb]at h;cases h
  have:=hr hb
  omega
theorem OZ{c:aE}(d:Int)(l:List aq)(z:aq)(h:c.bad=true):pN d l c z=some (eR l,c,()):=by
 rw[yL,if_neg (by simp[h]),cJ]
theorem xT{S:List Int}{p p' lo:Nat}{d:Int}{x:aq}{c:aE}{y:aq}{r:av}(lo':Nat)(h:Res S p' d lo x c y r)(hp:p+lo'≤p'+lo):Res S p d lo' x c y r:=by
 rcases h with ⟨q,a,b⟩ | h
 ·exact .inl ⟨q,by omega,b⟩
 ·exact .inr h
theorem uJ{r r':av}{S:List Int}{d:Int}(hr:r.bad=false→(r.s.length:Int)+82≤S.length+d)(hs:r'.s <:+ r.s)(hb:r.bad=true→r'.bad=true) :
  r'.bad=false→(r'.s.length:Int)+82≤S.length+d:=by
 intro h
 have:=hs.length_le
 have hb':r.bad=false:=by
  cases hb':r.bad with
  | false=>rfl
  | true=>rw[hb hb']at h;cases h
 have:=hr hb'
 omega
theorem jx(n:Nat):(∀ b s,(b::s).length≤n→By (b::s)→cD eL (b::s) false 1)∧(∀ s b,s.length≤n→By s→cD fj s b 0):=by
 have hpiece:∀ b s,(b::s).length≤n→By (b::s)→cD eL (b::s) false 1:=fun b s h hs =>
  CO b s (rq b s hs (oY _ s false (Nat.le_refl _) (hs.suf (List.suffix_cons _ _))))
 refine⟨hpiece,fun s b h hs=>?_⟩
 unfold cD
 rw[oS]
 obtain⟨y,r',f1,f2,f3,f4⟩:=wk aO n hpiece s.length ⟨s,b⟩ [] (Nat.le_refl _) h hs (by have:=hs.1;simp;omega) (fun x hx=>by cases hx)
 exact⟨y,r',f1,f2,f2.length_le,f3,f4⟩
theorem Ep(z:aq)(r:av)(hb:By r.s):∀ (l:List aq),l.length+r.s.length≤60→∃ y r',jA l r z=some (y,r',())∧r'.s <:+ r.s∧(r.bad=true→r'.bad=true):=by
 have key:∀ (n:Nat) (r:av) (l:List aq),r.s.length≤n→By r.s→l.length+n≤60→∃ y r',jA l r z=some (y,r',())∧r'.s <:+ r.s∧(r.bad=true→r'.bad=true):=by
  intro n
  induction n with
  | zero =>
   intro r l hn hb hl
   rw[ik,cV (.inl (List.length_eq_zero_iff.1 (by omega))),aa]
   dsimp only
   rw[if_pos (by simp),cJ]
   exact⟨_,_,rfl,List.suffix_refl _,fun h=>h⟩
  | succ n ih =>
   intro r l hn hb hl
   rw[ik]
   have stop:∃ y r',some (eR l,r,())=some (y,r',())∧r'.s <:+ r.s∧(r.bad=true→r'.bad=true):=⟨_,_,rfl,List.suffix_refl _,fun h=>h⟩
   rcases fw r with hr | ⟨b,s,rfl⟩
   ·rw[cV hr,aa]
    dsimp only
    rw[if_pos (by simp),cJ]
    exact stop
   ·rw[dN,aa]
    dsimp only
    rw[if_neg (by simp)]
    by_cases c1:b=124
    ·rw[ak c1,cJ];exact stop
    rw[aj c1]
    by_cases c2:b=41
    ·rw[ak c2,cJ];exact stop
    rw[aj c2]
    obtain⟨y,r,e,e1,e2,e3,e4⟩:=(jx _).1 b s (Nat.le_refl _) hb
    rw[e,aa]
    dsimp only
    rw[if_pos (by rw[aR];omega)]
    have h2:r.s.length≤n:=by have:(b::s).length≤n+1:=hn;omega
    obtain⟨y',r',f1,f2,f3⟩:=ih r _ h2 (hb.suf e1) (by show(l++[y]).length+n≤60;simp;omega)
    exact⟨y',r',f1,f2.trans e1,(fun h=>by cases h)⟩
 intro l hl
 exact key _ r l (Nat.le_refl _) hb hl
theorem sv(z:aq)(r:av)(hb:By r.s):∀ (l:List aq),l.length+r.s.length≤61→∃ y r',jB l r z=some (y,r',())∧r'.s <:+ r.s∧(r.bad=true→r'.bad=true):=by
 have key:∀ (n:Nat) (r:av) (l:List aq),r.s.length≤n→By r.s→l.length+n≤61→∃ y r',jB l r z=some (y,r',())∧r'.s <:+ r.s∧(r.bad=true→r'.bad=true):=by
  intro n
  induction n with
  | zero =>
   intro r l hn hb hl
   rw[il,eU (.inl (List.length_eq_zero_iff.1 (by omega))),aa]
   dsimp only
   rw[if_neg (by simp),dP]
   exact⟨_,_,rfl,List.suffix_refl _,fun h=>h⟩
  | succ n ih =>
   intro r l hn hb hl
   rw[il]
   have stop:∃ y r',some (ez l,r,())=some (y,r',())∧r'.s <:+ r.s∧(r.bad=true→r'.bad=true):=⟨_,_,rfl,List.suffix_refl _,fun h=>h⟩
   rcases fw r with hr | ⟨b,s,rfl⟩
   ·rw[eU hr,aa]
    dsimp only
    rw[if_neg (by simp),dP]
    exact stop
   ·by_cases c1:b=124
    ·subst c1
     rw[iR,aa]
     dsimp only
     have hbs:By s:=hb.suf (List.suffix_cons _ _)
     have hn':s.length≤n:=by have:(124::s).length≤n+1:=hn;simp only[List.length_cons]at this;omega
     obtain⟨y,r,e,e1,e2,e3,e4⟩:=(jx _).2 s false (Nat.le_refl _) hbs
     rw[if_pos rfl,e,aa]
     dsimp only
     rw[if_pos (by rw[aR];omega)]
     obtain⟨y',r',f1,f2,f3⟩:=ih r _ (by omega) (hbs.suf e1) (by show(l++[y]).length+n≤61;simp;omega)
     exact⟨y',r',f1,iP (f2.trans e1),(fun h=>by cases h)⟩
    ·rw[iQ c1,aa]
     dsimp only
     rw[if_neg (by simp),dP]
     exact stop
 intro l hl
 exact key _ r l (Nat.le_refl _) hb hl
theorem O0{S:List Int}(hS:By S)(d:Int)(m:Nat)(hp:∀ p,p<S.length→S.length-p≤m→d≤p→Sim S p d 1 (te ⟨S,(p:Int),false⟩ d) (eL ⟨S.drop p,false⟩)) :
  ∀ (n p:Nat) (l:List aq),p≤S.length→S.length-p≤n→n≤m→d≤p→l.length+n≤60→Sim S p d 0 (pN d l ⟨S,(p:Int),false⟩ aO) (jA l ⟨S.drop p,false⟩ aO):=by
 have h60:=hS.1
 intro n
 induction n with
 | zero =>
  intro p l h1 h2 h3 h4 h5
  unfold Sim
  rw[yL]
  dsimp only
  rw[if_pos (by simp),aj (by omega),cJ,ik,cV (.inl (List.drop_eq_nil_of_le (by omega))),aa]
  dsimp only
  rw[if_pos (by simp),cJ]
  exact⟨_,_,_,_,rfl,rfl,.inl ⟨p,by omega,h1,rfl,rfl,rfl⟩⟩
 | succ n ih =>
  intro p l h1 h2 h3 h4 h5
  unfold Sim
  have stop:∃ x' c' y' r',some (eR l,(⟨S,(p:Int),false⟩:aE),())=some (x',c',())∧some (eR l,(⟨S.drop p,false⟩:av),())=some (y',r',())∧Res S p d 0 x' c' y' r' :=
   ⟨_,_,_,_,rfl,rfl,.inl ⟨p,by omega,h1,rfl,rfl,rfl⟩⟩
  rw[yL]
  dsimp only
  by_cases hlt:p<S.length
  ·have hd:=ai hlt
   rw[if_pos (by simp),ak (by omega),if_pos (by omega),aW hlt,ik]
   obtain⟨x,c,y,r,e1,e2,e3⟩:=hp p hlt (by omega) h4
   rw[hd]at stop e2 ⊢
   rw[dN,aa]
   dsimp only
   rw[if_neg (c:=(!true)=true) (by simp)]
   by_cases c1:S[p]=124
   ·rw[if_neg (by simp[c1]),cJ,ak c1,cJ];exact stop
   have n1:¬ (decide (S[p]=124)=true):=by rw[ab];exact c1
   rw[if_pos (by rw[ae c1];rfl),if_pos (by omega),if_neg n1]
   by_cases c2:S[p]=41
   ·rw[if_neg (by simp[c2]),cJ,ak c2,cJ];exact stop
   have n2:¬ (decide (S[p]=41)=true):=by rw[ab];exact c2
   rw[if_pos (by rw[ae c2];rfl),if_neg n2,e1,e2,aa,aa]
   dsimp only
   rw[if_pos (by rw[aR];omega),if_pos (by rw[aR];omega)]
   have hl:∀ y:aq,(List.append l [y]).length=l.length+1:=fun y=>by show(l++[y]).length=_;simp
   rcases e3 with ⟨q,q1,q2,rfl,rfl,rfl⟩ | ⟨hc,hr⟩
   ·obtain⟨x',c',y',r',f1,f2,f3⟩:=ih q (List.append l [x]) q2 (by omega) (by omega) (by omega) (by rw[hl];omega)
    exact⟨x',c',y',r',f1,f2,xT 0 f3 (by omega)⟩
   ·rw[OZ _ _ _ hc]
    have hb:=hS.suf (List.drop_suffix p S)
    rw[hd]at hb
    obtain⟨y2,r2,g,g1,g2,g3,g4⟩:=(jx _).1 S[p] _ (Nat.le_refl _) hb
    rw[e2]at g
    obtain⟨rfl,rfl⟩:y=y2∧r=r2:=by
     have:=Option.some.inj g
     exact⟨congrArg Prod.fst this,congrArg (fun z=>z.2.1) this⟩
    simp only[List.length_cons,List.length_drop]at g2
    obtain⟨y',r',f1,f2,f3⟩:=Ep aO r (hb.suf g1) (List.append l [y]) (by rw[hl];omega)
    exact⟨_,_,_,_,rfl,f1,.inr ⟨hc,uJ hr f2 f3⟩⟩
  ·rw[if_pos (by simp),aj (by omega),cJ,ik,cV (.inl (List.drop_eq_nil_of_le (by omega))),aa]
   dsimp only
   rw[if_pos (by simp),cJ]
   exact stop
theorem Et{c:aE}(d:Int)(l:List aq)(z:aq)(h:c.bad=true):pO d l c z=some (ez l,c,()):=by
 rw[td,Ec h,aa]
 dsimp only
 rw[if_neg (by simp),dP]
theorem O2{S:List Int}(hS:By S)(d:Int)(m:Nat)(hp:∀ p,p≤S.length→S.length-p≤m→d≤p→Sim S p d 0 (pM ⟨S,(p:Int),false⟩ d) (fj ⟨S.drop p,false⟩)) :
  ∀ (n p:Nat) (l:List aq),p≤S.length→S.length-p≤n→n≤m→d≤p→l.length+n≤61→Sim S p d 0 (pO d l ⟨S,(p:Int),false⟩ aO) (jB l ⟨S.drop p,false⟩ aO):=by
 have h60:=hS.1
 intro n
 induction n with
 | zero =>
  intro p l h1 h2 h3 h4 h5
  unfold Sim
  rw[td,gK (by omega),aa]
  dsimp only
  rw[if_neg (by simp),dP,il,eU (.inl (List.drop_eq_nil_of_le (by omega))),aa]
  dsimp only
  rw[if_neg (by simp),dP]
  exact⟨_,_,_,_,rfl,rfl,.inl ⟨p,by omega,h1,rfl,rfl,rfl⟩⟩
 | succ n ih =>
  intro p l h1 h2 h3 h4 h5
  unfold Sim
  have stop:∃ x' c' y' r',some (ez l,(⟨S,(p:Int),false⟩:aE),())=some (x',c',())∧some (ez l,(⟨S.drop p,false⟩:av),())=some (y',r',())∧Res S p d 0 x' c' y' r' :=
   ⟨_,_,_,_,rfl,rfl,.inl ⟨p,by omega,h1,rfl,rfl,rfl⟩⟩
  by_cases hlt:p<S.length
  ·have hd:=ai hlt
   rw[td,ll hlt,aa,il]
   dsimp only
   rw[hd]at stop ⊢
   by_cases c1:S[p]=124
   ·rw[c1,iR,aa,if_pos (by simp),lM (by omega)]
    dsimp only
    rw[if_pos rfl]
    obtain⟨x,c,y,r,e1,e2,e3⟩:=hp (p+1) (by omega) (by omega) (by omega)
    rw[e1,e2,aa,aa]
    dsimp only
    rw[if_pos (by rw[aR];omega),if_pos (by rw[aR];omega)]
    have hl:∀ y:aq,(List.append l [y]).length=l.length+1:=fun y=>by show(l++[y]).length=_;simp
    rcases e3 with ⟨q,q1,q2,rfl,rfl,rfl⟩ | ⟨hc,hr⟩
    ·obtain⟨x',c',y',r',f1,f2,f3⟩:=ih q (List.append l [x]) q2 (by omega) (by omega) (by omega) (by rw[hl];omega)
     exact⟨x',c',y',r',f1,f2,xT 0 f3 (by omega)⟩
    ·rw[Et _ _ _ hc]
     have hb:=hS.suf (List.drop_suffix (p+1) S)
     obtain⟨y2,r2,g,g1,g2,g3,g4⟩:=(jx _).2 _ false (Nat.le_refl _) hb
     rw[e2]at g
     obtain⟨rfl,rfl⟩:y=y2∧r=r2:=by
      have:=Option.some.inj g
      exact⟨congrArg Prod.fst this,congrArg (fun z=>z.2.1) this⟩
     simp only[List.length_drop]at g2
     obtain⟨y',r',f1,f2,f3⟩:=sv aO r (hb.suf g1) (List.append l [y]) (by rw[hl];omega)
     exact⟨_,_,_,_,rfl,f1,.inr ⟨hc,uJ hr f2 f3⟩⟩
   ·rw[iQ c1,aa,aj c1,dP]
    dsimp only
    rw[if_neg (by simp),dP]
    exact stop
  ·rw[td,gK (by omega),aa]
   dsimp only
   rw[if_neg (by simp),dP,il,eU (.inl (List.drop_eq_nil_of_le (by omega))),aa]
   dsimp only
   rw[if_neg (by simp),dP]
   exact stop
theorem Ev{S:List Int}(hS:By S)(m:Nat)(p:Nat)(d:Int)(hpat:∀ p',p'<S.length→S.length-p'≤m→d≤p'→Sim S (p'+1) (d+1) 0 (lC ⟨S,((p'+1:Nat):Int),false⟩ (d+1)) (eK ⟨S.drop (p'+1),false⟩))
  (h1:p≤S.length) (h2:S.length-p≤m) (h3:0≤d) (h4:d≤p) (hm:m≤60):Sim S p d 0 (lC ⟨S,(p:Int),false⟩ d) (eK ⟨S.drop p,false⟩):=by
 have h60:=hS.1
 have hpart:∀ p,p≤S.length→S.length-p≤m→d≤p→Sim S p d 0 (pM ⟨S,(p:Int),false⟩ d) (fj ⟨S.drop p,false⟩):=fun p a b c=>by
  rw[Rp,oS]
  exact O0 hS d m (fun p' a' b' c'=>O8 hS p' d (IP hS p' a' d h3 c' (hpat p' a' b' c'))) m p [] a b (Nat.le_refl _) c (by simp;omega)
 unfold Sim
 obtain⟨x,c,y,r,e1,e2,e3⟩:=hpart p h1 h2 h4
 rw[Rq,rF,e1,e2,aa,aa]
 dsimp only
 rcases e3 with ⟨q,q1,q2,rfl,rfl,rfl⟩ | ⟨hc,hr⟩
 ·obtain⟨x',c',y',r',f1,f2,f3⟩:=O2 hS d m hpart m q [x] q2 (by omega) (Nat.le_refl _) (by omega) (by simp;omega)
  exact⟨x',c',y',r',f1,f2,xT 0 f3 (by omega)⟩
 ·rw[Et _ _ _ hc]
  have hb:=hS.suf (List.drop_suffix p S)
  obtain⟨y2,r2,g,g1,g2,g3,g4⟩:=(jx _).2 _ false (Nat.le_refl _) hb
  rw[e2]at g
  obtain⟨rfl,rfl⟩:y=y2∧r=r2:=by
   have:=Option.some.inj g
   exact⟨congrArg Prod.fst this,congrArg (fun z=>z.2.1) this⟩
  simp only[List.length_drop]at g2
  obtain⟨y',r',f1,f2,f3⟩:=sv aO r (hb.suf g1) [y] (by simp;omega)
  exact⟨_,_,_,_,rfl,f1,.inr ⟨hc,uJ hr f2 f3⟩⟩
theorem O3{S:List Int}(hS:By S):∀ (n p:Nat) (d:Int),p≤S.length→S.length-p≤n→0≤d→d≤p→Sim S p d 0 (lC ⟨S,(p:Int),false⟩ d) (eK ⟨S.drop p,false⟩):=by
 have h60:=hS.1
 intro n
 induction n with
 | zero =>
  intro p d h1 h2 h3 h4
  exact Ev hS 0 p d (fun p' h h' h''=>absurd h (by omega)) h1 h2 h3 h4 (by omega)
 | succ n ih =>
  intro p d h1 h2 h3 h4
  exact Ev hS (S.length-p) p d (fun p' h h' h''=>ih (p'+1) (d+1) (by omega) (by omega) (by omega) (by omega)) h1 (Nat.le_refl _) h3 h4 (by omega)
theorem ES(S:List Int)(hB:∀ b∈S,0≤b∧b≤255)(hl:S.length≤9223372036854775807):∃ x ok,lx S=some (x,ok,())∧mh S=some (x,ok,()):=by
 rw[QA,Cg]
 by_cases c:(S.length:Int)>60
 ·rw[ak c,ak c];exact⟨_,_,rfl,rfl⟩
 have n1:¬ (decide ((S.length:Int)>60)=true):=by rw[ab];exact c
 have hS:By S:=⟨by omega,hB⟩
 obtain⟨x,c,y,r,e1,e2,e3⟩:=O3 hS S.length 0 0 (Nat.zero_le _) (by omega) (Int.le_refl _) (Int.le_refl _)
 rw[List.drop_zero]at e2
 rw[show((0:Nat):Int)=0 from rfl]at e1
 rw[if_neg n1,if_neg n1,e1,e2,aa,aa]
 dsimp only
 obtain⟨y2,r2,g,g1,g2,g3,g4⟩:=oY _ S false (Nat.le_refl _) hS
 rw[e2]at g
 obtain⟨rfl,rfl⟩:y=y2∧r=r2:=by
  have:=Option.some.inj g
  exact⟨congrArg Prod.fst this,congrArg (fun z=>z.2.1) this⟩
 rcases e3 with ⟨q,q1,q2,rfl,rfl,rfl⟩ | ⟨hc,hr⟩
 ·dsimp only
  rw[if_neg (c:=false=true) (by simp),if_neg (c:=false=true) (by simp)]
  by_cases hq:q=S.length
  ·have a1:¬ ((!(decide ((q:Int)=(S.length:Int))))=true):=by rw[ac (by omega)];decide
   have a2:¬ ((!(decide (S.drop q=[])))=true):=by rw[ac (List.drop_eq_nil_of_le (by omega))];decide
   obtain⟨v,d1,d2⟩:=ve g4
   rw[if_neg a1,if_neg a2,d1,d2,aa]
   dsimp only
   by_cases hv:v>12
   ·rw[ak hv];exact⟨_,_,rfl,rfl⟩
   ·rw[aj hv];exact⟨_,_,rfl,rfl⟩
  ·have a1:(!(decide ((q:Int)=(S.length:Int))))=true:=by rw[ae (by omega)];rfl
   have a2:(!(decide (S.drop q=[])))=true:=by
    rw[ae (fun h=>by have:=congrArg List.length h;rw[List.length_drop]at this;simp at this;omega)];rfl
   rw[if_pos a1,if_pos a2];exact⟨_,_,rfl,rfl⟩
 ·rw[if_pos hc]
  cases hb:r.bad with
  | true=>rw[if_pos rfl];exact⟨_,_,rfl,rfl⟩
  | false=>have:=hr hb;have:=hS.1;omega
def d7(x:Int):Bool:=(decide (97≤x)&&decide (x≤122))||(decide (65≤x)&&decide (x≤90))
theorem Cz(x:Int):wb x=some (d7 x,()):=by
 rw[Cy]
 unfold d7
 by_cases c1:x≥97
 ·by_cases c2:x≤122
  ·rw[ak c1,ak c2,ac (show 97≤x from c1),ac c2];rfl
  ·rw[ak c1,aj c2,ak (by omega),ae c2,Bool.and_false,Bool.false_or,ac (show 65≤x by omega),Bool.true_and]
 ·rw[aj c1,ae (show ¬ 97≤x from c1),Bool.false_and,Bool.false_or]
  by_cases c3:x≥65
  ·rw[ak c3,ac (show 65≤x from c3),Bool.true_and]
  ·rw[aj c3,ae (show ¬ 65≤x from c3),Bool.false_and]
theorem RM(x:Int):yV x=some (d7 x,()):=by
 have:=Cz x
 rw[Cy]at this
 rw[RL];exact this
theorem tN(l:List (List Int))(s:List Int)(hl:l.length≤4294967296):lF l s=some (decide (s∈l),()):=by
 rw[RN]
 have:=fg (fun i=>nC l s i) l.length (fun i=>decide (l.getD i []=s)) (some (true,())) (some (false,())) (fun i hi=>by
  show nC l s i=_
  rw[Gv,ak (by omega),if_pos (by omega),aS hi (by omega),af]) (by
  show nC l s _=_
  rw[Gv,if_neg (by simp)])
 rw[this,dW l [] (fun x=>decide (x=s))]
 have:l.any (fun x=>decide (x=s))=decide (s∈l):=by
  rw[Bool.eq_iff_iff,List.any_eq_true,ab]
  constructor
  ·rintro ⟨x,hx,e⟩;rw[ab]at e;subst e;exact hx
  ·intro h;exact⟨s,h,ac rfl⟩
 rw[this]
 cases decide (s∈l) <;> rfl
theorem uZ(l:List (List Int))(s:List Int)(hl:l.length≤4294967296):qi l s=some (decide (s∈l),()):=by
 rw[Tc,Tn]
 obtain⟨k,e,e1,_⟩:=gF (fun i=>nL l s (l.length:Int) i) () l.length (fun i=>decide (s=l.getD i [])) (fun i hi=>by
  show nL l s _ i=_
  rw[H4,ak (by omega),if_pos (by omega),aS hi (by omega),af]) (by
  show nL l s _ _=_
  rw[H4,if_neg (by simp)])
 rw[e,aa]
 dsimp only
 rw[e1,dW l [] (fun x=>decide (s=x))]
 congr 2
 rw[Bool.eq_iff_iff,List.any_eq_true,ab]
 constructor
 ·rintro ⟨x,hx,e⟩;rw[ab]at e;subst e;exact hx
 ·intro h;exact⟨s,h,ac rfl⟩
def kw1:List (List Int):=[[66,69,71,73,78],[112,114,105,110,116],[105,102],[101,108,115,101],[119,104,105,108,101],[110,101,120,116],[100,101,108,101,116,101],[78,82],[78,70]]
def kw2:List (List Int):=[[108,101,110,103,116,104],[115,117,98,115,116,114],[105,110,100,101,120],[105,110,116],[117,112,112,101,114],[108,111,119,101,114]]
def mA(s:List Int):Bool:=decide (s∈kw1)||decide (s∈kw2)
theorem FL:tt=some (kw2,()):=RK
theorem Cq:rt=some (kw2,()):=LM
theorem Qp(s:List Int):yj s=some (mA s,()):=by
 have e:lF [[66,69,71,73,78],[112,114,105,110,116],[105,102],[101,108,115,101],[119,104,105,108,101],[110,101,120,116],[100,101,108,101,116,101],[78,82],[78,70]] s=some (decide (s∈kw1),()):=tN kw1 s (by decide)
 rw[Qo,e,aa,FL,aa]
 dsimp only
 rw[tN kw2 s (by decide),aa]
 unfold mA
 cases decide (s∈kw1) <;> rfl
theorem Lp(s:List Int)(b:Bool):fV s b=some (b||decide (s∈kw2),()):=by
 rw[Lm,Cq,aa]
 dsimp only
 rw[uZ kw2 s (by decide),aa]
 cases b <;> rfl
theorem Lr(s:List Int):vM s=some (mA s,()):=by
 rw[Lq]
 simp only[Lp]
 have:decide (s∈kw1)=(decide (s=[66,69,71,73,78])||(decide (s=[112,114,105,110,116])||(decide (s=[105,102])||(decide (s=[101,108,115,101])||(decide (s=[119,104,105,108,101])||(decide (s=[110,101,120,116])||(decide (s=[100,101,108,101,116,101])||(decide (s=[78,82])||decide (s=[78,70]))))))))):=by
  rw[Bool.eq_iff_iff]
  simp only[ab,Bool.or_eq_true,kw1,List.mem_cons,List.not_mem_nil,or_false]
 unfold mA
 rw[this]
 cases decide (s=[66,69,71,73,78]) <;> cases decide (s=[112,114,105,110,116]) <;> cases decide (s=[105,102]) <;> cases decide (s=[101,108,115,101]) <;> cases decide (s=[119,104,105,108,101]) <;> cases decide (s=[110,101,120,116]) <;> cases decide (s=[100,101,108,101,116,101]) <;> cases decide (s=[78,82]) <;> rfl
def fZ(s:List Int):Bool:=(decide (1≤(s.length:Int)∧(s.length:Int)≤8)&&s.all d7) && !mA s
theorem Gx(s:List Int)(hl:s.length≤4294967296):tu s=some (fZ s,()):=by
 rw[RO]
 have:=fg (fun i=>nD s i) s.length (fun i=>!d7 (s.getD i 0)) (some (false,())) (some (decide (1≤(s.length:Int)∧(s.length:Int)≤8) && !mA s,())) (fun i hi=>by
  show nD s i=_
  rw[Gw,ak (by omega),if_pos (by omega),aS hi (by omega),af,RM,aa]) (by
  show nD s _=_
  rw[Gw,if_neg (by simp),cB,aa,Qp,aa]
  dsimp only
  cases decide (1≤(s.length:Int)∧(s.length:Int)≤8) <;> rfl)
 rw[this,dW s 0 (fun x=>!d7 x)]
 unfold fZ
 have h:s.any (fun x=>!d7 x) = !s.all d7:=by rw[← List.not_all_eq_any_not]
 rw[h]
 cases s.all d7 <;> cases decide (1≤(s.length:Int)∧(s.length:Int)≤8) <;> rfl
theorem N8(s:List Int)(hl:s.length≤4294967296):∃ k:Int,we s 0=some (k,())∧decide (k=(s.length:Int))=s.all d7:=by
 rw[L6]
 have key:∀ (d i:Nat),i+d=s.length→(∀ j (h:j<s.length),j<i→d7 s[j]=true)→∃ k:Int,ry s 0 (i:Int)=some (k,())∧decide (k=(s.length:Int))=s.all d7:=by
  intro d
  induction d with
  | zero =>
   intro i hd hj
   have hi:i=s.length:=by omega
   subst hi
   rw[CA,aI (n:=0+(s.length:Int)) (by omega) (by omega),if_neg (by simp)]
   refine⟨_,rfl,?_⟩
   rw[ac rfl,eq_comm,List.all_eq_true]
   intro x hx
   obtain⟨j,h,rfl⟩:=List.mem_iff_getElem.1 hx
   exact hj j h h
  | succ d ih =>
   intro i hd hj
   have hi:i<s.length:=by omega
   rw[CA,aI (n:=0+(i:Int)) (by omega) (by omega),Int.zero_add,ak (by omega),if_pos (by omega),aW hi,Cz,aa]
   dsimp only
   cases e:d7 s[i] with
   | true =>
    rw[if_pos rfl,aS hi (by omega)]
    refine ih (i+1) (by omega) fun j h h'=>?_
    by_cases g:j=i
    ·subst g;exact e
    ·exact hj j h (by omega)
   | false =>
    rw[if_neg (by simp)]
    refine⟨_,rfl,?_⟩
    rw[ae (by omega),eq_comm]
    cases g:s.all d7 with
    | false=>rfl
    | true=>have:=List.all_eq_true.1 g s[i] (List.getElem_mem hi);rw[e]at this;cases this
 exact key s.length 0 (by omega) (fun j _ h=>absurd h (by omega))
theorem L0(s:List Int)(hl:s.length≤4294967296):wc s=some (fZ s,()):=by
 obtain⟨k,e,e1⟩:=N8 s hl
 rw[LZ,d4,aa,e,aa]
 dsimp only
 rw[e1,Lr,aa]
 unfold fZ
 cases s.all d7 <;> cases decide (1≤(s.length:Int)∧(s.length:Int)≤8) <;> rfl
noncomputable def nb(s:List Int):Bool:=match lx s with
 | some (_,ok,_)=>ok
 | none=>false
theorem ET(s:List Int)(hb:∀ b∈s,0≤b∧b≤255)(hl:s.length≤9223372036854775807):(∃ x,lx s=some (x,nb s,())∧mh s=some (x,nb s,())):=by
 obtain⟨x,ok,e1,e2⟩:=ES s hb hl
 have:nb s=ok:=by unfold nb;rw[e1]
 rw[this];exact⟨x,e1,e2⟩
noncomputable def opB(o:am)(n v c:Int):Bool :=
 if o.Code=1 then decide (-9000000000000≤o.N∧o.N≤9000000000000)&&decide (o.S=[])
 else if o.Code=2 then decide (o.N=0)
 else if o.Code=3∨o.Code=4∨o.Code=5 then(decide (o.N≥0)&&decide (o.N<v))&&decide (o.S=[])
 else if o.Code=6∨o.Code=7∨o.Code=8∨o.Code=35 then(decide (o.N≥0)&&decide (o.N<c))&&decide (o.S=[])
 else if o.Code=24∨o.Code=25 then nb o.S&&decide (o.N=0)
 else if o.Code=29 then decide (1≤o.N∧o.N≤3)&&decide (o.S∈kw2)
 else if o.Code=30∨o.Code=31 then decide (0≤o.N∧o.N≤w64 (n-1))&&decide (o.S=[])
 else if o.Code=33 then decide (0≤o.N∧o.N≤1)&&decide (o.S=[])
 else(decide (1≤o.Code∧o.Code≤36)&&decide (o.N=0))&&decide (o.S=[])
theorem Fi(n:Int):ef n=some (decide (-9000000000000≤n∧n≤9000000000000),()):=by rw[Fh,cB];rfl
theorem BZ(n:Int):cg n=some (decide (-9000000000000≤n∧n≤9000000000000),()):=by rw[BX,d4];rfl
theorem L5(s:List Int)(hb:∀ b∈s,0≤b∧b≤255)(hl:s.length≤9223372036854775807):wd s=some (nb s,()):=by
 obtain⟨x,e1,e2⟩:=ET s hb hl
 rw[L4,e2];rfl
theorem pc(a b:Bool):(if a=true then some (b,())else some (false,()))=some (a&&b,()):=by cases a <;> rfl
theorem in4(t1:Int)(c:Int)(b:Bool)(o:am):sZ t1 c b o=some (if b=true then decide (0≤o.N∧o.N≤w64 (t1-1))&&decide (o.S=[])else if c=33 then decide (0≤o.N∧o.N≤1)&&decide (o.S=[]) else(decide (1≤o.Code∧o.Code≤36)&&decide (o.N=0))&&decide (o.S=[]),()):=by
 rw[Q7,cB,cB,cB]
 simp only[aa,pc]
 cases b with
 | true=>rfl
 | false =>
  by_cases h:c=33
  ·simp[h]
  ·simp[h,Bool.and_assoc]
theorem Q9(o:am)(n v c:Int)(hb:∀ b∈o.S,0≤b∧b≤255)(hl:o.S.length≤9223372036854775807):yz o n v c=some (opB o n v c,()):=by
 obtain⟨x,e1,e2⟩:=ET o.S hb hl
 rw[Q8,Fi]
 simp only[aa,pc,Q4,Q5,Q6,in4,e1,FL,cB,tN kw2 _ (by decide)]
 unfold opB
 by_cases c1:o.Code=1
 ·simp[c1,Bool.and_assoc]
 by_cases c2:o.Code=2
 ·simp[c2,Bool.and_assoc]
 by_cases c3:o.Code=3
 ·simp[c3,Bool.and_assoc]
 by_cases c4:o.Code=4
 ·simp[c4,Bool.and_assoc]
 by_cases c5:o.Code=5
 ·simp[c5,Bool.and_assoc]
 by_cases c6:o.Code=6
 ·simp[c6,Bool.and_assoc]
 by_cases c7:o.Code=7
 ·simp[c7,Bool.and_assoc]
 by_cases c8:o.Code=8
 ·simp[c8,Bool.and_assoc]
 by_cases c35:o.Code=35
 ·simp[c35,Bool.and_assoc]
 by_cases c24:o.Code=24
 ·simp[c24,Bool.and_assoc]
 by_cases c25:o.Code=25
 ·simp[c25,Bool.and_assoc]
 by_cases c29:o.Code=29
 ·simp[c29,Bool.and_assoc]
 by_cases c30:o.Code=30
 ·simp[c30,Bool.and_assoc]
 by_cases c31:o.Code=31
 ·simp[c31,Bool.and_assoc]
 by_cases c33:o.Code=33
 ·simp[c33,Bool.and_assoc]
 simp[Bool.and_assoc,c1,c2,c3,c4,c5,c6,c7,c8,c35,c24,c25,c29,c30,c31,c33]
def vC(c:Int):List Int:=if c=1 then [100]else if c=2∨c=24∨c=25 then [115]else if c=29 then [110,115]else if c=3∨c=4∨c=5∨c=6∨c=7∨c=8∨c=35∨c=30∨c=31∨c=33 then [110]else []
def opNames:List (List Int):=[[],[110,117,109],[116,101,120,116],[118,97,114],[115,101,116,118,97,114],[112,108,117,115,118,97,114],[99,101,108,108],[115,101,116,99,101,108,108],[112,108,117,115,99,101,108,108],[102,105,101,108,100],[110,114],[110,102],[97,100,100],[115,117,98],[109,117,108],[100,105,118],[109,111,100],[99,97,116],[108,101,115,115],[109,111,115,116],[109,111,114,101],[108,101,97,115,116],[115,97,109,101],[111,116,104,101,114],[102,105,116,115],[108,105,110,101],[110,111,116],[109,105,110,117,115],[98,111,111,108],[99,97,108,108],[106,117,109,112],[122,101,114,111],[112,111,112],[115,104,111,119],[101,110,100,108],[100,114,111,112],[110,101,120,116]]
theorem OM(c:Int)(h:1≤c∧c≤36):opNames.getD c.toNat []≠[]:=by
 have:∀ n:Nat,n<37→1≤n→opNames.getD n []≠[]:=by decide
 exact this c.toNat (by omega) (by omega)
theorem OK(c:Int)(f:List Int)(h:1≤c∧c≤36):kV c opNames f=some (opNames.getD c.toNat [],f,()):=by
 rw[L9,if_pos (by show(0:Int)≤c∧c<37;omega)]
theorem OL(c:Int):wg c=some (if 1≤c∧c≤36 then opNames.getD c.toNat []else [],if 1≤c∧c≤36 then vC c else [],()):=by
 rw[Mc,d4,aa]
 dsimp only
 by_cases h:1≤c∧c≤36
 ·rw[ac h,if_neg (by simp),if_pos h,if_pos h]
  have e:=fun f=>OK c f h
  unfold opNames at e ⊢
  simp only[Ma,Mb,e]
  unfold vC
  by_cases c1:c=1
  ·simp[c1]
  by_cases c2:c=2
  ·simp[c2]
  by_cases c24:c=24
  ·simp[c24]
  by_cases c25:c=25
  ·simp[c25]
  by_cases c29:c=29
  ·simp[c29]
  by_cases c3:c=3
  ·simp[c3]
  by_cases c4:c=4
  ·simp[c4]
  by_cases c5:c=5
  ·simp[c5]
  by_cases c6:c=6
  ·simp[c6]
  by_cases c7:c=7
  ·simp[c7]
  by_cases c8:c=8
  ·simp[c8]
  by_cases c35:c=35
  ·simp[c35]
  by_cases c30:c=30
  ·simp[c30]
  by_cases c31:c=31
  ·simp[c31]
  by_cases c33:c=33
  ·simp[c33]
  simp[c1,c2,c3,c4,c5,c6,c7,c8,c35,c24,c25,c29,c30,c31,c33]
 ·rw[ae h,if_pos (by simp),if_neg h,if_neg h]
theorem Mi(o:am)(n v c:Int)(hb:∀ b∈o.S,0≤b∧b≤255)(hl:o.S.length≤9223372036854775807):wh o n v c=some (opB o n v c,()):=by
 rw[Mh,OL,aa]
 dsimp only
 by_cases h:1≤o.Code∧o.Code≤36
 ·rw[if_pos h,if_pos h,aj (by exact OM _ h)]
  simp only[BZ,aa,pc,Md,Me,Mf,Mg,L5 o.S hb hl,Cq,d4,uZ kw2 _ (by decide)]
  unfold opB vC
  by_cases c1:o.Code=1
  ·simp[c1,Bool.and_assoc] <;> by_cases hN:o.N=0 <;> by_cases hS:o.S=[] <;> simp[hN,hS]
  by_cases c2:o.Code=2
  ·simp[c2,Bool.and_assoc] <;> by_cases hN:o.N=0 <;> by_cases hS:o.S=[] <;> simp[hN,hS]
  by_cases c3:o.Code=3
  ·simp[c3,Bool.and_assoc] <;> by_cases hN:o.N=0 <;> by_cases hS:o.S=[] <;> simp[hN,hS]
  by_cases c4:o.Code=4
  ·simp[c4,Bool.and_assoc] <;> by_cases hN:o.N=0 <;> by_cases hS:o.S=[] <;> simp[hN,hS]
  by_cases c5:o.Code=5
  ·simp[c5,Bool.and_assoc] <;> by_cases hN:o.N=0 <;> by_cases hS:o.S=[] <;> simp[hN,hS]
  by_cases c6:o.Code=6
  ·simp[c6,Bool.and_assoc] <;> by_cases hN:o.N=0 <;> by_cases hS:o.S=[] <;> simp[hN,hS]
  by_cases c7:o.Code=7
  ·simp[c7,Bool.and_assoc] <;> by_cases hN:o.N=0 <;> by_cases hS:o.S=[] <;> simp[hN,hS]
  by_cases c8:o.Code=8
  ·simp[c8,Bool.and_assoc] <;> by_cases hN:o.N=0 <;> by_cases hS:o.S=[] <;> simp[hN,hS]
  by_cases c35:o.Code=35
  ·simp[c35,Bool.and_assoc] <;> by_cases hN:o.N=0 <;> by_cases hS:o.S=[] <;> simp[hN,hS]
  by_cases c24:o.Code=24
  ·simp[c24,Bool.and_assoc] <;> by_cases hN:o.N=0 <;> by_cases hS:o.S=[] <;> simp[hN,hS]
  by_cases c25:o.Code=25
  ·simp[c25,Bool.and_assoc] <;> by_cases hN:o.N=0 <;> by_cases hS:o.S=[] <;> simp[hN,hS]
  by_cases c29:o.Code=29
  ·simp[c29,Bool.and_assoc] <;> by_cases hN:o.N=0 <;> by_cases hS:o.S=[] <;> simp[hN,hS]
  by_cases c30:o.Code=30
  ·simp[c30,Bool.and_assoc] <;> by_cases hN:o.N=0 <;> by_cases hS:o.S=[] <;> simp[hN,hS]
  by_cases c31:o.Code=31
  ·simp[c31,Bool.and_assoc] <;> by_cases hN:o.N=0 <;> by_cases hS:o.S=[] <;> simp[hN,hS]
  by_cases c33:o.Code=33
  ·simp[c33,Bool.and_assoc] <;> by_cases hN:o.N=0 <;> by_cases hS:o.S=[] <;> simp[hN,hS]
  simp[c1,c2,c3,c4,c5,c6,c7,c8,c35,c24,c25,c29,c30,c31,c33,h,Bool.and_assoc]
  by_cases hN:o.N=0 <;> by_cases hS:o.S=[] <;> simp[hN,hS]
 ·rw[if_neg h,if_neg h,if_pos (by simp)]
  unfold opB
  rw[if_neg (by omega),if_neg (by omega),if_neg (by omega),if_neg (by omega),if_neg (by omega),if_neg (by omega),if_neg (by omega),if_neg (by omega),ae h]
  rfl
def isD(x:Int):Bool:=decide (48≤x)&&decide (x≤57)
theorem my(x:Int):isD x=true↔48≤x∧x≤57:=by unfold isD;rw[Bool.and_eq_true,ab,ab]
def bf(l:List Int):List Int:=l.takeWhile isD
theorem J0{x:Int}{l:List Int}(h:isD x=true):bf (x::l)=x::bf l:=List.takeWhile_cons_of_pos h
theorem JZ{x:Int}{l:List Int}(h:isD x=false):bf (x::l)=[]:=List.takeWhile_cons_of_neg (by rw[h];decide)
theorem qS{s:List Int}{i:Nat}(hi:i<s.length)(h:isD s[i]=true):bf (s.drop i)=s[i]::bf (s.drop (i+1)):=by rw[ai hi,J0 h]
theorem om{s:List Int}{i:Nat}(hi:i<s.length)(h:isD s[i]=false):bf (s.drop i)=[]:=by rw[ai hi,JZ h]
theorem l6{s:List Int}{i:Nat}(hi:s.length≤i):bf (s.drop i)=[]:=by rw[List.drop_eq_nil_of_le hi];rfl
def AllD(l:List Int):Prop:=∀ x∈l,48≤x∧x≤57
theorem kH(l:List Int):AllD (bf l):=fun x hx=>(my x).1 (List.all_eq_true.1 (List.all_takeWhile ..) x hx)
theorem AllD.tail{c:Int}{l:List Int}(h:AllD (c::l)):AllD l:=fun x hx=>h x (List.mem_cons_of_mem _ hx)
theorem AllD.head{c:Int}{l:List Int}(h:AllD (c::l)):48≤c∧c≤57:=h c (List.mem_cons_self ..)
theorem qT(l:List Int):(bf l).length≤l.length:=(List.takeWhile_sublist _).length_le
theorem AO(l:List Int):l.take (bf l).length=bf l:=by
 unfold bf
 have h:=List.takeWhile_append_dropWhile (p:=isD) (l:=l)
 have:l.take (l.takeWhile isD).length=(l.takeWhile isD++l.dropWhile isD).take (l.takeWhile isD).length:=by rw[h]
 rw[this,List.take_left]
def dv(a:Int)(l:List Int):Int:=l.foldl (fun n c=>10*n+(c-48)) a
theorem gy(a c:Int)(l:List Int):dv a (c::l)=dv (10*a+(c-48)) l:=rfl
theorem vk(a:Int)(l m:List Int):dv a (l++m)=dv (dv a l) m:=List.foldl_append ..
theorem jk:∀ (l:List Int) (a:Int),dv a l=a*10 ^ l.length+dv 0 l
 | [],a=>by simp[dv]
 | c::l,a=>by
  rw[gy,gy,jk l (10*a+(c-48)),jk l (10*0+(c-48)),List.length_cons,Int.pow_succ,Int.add_mul,Int.mul_zero,Int.zero_add,← Int.add_assoc]
  congr 2
  rw[Int.mul_comm 10 a,Int.mul_assoc,Int.mul_comm 10]
theorem jj:∀ (l:List Int) (a:Int),AllD l→0≤a→0≤dv a l
 | [],a,_,h=>h
 | c::l,a,hd,h=>jj l (10*a+(c-48)) hd.tail (by have:=hd.head;omega)
theorem AV:∀ (l:List Int),dv 0 (l.dropWhile (fun x=>decide (x=48)))=dv 0 l
 | []=>rfl
 | c::l=>by
  by_cases h:c=48
  ·rw[List.dropWhile_cons_of_pos (by simp[h]),AV l,gy,h];rfl
  ·rw[List.dropWhile_cons_of_neg (by simp[h])]
theorem vl:∀ (l:List Int),AllD l→dv 0 l<10 ^ l.length
 | [],_=>by simp[dv]
 | c::l,hd=>by
  have h1:=vl l hd.tail
  have h2:=hd.head
  rw[gy,jk,List.length_cons,Int.pow_succ]
  have:(10*0+(c-48))*10 ^ l.length≤9*10 ^ l.length:=Int.mul_le_mul_of_nonneg_right (by omega) (Int.le_of_lt (Int.pow_pos (by omega)))
  omega
theorem J6{l:List Int}(hd:AllD l)(h0:∀ c r,l=c::r→c≠48)(h:7<l.length):10000000≤dv 0 l:=by
 cases l with
 | nil=>cases h
 | cons c r =>
  have h1:=hd.head
  have h2:=h0 c r rfl
  have h3:=jj r 0 hd.tail (Int.le_refl 0)
  rw[gy,jk]
  simp only[List.length_cons]at h
  have h4:(10:Int) ^ 7≤10 ^ r.length:=by
   have:(10:Nat) ^ 7≤10 ^ r.length:=Nat.pow_le_pow_right (by omega) (by omega)
   exact_mod_cast this
  have h5:1*(10:Int) ^ r.length≤(10*0+(c-48))*10 ^ r.length:=Int.mul_le_mul_of_nonneg_right (by omega) (Int.le_of_lt (Int.pow_pos (by omega)))
  omega
def fr:List Int→Int→Int
 | [],_=>0
 | c::l,u=>(c-48)*u+fr l (u/10)
theorem Bm:∀ l:List Int,fr l 0=0
 | []=>rfl
 | c::l=>by show(c-48)*0+fr l (0/10)=0;rw[Int.mul_zero,show(0:Int)/10=0 from rfl,Bm l];rfl
def tM:Nat→Int
 | 0=>0
 | k+1=>10 ^ k
theorem SB(k:Nat):tM (k+1)/10=tM k:=by
 cases k with
 | zero=>rfl
 | succ k=>show(10:Int) ^ (k+1)/10=10 ^ k;rw[Int.pow_succ];omega
theorem vm:∀ k:Nat,dv 0 (List.replicate k 48)=0
 | 0=>rfl
 | k+1=>by rw[List.replicate_succ,gy];exact vm k
theorem vD:∀ (l:List Int) (k m:Nat),k≤m→fr l (tM k)=dv 0 ((l++List.replicate m 48).take k)
 | [],k,m,h=>by rw[List.nil_append,List.take_replicate,Nat.min_eq_left h,vm];rfl
 | c::l,0,m,h=>by rw[List.take_zero];exact Bm _
 | c::l,k+1,m,h=>by
  rw[List.cons_append,List.take_succ_cons,gy,jk,List.length_take,ag,List.length_replicate,Nat.min_eq_left (by omega),← vD l k m (by omega)]
  show(c-48)*10 ^ k+fr l (tM (k+1)/10)=_
  rw[SB,Int.mul_zero,Int.zero_add]
theorem oA(l:List Int)(hd:AllD l):0≤fr l 100000∧fr l 100000<1000000:=by
 have e:fr l 100000=dv 0 ((l++List.replicate 6 48).take 6):=vD l 6 6 (Nat.le_refl 6)
 have hd':AllD ((l++List.replicate 6 48).take 6):=fun x hx=>by
  rcases List.mem_append.1 (List.mem_of_mem_take hx)with h | h
  ·exact hd x h
  ·rw[(List.mem_replicate.1 h).2];omega
 have h1:=vl _ hd'
 have h2:((l++List.replicate 6 48).take 6).length=6:=by rw[List.length_take,ag,List.length_replicate];omega
 rw[h2]at h1
 rw[e]
 exact⟨jj _ _ hd' (Int.le_refl 0),h1⟩
def sat:Int→List Int→Int
 | n,[]=>n
 | n,c::l=>if n≤9000000000000 then sat (10*n+(c-48)*1000000) l else sat n l
theorem GA:∀ (l:List Int) (n:Int),9000000000000<n→sat n l=n
 | [],n,_=>rfl
 | c::l,n,h=>by unfold sat;rw[if_neg (by omega)];exact GA l n h
theorem GB:∀ (l:List Int) (a:Int),AllD l→0≤a→(sat (a*1000000) l=dv a l*1000000)∨(9000000000000<sat (a*1000000) l∧9000000000000<dv a l*1000000)
 | [],a,_,_=>.inl rfl
 | c::l,a,hd,h=>by
  have hc:=hd.head
  unfold sat
  rw[gy]
  by_cases hn:a*1000000≤9000000000000
  ·rw[if_pos hn,show 10*(a*1000000)+(c-48)*1000000=(10*a+(c-48))*1000000 by omega]
   exact GB l _ hd.tail (by omega)
  ·rw[if_neg hn,GA _ _ (by omega)]
   refine .inr ⟨by omega,?_⟩
   have h1:=jj l 0 hd.tail (Int.le_refl 0)
   have h2:a*1≤(10*a+(c-48))*10 ^ l.length:=Int.mul_le_mul (by omega) (by have:(0:Int)<10 ^ l.length:=Int.pow_pos (by omega);omega) (by omega) (by omega)
   rw[jk]
   omega
theorem zb(c:Int):∀ l:List Int,l.length≤4294967296→nM l c=some (l.dropWhile (fun x=>decide (x=c)),())
 | [],h=>by rw[Ic,if_neg (by simp)];rfl
 | x::l,h=>by
  simp only[List.length_cons]at h
  rw[Ic,ak ((by simp only[List.length_cons];omega)),if_pos (by simp only[List.length_cons];omega)]
  by_cases hx:x=c
  ·rw[if_pos (by simp[hx]),if_pos (by simp only[List.length_cons];omega),List.dropWhile_cons_of_pos (by simp[hx])]
   have:List.take ((x::l).length-1) (List.drop 1 (x::l))=l:=by simp
   rw[this]
   exact zb c l (by omega)
  ·rw[if_neg (by simpa using hx),List.dropWhile_cons_of_neg (by simpa using hx)]
theorem zT(l:List Int)(c:Int)(hc:c<128)(h:l.length≤4294967296):ui l [c]=some (l.dropWhile (fun x=>decide (x=c)),()):=by
 rw[Tw]
 by_cases h0:l=[]
 ·rw[ak h0,h0];rfl
 ·rw[aj h0,if_neg (by simp),if_pos (by simp),if_pos (by simp),if_pos (by simpa using hc),if_pos (by simp),Id]
  show Option.bind (nM l c) _=_
  rw[zb c l h];rfl
theorem Sw(c:Int):∀ (n:Nat) (l:List Int),l.length=n→l.length≤4294967296→∃ r,lS l c=some (r,())∧r.length≤l.length∧((∀ x∈r,x=c) ↔ ∀ x∈l,x=c):=by
 intro n
 induction n with
 | zero =>
  intro l hl h
  have:l=[]:=List.eq_nil_of_length_eq_zero hl
  subst this
  exact⟨[],by rw[uj,if_neg (by simp)],Nat.le_refl _,Iff.rfl⟩
 | succ n ih =>
  intro l hl h
  rw[uj,ak (by omega),aI (by omega) (by omega),if_pos (by omega),show((l.length:Int)-1).toNat=l.length-1 by omega,bk (by omega)]
  by_cases hx:l[l.length-1]=c
  ·rw[ak hx,if_pos (by omega)]
   have e:List.take (l.length-1-0) (List.drop 0 l)=l.take (l.length-1):=rfl
   rw[e]
   obtain⟨r,r1,r2,r3⟩:=ih (l.take (l.length-1)) (by rw[List.length_take];omega) (by rw[List.length_take];omega)
   have hs:l=l.take (l.length-1)++[c]:=by
    have h1:=List.take_append_drop (l.length-1) l
    have h2:l.drop (l.length-1)=[l[l.length-1]]:=by
     rw[ai (by omega),List.drop_eq_nil_of_le (by omega)]
    rw[h2,hx]at h1
    exact h1.symm
   rw[List.length_take]at r2
   refine⟨r,r1,by omega,r3.trans ?_⟩
   constructor
   ·intro h5 x hx5
    rw[hs]at hx5
    rcases List.mem_append.1 hx5 with h6 | h6
    ·exact h5 x h6
    ·exact List.mem_singleton.1 h6
   ·intro h5 x hx5
    exact h5 x (List.mem_of_mem_take hx5)
  ·rw[aj hx]
   exact⟨l,rfl,Nat.le_refl _,Iff.rfl⟩
theorem AQ(c:Int):∀ l:List Int,l.dropWhile (fun x=>decide (x=c))=[] ↔ ∀ x∈l,x=c
 | []=>by simp
 | a::l=>by
  by_cases h:a=c
  ·rw[List.dropWhile_cons_of_pos (by simp[h]),AQ c l]
   simp[h]
  ·rw[List.dropWhile_cons_of_neg (by simp[h])]
   simp[h]
theorem Iw(l:List Int)(h:l.length≤4294967296):∃ r,zy l [32]=some (r,())∧(r=[] ↔ ∀ x∈l,x=32):=by
 rw[Ty]
 by_cases h0:l=[]
 ·rw[ak h0];exact⟨l,rfl,by simp[h0]⟩
 ·obtain⟨r,r1,r2,r3⟩:=Sw 32 l.length l rfl h
  rw[aj h0,if_neg (by simp),if_pos (by simp),if_pos (by simp),if_pos (by simp),if_pos (by simp),Ie]
  show ∃ x,(Option.bind (lS l 32) _)=some (x,())∧_
  rw[r1,aa,if_pos (by simp),Id]
  show ∃ x,(Option.bind (nM r 32) _)=some (x,())∧_
  rw[zb 32 r (by omega)]
  exact⟨_,rfl,(AQ 32 r).trans r3⟩
theorem IL(t:List Int)(ht:t.length≤18)(hd:AllD t)(h0:∀ c r,t=c::r→c≠45)(hne:t≠[]):∀ (d i:Nat) (n:Int),i+d=t.length→0≤n→n<10 ^ i→tV t n t (t.length:Int) (i:Int)=some (dv n (t.drop i),(),()):=by
 intro d
 induction d with
 | zero =>
  intro i n hi n0 n1
  rw[HD,aj (by omega),if_pos (by have:=List.length_pos_iff.2 hne;omega),List.drop_eq_nil_of_le (by omega)]
  cases t with
  | nil=>exact absurd rfl hne
  | cons c r=>rw[if_neg (by have:=h0 c r rfl;simpa using this)];rfl
 | succ d ih =>
  intro i n hi n0 n1
  have hlt:i<t.length:=by omega
  have hx:=hd _ (List.getElem_mem hlt)
  have hp:(10:Int) ^ i≤10 ^ 17:=by
   have:(10:Nat) ^ i≤10 ^ 17:=Nat.pow_le_pow_right (by omega) (by omega)
   exact_mod_cast this
  have hp1:(10:Int) ^ (i+1)=10 ^ i*10:=Int.pow_succ ..
  have e8:w8 (t[i]-48)=t[i]-48:=zh (by omega) (by omega)
  rw[HD,ak (by omega),if_pos (by omega),aW hlt,e8,aj (by omega),aI (n:=n*10) (by omega) (by omega),aI (n:=t[i]-48) (by omega) (by omega),aI (by omega) (by omega),aS hlt (by omega),ih (i+1) _ (by omega) (by omega) (by omega),ai hlt,gy,Int.mul_comm n 10]
theorem IM(t:List Int)(ht:t.length≤18)(hd:AllD t)(hne:t≠[]):zu t=some (dv 0 t,(),()):=by
 have hp:=List.length_pos_iff.2 hne
 have h0:∀ c r,t=c::r→c≠45∧c≠43:=fun c r h=>by
  subst h;have:=hd.head;omega
 have hg:∀ z,t.getD 0 z≠45∧t.getD 0 z≠43:=fun z=>by
  cases t with
  | nil=>exact absurd rfl hne
  | cons c r=>exact h0 c r rfl
 rw[Tp,SQ,ak (by omega),ak (by omega),if_pos (by omega),aj (by exact(hg 0).1),if_pos (by omega),aj (by exact(hg 0).2),SO,if_pos (by rw[aR];omega)]
 have:=IL t ht hd (fun c r h=>(h0 c r h).1) hne t.length 0 0 (by omega) (by omega) (by simp)
 rw[show(((0:Nat)):Int)=0 from rfl,List.drop_zero]at this
 rw[this];rfl
theorem cS(n:Int):cg n=some (decide (-9000000000000≤n∧n≤9000000000000),()):=by rw[BX,d4];rfl
theorem oV(n:Int):kX n=some (if -9000000000000≤n∧n≤9000000000000 then(n,true,()) else(0,false,())):=by
 rw[MC,cS,aa]
 by_cases h:-9000000000000≤n∧n≤9000000000000
 ·rw[ac h,if_neg (by simp),if_pos h]
 ·rw[ae h,if_pos (by simp),if_neg h]
theorem Ot(w r:List Int)(hw:AllD w)(hr:AllD r)(lw:w.length≤1000000)(lr:r.length≤1000000):oL w r=some (if dv 0 w*1000000+fr r 100000≤9000000000000 then(dv 0 w*1000000+fr r 100000,true,()) else(0,false,())):=by
 rw[L7,zT _ _ (by omega) (by omega),aa]
 have hb:=oA r hr
 have hz:=AV w
 have hT:AllD (w.dropWhile (fun x=>decide (x=48))):=fun x hx=>hw x ((List.dropWhile_sublist _).subset hx)
 have hTl:(w.dropWhile (fun x=>decide (x=48))).length≤w.length:=(List.dropWhile_sublist _).length_le
 have hT0:∀ c r,w.dropWhile (fun x=>decide (x=48))=c::r→c≠48:=fun c r h=>by
  have:=List.head?_dropWhile_not (fun x=>decide (x=48)) w
  rw[h]at this
  simpa using this
 generalize w.dropWhile (fun x=>decide (x=48))=T at *
 rw[if_pos (by simp only[List.length_cons,List.length_nil];omega),if_pos (by rw[ag];simp only[List.length_cons,List.length_nil];omega)]
 by_cases h7:(T.length:Int)>7
 ·have:=J6 hT hT0 (by omega)
  rw[ak h7,if_neg (by omega)]
 ·have e6:List.take (6-0) (List.drop 0 (r++[48,48,48,48,48,48]))=(r++List.replicate 6 48).take 6:=rfl
  have hR:AllD ((r++List.replicate 6 48).take 6):=fun x hx=>by
   rcases List.mem_append.1 (List.mem_of_mem_take hx)with h | h
   ·exact hr x h
   ·rw[(List.mem_replicate.1 h).2];omega
  have hRl:((r++List.replicate 6 48).take 6).length=6:=by rw[List.length_take,ag,List.length_replicate];omega
  have hRv:dv 0 ((r++List.replicate 6 48).take 6)=fr r 100000:=(vD r 6 6 (Nat.le_refl 6)).symm
  rw[e6,aj h7]
  generalize (r++List.replicate 6 48).take 6=R at *
  rw[if_pos (by simp only[List.length_cons,List.length_nil];omega),if_pos (by simp only[ag,List.length_cons,List.length_nil];omega)]
  have hall:AllD (([48]++T)++R):=fun x hx=>by
   rcases List.mem_append.1 hx with h | h
   ·rcases List.mem_append.1 h with h | h
    ·rw[List.mem_singleton.1 h];omega
    ·exact hT x h
   ·exact hR x h
  rw[IM _ (by simp only[ag,List.length_cons,List.length_nil];omega) hall (by simp),aa]
  have ev:dv 0 (([48]++T)++R)=dv 0 w*1000000+fr r 100000:=by
   rw[vk,vk,jk,hRl,hRv,show dv 0 [48]=0 from rfl,hz];rfl
  have hn:=jj w 0 hw (Int.le_refl 0)
  rw[ev,oV,aa]
  by_cases hm:dv 0 w*1000000+fr r 100000≤9000000000000
  ·rw[if_pos hm,if_pos ⟨by omega,hm⟩]
  ·rw[if_neg hm,if_neg (fun x=>hm x.2)]
def Bt(b:List Int):Prop:=∀ x∈b,0≤x∧x≤255
theorem wQ(x:Int):lA x=some (isD x,()):=by
 rw[Rl]
 unfold isD
 by_cases h:x≥48
 ·rw[ak h,show decide (48≤x)=true from ac h,Bool.true_and]
 ·rw[aj h,show decide (48≤x)=false from ae h,Bool.false_and]
def fin(p:Int)(b:Bool)(n m:Int):Option (Int×Int×Unit):=if m=0 then some (0,0,())else if n>9000000000000 then some (0,0,())else some (if b=true then 0-n else n,p,())
theorem zN(p:Int)(b:Bool)(n m:Int)(h0:0≤n):eb p b n m=fin p b n m:=by
 rw[Qd]
 unfold fin
 by_cases h1:m=0
 ·rw[ak h1,if_pos h1]
 ·rw[aj h1,if_neg h1]
  by_cases h2:n>9000000000000
  ·rw[ak h2,if_pos h2]
  ·rw[aj h2,if_neg h2,aI (by omega) (by omega)]
   cases b <;> rfl
theorem Ip(s:List Int)(hs:s.length≤1000000)(b:Bool):∀ (d i:Nat) (n m u:Int),i+d=s.length→0≤n→0≤u→u≤100000→n≤200000000000000+1000000*i→0≤m→m≤2000000+i →
  ∃ n',ng s (i:Int) b n m u=eb ((i+(bf (s.drop i)).length:Nat):Int) b n' (m+(bf (s.drop i)).length)∧n'=n+fr (bf (s.drop i)) u:=by
 intro d
 induction d with
 | zero =>
  intro i n m u hd h0 hu hu2 hn hm hm2
  rw[l6 (show s.length≤i by omega)]
  refine⟨n,?_,by show n=n+0;omega⟩
  rw[Fe,aj (by omega)]
  simp
 | succ d ih =>
  intro i n m u hd h0 hu hu2 hn hm hm2
  have hi:i<s.length:=by omega
  rw[Fe,ak (by omega),if_pos (by omega),aW hi,wQ,aa]
  cases hx:isD s[i] with
  | true =>
   have hxb:=(my _).1 hx
   have hmul:0≤(s[i]-48)*u∧(s[i]-48)*u≤900000:=by
    have h1:(s[i]-48)*u≤9*u:=Int.mul_le_mul_of_nonneg_right (by omega) hu
    exact⟨Int.mul_nonneg (by omega) hu,by omega⟩
   rw[if_pos rfl,if_pos (by omega),Int.tdiv_eq_ediv_of_nonneg hu,aI (n:=s[i]) (by omega) (by omega),aI (n:=s[i]-48) (by omega) (by omega),aI (n:=(s[i]-48)*u) (by omega) (by omega),aI (n:=n+(s[i]-48)*u) (by omega) (by omega),aI (n:=m+1) (by omega) (by omega),aI (n:=u/10) (by omega) (by omega),aS hi (by omega)]
   obtain⟨n',e1,e2⟩:=ih (i+1) (n+(s[i]-48)*u) (m+1) (u/10) (by omega) (by omega) (by omega) (by omega) (by omega) (by omega) (by omega)
   rw[qS hi hx,List.length_cons]
   refine⟨n',?_,?_⟩
   ·rw[e1]
    congr 1
    ·omega
    ·omega
   ·rw[e2]
    show _=n+((s[i]-48)*u+fr _ (u/10))
    omega
  | false =>
   rw[if_neg (by simp),om hi hx]
   exact⟨n,by simp,by show n=n+0;omega⟩
def bS(s:List Int)(p:Nat):List Int:=if s[p]? = some 46 then bf (s.drop (p+1))else []
def ff(s:List Int)(p:Nat):Nat:=if bS s p=[]then p else p+1+(bS s p).length
theorem zM(s:List Int)(hs:s.length≤1000000)(b:Bool)(p:Nat)(hp:p≤s.length)(n m:Int)(h0:0≤n)(hn:n≤100000000000000)(hm:0≤m)(hm2:m≤1000000) :
  (if(decide ((w64 ((p:Int)+1))<(List.length s:Int)))=true then
   if(0:Int)≤(p:Int)∧(p:Int)<(List.length s:Int) then
    if(decide ((List.getD s (p:Int).toNat 0)=46))=true then
     if(0:Int)≤(w64 ((p:Int)+1))∧(w64 ((p:Int)+1))<(List.length s:Int) then
      (lA (List.getD s (w64 ((p:Int)+1)).toNat 0)).bind fun(r2:Bool×Unit) =>
      if r2.1=true then
       ng s (w64 ((p:Int)+1)) b n m 100000
      else
       eb (p:Int) b n m
     else none
    else
     eb (p:Int) b n m
   else none
  else
   eb (p:Int) b n m)=fin (ff s p) b (n+fr (bS s p) 100000) (m+(bS s p).length):=by
 have hw:w64 ((p:Int)+1)=((p+1:Nat):Int):=aS (n:=1000001) (by omega) (by omega)
 rw[hw]
 have none:bS s p=[]→eb (p:Int) b n m=fin (ff s p) b (n+fr (bS s p) 100000) (m+(bS s p).length):=by
  intro h
  unfold ff
  rw[h,if_pos rfl,zN _ _ _ _ h0]
  show fin p b n m=fin p b (n+0) (m+(0:Nat))
  congr 1
  ·omega
  ·omega
 by_cases h1:((p+1:Nat):Int)<(s.length:Int)
 ·have hp1:p<s.length:=by omega
  have hp2:p+1<s.length:=by omega
  rw[ak h1,if_pos (by omega),aW hp1]
  by_cases h2:s[p]=46
  ·rw[ak h2,if_pos (by omega),aW hp2,wQ,aa]
   have hf:bS s p=bf (s.drop (p+1)):=by unfold bS;rw[List.getElem?_eq_getElem hp1,h2,if_pos rfl]
   cases hx:isD s[p+1] with
   | true =>
    rw[if_pos rfl]
    obtain⟨n',e1,e2⟩:=Ip s hs b (s.length-(p+1)) (p+1) n m 100000 (by omega) h0 (by omega) (by omega) (by omega) hm (by omega)
    have hb:=oA _ (kH (s.drop (p+1)))
    have hne:bS s p≠[]:=by
     rw[hf,qS hp2 hx]
     exact List.cons_ne_nil _ _
    rw[e1,e2,zN _ _ _ _ (by omega),hf]
    unfold ff
    rw[if_neg hne,hf]
   | false =>
    rw[if_neg (by simp)]
    refine none ?_
    rw[hf,om hp2 hx]
  ·rw[aj h2]
   refine none ?_
   unfold bS
   rw[List.getElem?_eq_getElem hp1,if_neg (by simpa using h2)]
 ·rw[aj h1]
  refine none ?_
  unfold bS
  split
  ·exact l6 (by omega)
  ·rfl
theorem Im(s:List Int)(hs:s.length≤1000000)(hb:Bt s)(b:Bool):∀ (d i:Nat) (n m:Int),i+d=s.length→0≤n→n≤100000000000000→0≤m→m≤i →
  px s (i:Int) b n m=fin (ff s (i+(bf (s.drop i)).length)) b (sat n (bf (s.drop i))+fr (bS s (i+(bf (s.drop i)).length)) 100000) (m+(bf (s.drop i)).length+(bS s (i+(bf (s.drop i)).length)).length):=by
 intro d
 induction d with
 | zero =>
  intro i n m hd h0 hn hm hm2
  rw[E9,aj (by omega),zM s hs b i (by omega) n m h0 hn hm (by omega),l6 (show s.length≤i by omega)]
  simp[sat]
 | succ d ih =>
  intro i n m hd h0 hn hm hm2
  have hi:i<s.length:=by omega
  have hx0:=hb _ (List.getElem_mem hi)
  rw[E9,ak (by omega),if_pos (by omega)]
  have hg:List.getD s (i:Int).toNat 0=s[i]:=aW hi 0
  rw[hg,wQ,aa]
  cases hx:isD s[i] with
  | true =>
   have hxb:=(my _).1 hx
   have hdg:bf (s.drop i)=s[i]::bf (s.drop (i+1)):=qS hi hx
   rw[if_pos rfl,hdg]
   simp only[List.length_cons,sat]
   have el:i+((bf (s.drop (i+1))).length+1)=i+1+(bf (s.drop (i+1))).length:=by omega
   rw[el,aS hi (by omega),aI (n:=m+1) (by omega) (by omega)]
   by_cases hmx:n≤9000000000000
   ·rw[ak hmx,if_pos (by omega),if_pos hmx,aI (n:=10*n) (by omega) (by omega),aI (n:=s[i]) (by omega) (by omega),aI (n:=s[i]-48) (by omega) (by omega),aI (n:=(s[i]-48)*1000000) (by omega) (by omega),aI (n:=10*n+(s[i]-48)*1000000) (by omega) (by omega),
     ih (i+1) _ (m+1) (by omega) (by omega) (by omega) (by omega) (by omega)]
    congr 1
    omega
   ·rw[aj hmx,if_neg hmx,ih (i+1) n (m+1) (by omega) h0 hn (by omega) (by omega)]
    congr 1
    omega
  | false =>
   have hdg:bf (s.drop i)=[]:=om hi hx
   rw[if_neg (by simp),hdg]
   have he:=zM s hs b i (by omega) n m h0 hn hm (by omega)
   rw[hg]at he
   simp only[List.length_nil,Nat.add_zero,sat]
   rw[he]
   congr 1
   omega
theorem AN(s:List Int)(hs:s.length≤1000000):∀ (d p j:Nat),p+j+d=s.length+1→ru s (p:Int) (j:Int)=some (((j+(bf (s.drop (p+j))).length:Nat):Int),()):=by
 intro d
 induction d with
 | zero =>
  intro p j hd
  rw[Cu,aI (by omega) (by omega),aj (by omega),l6 (by omega)]
  simp
 | succ d ih =>
  intro p j hd
  rw[Cu,aI (n:=(p:Int)+j) (by omega) (by omega)]
  by_cases hlt:(p:Int)+j<(s.length:Int)
  ·have hi:p+j<s.length:=by omega
   have hg:List.getD s ((p:Int)+j).toNat 0=s[p+j]:=by
    rw[show((p:Int)+j).toNat=p+j by omega];exact bk hi 0
   rw[ak hlt,if_pos (by omega),hg,aS (n:=1000001) (by omega) (by omega)]
   by_cases h1:s[p+j]≥48
   ·rw[ak h1,if_pos (by omega)]
    by_cases h2:s[p+j]≤57
    ·have hx:isD s[p+j]=true:=(my _).2 ⟨h1,h2⟩
     rw[ak h2,ih p (j+1) (by omega),qS hi hx,List.length_cons,show p+(j+1)=p+j+1 by omega]
     congr 3
     omega
    ·have hx:isD s[p+j]=false:=by
      cases h:isD s[p+j] with
      | false=>rfl
      | true=>exact absurd ((my _).1 h).2 h2
     rw[aj h2,om hi hx]
     simp
   ·have hx:isD s[p+j]=false:=by
     cases h:isD s[p+j] with
     | false=>rfl
     | true=>exact absurd ((my _).1 h).1 h1
    rw[aj h1,om hi hx]
    simp
  ·rw[aj hlt,l6 (by omega)]
   simp
theorem B5(p:Int)(b:Bool)(w r:List Int)(hw:AllD w)(hr:AllD r)(lw:w.length≤1000000)(lr:r.length≤1000000):kQ p b w r=fin p b (dv 0 w*1000000+fr r 100000) ((w.length:Int)+r.length):=by
 have hb:=oA r hr
 have hn:=jj w 0 hw (Int.le_refl 0)
 have tail:0<w.length+r.length→((oL w r).bind fun(r1:Int×Bool×Unit)=>if(!r1.2.1)=true then some ((0:Int),(0:Int),())else if b=true then some ((w64 (0-r1.1)),p,())else some (r1.1,p,()))=fin p b (dv 0 w*1000000+fr r 100000) ((w.length:Int)+r.length):=by
  intro hl
  rw[Ot w r hw hr lw lr,aa]
  unfold fin
  rw[if_neg (show ¬ (w.length:Int)+r.length=0 by omega)]
  by_cases h:dv 0 w*1000000+fr r 100000≤9000000000000
  ·rw[if_pos h]
   dsimp only
   rw[if_neg (show ¬ (!true)=true by decide),if_neg (show ¬ dv 0 w*1000000+fr r 100000>9000000000000 by omega),aI (by omega) (by omega)]
   cases b <;> rfl
  ·rw[if_neg h]
   dsimp only
   rw[if_pos (show(!false)=true by decide),if_pos (by omega)]
 rw[Le]
 by_cases h1:w=[]
 ·rw[ak h1]
  by_cases h2:r=[]
  ·rw[ak h2,h1,h2];rfl
  ·rw[aj h2]
   exact tail (by have:=List.length_pos_iff.2 h2;omega)
 ·rw[aj h1]
  exact tail (by have:=List.length_pos_iff.2 h1;omega)
theorem B4(s:List Int)(hs:s.length≤1000000)(b:Bool)(i:Nat)(hi:i≤s.length) :
  fU s (i:Int) b=fin (ff s (i+(bf (s.drop i)).length)) b (dv 0 (bf (s.drop i))*1000000+fr (bS s (i+(bf (s.drop i)).length)) 100000) ((bf (s.drop i)).length+(bS s (i+(bf (s.drop i)).length)).length):=by
 have hdl:=qT (s.drop i)
 rw[List.length_drop]at hdl
 have hD:=kH (s.drop i)
 rw[Ld,Cv,show(0:Int)=((0:Nat):Int)from rfl,AN s hs (s.length+1-i) i 0 (by omega),aa,Nat.zero_add,Nat.add_zero]
 dsimp only
 rw[aI (by omega) (by omega)]
 have hcut:List.take (((i:Int)+((bf (s.drop i)).length:Nat)).toNat-(i:Int).toNat) (List.drop (i:Int).toNat s)=bf (s.drop i):=by
  rw[show((i:Int)+((bf (s.drop i)).length:Nat)).toNat-(i:Int).toNat=(bf (s.drop i)).length by omega,af]
  exact AO _
 rw[hcut]
 generalize hDD:bf (s.drop i)=D at *
 have hz:(((0:Nat)):Int)=0:=rfl
 rw[hz,if_pos (by omega)]
 have hp:(i:Int)+(D.length:Nat)=((i+D.length:Nat):Int):=by omega
 rw[hp]
 generalize hP:i+D.length=P at *
 have none:bS s P=[]→kQ (P:Int) b D []=fin (ff s P) b (dv 0 D*1000000+fr (bS s P) 100000) (D.length+(bS s P).length):=by
  intro h
  rw[B5 _ _ _ _ hD (fun x hx=>by cases hx) (by omega) (by simp)]
  unfold ff
  rw[h,if_pos rfl]
 by_cases h1:(P:Int)<(s.length:Int)
 ·have hP1:P<s.length:=by omega
  rw[ak h1,if_pos (by omega),aW hP1]
  by_cases h2:s[P]=46
  ·have hw:w64 ((P:Int)+1)=((P+1:Nat):Int):=aS hP1 (by omega)
   have hf:bS s P=bf (s.drop (P+1)):=by unfold bS;rw[List.getElem?_eq_getElem hP1,h2,if_pos rfl]
   have hfl:=qT (s.drop (P+1))
   rw[List.length_drop]at hfl
   have hF:=kH (s.drop (P+1))
   rw[ak h2,hw,Cv,show(0:Int)=((0:Nat):Int)from rfl,AN s hs (s.length-P) (P+1) 0 (by omega),aa,Nat.zero_add,Nat.add_zero]
   dsimp only
   rw[hz,aI (n:=1+(((bf (s.drop (P+1))).length:Nat):Int)) (by omega) (by omega),aI (n:=((P+1:Nat):Int)+(((bf (s.drop (P+1))).length:Nat):Int)) (by omega) (by omega),aI (n:=(P:Int)+(1+(((bf (s.drop (P+1))).length:Nat):Int))) (by omega) (by omega)]
   have hcut2:List.take ((((P+1:Nat):Int)+((bf (s.drop (P+1))).length:Nat)).toNat-((P+1:Nat):Int).toNat) (List.drop ((P+1:Nat):Int).toNat s)=bf (s.drop (P+1)):=by
    rw[show(((P+1:Nat):Int)+((bf (s.drop (P+1))).length:Nat)).toNat-((P+1:Nat):Int).toNat=(bf (s.drop (P+1))).length by omega,af]
    exact AO _
   rw[hcut2]
   generalize hFF:bf (s.drop (P+1))=F at *
   by_cases h3:(F.length:Int)>0
   ·rw[ak h3,if_pos (by omega),B5 _ _ _ _ hD hF (by omega) (by omega)]
    unfold ff
    rw[hf,if_neg (fun h=>by rw[h]at h3;simp at h3)]
    congr 1
    omega
   ·rw[aj h3]
    exact none (by rw[hf];exact List.eq_nil_of_length_eq_zero (by omega))
  ·rw[aj h2]
   refine none ?_
   unfold bS
   rw[List.getElem?_eq_getElem hP1,if_neg (by simpa using h2)]
 ·rw[aj h1]
  refine none ?_
  unfold bS
  split
  ·exact l6 (by omega)
  ·rfl
theorem sS(s:List Int)(hs:s.length≤1000000)(hb:Bt s)(b:Bool)(i:Nat)(hi:i≤s.length):dr s (i:Int) b=fU s (i:Int) b:=by
 rw[Qc,Im s hs hb b (s.length-i) i 0 0 (by omega) (by omega) (by omega) (by omega) (by omega),B4 s hs b i hi]
 have hD:=kH (s.drop i)
 have hF:AllD (bS s (i+(bf (s.drop i)).length)):=by
  unfold bS
  split
  ·exact kH _
  ·intro x hx;cases hx
 generalize bf (s.drop i)=D at *
 generalize bS s (i+D.length)=F at *
 have hfb:=oA F hF
 have hsat:=GB D 0 hD (Int.le_refl 0)
 rw[Int.zero_mul]at hsat
 rcases hsat with h | ⟨h1,h2⟩
 ·rw[h,Int.zero_add]
 ·unfold fin
  rw[Int.zero_add]
  by_cases hm:((D.length:Nat):Int)+(F.length:Nat)=0
  ·rw[if_pos hm,if_pos hm]
  ·rw[if_neg hm,if_neg hm,if_pos (by omega),if_pos (by omega)]
theorem Kq{p:Int}{b:Bool}{n m:Int}(h0:0≤n):∃ v e,fin p b n m=some (v,e,())∧(e=0∨e=p)∧(-9000000000000≤v∧v≤9000000000000):=by
 unfold fin
 split
 ·exact⟨0,0,rfl,.inl rfl,by omega,by omega⟩
 ·split
  ·exact⟨0,0,rfl,.inl rfl,by omega,by omega⟩
  ·refine⟨_,p,rfl,.inr rfl,?_⟩
   split <;> omega
theorem J8(s:List Int)(p:Nat)(hp:p≤s.length):ff s p≤s.length:=by
 unfold ff
 split
 ·exact hp
 ·rename_i h
  unfold bS at h ⊢
  by_cases h46:s[p]? = some 46
  ·rw[if_pos h46]at h ⊢
   have:=qT (s.drop (p+1))
   rw[List.length_drop]at this
   have hlt:p<s.length:=by
    by_cases h':p<s.length
    ·exact h'
    ·rw[List.getElem?_eq_none (by omega)]at h46;cases h46
   omega
  ·rw[if_neg h46]at h;exact absurd rfl h
theorem vN(s:List Int)(hs:s.length≤1000000)(b:Bool)(i:Nat)(hi:i≤s.length):∃ v e,fU s (i:Int) b=some (v,e,())∧(0≤e∧e≤(s.length:Int))∧(-9000000000000≤v∧v≤9000000000000):=by
 have hdl:=qT (s.drop i)
 rw[List.length_drop]at hdl
 have hF:AllD (bS s (i+(bf (s.drop i)).length)):=by
  unfold bS
  split
  ·exact kH _
  ·intro x hx;cases hx
 rw[B4 s hs b i hi]
 have h1:=jj _ 0 (kH (s.drop i)) (Int.le_refl 0)
 have h2:=oA _ hF
 have h3:=J8 s (i+(bf (s.drop i)).length) (by omega)
 obtain⟨v,e,k1,k2,k3⟩:=Kq (p:=(ff s (i+(bf (s.drop i)).length):Nat)) (b:=b) (n:=dv 0 (bf (s.drop i))*1000000+fr (bS s (i+(bf (s.drop i)).length)) 100000) (m:=((bf (s.drop i)).length+(bS s (i+(bf (s.drop i)).length)).length)) (by omega)
 exact⟨v,e,k1,by rcases k2 with rfl | rfl <;> omega,k3⟩
def cl(l:List Int):Nat:=(l.takeWhile (fun x=>decide (x=32))).length
noncomputable def front(s:List Int)(p:Nat):Option (Int×Int×Unit) :=
 if s[p]? = some 45 then fU s ((p+1:Nat):Int) true else if s[p]? = some 43 then fU s ((p+1:Nat):Int) false else fU s (p:Int) false
theorem QL(s:List Int)(hs:s.length≤1000000)(hb:Bt s):∀ (d i:Nat),i+d=s.length→sL s (i:Int)=front s (i+cl (s.drop i)):=by
 intro d
 induction d with
 | zero =>
  intro i hd
  rw[E8,aj (by omega),aj (by omega),aj (by omega),sS s hs hb false i (by omega),List.drop_eq_nil_of_le (by omega)]
  rw[show i+cl []=i from rfl]
  unfold front
  rw[List.getElem?_eq_none (by omega),if_neg (by simp),if_neg (by simp)]
 | succ d ih =>
  intro i hd
  have hi:i<s.length:=by omega
  have c1:(i:Int)<(s.length:Int):=by omega
  have c2:(0:Int)≤(i:Int)∧(i:Int)<(s.length:Int):=by omega
  have hg:List.getD s (i:Int).toNat 0=s[i]:=aW hi 0
  have hdr:=ai hi
  rw[E8,ak c1,if_pos c2,hg,aS hi (by omega)]
  by_cases h:s[i]=32
  ·rw[ak h,ih (i+1) (by omega),hdr]
   unfold cl
   rw[List.takeWhile_cons_of_pos (by simp[h]),List.length_cons,show i+1+(List.takeWhile (fun x=>decide (x=32)) (List.drop (i+1) s)).length=i+((List.takeWhile (fun x=>decide (x=32)) (List.drop (i+1) s)).length+1) by omega]
  ·have hl:cl (s.drop i)=0:=by
    unfold cl
    rw[hdr,List.takeWhile_cons_of_neg (by simpa using h)];rfl
   rw[aj h,ak c1,if_pos c2,ak c1,if_pos c2,hl,show i+0=i from rfl]
   unfold front
   rw[List.getElem?_eq_getElem hi]
   by_cases h1:s[i]=45
   ·rw[ak h1,if_pos (by rw[h1]),ac h1]
    exact sS s hs hb true (i+1) (by omega)
   ·rw[aj h1,if_pos c2,if_neg (show ¬ some s[i]=some 45 by simpa using h1),ae h1]
    by_cases h2:s[i]=43
    ·rw[ak h2,if_pos (by rw[h2])]
     exact sS s hs hb false (i+1) (by omega)
    ·rw[aj h2,if_neg (by simpa using h2)]
     exact sS s hs hb false i (by omega)
theorem N6(s:List Int):(s.length:Int)-(s.dropWhile (fun x=>decide (x=32))).length=cl s:=by
 have h:=congrArg List.length (List.takeWhile_append_dropWhile (p:=fun x=>decide (x=(32:Int))) (l:=s))
 rw[ag]at h
 unfold cl
 omega
theorem DH(s:List Int):cl s≤s.length:=(List.takeWhile_sublist _).length_le
theorem LX(s:List Int)(hs:s.length≤1000000):oC s=front s (cl s):=by
 have hL:=N6 s
 have hle:=DH s
 rw[Lf,zT _ _ (by omega) (by omega),aa]
 dsimp only
 rw[hL,aI (n:=(cl s:Int)) (by omega) (by omega)]
 unfold front
 by_cases c1:(cl s:Int)<(s.length:Int)
 ·have hi:cl s<s.length:=by omega
  have c2:(0:Int)≤(cl s:Int)∧(cl s:Int)<(s.length:Int):=by omega
  have hg:List.getD s (cl s:Int).toNat 0=s[cl s]:=aW hi 0
  rw[ak c1,if_pos c2,hg,aS hi (by omega),List.getElem?_eq_getElem hi]
  by_cases h2:s[cl s]=43
  ·rw[ak h2,if_pos c2,if_neg (by rw[h2];simp),if_pos (by rw[h2]),ae (by rw[h2];decide)]
  ·rw[aj h2,if_pos c2]
   by_cases h1:s[cl s]=45
   ·rw[ak h1,if_pos c2,if_pos (by rw[h1]),ac h1]
   ·rw[aj h1,if_neg (by simpa using h1),if_neg (by simpa using h2)]
 ·rw[aj c1,List.getElem?_eq_none (by omega),if_neg (by simp),if_neg (by simp)]
theorem u9(s:List Int)(hs:s.length≤1000000)(hb:Bt s):∃ v e,pw s=some (v,e,())∧oC s=some (v,e,())∧(0≤e∧e≤(s.length:Int))∧(-9000000000000≤v∧v≤9000000000000):=by
 have h1:pw s=front s (cl s):=by
  have:=QL s hs hb s.length 0 (by omega)
  rw[show(((0:Nat)):Int)=0 from rfl,List.drop_zero,Nat.zero_add]at this
  rw[Qe,this]
 rw[h1,LX s hs]
 have hle:=DH s
 have hlt:∀ c:Int,s[cl s]? = some c→cl s+1≤s.length:=fun c h=>by
  by_cases h':cl s<s.length
  ·exact h'
  ·rw[List.getElem?_eq_none (by omega)]at h;cases h
 unfold front
 split
 ·rename_i h
  obtain⟨v,e,k1,k2,k3⟩:=vN s hs true (cl s+1) (hlt _ h)
  exact⟨v,e,k1,k1,k2,k3⟩
 ·split
  ·rename_i h
   obtain⟨v,e,k1,k2,k3⟩:=vN s hs false (cl s+1) (hlt _ h)
   exact⟨v,e,k1,k1,k2,k3⟩
  ·obtain⟨v,e,k1,k2,k3⟩:=vN s hs false (cl s) hle
   exact⟨v,e,k1,k1,k2,k3⟩
theorem Og(s:List Int)(hs:s.length≤1000000)(v:Int):∀ (d i:Nat),i+d=s.length→sM s v (i:Int)=some (if ∀ x∈s.drop i,x=32 then(v,true,()) else(0,false,())):=by
 intro d
 induction d with
 | zero =>
  intro i hd
  rw[Fg,aj (by omega),List.drop_eq_nil_of_le (by omega),if_pos (by simp)]
 | succ d ih =>
  intro i hd
  have hi:i<s.length:=by omega
  rw[Fg,ak (by omega),if_pos (by omega),aW hi,aS hi (by omega),ih (i+1) (by omega),ai hi]
  by_cases h:s[i]=32
  ·rw[if_neg (by simp[h])]
   simp[h]
  ·rw[if_pos (by simp[h]),if_neg (fun hh=>h (hh _ (List.mem_cons_self ..)))]
theorem vd(s:List Int)(hs:s.length≤1000000)(hb:Bt s):∃ v ok,nh s=some (v,ok,())∧oD s=some (v,ok,())∧(-9000000000000≤v∧v≤9000000000000):=by
 obtain⟨v,e,k1,k2,k3,k4⟩:=u9 s hs hb
 rw[Qg,Lh,k1,k2]
 simp only[aa]
 by_cases h:e=0
 ·rw[ak h,ak h];exact⟨0,false,rfl,rfl,by omega,by omega⟩
 ·obtain⟨n,rfl⟩:=Int.eq_ofNat_of_zero_le k3.1
  rw[aj h,aj h,if_pos k3,Og s hs v (s.length-n) n (by omega)]
  have hcut:List.take (s.length-(n:Int).toNat) (List.drop (n:Int).toNat s)=s.drop n:=by
   rw[af,List.take_of_length_le (by rw[List.length_drop];omega)]
  rw[hcut]
  obtain⟨r,r1,r2⟩:=Iw (s.drop n) (by rw[List.length_drop];omega)
  rw[r1,aa]
  by_cases hr:r=[]
  ·rw[if_pos (r2.1 hr),if_neg (by simp[hr])];exact⟨v,true,rfl,rfl,k4⟩
  ·rw[if_neg (fun hh=>hr (r2.2 hh)),if_pos (by simp[hr])];exact⟨0,false,rfl,rfl,by omega,by omega⟩
theorem u7(s:List Int)(hs:s.length≤9223372036854775807):jy s=some (s.take 300,()):=by
 rw[LT]
 have hm:mnI (s.length:Int) 300=min (s.length:Int) 300:=by unfold mnI;split <;> omega
 rw[hm,if_pos (by omega),List.drop_zero,Nat.sub_zero]
 by_cases h:s.length≤300
 ·rw[List.take_of_length_le (by omega),List.take_of_length_le h]
 ·rw[show(min (s.length:Int) 300).toNat=300 by omega]
theorem Pu(s:List Int)(hs:s.length≤9223372036854775807)(hb:Bt s):∃ v,j4 s=some (v,())∧ju s=some (v,()):=by
 have hbt:Bt (s.take 300):=fun x hx=>hb x (List.mem_of_mem_take hx)
 obtain⟨v,ok,k1,k2,_⟩:=vd (s.take 300) (by rw[List.length_take];omega) hbt
 have e1:j4 s=sQ (s.take 300) aG:=by
  rw[Qy]
  by_cases h:(s.length:Int)>300
  ·rw[ak h,if_pos (by omega)];rfl
  ·rw[aj h,List.take_of_length_le (by omega)]
 rw[e1,Qx,Cf,u7 s hs,k1,aa,aa]
 dsimp only
 rw[k2,aa]
 dsimp only
 cases ok with
 | true=>exact⟨_,rfl,rfl⟩
 | false=>rw[jH];exact⟨_,rfl,rfl⟩
noncomputable def jJ(s:List Int):Int×Bool:=match nh s with
 | some (v,ok,_)=>(v,ok)
 | none=>(0,false)
theorem DS(s:List Int)(hs:s.length≤1000000)(hb:Bt s):nh s=some ((jJ s).1,(jJ s).2,())∧oD s=some ((jJ s).1,(jJ s).2,()):=by
 obtain⟨v,ok,e1,e2,_⟩:=vd s hs hb
 have:jJ s=(v,ok):=by unfold jJ;rw[e1]
 rw[this];exact⟨e1,e2⟩
noncomputable def cC(v:au):Bool:=(decide (-9000000000000≤v.N∧v.N≤9000000000000) && !decide ((v.S.length:Int)>300)) &&
 (if v.Kind=0 then decide (v.N=0)&&decide (v.S=[])else if v.Kind=1 then decide (v.S=[])else if v.Kind=2 then decide (v.N=0)else if v.Kind=3 then(jJ v.S).2&&decide ((jJ v.S).1=v.N)else false)
theorem vY(v:au)(hb:Bt v.S):oI v=some (cC v,()):=by
 rw[vX,BZ,aa]
 dsimp only
 unfold cC
 cases decide (-9000000000000≤v.N∧v.N≤9000000000000) with
 | false=>rfl
 | true =>
  by_cases h:(v.S.length:Int)>300
  ·rw[ac h];rfl
  ·rw[ae h,(DS v.S (by omega) hb).2,aa]
   dsimp only
   simp only[pc]
   by_cases c0:v.Kind=0
   ·simp[c0]
   by_cases c1:v.Kind=1
   ·simp[c1]
   by_cases c2:v.Kind=2
   ·simp[c2]
   by_cases c3:v.Kind=3
   ·simp[c3]
   simp[c0,c1,c2,c3]
theorem FK(v:au)(hb:Bt v.S):sR v=some (cC v,()):=by
 rw[QF,Fi,cB,aa,aa]
 dsimp only
 unfold cC
 by_cases hk:0≤v.Kind∧v.Kind≤3
 ·rw[ac hk]
  cases decide (-9000000000000≤v.N∧v.N≤9000000000000) with
  | false=>rfl
  | true =>
   by_cases h:(v.S.length:Int)>300
   ·rw[ac h];rfl
   ·rw[ae h,(DS v.S (by omega) hb).1,aa]
    dsimp only
    simp only[pc]
    by_cases c0:v.Kind=0
    ·simp[c0]
    by_cases c1:v.Kind=1
    ·simp[c1]
    by_cases c2:v.Kind=2
    ·simp[c2]
    have c3:v.Kind=3:=by omega
    simp[c3]
 ·rw[ae hk,if_pos (c:=(!false)=true) rfl,if_neg (c:=v.Kind=0) (by omega),if_neg (c:=v.Kind=1) (by omega),if_neg (c:=v.Kind=2) (by omega),if_neg (c:=v.Kind=3) (by omega),Bool.and_false]
def bR(a b:al):Bool:=decide (a.Name<b.Name)||(decide (a.Name=b.Name)&&ltS a.Key b.Key)
theorem FO(a:al)(n:Int)(k:List Int):sU a n k=some (decide (a.Name<n)||(decide (a.Name=n)&&ltS a.Key k),()):=by
 rw[QP]
 cases decide (a.Name<n) <;> cases decide (a.Name=n) <;> rfl
theorem G6(a b:List Int):ko a b=some (bU a b,()):=by
 rw[H7,Hw,HB];rfl
theorem JB(a b:List Int):decide (bU a b≥0) = !ltS a b:=by
 unfold bU
 cases ltS a b with
 | true=>rfl
 | false=>cases ltS b a <;> rfl
theorem LP(a b:al):∃ k,oK a b=some (k,())∧decide (k≥0) = !bR a b:=by
 rw[Cs,G6,aa]
 unfold bR
 by_cases h:a.Name<b.Name
 ·rw[ak h,ac h];exact⟨_,rfl,rfl⟩
 ·rw[aj h,ae h]
  by_cases g:a.Name>b.Name
  ·rw[ak g,ae (by omega)];exact⟨_,rfl,rfl⟩
  ·rw[aj g,ac (by omega)]
   refine⟨_,rfl,?_⟩
   rw[JB];rfl
noncomputable def gx(l:List al)(c:Int)(i:Nat):Bool :=
 decide ((l.getD i aQ).Name<0)||(decide ((l.getD i aQ).Name≥c)||(decide (((l.getD i aQ).Key.length:Int)>300)||(!cC (l.getD i aQ).Val||(decide ((i:Int)>0) && !bR (l.getD (i-1) aQ) (l.getD i aQ)))))
noncomputable def ek(s:ar)(v c:Int):Bool :=
 decide ((s.Vars.length:Int)=v)&&(!s.Vars.any (fun x=>!cC x)&&(decide ((s.Cells.length:Int)≤40)&&(decide (0≤s.Nr∧s.Nr≤1000000)&&(decide (0≤s.Err∧s.Err≤7) && !cz (gx s.Cells c) s.Cells.length))))
def gn(s:ar):Prop:=(s.Vars.length≤2097152∧∀ v∈s.Vars,Bt v.S)∧s.Cells.length≤2097152∧∀ c∈s.Cells,Bt c.Val.S
theorem IG(l:List au)(hl:l.length≤4294967296)(hb:∀ v∈l,Bt v.S):zp l=some (l.any (fun x=>!cC x),()):=by
 rw[S9,Tj]
 obtain⟨k,e,e1,_⟩:=gF (fun i=>nJ l (l.length:Int) i) () l.length (fun i=>!cC (l.getD i aG)) (fun i hi=>by
  show nJ l _ i=_
  rw[HW,ak (by omega),if_pos (by omega),aS hi (by omega),af,LC,vY _ (by rw[bk hi];exact hb _ (List.getElem_mem hi)),aa,aa]) (by
  show nJ l _ _=_
  rw[HW,if_neg (by simp)])
 rw[e,aa]
 dsimp only
 rw[e1,dW l aG (fun x=>!cC x)]
theorem LQ(s:ar)(c:Int)(hl:s.Cells.length≤4294967296)(hb:∀ x∈s.Cells,Bt x.Val.S):jv c s.Cells (s.Cells.length:Int) 0 s=some (!cz (gx s.Cells c) s.Cells.length,()):=by
 have:=fg (fun i=>jv c s.Cells (s.Cells.length:Int) i s) s.Cells.length (gx s.Cells c) (some (false,())) (some (true,())) (fun i hi=>by
  show jv c s.Cells _ i s=_
  obtain⟨k,e,e1⟩:=LP (s.Cells.getD (i-1) aQ) (s.Cells.getD i aQ)
  rw[Cj,ak (by omega),if_pos (by omega),aS hi (by omega),af,vY _ (by rw[bk hi];exact hb _ (List.getElem_mem hi)),aa]
  dsimp only
  unfold gx
  by_cases h0:(i:Int)>0
  ·have w1:w64 ((i:Int)-1)=((i-1:Nat):Int):=by rw[aI (by omega) (by omega)];omega
   rw[ac h0,w1,af,if_pos (c:=(true=true)) rfl,if_pos (c:=0≤((i-1:Nat):Int)∧((i-1:Nat):Int)<(s.Cells.length:Int)) (by omega),e,aa]
   dsimp only
   rw[e1]
   cases decide ((s.Cells.getD i aQ).Name<0) <;> cases decide ((s.Cells.getD i aQ).Name≥c) <;> cases decide (((s.Cells.getD i aQ).Key.length:Int)>300) <;> cases cC (s.Cells.getD i aQ).Val <;> rfl
  ·rw[ae h0,if_neg (c:=(false=true)) (by simp)]
   cases decide ((s.Cells.getD i aQ).Name<0) <;> cases decide ((s.Cells.getD i aQ).Name≥c) <;> cases decide (((s.Cells.getD i aQ).Key.length:Int)>300) <;> cases cC (s.Cells.getD i aQ).Val <;> rfl) (by
  show jv c s.Cells _ _ s=_
  rw[Cj,if_neg (by simp)])
 rw[this]
 cases cz (gx s.Cells c) s.Cells.length <;> rfl
theorem Ck(s:ar)(v c:Int)(h:gn s):vV s v c=some (ek s v c,()):=by
 rw[LD,IG s.Vars (by have:=h.1.1;omega) h.1.2,d4,d4,LQ s c (by have:=h.2.1;omega) h.2.2]
 simp only[aa]
 have e:decide ((s.Cells.length:Int)>40) = !decide ((s.Cells.length:Int)≤40):=by
  by_cases g:(s.Cells.length:Int)≤40
  ·rw[ac g,ae (by omega)];rfl
  ·rw[ae g,ac (by omega)];rfl
 unfold ek
 rw[e]
 cases decide ((s.Vars.length:Int)=v) <;> cases s.Vars.any (fun x=>!cC x) <;> cases decide ((s.Cells.length:Int)≤40) <;> cases decide (0≤s.Nr∧s.Nr≤1000000) <;> cases decide (0≤s.Err∧s.Err≤7) <;> rfl
theorem FH(s:ar)(v c:Int)(h:gn s):yt s v c=some (ek s v c,()):=by
 have h1:=h.1.1
 have h2:=h.2.1
 rw[QB]
 have f2:=fg (fun i=>j5 v c i s) s.Cells.length (gx s.Cells c) (some (false,())) (some (decide ((s.Vars.length:Int)=v)&&(decide ((s.Cells.length:Int)≤40)&&(decide (0≤s.Nr∧s.Nr≤1000000)&&decide (0≤s.Err∧s.Err≤7))),())) (fun i hi=>by
  show j5 v c i s=_
  rw[FG,ak (by omega),if_pos (by omega),aS hi (by omega),af,FK _ (by rw[bk hi];exact h.2.2 _ (List.getElem_mem hi)),aa]
  dsimp only
  unfold gx
  by_cases h0:(i:Int)>0
  ·have w1:w64 ((i:Int)-1)=((i-1:Nat):Int):=by rw[aI (by omega) (by omega)];omega
   rw[ac h0,w1,af,if_pos (c:=(true=true)) rfl,if_pos (c:=0≤((i-1:Nat):Int)∧((i-1:Nat):Int)<(s.Cells.length:Int)) (by omega),FO,aa]
   dsimp only
   unfold bR
   cases decide ((s.Cells.getD i aQ).Name<0) <;> cases decide ((s.Cells.getD i aQ).Name≥c) <;> cases decide (((s.Cells.getD i aQ).Key.length:Int)>300) <;> cases cC (s.Cells.getD i aQ).Val <;> rfl
  ·rw[ae h0,if_neg (c:=(false=true)) (by simp)]
   cases decide ((s.Cells.getD i aQ).Name<0) <;> cases decide ((s.Cells.getD i aQ).Name≥c) <;> cases decide (((s.Cells.getD i aQ).Key.length:Int)>300) <;> cases cC (s.Cells.getD i aQ).Val <;> rfl) (by
  show j5 v c _ s=_
  rw[FG,if_neg (by simp),cB,cB,aa,aa]
  dsimp only
  cases decide ((s.Vars.length:Int)=v) <;> cases decide ((s.Cells.length:Int)≤40) <;> cases decide (0≤s.Nr∧s.Nr≤1000000) <;> rfl)
 have f1:=fg (fun i=>nj v c i s) s.Vars.length (fun i=>!cC (s.Vars.getD i aG)) (some (false,())) (j5 v c 0 s) (fun i hi=>by
  show nj v c i s=_
  rw[FF,ak (by omega),if_pos (by omega),aS hi (by omega),af,FK _ (by rw[bk hi];exact h.1.2 _ (List.getElem_mem hi)),aa]) (by
  show nj v c _ s=_
  rw[FF,if_neg (by simp)])
 rw[f1,f2,dW s.Vars aG (fun x=>!cC x)]
 unfold ek
 cases decide ((s.Vars.length:Int)=v) <;> cases s.Vars.any (fun x=>!cC x) <;> cases decide ((s.Cells.length:Int)≤40) <;> cases decide (0≤s.Nr∧s.Nr≤1000000) <;> cases decide (0≤s.Err∧s.Err≤7) <;> cases cz (gx s.Cells c) s.Cells.length <;> rfl
def kq(l:List am):Prop:=l.length≤2097152∧∀ o∈l,(∀ b∈o.S,0≤b∧b≤255)∧o.S.length≤2097152
def iY(p:ap):Prop:=(p.Vars.length≤2097152∧∀ s∈p.Vars,s.length≤2097152)∧(p.Cells.length≤2097152∧∀ s∈p.Cells,s.length≤2097152)∧kq p.Start∧kq p.Main
noncomputable def eP(l:List am)(v c:Int):Bool :=
 decide (1≤(l.length:Int)∧(l.length:Int)≤1500)&&(decide ((l.getD (l.length-1) bm).Code=36) && !l.any (fun o=>!opB o l.length v c))
theorem FA(l:List am)(v c:Int)(h:kq l):sP l v c=some (eP l v c,()):=by
 have h1:=h.1
 rw[Qv,cB,aa]
 dsimp only
 unfold eP
 by_cases g:1≤(l.length:Int)∧(l.length:Int)≤1500
 ·have w1:w64 ((l.length:Int)-1)=((l.length-1:Nat):Int):=by rw[aI (by omega) (by omega)];omega
  have f:=fg (fun i=>ni l v c (l.length:Int) i) l.length (fun i=>!opB (l.getD i bm) l.length v c) (some (false,())) (some (true,())) (fun i hi=>by
   show ni l v c _ i=_
   rw[Fz,ak (by omega),if_pos (by omega),aS hi (by omega),af,Q9 _ _ _ _ (by rw[bk hi];exact(h.2 _ (List.getElem_mem hi)).1) (by rw[bk hi];have:=(h.2 _ (List.getElem_mem hi)).2;omega),aa]) (by
   show ni l v c _ _=_
   rw[Fz,if_neg (by simp)])
  rw[ac g,if_neg (by simp),w1,if_pos (by omega),af,f,dW l bm (fun o=>!opB o l.length v c)]
  cases decide ((l.getD (l.length-1) bm).Code=36) <;> cases l.any (fun o=>!opB o l.length v c) <;> rfl
 ·rw[ae g];rfl
theorem IE(l:List am)(v c:Int)(h:kq l):zo l l v c=some (l.any (fun o=>!opB o l.length v c),l,v,c,()):=by
 have h1:=h.1
 rw[S7,Th]
 obtain⟨k,e,e1,_⟩:=gF (fun i=>nI l (l.length:Int) i l v c) (l,v,c,()) l.length (fun i=>!opB (l.getD i bm) l.length v c) (fun i hi=>by
  show nI l _ i l v c=_
  rw[HS,ak (by omega),if_pos (by omega),aS hi (by omega),af,Lx,Mi _ _ _ _ (by rw[bk hi];exact(h.2 _ (List.getElem_mem hi)).1) (by rw[bk hi];have:=(h.2 _ (List.getElem_mem hi)).2;omega),aa,aa]) (by
  show nI l _ _ l v c=_
  rw[HS,if_neg (by simp)])
 rw[e,aa]
 dsimp only
 rw[e1,dW l bm (fun o=>!opB o l.length v c)]
theorem Cc(l:List am)(v c:Int)(h:kq l):ro l v c=some (eP l v c,()):=by
 have h1:=h.1
 rw[Ly,d4,aa]
 dsimp only
 unfold eP
 by_cases g:1≤(l.length:Int)∧(l.length:Int)≤1500
 ·have w1:w64 ((l.length:Int)-1)=((l.length-1:Nat):Int):=by rw[aI (by omega) (by omega)];omega
  rw[ac g,if_neg (by simp),w1,if_pos (by omega),af,IE l v c h,aa]
  cases decide ((l.getD (l.length-1) bm).Code=36) <;> rfl
 ·rw[ae g];rfl
def f7(l:List (List Int))(i:Nat):Bool:=!fZ (l.getD i [])||(decide ((i:Int)>0) && !ltS (l.getD (i-1) []) (l.getD i []))
def jM(l:List (List Int)):Bool:=!cz (f7 l) l.length&&decide ((l.length:Int)≤8)
theorem CC(l:List (List Int))(hl:l.length≤2097152)(hs:∀ s∈l,s.length≤2097152):rA l=some (jM l,()):=by
 rw[L8]
 have f:=fg (fun i=>kU l l (l.length:Int) i) l.length (f7 l) (some (false,())) (some (decide ((l.length:Int)≤8),())) (fun i hi=>by
  show kU l l _ i=_
  rw[CB,ak (by omega),if_pos (by omega),aS hi (by omega),af,L0 _ (by rw[bk hi];have:=hs _ (List.getElem_mem hi);omega),aa]
  dsimp only
  unfold f7
  by_cases h0:(i:Int)>0
  ·have w1:w64 ((i:Int)-1)=((i-1:Nat):Int):=by rw[aI (by omega) (by omega)];omega
   rw[ac h0,w1,af,if_pos (c:=(true=true)) rfl,if_pos (c:=0≤((i-1:Nat):Int)∧((i-1:Nat):Int)<(l.length:Int)) (by omega)]
   cases fZ (l.getD i []) <;> rfl
  ·rw[ae h0,if_neg (c:=(false=true)) (by simp)]
   cases fZ (l.getD i []) <;> rfl) (by
  show kU l l _ _=_
  rw[CB,if_neg (by simp)])
 rw[f]
 unfold jM
 cases cz (f7 l) l.length <;> rfl
noncomputable def eS(p:ap):Bool :=
 jM p.Vars&&(jM p.Cells&&(!p.Vars.any (fun s=>decide (s∈p.Cells))&&(eP p.Start p.Vars.length p.Cells.length&&eP p.Main p.Vars.length p.Cells.length)))
theorem ID(p:ap)(h:iY p):zq p.Vars p=some (p.Vars.any (fun s=>decide (s∈p.Cells)),p,()):=by
 have h1:=h.1.1
 have h2:=h.2.1.1
 rw[Ta,Tl]
 obtain⟨k,e,e1,_⟩:=gF (fun i=>nK p.Vars (p.Vars.length:Int) i p) (p,()) p.Vars.length (fun i=>decide (p.Vars.getD i []∈p.Cells)) (fun i hi=>by
  show nK p.Vars _ i p=_
  rw[H0,ak (by omega),if_pos (by omega),aS hi (by omega),af,Lz,uZ _ _ (by omega),aa,aa]) (by
  show nK p.Vars _ _ p=_
  rw[H0,if_neg (by simp)])
 rw[e,aa]
 dsimp only
 rw[e1,dW p.Vars [] (fun s=>decide (s∈p.Cells))]
theorem Ce(p:ap)(h:iY p):vT p=some (eS p,()):=by
 rw[LA,CC _ h.1.1 h.1.2,CC _ h.2.1.1 h.2.1.2,ID p h]
 simp only[aa]
 rw[Cc _ _ _ h.2.2.1,Cc _ _ _ h.2.2.2]
 unfold eS
 cases jM p.Vars <;> cases jM p.Cells <;> cases p.Vars.any (fun s=>decide (s∈p.Cells)) <;> cases eP p.Start p.Vars.length p.Cells.length <;> rfl
theorem FD(p:ap)(h:iY p):yp p=some (eS p,()):=by
 have h1:=h.1.1
 have h2:=h.2.1.1
 rw[Qw]
 have f2:=fg (fun i=>j3 i p) p.Cells.length (f7 p.Cells) (some (false,())) (some (decide ((p.Vars.length:Int)≤8)&&(decide ((p.Cells.length:Int)≤8)&&(eP p.Start p.Vars.length p.Cells.length&&eP p.Main p.Vars.length p.Cells.length)),())) (fun i hi=>by
  show j3 i p=_
  rw[FC,ak (by omega),if_pos (by omega),aS hi (by omega),af,Gx _ (by rw[bk hi];have:=h.2.1.2 _ (List.getElem_mem hi);omega),aa]
  dsimp only
  unfold f7
  by_cases h0:(i:Int)>0
  ·have w1:w64 ((i:Int)-1)=((i-1:Nat):Int):=by rw[aI (by omega) (by omega)];omega
   rw[ac h0,w1,af,if_pos (c:=(true=true)) rfl,if_pos (c:=0≤((i-1:Nat):Int)∧((i-1:Nat):Int)<(p.Cells.length:Int)) (by omega),if_pos (c:=0≤(i:Int)∧(i:Int)<(p.Cells.length:Int)) (by omega)]
   cases fZ (p.Cells.getD i []) <;> rfl
  ·rw[ae h0,if_neg (c:=(false=true)) (by simp)]
   cases fZ (p.Cells.getD i []) <;> rfl) (by
  show j3 _ p=_
  rw[FC,if_neg (by simp),FA _ _ _ h.2.2.1,FA _ _ _ h.2.2.2,aa,aa]
  cases decide ((p.Vars.length:Int)≤8) <;> cases decide ((p.Cells.length:Int)≤8) <;> cases eP p.Start p.Vars.length p.Cells.length <;> rfl)
 have f1:=fg (fun i=>lv i p) p.Vars.length (fun i=>f7 p.Vars i||decide (p.Vars.getD i []∈p.Cells)) (some (false,())) (j3 0 p) (fun i hi=>by
  show lv i p=_
  rw[FB,ak (by omega),if_pos (by omega),aS hi (by omega),af,Gx _ (by rw[bk hi];have:=h.1.2 _ (List.getElem_mem hi);omega),aa,tN _ _ (by omega),aa]
  dsimp only
  rw[if_pos (c:=0≤(i:Int)∧(i:Int)<(p.Vars.length:Int)) (by omega)]
  unfold f7
  by_cases h0:(i:Int)>0
  ·have w1:w64 ((i:Int)-1)=((i-1:Nat):Int):=by rw[aI (by omega) (by omega)];omega
   rw[ac h0,w1,af,if_pos (c:=(true=true)) rfl,if_pos (c:=0≤((i-1:Nat):Int)∧((i-1:Nat):Int)<(p.Vars.length:Int)) (by omega),if_pos (c:=0≤(i:Int)∧(i:Int)<(p.Vars.length:Int)) (by omega)]
   cases fZ (p.Vars.getD i []) <;> cases decide (p.Vars.getD i []∈p.Cells) <;> cases ltS (p.Vars.getD (i-1) []) (p.Vars.getD i []) <;> rfl
  ·rw[ae h0,if_neg (c:=(false=true)) (by simp)]
   cases fZ (p.Vars.getD i []) <;> cases decide (p.Vars.getD i []∈p.Cells) <;> rfl) (by
  show lv _ p=_
  rw[FB,if_neg (by simp)])
 rw[f1,f2,IC (f7 p.Vars) (fun i=>decide (p.Vars.getD i []∈p.Cells)),dW p.Vars [] (fun s=>decide (s∈p.Cells))]
 unfold eS jM
 cases cz (f7 p.Vars) p.Vars.length <;> cases cz (f7 p.Cells) p.Cells.length <;> cases p.Vars.any (fun s=>decide (s∈p.Cells)) <;> cases decide ((p.Vars.length:Int)≤8) <;> cases decide ((p.Cells.length:Int)≤8) <;> rfl
theorem AZ{d:Nat}{x:aB}(h:b9 (G:=gam) (d+3) (.nm 3) x):Bt x.S:=by
 have h':_∧_∧(x.S.length≤9223372036854775807∧∀ b∈x.S,0≤b∧b≤255)∧_:=h
 exact h'.2.2.1.2
theorem Ki{d:Nat}{x:ax}(h:b9 (G:=gam) (d+4) (.nm 4) x):Bt x.Val.S:=by
 have h':_∧(x.Key.length≤9223372036854775807∧_)∧b9 (G:=gam) (d+3) (.nm 3) x.Val∧_:=h
 exact AZ (d:=d+0) h'.2.2.1
def zP(x:aA):Prop:=(∀ y∈x.Vars,Bt y.S)∧∀ y∈x.Cells,Bt y.Val.S
theorem Kk{d:Nat}{x:aA}(h:b9 (G:=gam) (d+6) (.nm 2) x):zP x:=by
 have h':(x.Vars.length≤9223372036854775807∧∀ y∈x.Vars,b9 (G:=gam) (d+4) (.nm 3) y)∧(x.Cells.length≤9223372036854775807∧∀ y∈x.Cells,b9 (G:=gam) (d+4) (.nm 4) y)∧_∧_∧_:=h
 exact⟨fun y hy=>AZ (d:=d+1) (h'.1.2 y hy),fun y hy=>Ki (d:=d+0) (h'.2.1.2 y hy)⟩
theorem AY{d:Nat}{x:ay}(h:b9 (G:=gam) (d+3) (.nm 1) x):∀ b∈x.S,0≤b∧b≤255:=by
 have h':_∧_∧(x.S.length≤9223372036854775807∧∀ b∈x.S,0≤b∧b≤255)∧_:=h
 exact h'.2.2.1.2
def zO(x:az):Prop:=(∀ y∈x.Start,∀ b∈y.S,0≤b∧b≤255)∧∀ y∈x.Main,∀ b∈y.S,0≤b∧b≤255
theorem Kj{d:Nat}{x:az}(h:b9 (G:=gam) (d+5) (.nm 0) x):zO x:=by
 have h':_∧_∧(x.Start.length≤9223372036854775807∧∀ y∈x.Start,b9 (G:=gam) (d+3) (.nm 1) y)∧(x.Main.length≤9223372036854775807∧∀ y∈x.Main,b9 (G:=gam) (d+3) (.nm 1) y)∧_:=h
 exact⟨fun y hy=>AY (d:=d+0) (h'.2.2.1.2 y hy),fun y hy=>AY (d:=d+0) (h'.2.2.2.1.2 y hy)⟩
theorem Ac{l:List ay}(h:l.length≤1048576∧∀ y∈l,dk 1048576 y)(hb:∀ y∈l,∀ b∈y.S,0≤b∧b≤255):kq (l.map jq):=by
 refine⟨by rw[List.length_map];have:=h.1;omega,fun o ho=>?_⟩
 obtain⟨y,hy,rfl⟩:=List.mem_map.1 ho
 have:=h.2 y hy
 unfold dk at this
 exact⟨hb y hy,by show y.S.length≤_;omega⟩
theorem IQ{x:az}(h:eG 1048576 x)(hb:zO x):iY (kM x):=by
 unfold eG at h
 obtain⟨h1,h2,h3,h4⟩:=h
 exact⟨⟨by show x.Vars.length≤_;have:=h1.1;omega,fun y hy=>by have:=h1.2 y hy;omega⟩,⟨by show x.Cells.length≤_;have:=h2.1;omega,fun y hy=>by have:=h2.2 y hy;omega⟩,Ac h3 hb.1,Ac h4 hb.2⟩
theorem IR{x:aA}(h:fa 1048576 x)(hb:zP x):gn (md x):=by
 unfold fa at h
 obtain⟨h1,h2⟩:=h
 refine⟨⟨by show(x.Vars.map jr).length≤_;rw[List.length_map];have:=h1.1;omega,fun v hv=>?_⟩,by show(x.Cells.map kL).length≤_;rw[List.length_map];have:=h2.1;omega,fun c hc=>?_⟩
 ·obtain⟨y,hy,rfl⟩:=List.mem_map.1 hv;exact hb.1 y hy
 ·obtain⟨y,hy,rfl⟩:=List.mem_map.1 hc;exact hb.2 y hy
theorem Bu{x:az}(h:eG 1048576 x):i7 2097152 (kM x):=by
 have:=KP h
 unfold i7 fI at *
 obtain⟨h1,h2,h3,h4⟩:=this
 exact⟨⟨by omega,fun y hy=>by have:=h1.2 y hy;omega⟩,⟨by omega,fun y hy=>by have:=h2.2 y hy;omega⟩,⟨by omega,fun y hy=>by have:=h3.2 y hy;omega⟩,⟨by omega,fun y hy=>by have:=h4.2 y hy;omega⟩⟩
def cQ(n:Nat):List Int:=(Lib.decDigits n).map fun b=>(b.toNat:Int)
theorem qR{n:Nat}(h:n<10):cQ n=[48+(n:Int)]:=by
 unfold cQ
 rw[Lib.decDigits,dif_pos h]
 have:(UInt8.ofNat (48+n)).toNat=48+n:=by rw[UInt8.toNat_ofNat'];omega
 simp only[List.map_cons,List.map_nil,this]
 congr 1
theorem vg{n:Nat}(h:¬ n<10):cQ n=cQ (n/10)++[48+((n%10:Nat):Int)]:=by
 unfold cQ
 rw[Lib.decDigits,dif_neg h]
 have:(UInt8.ofNat (48+n%10)).toNat=48+n%10:=by rw[UInt8.toNat_ofNat'];omega
 simp only[List.map_append,List.map_cons,List.map_nil,this]
 congr 2
theorem Nf(n:Nat):iv (n:Int)=cQ n:=by
 unfold iv Lib.itoa cQ
 rw[if_neg (by omega),af]
theorem AllD.app{l m:List Int}(h:AllD l)(g:AllD m):AllD (l++m):=fun x hx=>(List.mem_append.1 hx).elim (h x) (g x)
theorem AM(n:Nat):AllD (cQ n)∧dv 0 (cQ n)=n∧cQ n≠[]∧(0<n→∃ c r,cQ n=c::r∧49≤c):=by
 induction n using Nat.strongRecOn with
 | ind n ih =>
  by_cases h:n<10
  ·rw[qR h]
   refine⟨fun x hx=>?_,?_,by simp,fun h0=>⟨_,_,rfl,by omega⟩⟩
   ·rw[List.mem_singleton.1 hx];omega
   ·simp only[dv,List.foldl_cons,List.foldl_nil];omega
  ·obtain⟨h1,h2,h3,h4⟩:=ih (n/10) (by omega)
   rw[vg h]
   refine⟨h1.app fun x hx=>?_,?_,by simp,fun _=>?_⟩
   ·rw[List.mem_singleton.1 hx];omega
   ·rw[vk,h2];simp only[dv,List.foldl_cons,List.foldl_nil];omega
   ·obtain⟨c,r,e,hc⟩:=h4 (by omega)
    rw[e]
    exact⟨c,r++_,rfl,hc⟩
theorem qQ{n k:Nat}(h:n<10 ^ k)(hk:0<k):(cQ n).length≤k:=by
 induction k generalizing n with
 | zero=>omega
 | succ k ih =>
  by_cases h9:n<10
  ·rw[qR h9];simp
  ·rw[vg h9,ag,List.length_singleton]
   have hk0:0<k:=by
    rcases Nat.eq_zero_or_pos k with h0 | h0
    ·subst h0;omega
    ·exact h0
   have:=ih (n:=n/10) (by rw[Nat.pow_succ]at h;omega) hk0
   omega
theorem vh{r:Nat}(h:r<1000000):∃ l,cQ (1000000+r)=49::l∧l.length=6∧AllD l∧dv 0 l=r:=by
 obtain⟨h1,h2,h3,h4⟩:=AM (1000000+r)
 obtain⟨c,l,e,hc⟩:=h4 (by omega)
 have hlen:=qQ (n:=1000000+r) (k:=7) (by omega) (by omega)
 rw[e]at h1 h2 hlen
 have hl:=vl l h1.tail
 have hn:=jj l 0 h1.tail (Int.le_refl 0)
 have hc9:=h1.head
 rw[gy,jk]at h2
 simp only[List.length_cons]at hlen
 have h6:l.length=6:=by
  by_cases h6:l.length=6
  ·exact h6
  ·exfalso
   have h5:(10:Int) ^ l.length≤10 ^ 5:=by
    have:(10:Nat) ^ l.length≤10 ^ 5:=Nat.pow_le_pow_right (by omega) (by omega)
    exact_mod_cast this
   have:(10*0+(c-48))*10 ^ l.length≤9*10 ^ 5:=Int.mul_le_mul (by omega) h5 (Int.le_of_lt (Int.pow_pos (by omega))) (by omega)
   omega
 rw[h6]at h2 hl
 have hc1:c=49:=by omega
 subst hc1
 exact⟨l,e,h6,h1.tail,by omega⟩
theorem Nl(n:Nat):∀ acc:List Int,acc.length+n≤9223372036854775807→s9 (n:Int) acc=some ((if n=0 then []else cQ n)++acc,()):=by
 induction n using Nat.strongRecOn with
 | ind n ih =>
  intro acc hb
  rw[Rm]
  by_cases h0:n=0
  ·rw[aj (by omega),if_pos h0];rfl
  ·have e1:Int.tdiv (n:Int) 10=((n/10:Nat):Int):=rfl
   have e2:Int.tmod (n:Int) 10=((n%10:Nat):Int):=rfl
   have e3:w8 (w64 (48+((n%10:Nat):Int)))=48+((n%10:Nat):Int):=by rw[aI (by omega) (by omega),zh (by omega) (by omega)]
   rw[ak (by omega),e1,e2,e3,if_pos (by rw[List.length_singleton];omega),aI (by omega) (by omega),if_neg h0,ih (n/10) (by omega) _ (by rw[ag,List.length_singleton];omega)]
   by_cases h9:n<10
   ·rw[if_pos (by omega),qR h9,Nat.mod_eq_of_lt h9];rfl
   ·rw[if_neg (by omega),vg h9,ah]
theorem Dk(n:Nat)(h:n≤9223372036854775807):s8 (n:Int)=some (cQ n,()):=by
 rw[Rn]
 by_cases h0:n=0
 ·subst h0
  rw[ak (by omega),qR (by omega)];rfl
 ·rw[aj (by omega),Nl n [] (by simpa using h),if_neg h0,List.append_nil]
def dz(c:Int)(l:List Int):List Int:=(l.reverse.dropWhile (fun x=>decide (x=c))).reverse
theorem ze(c:Int)(l:List Int):dz c (l++[c])=dz c l:=by
 unfold dz
 rw[List.reverse_append,List.reverse_singleton,List.singleton_append,List.dropWhile_cons_of_pos (by simp)]
theorem zd{c x:Int}(h:x≠c)(l:List Int):dz c (l++[x])=l++[x]:=by
 unfold dz
 rw[List.reverse_append,List.reverse_singleton,List.singleton_append,List.dropWhile_cons_of_neg (by simpa using h),List.reverse_cons,List.reverse_reverse]
theorem tD{l:List Int}{n:Nat}(h:l.length=n+1):l=l.take (l.length-1)++[l[l.length-1]]:=by
 have h1:=List.take_append_drop (l.length-1) l
 have h2:l.drop (l.length-1)=[l[l.length-1]]:=by
  rw[ai (by omega),List.drop_eq_nil_of_le (by omega)]
 rw[h2]at h1
 exact h1.symm
theorem Hh(c:Int):∀ (n:Nat) (l:List Int),l.length=n→∃ k,l=dz c l++List.replicate k c∧((∃ x∈l,x≠c)→dz c l≠[])
 | 0,l,h=>by
  have:l=[]:=List.eq_nil_of_length_eq_zero h
  subst this
  exact⟨0,rfl,fun⟨x,hx,_⟩=>by cases hx⟩
 | n+1,l,h=>by
  have hs:=tD h
  generalize hA:l.take (l.length-1)=A at hs
  generalize l[l.length-1]=x at hs
  have hAl:A.length=n:=by rw[← hA,List.length_take];omega
  subst hs
  by_cases hx:x=c
  ·subst hx
   obtain⟨k,e,g⟩:=Hh x n A hAl
   rw[ze]
   refine⟨k+1,?_,fun⟨y,hy,hne⟩=>g ⟨y,?_,hne⟩⟩
   ·rw[List.replicate_succ',← ah,← e]
   ·rcases List.mem_append.1 hy with hy | hy
    ·exact hy
    ·exact absurd (List.mem_singleton.1 hy) hne
  ·rw[zd hx]
   exact⟨0,by simp,fun _=>by simp⟩
theorem zc(c:Int)(l:List Int):(dz c l).length≤l.length:=by
 obtain⟨k,e,_⟩:=Hh c l.length l rfl
 have:=congrArg List.length e
 rw[ag]at this
 omega
theorem Hi(c:Int):∀ (n:Nat) (l:List Int),l.length=n→l.length≤4294967296→lS l c=some (dz c l,())
 | 0,l,hl,h=>by
  have:l=[]:=List.eq_nil_of_length_eq_zero hl
  subst this
  rw[uj,if_neg (by simp)];rfl
 | n+1,l,hl,h=>by
  rw[uj,ak (by omega),aI (by omega) (by omega),if_pos (by omega),show((l.length:Int)-1).toNat=l.length-1 by omega,bk (by omega)]
  have hs:=tD hl
  have e:List.take (l.length-1-0) (List.drop 0 l)=l.take (l.length-1):=rfl
  by_cases hx:l[l.length-1]=c
  ·rw[ak hx,if_pos (by omega),e,Hi c n _ (by rw[List.length_take];omega) (by rw[List.length_take];omega)]
   rw[hx]at hs
   generalize l.take (l.length-1)=A at *
   subst hs
   rw[ze]
  ·rw[aj hx]
   have:dz c l=l:=by
    generalize hA:l.take (l.length-1)=A at hs
    generalize l[l.length-1]=x at hs hx
    rw[hs];exact zd hx _
   rw[this]
theorem Iv(l:List Int)(h:l.length≤4294967296):zA l [48]=some (dz 48 l,()):=by
 rw[Tx]
 by_cases h0:l=[]
 ·rw[ak h0,h0];rfl
 ·rw[aj h0,if_neg (by simp),if_pos (by simp),if_pos (by simp),if_pos (by simp),if_pos (by simp),Ie]
  show Option.bind (lS l 48) _=_
  rw[Hi 48 _ l rfl h];rfl
theorem Gz(t0:Int)(t4:List Int)(h4:t4.length≤1000):∀ (n:Nat) (l:List Int),l.length=n→l.length≤1000→(∃ x∈l,x≠48)→sN t0 t4 l=pz t0 (t4++[46]++dz 48 l)
 | 0,l,hl,_,⟨x,hx,_⟩=>by
  have:l=[]:=List.eq_nil_of_length_eq_zero hl
  subst this
  cases hx
 | n+1,l,hl,h,hne=>by
  rw[Qj,aI (by omega) (by omega),if_pos (by omega),show((l.length:Int)-1).toNat=l.length-1 by omega,bk (by omega)]
  have hs:=tD hl
  have e:List.take (l.length-1-0) (List.drop 0 l)=l.take (l.length-1):=rfl
  by_cases hx:l[l.length-1]=48
  ·rw[ak hx,if_pos (by omega),e]
   rw[hx]at hs
   obtain⟨x,hx1,hx2⟩:=hne
   have hx3:x∈l.take (l.length-1):=by
    rw[hs]at hx1
    rcases List.mem_append.1 hx1 with h1 | h1
    ·exact h1
    ·exact absurd (List.mem_singleton.1 h1) hx2
   rw[Gz t0 t4 h4 n _ (by rw[List.length_take];omega) (by rw[List.length_take];omega) ⟨x,hx3,hx2⟩]
   have:dz 48 l=dz 48 (l.take (l.length-1)):=by
    generalize l.take (l.length-1)=A at *
    rw[hs];exact ze 48 A
   rw[this]
  ·rw[aj hx,if_pos (by simp only[List.length_singleton];omega),if_pos (by rw[ag];simp only[List.length_singleton];omega)]
   have:dz 48 l=l:=by
    generalize hA:l.take (l.length-1)=A at hs
    generalize l[l.length-1]=x at hs hx
    rw[hs];exact zd hx _
   rw[this]
def mb(r:Nat):List Int:=if 0<r then 46::dz 48 ((cQ (1000000+r)).drop 1)else []
def kG(n:Nat):List Int:=cQ (n/1000000)++mb (n%1000000)
def g9(n:Int):List Int:=if -9000000000000≤n∧n≤9000000000000 then(if n<0 then [45]else [])++kG n.natAbs else []
theorem Kx{r:Nat}(h:r<1000000):(mb r).length≤7:=by
 unfold mb
 obtain⟨l,e,h6,_⟩:=vh h
 split
 ·rw[e,List.drop_one,List.tail_cons,List.length_cons]
  have:=zc 48 l
  omega
 ·simp
theorem JS{n:Nat}(h:n≤9000000000000):(kG n).length≤14:=by
 unfold kG
 have h1:=qQ (n:=n/1000000) (k:=7) (by omega) (by omega)
 have h2:=Kx (r:=n%1000000) (by omega)
 rw[ag];omega
theorem JU(n:Int):(g9 n).length≤15:=by
 unfold g9
 split
 ·rename_i h
  have:=JS (n:=n.natAbs) (by omega)
  rw[ag]
  split
  ·simp only[List.length_singleton];omega
  ·simp only[List.length_nil];omega
 ·simp
theorem Dh(n:Nat):uf (n:Int)=some (cQ n,()):=by rw[Tq,Nf]
theorem B1(n:Nat)(h:n≤9000000000000)(t:List Int)(ht:t.length≤1):rj (n:Int) t=some (t++kG n,()):=by
 have e1:Int.tdiv (n:Int) 1000000=((n/1000000:Nat):Int):=rfl
 have e2:Int.tmod (n:Int) 1000000=((n%1000000:Nat):Int):=rfl
 have h1:=qQ (n:=n/1000000) (k:=7) (by omega) (by omega)
 rw[Li,e1,e2,aI (by omega) (by omega),Dh,aa]
 dsimp only
 rw[if_pos (by omega)]
 unfold kG mb
 by_cases h0:0<n%1000000
 ·have e3:w64 (1000000+((n%1000000:Nat):Int))=((1000000+n%1000000:Nat):Int):=by rw[aI (by omega) (by omega)];omega
  obtain⟨l,e,h6,_⟩:=vh (r:=n%1000000) (by omega)
  have e4:List.take ((49::l).length-1) (List.drop 1 (49::l))=l:=by simp
  have h7:=zc 48 l
  rw[ak (by omega),e3,Dh,aa,if_pos h0]
  dsimp only
  rw[e,e4,if_pos (by rw[List.length_cons];omega),Iv l (by omega),aa]
  dsimp only
  rw[if_pos (by rw[List.length_singleton];omega),if_pos (by simp only[ag,List.length_singleton];omega),ah,List.drop_one,List.tail_cons]
  rfl
 ·rw[aj (by omega),if_neg h0,List.append_nil]
theorem Lk(n:Int):vK n=some (g9 n,()):=by
 rw[Lj,cS,aa]
 dsimp only
 unfold g9
 by_cases h:-9000000000000≤n∧n≤9000000000000
 ·rw[ac h,if_neg (by decide),if_pos h]
  by_cases h0:n<0
  ·rw[ak h0,if_pos h0,aI (by omega) (by omega),show(0:Int)-n=((n.natAbs:Nat):Int) by omega,B1 _ (by omega) _ (by simp)]
  ·have e:n=((n.natAbs:Nat):Int):=by omega
   rw[aj h0,if_neg h0]
   have:=B1 n.natAbs (by omega) [] (by simp)
   rw[← e]at this
   exact this
 ·rw[ae h,if_pos (by decide),if_neg h]
theorem Fj(n:Int)(t:List Int)(h:t.length≤1000):pz n t=some ((if n<0 then [45]else [])++t,()):=by
 rw[Qk]
 by_cases h0:n<0
 ·rw[ak h0,if_pos h0,if_pos (by rw[List.length_singleton];omega)]
 ·rw[aj h0,if_neg h0];rfl
theorem gN(n:Int):ef n=some (decide (-9000000000000≤n∧n≤9000000000000),()):=by
 rw[Fh,Gf]
 by_cases h:n ≥ -9000000000000
 ·rw[ak h]
  simp[show -9000000000000≤n from h]
 ·rw[aj h]
  simp[show ¬ -9000000000000≤n from h]
theorem Qm(n:Int):yg n=some (g9 n,()):=by
 rw[Ql,gN,aa]
 dsimp only
 unfold g9
 by_cases h:-9000000000000≤n∧n≤9000000000000
 ·rw[ac h,if_neg (by decide),if_pos h]
  have ea:nx n=some (((n.natAbs:Nat):Int),()):=by
   rw[Ge]
   by_cases h0:n<0
   ·rw[ak h0,aI (by omega) (by omega),show(0:Int)-n=((n.natAbs:Nat):Int) by omega]
   ·rw[aj h0,show((n.natAbs:Nat):Int)=n by omega]
  rw[ea,aa]
  dsimp only
  generalize hm:n.natAbs=m
  have e1:Int.tdiv (m:Int) 1000000=((m/1000000:Nat):Int):=rfl
  have e2:Int.tmod (m:Int) 1000000=((m%1000000:Nat):Int):=rfl
  have h1:=qQ (n:=m/1000000) (k:=7) (by omega) (by omega)
  rw[e1,e2,aI (by omega) (by omega),Dk _ (by omega),aa]
  dsimp only
  unfold kG mb
  by_cases h0:0<m%1000000
  ·have e3:w64 (1000000+((m%1000000:Nat):Int))=((1000000+m%1000000:Nat):Int):=by rw[aI (by omega) (by omega)];omega
   obtain⟨l,e,h6,hd,hv⟩:=vh (r:=m%1000000) (by omega)
   have e4:List.take ((49::l).length-1) (List.drop 1 (49::l))=l:=by simp
   have h7:=zc 48 l
   have hne:∃ x∈l,x≠48:=by
    by_cases hh:∃ x∈l,x≠48
    ·exact hh
    ·exfalso
     have hall:∀ x∈l,x=48:=fun x hx=>by
      by_cases hx48:x=48
      ·exact hx48
      ·exact absurd ⟨x,hx,hx48⟩ hh
     rw[List.eq_replicate_of_mem hall,vm]at hv
     omega
   rw[ak (by omega),e3,Dk _ (by omega),aa,if_pos h0]
   dsimp only
   rw[e,e4,if_pos (by rw[List.length_cons];omega),Gz n _ (by omega) _ l rfl (by omega) hne,Fj _ _ (by simp only[ag,List.length_singleton];omega),List.drop_one,List.tail_cons,ah (cQ _)]
   rfl
  ·rw[aj (by omega),if_neg h0,List.append_nil,Fj _ _ (by omega)]
 ·rw[ae h,if_pos (by decide),if_neg h]
def qB(v:au):Prop:=v.S.length≤100000∧Bt v.S
def a7(v:au):List Int:=if v.Kind=1 then g9 v.N else v.S
theorem dZ(v:au):cH v=some (a7 v,()):=by
 rw[LE]
 unfold a7
 by_cases h:v.Kind=1
 ·rw[ak h,if_pos h,Lk];rfl
 ·rw[aj h,if_neg h]
theorem eg(v:au):du v=some (a7 v,()):=by
 rw[QC]
 unfold a7
 by_cases h:v.Kind=1
 ·rw[ak h,if_pos h,Qm];rfl
 ·rw[aj h,if_neg h]
theorem Hf{v:au}(h:qB v):∃ n,ew v=some (n,())∧dg v=some (n,()):=by
 obtain⟨x,e,k1,k2,_⟩:=u9 v.S (by have:=h.1;omega) h.2
 have key:∀ b:Bool,∃ n,oG v.Kind b v=some (n,())∧pE v.Kind b v=some (n,()):=fun b=>by
  rw[Cl,FI,k1,k2]
  cases b with
  | true=>exact⟨_,rfl,rfl⟩
  | false =>
   by_cases h2:v.Kind=2
   ·rw[if_neg (by decide),ak h2];exact⟨_,rfl,rfl⟩
   ·rw[if_neg (by decide),aj h2];exact⟨_,rfl,rfl⟩
 rw[Cm,FJ]
 split
 ·exact key _
 ·exact key _
theorem G5(a b:List Int):ko a b=some (bU a b,()):=by
 rw[H7,Hw,HB];rfl
theorem DT:∀ a b:List Int,ltS a b=true→ltS b a=false
 | a,[],h=>by cases a <;> cases h
 | [],y::b,h=>rfl
 | x::a,y::b,h=>by
  unfold ltS at h ⊢
  rw[Bool.or_eq_true,Bool.and_eq_true,ab,ab]at h
  rcases h with h | ⟨h1,h2⟩
  ·rw[ae (by omega),ae (by omega)];rfl
  ·subst h1
   rw[DT a b h2];simp
theorem JC(a b:List Int):bU b a=0-bU a b:=by
 unfold bU
 cases h:ltS a b with
 | true=>rw[DT a b h];rfl
 | false =>
  cases h2:ltS b a with
  | true=>rfl
  | false=>rfl
theorem Al(b:Bool):lz b=some (if b=true then 1 else 0,()):=by rw[yH];cases b <;> rfl
theorem JK{a b:au}(ha:qB a)(hb:qB b):∃ c,me a b=some (c,())∧sK a b=some (c,())∧me b a=some (0-c,())∧(-1≤c∧c≤1):=by
 obtain⟨x,x1,x2⟩:=Hf ha
 obtain⟨y,y1,y2⟩:=Hf hb
 have htext:∃ c,((cH a).bind fun(r0:(List Int)×Unit)=>(cH b).bind fun(r1:(List Int)×Unit)=>(ko r0.1 r1.1).bind fun(r2:Int×Unit)=>some (r2.1,()))=some (c,()) ∧
   (if(ltS (a7 a) (a7 b))=true then some ((-1),()) else(lz (ltS (a7 b) (a7 a))).bind fun(r9:Int×Unit)=>some (r9.1,()))=some (c,()) ∧
   ((cH b).bind fun(r0:(List Int)×Unit)=>(cH a).bind fun(r1:(List Int)×Unit)=>(ko r0.1 r1.1).bind fun(r2:Int×Unit)=>some (r2.1,()))=some (0-c,())∧(-1≤c∧c≤1):=by
  refine⟨bU (a7 a) (a7 b),?_,?_,?_,Ax _ _⟩
  ·rw[dZ,dZ,aa,aa,G5];rfl
  ·rw[Al]
   unfold bU
   cases ltS (a7 a) (a7 b) <;> cases ltS (a7 b) (a7 a) <;> rfl
  ·rw[dZ,dZ,aa,aa,G5,JC];rfl
 obtain⟨c,c1,c2,c3,c4⟩:=htext
 rw[BS a b,P9,BS b a,eg,eg]
 simp only[aa]
 by_cases ka:a.Kind=2
 ·have a1:decide (a.Kind=2)=true:=ac ka
  have a2:¬ (!decide (a.Kind=2))=true:=by rw[a1];decide
  rw[if_neg a2]
  by_cases kb:b.Kind=2
  ·have b1:decide (b.Kind=2)=true:=ac kb
   rw[if_pos a1,if_pos b1];exact⟨c,c1,c2,c3,c4⟩
  ·have b1:¬ decide (b.Kind=2)=true:=by rw[ab];exact kb
   rw[if_pos a1,if_neg b1,if_pos a1];exact⟨c,c1,c2,c3,c4⟩
 ·have a1:¬ decide (a.Kind=2)=true:=by rw[ab];exact ka
  have a2:(!decide (a.Kind=2))=true:=by rw[Bool.not_eq_true]at a1;rw[a1];rfl
  rw[if_neg a1,if_pos a2]
  by_cases kb:b.Kind=2
  ·have b1:decide (b.Kind=2)=true:=ac kb
   have b2:¬ (!decide (b.Kind=2))=true:=by rw[b1];decide
   rw[if_pos b1,if_neg b2,if_pos b1];exact⟨c,c1,c2,c3,c4⟩
  ·have b1:¬ decide (b.Kind=2)=true:=by rw[ab];exact kb
   have b2:(!decide (b.Kind=2))=true:=by rw[Bool.not_eq_true]at b1;rw[b1];rfl
   rw[if_neg b1,if_pos b2,if_neg b1,if_neg a1,x1,x2,y1,y2]
   simp only[aa,Al,ab]
   by_cases l1:x<y
   ·refine⟨-1,by rw[if_pos l1],by rw[if_pos l1],?_,by omega,by omega⟩
    rw[if_neg (by omega),if_pos (by omega)];rfl
   ·by_cases l2:x>y
    ·refine⟨1,by rw[if_neg l1,if_pos l2],by rw[if_neg l1,if_pos l2],?_,by omega,by omega⟩
     rw[if_pos (by omega)];rfl
    ·refine⟨0,by rw[if_neg l1,if_neg l2],by rw[if_neg l1,if_neg l2],?_,by omega,by omega⟩
     rw[if_neg (by omega),if_neg (by omega)];rfl
theorem Pv(s:List Int)(hs:s.length≤9223372036854775807)(hb:Bt s):∃ v,j4 s=some (v,())∧ju s=some (v,())∧oI v=some (true,())∧v.S.length≤300∧Bt v.S:=by
 obtain⟨w,k1,k2⟩:=Pu s hs hb
 have hbt:Bt (s.take 300):=fun x hx=>hb x (List.mem_of_mem_take hx)
 have hl:(s.take 300).length≤300:=by rw[List.length_take];omega
 obtain⟨v,ok,l1,l2,l3⟩:=vd (s.take 300) (by omega) hbt
 refine⟨w,k1,k2,?_⟩
 rw[Cf,u7 s hs,aa]at k2
 dsimp only at k2
 rw[l2,aa]at k2
 dsimp only at k2
 cases ok with
 | true =>
  have hw:au.mk 3 v (s.take 300)=w:=congrArg Prod.fst (Option.some.inj k2)
  subst hw
  refine⟨?_,hl,hbt⟩
  rw[vX,cS,l2]
  dsimp only
  rw[aa,ac l3]
  dsimp only
  rw[if_neg (by decide),aj (by omega),if_neg (by simp),if_neg (by simp),if_neg (by simp),if_pos (by simp),aa]
  simp
 | false =>
  rw[if_neg (by decide),jH,aa]at k2
  have hw:au.mk 2 0 (s.take 300)=w:=congrArg Prod.fst (Option.some.inj k2)
  subst hw
  refine⟨?_,hl,hbt⟩
  rw[vX,cS]
  dsimp only
  rw[aa,ac (by omega)]
  dsimp only
  rw[if_neg (by decide),aj (by omega),if_neg (by simp),if_neg (by simp),if_pos (by simp)]
  simp
theorem cM{n:Int}(h:0≤n)(h':n≤18446744073709551615):aK n=n:=by
 show IntKind.u64.wrap n=n
 rw[IntKind.wrap_u64];omega
theorem iW(n:Int):aK n=n%18446744073709551616:=by
 show IntKind.u64.wrap n=_
 rw[IntKind.wrap_u64]
theorem pL(n:Int):gd n=some (if -9000000000000≤n∧n≤9000000000000 then(n,true,()) else(0,false,())):=by
 rw[Rk,gN,aa]
 dsimp only
 by_cases c:-9000000000000≤n∧n≤9000000000000
 ·rw[ac c,if_pos c];rfl
 ·rw[ae c,if_neg c];rfl
def Dc(n:Int):Prop:=-9000000000000≤n∧n≤9000000000000
theorem Iy(a b:Int):yb a b=mf a b:=by
 rw[Qa,BU,gN,gN,cS,cS,pL,oV]
theorem Si(a b:Int):yf a b=ri a b:=by
 rw[Qi,B0,gN,gN,cS,cS,pL,oV]
theorem J2(a b:Int):yc a b=oB a b:=by
 rw[Qb,BV,gN,gN,cS,cS,pL,oV]
theorem nY{n:Int}(h:0≤n)(h':n≤18446744073709551615):Go.bits .and .u64 n 4294967295=n%4294967296 :=
 bits_mask .u64 64 (by decide) (fun n h₀ h₁=>cM h₀ (by omega)) 32 (by decide) n h (by omega)
theorem yW{n:Int}:cL .u64 n 44=(n*17592186044416)%18446744073709551616:=iW _
theorem R8{n:Int}:bM .u64 n 20=n/1048576:=by
 show n.fdiv 1048576=_
 rw[Int.fdiv_eq_ediv_of_nonneg _ (by decide)]
theorem p7{n:Int}:bM .u64 n 32=n/4294967296:=by
 show n.fdiv 4294967296=_
 rw[Int.fdiv_eq_ediv_of_nonneg _ (by decide)]
theorem OT{h l:Int}(h0:0≤h)(h1:h<1048576)(l0:0≤l)(l1:l<17592186044416):Go.bits .or .u64 (h*17592186044416) l=h*17592186044416+l:=by
 obtain⟨a,rfl⟩:=Int.eq_ofNat_of_zero_le h0
 obtain⟨b,rfl⟩:=Int.eq_ofNat_of_zero_le l0
 have e:=(bits_nat .u64 64 (by decide) (fun n h₀ h₁=>cM h₀ (by omega)) (a*17592186044416) b (by omega) (by omega)).2
 have e2:=Nat.two_pow_add_eq_or_of_lt (i:=44) (b:=b) (by omega) a
 have e3:((a*17592186044416:Nat):Int)=(a:Int)*17592186044416:=by omega
 rw[← e3,e]
 have e4:2 ^ 44*a=a*17592186044416:=by omega
 rw[e4]at e2
 rw[← e2,Int.natCast_add]
theorem Ou{x y:Int}(x0:0≤x)(x1:x≤9000000000000)(y0:0≤y)(y1:y≤9000000000000):ub x y=some (x*y/18446744073709551616,x*y%18446744073709551616,()):=by
 rw[S6]
 have hx:x=4294967296*(x/4294967296)+x%4294967296:=by omega
 have hy:y=4294967296*(y/4294967296)+y%4294967296:=by omega
 rw[p7,p7,nY x0 (by omega),nY y0 (by omega)]
 have a0:0≤x/4294967296:=by omega
 have a1:x/4294967296≤2100:=by omega
 have b0:0≤x%4294967296:=by omega
 have b1:x%4294967296≤4294967295:=by omega
 have c0:0≤y/4294967296:=by omega
 have c1:y/4294967296≤2100:=by omega
 have d0:0≤y%4294967296:=by omega
 have d1:y%4294967296≤4294967295:=by omega
 have hp:x*y=(x/4294967296*(y/4294967296))*18446744073709551616+(x/4294967296*(y%4294967296))*4294967296+(x%4294967296*(y/4294967296))*4294967296+x%4294967296*(y%4294967296):=by
  generalize x/4294967296=a at *
  generalize x%4294967296=b at *
  generalize y/4294967296=c at *
  generalize y%4294967296=d at *
  subst hx;subst hy
  grind
 rw[hp]
 have m1:=Int.mul_nonneg a0 c0
 have m2:=Int.mul_nonneg a0 d0
 have m3:=Int.mul_nonneg b0 c0
 have m4:=Int.mul_nonneg b0 d0
 have n1:=Int.mul_le_mul a1 c1 c0 (by decide)
 have n2:=Int.mul_le_mul a1 d1 d0 (by decide)
 have n3:=Int.mul_le_mul b1 c1 c0 (by decide)
 have n4:=Int.mul_le_mul b1 d1 d0 (by decide)
 generalize x/4294967296*(y/4294967296)=p11 at *
 generalize x/4294967296*(y%4294967296)=p10 at *
 generalize x%4294967296*(y/4294967296)=p01 at *
 generalize x%4294967296*(y%4294967296)=p00 at *
 clear hp hx hy a0 a1 b0 b1 c0 c1 d0 d1 x0 x1 y0 y1
 simp only[p7]
 rw[cM m1 (by omega),cM m2 (by omega),cM m3 (by omega),cM m4 (by omega)]
 rw[cM (n:=p10+p00/4294967296) (by omega) (by omega),nY (by omega) (by omega),cM (n:=(p10+p00/4294967296)%4294967296+p01) (by omega) (by omega),
  cM (n:=p11+(p10+p00/4294967296)/4294967296) (by omega) (by omega),cM (n:=p11+(p10+p00/4294967296)/4294967296+((p10+p00/4294967296)%4294967296+p01)/4294967296) (by omega) (by omega),iW]
 congr 2
 omega
theorem Oi:zk 1000000=some (44,()):=by
 rw[SY,S5,if_neg (by decide),SZ,if_pos (by decide),S4,if_neg (by decide),if_pos (by decide)]
 rfl
theorem J1{p:Int}(p0:0≤p)(p1:p/18446744073709551616<1000000):∃ r,tW (p/18446744073709551616) (p%18446744073709551616) 1000000=some (p/1000000%18446744073709551616,r,()):=by
 have hh0:0≤p/18446744073709551616:=by omega
 have hl0:0≤p%18446744073709551616:=by omega
 have hl1:p%18446744073709551616≤18446744073709551615:=by omega
 have hpp:p=p/18446744073709551616*18446744073709551616+p%18446744073709551616:=by omega
 generalize p/18446744073709551616=h at *
 generalize p%18446744073709551616=l at *
 subst hpp
 rw[SX,if_neg (by decide),SR,aj (by omega),SS]
 by_cases c:h=0
 ·subst c
  rw[if_pos (by decide),if_pos (by decide),if_pos (by decide),Int.tdiv_eq_ediv_of_nonneg hl0,iW,Int.zero_mul,Int.zero_add]
  exact⟨_,rfl⟩
 ·rw[aj c,Oi,aa]
  dsimp only
  have k1:aK 44=44:=cM (by decide) (by decide)
  have k2:aK (64-44)=20:=cM (by decide) (by decide)
  have k3:cL .u64 1000000 44=17592186044416000000:=by rw[yW];rfl
  have k4:bM .u64 17592186044416000000 32=4096000000:=by rw[p7];rfl
  have k5:Go.bits .and .u64 17592186044416000000 4294967295=0:=by rw[nY (by decide) (by decide)];rfl
  have k6:cL .u64 h 44=h*17592186044416:=by rw[yW];omega
  have k7:Go.bits .or .u64 (cL .u64 h 44) (bM .u64 l 20)=h*17592186044416+l/1048576:=by rw[k6,R8,OT hh0 (by omega) (by omega) (by omega)]
  have k8:cL .u64 l 44=(l%1048576)*17592186044416:=by rw[yW];omega
  have k9:bM .u64 ((l%1048576)*17592186044416) 32=(l%1048576)*4096:=by rw[p7];omega
  have k10:Go.bits .and .u64 ((l%1048576)*17592186044416) 4294967295=0:=by rw[nY (by omega) (by omega)];omega
  rw[k1,k2,if_pos (by decide),if_pos (by decide),if_pos (by decide),if_pos (by decide),k3,k4,k5,k7,k8,k9,k10,if_pos (by decide)]
  have u0:0≤h*17592186044416+l/1048576:=by omega
  have u1:h*17592186044416+l/1048576<17592186044416000000:=by omega
  have t0:0≤(l%1048576)*4096:=by omega
  have t1:(l%1048576)*4096<4294967296:=by omega
  have hN:(h*17592186044416+l/1048576)*4294967296+(l%1048576)*4096=(h*18446744073709551616+l)*4096:=by omega
  generalize h*17592186044416+l/1048576=u at *
  generalize (l%1048576)*4096=v at *
  generalize h*18446744073709551616+l=P at *
  clear k6 k7 k8 k9 k10 k1 k2 k3 k4 k5
  rw[Int.tdiv_eq_ediv_of_nonneg u0]
  have q0:aK (u/4096000000)=u/4096000000:=cM (by omega) (by omega)
  have q1:aK (u/4096000000*4096000000)=u/4096000000*4096000000:=cM (by omega) (by omega)
  have q2:aK (u-u/4096000000*4096000000)=u%4096000000:=by rw[cM (by omega) (by omega)];omega
  rw[q0,q1,q2,ST,aj (by omega),Int.mul_zero,iW 0,if_neg (by rw[ab,iW];omega),SU,if_pos (by decide)]
  have q3:aK (aK (aK (u*4294967296)+v)-aK (u/4096000000*17592186044416000000))=(u%4096000000)*4294967296+v:=by
   simp only[iW];omega
  rw[q3]
  have w0:0≤(u%4096000000)*4294967296+v:=by omega
  have w1:(u%4096000000)*4294967296+v<17592186044416000000:=by omega
  have w2:(u/4096000000)*4294967296+((u%4096000000)*4294967296+v)/4096000000=P/1000000:=by omega
  generalize hW:(u%4096000000)*4294967296+v=W at *
  rw[Int.tdiv_eq_ediv_of_nonneg w0]
  have r0:aK (W/4096000000)=W/4096000000:=cM (by omega) (by omega)
  have r1:aK (W/4096000000*4096000000)=W/4096000000*4096000000:=cM (by omega) (by omega)
  have r2:aK (W-W/4096000000*4096000000)=W%4096000000:=by rw[cM (by omega) (by omega)];omega
  rw[r0,r1,r2,SV,aj (by omega),Int.mul_zero,iW 0,if_neg (by rw[ab,iW];omega),SW,if_pos (by decide)]
  rw[cM (n:=u/4096000000*4294967296) (by omega) (by omega),iW (_+_),w2]
  exact⟨_,rfl⟩
theorem qG{a:Int}(h:Dc a):rp a=some (if a<0 then 0-a else a,()):=by
 unfold Dc at h
 rw[LH]
 by_cases c:a<0
 ·rw[ak c,if_pos c,aI (by omega) (by omega),cM (by omega) (by omega)]
 ·rw[aj c,if_neg c,cM (by omega) (by omega)]
theorem zU{a:Int}(h:Dc a):nx a=some (if a<0 then 0-a else a,()):=by
 unfold Dc at h
 rw[Ge]
 by_cases c:a<0
 ·rw[ak c,if_pos c,aI (by omega) (by omega)]
 ·rw[aj c,if_neg c]
def mQ(x y:Int)(n:Bool):Option (Int×Bool×Unit):=if x*y/1000000>9000000000000 then some (0,false,())else if n=true then some (0-x*y/1000000,true,())else some (x*y/1000000,true,())
theorem D3{x y:Int}(x0:0≤x)(x1:x≤9000000000000)(y0:0≤y)(y1:y≤9000000000000)(n:Bool) :
  ((ub x y).bind fun(r4:Int×Int×Unit) =>
   if(decide (r4.1≥1000000))=true then
    some (0,false,())
   else
    (tW r4.1 r4.2.1 1000000).bind fun(r5:Int×Int×Unit) =>
    if(decide (r5.1>9000000000000))=true then
     some (0,false,())
    else
     if n=true then
      some ((w64 (0-(w64 r5.1))),true,())
     else
      some ((w64 r5.1),true,()))=mQ x y n:=by
 have p0:=Int.mul_nonneg x0 y0
 rw[Ou x0 x1 y0 y1,aa]
 dsimp only
 unfold mQ
 generalize x*y=p at *
 by_cases c:p/18446744073709551616≥1000000
 ·rw[ak c,if_pos (by omega)]
 ·obtain⟨r,e⟩:=J1 p0 (by omega)
  rw[aj c,e,aa]
  dsimp only
  have hm:p/1000000%18446744073709551616=p/1000000:=by omega
  rw[hm]
  by_cases d:p/1000000>9000000000000
  ·rw[ak d,if_pos d]
  ·rw[aj d,if_neg d,aI (n:=p/1000000) (by omega) (by omega),aI (by omega) (by omega)]
theorem D4{x y:Int}(x0:0≤x)(x1:x≤9000000000000)(y0:0≤y)(y1:y≤9000000000000)(hw:x/1000000*y≤9000000000000) :
  w64 ((w64 ((w64 (Int.tdiv x 1000000))*y))+(w64 (Int.tdiv (w64 ((Int.tmod x 1000000)*y)) 1000000)))=x*y/1000000∧x*y/1000000≤18100000000000:=by
 have hx:x=1000000*(x/1000000)+x%1000000:=by omega
 have hp:x*y=1000000*(x/1000000*y)+x%1000000*y:=by
  generalize x/1000000=a at *
  generalize x%1000000=b at *
  subst hx
  grind
 have m0:0≤x/1000000*y:=Int.mul_nonneg (by omega) y0
 have r0:0≤x%1000000*y:=Int.mul_nonneg (by omega) y0
 have r1:x%1000000*y≤999999*9000000000000:=Int.mul_le_mul (by omega) y1 y0 (by decide)
 rw[Int.tdiv_eq_ediv_of_nonneg x0,Int.tmod_eq_emod_of_nonneg x0,aI (n:=x/1000000) (by omega) (by omega),hp]
 generalize x/1000000*y=a at *
 generalize x%1000000*y=b at *
 rw[aI (n:=a) (by omega) (by omega),aI (n:=b) (by omega) (by omega),Int.tdiv_eq_ediv_of_nonneg r0,aI (n:=b/1000000) (by omega) (by omega),aI (by omega) (by omega)]
 omega
theorem D5{x y:Int}(n:Bool)(h0:0≤x*y/1000000)(h1:x*y/1000000≤18100000000000) :
  (if n=true then(gd (w64 (0-(x*y/1000000)))).bind fun(r4:Int×Bool×Unit)=>some (r4.1,r4.2.1,()) else(gd (x*y/1000000)).bind fun(r5:Int×Bool×Unit)=>some (r5.1,r5.2.1,()))=mQ x y n:=by
 unfold mQ
 generalize x*y/1000000=q at *
 rw[pL,pL,aI (by omega) (by omega)]
 have h2:(q>9000000000000)∨(q≤9000000000000):=by omega
 rcases h2 with c | c
 ·have d1:¬ (-9000000000000≤0-q∧0-q≤9000000000000):=by omega
  have d2:¬ (-9000000000000≤q∧q≤9000000000000):=by omega
  simp only[if_pos c,if_neg d1,if_neg d2,aa,ite_self]
 ·have c':¬ q>9000000000000:=by omega
  have d1:-9000000000000≤0-q∧0-q≤9000000000000:=by omega
  have d2:-9000000000000≤q∧q≤9000000000000:=by omega
  simp only[if_neg c',if_pos d1,if_pos d2,aa]
theorem Ov(a b:Int):ye a b=rh a b:=by
 rw[Qh,BW,gN,gN,cS,cS]
 simp only[aa]
 by_cases ha:Dc a
 ·have ha':=ha
  unfold Dc at ha'
  simp only[ac ha',Bool.not_true,Bool.false_eq_true,if_false]
  by_cases hb:Dc b
  ·have hb':=hb
   unfold Dc at hb'
   simp only[ac hb',Bool.not_true,Bool.false_eq_true,if_false,zU ha,zU hb,qG ha,qG hb,aa]
   have x0:0≤(if a<0 then 0-a else a):=by split <;> omega
   have x1:(if a<0 then 0-a else a)≤9000000000000:=by split <;> omega
   have y0:0≤(if b<0 then 0-b else b):=by split <;> omega
   have y1:(if b<0 then 0-b else b)≤9000000000000:=by split <;> omega
   generalize (if a<0 then 0-a else a)=x at *
   generalize (if b<0 then 0-b else b)=y at *
   generalize (!(decide ((decide (a<0))=(decide (b<0)))))=n
   rw[D3 x0 x1 y0 y1 n]
   have p0:=Int.mul_nonneg x0 y0
   by_cases c:y>0
   ·have hx:x=1000000*(x/1000000)+x%1000000:=by omega
    have hp:x*y=1000000*(x/1000000*y)+x%1000000*y:=by
     generalize x/1000000=a at *
     generalize x%1000000=b at *
     subst hx
     grind
    have r0:0≤x%1000000*y:=Int.mul_nonneg (by omega) y0
    have hM:(0:Int)≤9000000000000/y:=Int.ediv_nonneg (by decide) y0
    have hM1:9000000000000/y≤9000000000000:=Int.ediv_le_self _ (by decide)
    rw[ak c,if_pos (by omega),Int.tdiv_eq_ediv_of_nonneg (a:=x) x0,Int.tdiv_eq_ediv_of_nonneg (a:=9000000000000) (by decide),aI (n:=x/1000000) (by omega) (by omega),aI (n:=9000000000000/y) (by omega) (by omega)]
    by_cases d:x/1000000>9000000000000/y
    ·rw[ak d]
     have:¬ (x/1000000*y≤9000000000000):=fun h=>by
      have:=(Int.le_ediv_iff_mul_le c).2 h
      omega
     unfold mQ
     rw[if_pos]
     rw[hp];omega
    ·have hw:=(Int.le_ediv_iff_mul_le c).1 (show x/1000000≤9000000000000/y by omega)
     obtain⟨e1,e2⟩:=D4 x0 x1 y0 y1 hw
     rw[Int.tdiv_eq_ediv_of_nonneg (a:=x) x0,aI (n:=x/1000000) (by omega) (by omega)]at e1
     rw[aj d,e1]
     exact D5 n (by omega) e2
   ·have hy:y=0:=by omega
    obtain⟨e1,e2⟩:=D4 x0 x1 y0 y1 (by rw[hy];simp)
    rw[aj c,e1]
    exact D5 n (by omega) e2
  ·have hb':=hb
   unfold Dc at hb'
   simp only[ae hb',Bool.not_false,if_true]
 ·have ha':=ha
  unfold Dc at ha'
  simp only[ae ha',Bool.not_false,if_true]
def spl:List Int→List (List Int)
 | []=>[[]]
 | c::l=>if c=32 then []::spl l else((c::(spl l).getD 0 [])::(spl l).drop 1)
def pre(w:List Int):List (List Int)→List (List Int)
 | []=>[w]
 | x::xs=>(w++x)::xs
def ne(w:List Int):Bool:=!decide (w=[])
def bP(l:List Int):List (List Int):=(spl l).filter ne
theorem tE(l:List Int):∃ x xs,spl l=x::xs:=by
 cases l with
 | nil=>exact⟨_,_,rfl⟩
 | cons c l=>rw[spl];split <;> exact⟨_,_,rfl⟩
theorem qa{c:Int}(h:c≠32)(l:List Int):spl (c::l)=pre [c] (spl l):=by
 obtain⟨x,xs,e⟩:=tE l
 rw[spl,if_neg h,e];rfl
theorem Pc(a b:List Int)(l:List (List Int)):pre a (pre b l)=pre (a++b) l:=by
 cases l with
 | nil=>rfl
 | cons x xs=>show(a++(b++x))::xs=_;rw[← ah];rfl
theorem EB(l:List Int):pre [] (spl l)=spl l:=by
 obtain⟨x,xs,e⟩:=tE l
 rw[e];rfl
theorem tF:∀ l:List Int,(spl l).length=l.count 32+1
 | []=>rfl
 | c::l=>by
  by_cases h:c=32
  ·subst h;rw[spl,if_pos rfl,List.length_cons,tF l,List.count_cons_self]
  ·obtain⟨x,xs,e⟩:=tE l
   rw[qa h,List.count_cons_of_ne h,← tF l,e];rfl
theorem sk{w:List Int}(h:w≠[]):ne w=true:=by unfold ne;rw[ae h];rfl
theorem QJ(t:List Int)(ht:t.length≤4294967290):∀ (d i f:Nat) (acc:List (List Int)),i+d=t.length→f≤i→acc.length≤i→gO t acc (f:Int) (i:Int)=some (acc++(pre ((t.drop f).take (i-f)) (spl (t.drop i))).filter ne,()):=by
 have fin:∀ (acc:List (List Int)) (a:Int) (b:Nat),t.length<b→gO t acc a (b:Int)=some (acc,()):=fun acc a b hb=>by rw[yi,aj (by omega)]
 intro d
 induction d with
 | zero =>
  intro i f acc hi hf ha
  have hw:w64 ((i:Int)+1)=((i+1:Nat):Int):=by rw[aI (by omega) (by omega)];omega
  rw[yi,ak (by omega),aj (by omega),hw,List.drop_eq_nil_of_le (i:=i) (by omega)]
  show _=some (acc++List.filter ne [(t.drop f).take (i-f)++[]],())
  rw[List.append_nil]
  by_cases c:f<i
  ·have hne:(t.drop f).take (i-f)≠[]:=fun e=>by
    have:=congrArg List.length e
    rw[List.length_take,List.length_drop]at this
    simp only[List.length_nil]at this
    omega
   rw[ak (by omega),if_pos (by omega),if_pos (by rw[aR];omega),fin _ _ _ (by omega),List.filter_cons_of_pos (sk hne),af,af]
   rfl
  ·rw[aj (by omega),fin _ _ _ (by omega),show i-f=0 by omega,List.take_zero,List.filter_cons_of_neg (by decide)]
   rw[List.filter_nil,List.append_nil]
 | succ d ih =>
  intro i f acc hi hf ha
  have hi':i<t.length:=by omega
  have hw:w64 ((i:Int)+1)=((i+1:Nat):Int):=aS hi' (by omega)
  rw[yi,ak (by omega),ak (by omega),if_pos (by omega),aW hi',hw,ai hi']
  have hstep:(t.drop f).take (i+1-f)=(t.drop f).take (i-f)++[t[i]]:=by
   rw[show i+1-f=(i-f)+1 by omega,List.take_add_one,List.getElem?_drop,show f+(i-f)=i by omega,List.getElem?_eq_getElem hi'];rfl
  by_cases c:t[i]=32
  ·rw[if_neg (by rw[c];decide),c,spl,if_pos rfl]
   show _=some (acc++List.filter ne (((t.drop f).take (i-f)++[])::spl (t.drop (i+1))),())
   rw[List.append_nil]
   have hrec:∀ acc:List (List Int),acc.length≤i+1→gO t acc ((i+1:Nat):Int) ((i+1:Nat):Int)=some (acc++(spl (t.drop (i+1))).filter ne,()):=fun acc ha=>by
    have:=ih (i+1) (i+1) acc (by omega) (Nat.le_refl _) ha
    rwa [Nat.sub_self,List.take_zero,EB]at this
   by_cases c2:f<i
   ·have hne:(t.drop f).take (i-f)≠[]:=fun e=>by
     have:=congrArg List.length e
     rw[List.length_take,List.length_drop]at this
     simp only[List.length_nil]at this
     omega
    rw[ak (by omega),if_pos (by omega),if_pos (by rw[aR];omega),List.filter_cons_of_pos (sk hne),af,af]
    have:=hrec (acc++[(t.drop f).take (i-f)]) (by simp;omega)
    rw[ah]at this
    exact this
   ·rw[aj (by omega),show i-f=0 by omega,List.take_zero,List.filter_cons_of_neg (by decide)]
    exact hrec acc (by omega)
  ·rw[if_pos (by simp[c]),qa c,Pc,← hstep]
   exact ih (i+1) f acc (by omega) (by omega) (by omega)
theorem QK(t:List Int)(ht:t.length≤4294967290):yh t=some (bP t,()):=by
 rw[Qn]
 have:=QJ t ht t.length 0 0 [] (by omega) (Nat.le_refl _) (Nat.le_refl _)
 rw[List.drop_zero,Nat.sub_zero,List.take_zero,EB,List.nil_append]at this
 exact this
theorem wD:∀ l:List Int,(32∉l∧bh l [32] = -1∧spl l=[l])∨(∃ w r,l=w++32::r∧bh l [32]=(w.length:Int)∧spl l=w::spl r∧l.count 32=r.count 32+1)
 | []=>.inl ⟨by simp,rfl,rfl⟩
 | c::l=>by
  by_cases h:c=32
  ·subst h
   refine .inr ⟨[],l,rfl,?_,?_,?_⟩
   ·unfold bh;rw[if_pos (by simp[List.isPrefixOf])];rfl
   ·rw[spl,if_pos rfl]
   ·rw[List.count_cons_self]
  ·have hp:¬ ([32]:List Int).isPrefixOf (c::l)=true:=by
    rw[List.isPrefixOf_iff_prefix,List.cons_prefix_cons]
    exact fun e=>h e.1.symm
   rcases wD l with ⟨h1,h2,h3⟩ | ⟨w,r,h1,h2,h3,h4⟩
   ·refine .inl ⟨by simp[h1];exact fun e=>h e.symm,?_,?_⟩
    ·unfold bh;rw[if_neg hp,if_pos h2]
    ·rw[qa h,h3];rfl
   ·refine .inr ⟨c::w,r,by rw[h1];rfl,?_,?_,?_⟩
    ·unfold bh;rw[if_neg hp,if_neg (by omega),h2];simp
    ·rw[qa h,h3];rfl
    ·rw[List.count_cons_of_ne h,h4]
theorem Kz(n:Nat)(hn:n≤4294967290):∀ (k:Nat) (s:List Int) (done:List (List Int)),s.count 32=k→s.length≤4294967000→done.length+k+1=n→qk s [32] 0 ((n-1:Nat):Int) (done++List.replicate (k+1) []) (done.length:Int)=some (done++spl s,()):=by
 intro k
 induction k with
 | zero =>
  intro s done hk hs hd
  have hw:w64 ((done.length:Int)+1)=((done.length+1:Nat):Int):=by rw[aI (by omega) (by omega)];omega
  have hset:(done++List.replicate (0+1) ([]:List Int)).set done.length s=done++[s]:=by
   rw[List.set_append_right _ _ (Nat.le_refl _),Nat.sub_self];rfl
  have hsp:spl s=[s]:=by
   rcases wD s with ⟨_,_,h⟩ | ⟨w,r,_,_,_,h⟩
   ·exact h
   ·omega
  rw[Ib,aj (by omega),af,hset,hw,if_pos (by simp;omega),if_pos (by simp;omega),af,List.take_of_length_le (by simp),hsp]
 | succ k ih =>
  intro s done hk hs hd
  have hw:w64 ((done.length:Int)+1)=((done.length+1:Nat):Int):=by rw[aI (by omega) (by omega)];omega
  rcases wD s with ⟨h,_,_⟩ | ⟨w,r,h1,h2,h3,h4⟩
  ·have:=List.count_eq_zero.2 h;omega
  ·have hsl:s.length=w.length+1+r.length:=by rw[h1];simp;omega
   have hw2:w64 ((w.length:Int)+0)=(w.length:Int):=by rw[aI (by omega) (by omega)];omega
   have hw3:w64 ((w.length:Int)+(([32]:List Int).length:Int))=((w.length+1:Nat):Int):=by rw[aI (by simp;omega) (by simp;omega)];simp
   have hset:∀ x:List Int,(done++List.replicate (k+1+1) ([]:List Int)).set done.length x=(done++[x])++List.replicate (k+1) []:=fun x=>by
    rw[List.set_append_right _ _ (Nat.le_refl _),Nat.sub_self,List.replicate_succ,ah];rfl
   have ht:List.take (w.length-0) (List.drop 0 s)=w:=by rw[h1];simp
   have hdr:List.take (s.length-(w.length+1)) (List.drop (w.length+1) s)=r:=by
    rw[h1,show w++32::r=(w++[32])++r by simp,List.drop_left' (by simp)]
    exact List.take_of_length_le (by simp;omega)
   rw[Ib,ak (by omega),zw,if_pos (by omega),aa,h2]
   dsimp only
   rw[aj (by omega),hw2,if_pos (by omega),if_pos (by simp;omega),hw3,if_pos (by omega),af,af,af,hset,ht,hdr,hw]
   have:=ih r (done++[w]) (by omega) (by omega) (by simp;omega)
   rw[ag,List.length_singleton]at this
   rw[this,h3,ah]
   rfl
theorem Sd(t:List Int)(ht:t.length≤4294967000):zx t [32]=some (spl t,()):=by
 have hc:=List.count_le_length (a:=(32:Int)) (l:=t)
 rw[Tu,TB,if_neg (by decide),if_neg (by decide),if_pos (by decide),Tt,if_neg (by simp),if_pos (by simp),if_pos (by simp),SN,aa,aa]
 dsimp only
 have hcv:cP t (List.getD [32] 0 0)=(t.count 32:Nat):=rfl
 have hw:w64 (((t.count 32:Nat):Int)+1)=((t.count 32+1:Nat):Int):=by rw[aI (by omega) (by omega)];omega
 have hw2:w64 ((t.length:Int)+1)=((t.length+1:Nat):Int):=by rw[aI (by omega) (by omega)];omega
 have hmn:mnI ((t.count 32+1:Nat):Int) ((t.length+1:Nat):Int)=((t.count 32+1:Nat):Int):=by unfold mnI;rw[if_neg (by omega)]
 have hw3:w64 (((t.count 32+1:Nat):Int)-1)=((t.count 32+1-1:Nat):Int):=by rw[aI (by omega) (by omega)];omega
 rw[hcv,hw,TA,hw2,hmn,if_pos ⟨by omega,by omega,by rw[aR];omega⟩,hw3,af]
 have:=Kz (t.count 32+1) (by omega) (t.count 32) t [] rfl ht (by simp)
 rw[List.nil_append,List.nil_append]at this
 have h0:qk t [32] 0 ((t.count 32+1-1:Nat):Int) (List.replicate (t.count 32+1) []) 0=some (spl t,()):=this
 rw[h0];rfl
theorem TT{α:Type}(lo hi:Nat)(z:α)(l:List α)(h:lo≤hi)(hl:hi=l.length):(fE lo hi z l).take lo=l.take lo∧(fE lo hi z l).length=l.length:=by
 unfold fE
 have e:List.append (List.append (List.take lo l) (List.replicate (hi-lo) z)) (List.drop hi l)=(l.take lo++List.replicate (hi-lo) z)++l.drop hi:=rfl
 rw[e]
 constructor
 ·rw[ah,List.take_left' (by rw[List.length_take];omega)]
 ·simp;omega
theorem JX(n:Nat)(hn:n≤4294967296):∀ (d j i:Nat) (t:List (List Int)),j+d=n→i<j→t.length=n→qj t (i:Int) (j:Int)=some (t.take i++(t.drop j).filter ne,()):=by
 intro d
 induction d with
 | zero =>
  intro j i t hj hi ht
  obtain⟨z1,z2⟩:=TT i t.length ([]:List Int) t (by omega) rfl
  rw[HL,aj (by omega),if_pos (by omega),af,z2,if_pos (by omega),z1,List.drop_eq_nil_of_le (by omega),List.filter_nil,List.append_nil]
 | succ d ih =>
  intro j i t hj hi ht
  have hj':j<t.length:=by omega
  rw[HL,ak (by omega),if_pos (by omega),aW hj',B3,aa,aS hj' (by omega),aS (show i<t.length by omega) (by omega)]
  dsimp only
  rw[ai hj']
  by_cases c:t[j]=[]
  ·rw[if_neg (by simp[c]),List.filter_cons_of_neg (by rw[c];decide)]
   exact ih (j+1) i t (by omega) (by omega) ht
  ·rw[if_pos (by simp[c]),if_pos (by omega),List.filter_cons_of_pos (sk c),af,ih (j+1) (i+1) _ (by omega) (by omega) (by rw[List.length_set];exact ht)]
   congr 2
   have h1:(t.set i t[j]).take (i+1)=t.take i++[t[j]]:=by
    rw[List.take_add_one,List.take_set_of_le (Nat.le_refl _),List.getElem?_set_self (by omega)];rfl
   rw[h1,List.drop_set_of_lt (by omega),ah];rfl
theorem A8{l:List (List Int)}(h:∀ w∈l,w≠[]):l.filter ne=l:=List.filter_eq_self.2 fun w hw=>sk (h w hw)
theorem vf(t:List (List Int))(ht:t.length≤4294967296):zt t=some (t.filter ne,()):=by
 obtain⟨k,e1,e2,e3,e4,e5⟩:=gF (fun i=>lQ t (t.length:Int) i) () t.length (fun i=>decide (t.getD i []=[]))
  (fun i hi=>by
   show lQ t _ _=_
   rw[HY,ak (by omega),if_pos (by omega),aW hi,B3,aa,bk hi,aS hi (by omega)])
  (by show lQ t _ _=_;rw[HY,if_neg (by simp)])
 have e1':lQ t (t.length:Int) 0=some (k,()):=e1
 rw[Td,Tk,e1',aa]
 dsimp only
 by_cases c:k = -1
 ·rw[ak c,A8]
  intro w hw e
  have:cz (fun i=>decide (t.getD i []=[])) t.length=true:=by
   obtain⟨i,hi,rfl⟩:=List.mem_iff_getElem.1 hw
   exact anyB_iff.2 ⟨i,hi,by rw[bk hi,e];rfl⟩
  rw[← e2,ab]at this
  omega
 ·have hk:0≤k:=by
   rcases Int.lt_or_le k 0 with h | h
   ·exact absurd (e5 h) c
   ·exact h
  obtain⟨f1,f2⟩:=e4 hk
  have hkn:k=((k.toNat:Nat):Int):=by omega
  have hkl:k.toNat<t.length:=by omega
  rw[aj c,hkn,aS hkl (by omega),JX t.length ht (t.length-(k.toNat+1)) (k.toNat+1) k.toNat t (by omega) (by omega) rfl]
  congr 2
  have hs:t=t.take k.toNat++(t[k.toNat]::t.drop (k.toNat+1)):=by rw[← ai hkl,List.take_append_drop]
  have hz:t[k.toNat]=[]:=by have:=f1;rw[bk hkl,ab]at this;exact this
  have hpre:(t.take k.toNat).filter ne=t.take k.toNat:=A8 fun w hw e=>by
   obtain⟨i,hi,rfl⟩:=List.mem_iff_getElem.1 hw
   rw[List.length_take]at hi
   have:=f2 i (by omega)
   rw[List.getElem_take]at e
   rw[bk (by omega),e]at this
   cases this
  rw (occs:=.pos [3]) [hs]
  rw[List.filter_append,List.filter_cons_of_neg (by rw[hz];decide),hpre]
theorem Cw(t:List Int)(ht:t.length≤4294967000):rl t=some (bP t,()):=by
 have hc:=List.count_le_length (a:=(32:Int)) (l:=t)
 have:=tF t
 rw[Ll,Sd t ht,aa]
 dsimp only
 rw[vf _ (by omega)]
 rfl
theorem ou(t:List Int):(bP t).length≤t.length+1:=by
 have hc:=List.count_le_length (a:=(32:Int)) (l:=t)
 have:=tF t
 have:=List.length_filter_le ne (spl t)
 unfold bP
 omega
theorem GX:∀ (l:List Int) (P:Int→Prop),(∀ x∈l,P x)→∀ w∈spl l,(∀ x∈w,P x)∧w.length≤l.length
 | [],P,h,w,hw=>by rw[List.mem_singleton.1 hw];exact⟨fun x hx=>(by cases hx),Nat.le_refl _⟩
 | c::l,P,h,w,hw=>by
  have ih:=GX l P fun x hx=>h x (List.mem_cons_of_mem _ hx)
  by_cases hc:c=32
  ·rw[spl,if_pos hc]at hw
   rcases List.mem_cons.1 hw with rfl | hw
   ·exact⟨fun x hx=>(by cases hx),Nat.zero_le _⟩
   ·exact⟨(ih w hw).1,by have:=(ih w hw).2;rw[List.length_cons];omega⟩
  ·obtain⟨x,xs,e⟩:=tE l
   rw[qa hc,e]at hw
   rcases List.mem_cons.1 (show w∈([c]++x)::xs from hw)with rfl | hw
   ·obtain⟨g1,g2⟩:=ih x (by rw[e];exact List.mem_cons_self ..)
    refine⟨fun y hy=>?_,by simp;omega⟩
    rcases List.mem_cons.1 (show y∈c::x from hy)with rfl | hy
    ·exact h _ (List.mem_cons_self ..)
    ·exact g1 y hy
   ·obtain⟨g1,g2⟩:=ih w (by rw[e];exact List.mem_cons_of_mem _ hw)
    exact⟨g1,by rw[List.length_cons];omega⟩
theorem A3{l:List Int}{P:Int→Prop}(h:∀ x∈l,P x){w:List Int}(hw:w∈bP l):(∀ x∈w,P x)∧w.length≤l.length:=GX l P h w (List.mem_filter.1 hw).1
def VG(v:au):Prop:=cC v=true∧Bt v.S
theorem VG.bd{v:au}(h:VG v):Dc v.N∧v.S.length≤300:=by
 have h1:=h.1
 unfold cC at h1
 rw[Bool.and_eq_true,Bool.and_eq_true,ab,Bool.not_eq_true',decide_eq_false_iff_not]at h1
 exact⟨h1.1.1,by have:=h1.1.2;omega⟩
theorem VG.drawn{v:au}(h:VG v):qB v:=⟨by have:=h.bd.2;omega,h.2⟩
theorem fL{n:Int}(h:Dc n):VG ⟨1,n,[]⟩:=by
 refine⟨?_,fun x hx=>by cases hx⟩
 unfold cC
 unfold Dc at h
 simp[h]
theorem nX{s:List Int}(h:s.length≤300)(hb:Bt s):VG ⟨2,0,s⟩:=by
 refine⟨?_,hb⟩
 unfold cC
 simp;omega
theorem qC:VG ⟨0,0,[]⟩:=by
 refine⟨?_,fun x hx=>by cases hx⟩
 unfold cC
 simp
noncomputable def bq(v:au):Int:=match ew v with
 | some (n,_)=>n
 | none=>0
theorem b7{v:au}(h:VG v):ew v=some (bq v,())∧dg v=some (bq v,())∧Dc (bq v):=by
 have key:∃ n,ew v=some (n,())∧dg v=some (n,())∧Dc n:=by
  obtain⟨hn,hs⟩:=h.bd
  obtain⟨x,e,k1,k2,_,k3⟩:=u9 v.S (by omega) h.2
  rw[Cm,FJ]
  have key:∀ b:Bool,∃ n,oG v.Kind b v=some (n,())∧pE v.Kind b v=some (n,())∧Dc n:=fun b=>by
   rw[Cl,FI,k1,k2]
   cases b with
   | true=>exact⟨_,rfl,rfl,hn⟩
   | false =>
    by_cases h2:v.Kind=2
    ·rw[if_neg (by decide),ak h2];exact⟨_,rfl,rfl,k3⟩
    ·rw[if_neg (by decide),aj h2];exact⟨_,rfl,rfl,by unfold Dc;omega⟩
  by_cases h1:v.Kind=1
  ·rw[ak h1,ak h1];exact key _
  ·rw[aj h1,aj h1];exact key _
 obtain⟨n,e1,e2,e3⟩:=key
 have:bq v=n:=by unfold bq;rw[e1]
 rw[this]
 exact⟨e1,e2,e3⟩
theorem AL(n:Nat):Bt (cQ n):=fun x hx=>by have:=(AM n).1 x hx;omega
theorem Sv(c:Int)(l:List Int):∀ x∈dz c l,x∈l:=fun x hx=>by
 unfold dz at hx
 rw[List.mem_reverse]at hx
 have:=(List.dropWhile_sublist _).subset hx
 rwa [List.mem_reverse]at this
theorem JT(n:Int):Bt (g9 n):=by
 intro x hx
 unfold g9 at hx
 split at hx
 ·rcases List.mem_append.1 hx with hx | hx
  ·split at hx
   ·rw[List.mem_singleton.1 hx];omega
   ·cases hx
  ·unfold kG at hx
   rcases List.mem_append.1 hx with hx | hx
   ·exact AL _ x hx
   ·unfold mb at hx
    split at hx
    ·rcases List.mem_cons.1 hx with rfl | hx
     ·omega
     ·exact AL _ x (List.mem_of_mem_drop (Sv _ _ x hx))
    ·cases hx
 ·cases hx
theorem dy{v:au}(h:VG v):(a7 v).length≤300∧Bt (a7 v):=by
 unfold a7
 split
 ·have:=JU v.N;exact⟨by omega,JT _⟩
 ·exact⟨h.bd.2,h.2⟩
def kd(v:au):Bool:=if v.Kind=1∨v.Kind=3 then !decide (v.N=0)else if v.Kind=2 then !decide (v.S=[])else false
theorem nG(v:au):oH v=some (kd v,())∧pG v=some (kd v,()):=by
 rw[LG,QE]
 simp only[LF,QD]
 unfold kd
 by_cases c1:v.Kind=1
 ·simp[c1]
 by_cases c3:v.Kind=3
 ·simp[c3]
 by_cases c2:v.Kind=2
 ·simp[c2]
 simp[c1,c2,c3]
noncomputable def ep(a b:au):Int:=match me a b with
 | some (n,_)=>n
 | none=>0
theorem Az{a b:au}(ha:VG a)(hb:VG b):me a b=some (ep a b,())∧sK a b=some (ep a b,()):=by
 obtain⟨c,e1,e2,_⟩:=JK ha.drawn hb.drawn
 have:ep a b=c:=by unfold ep;rw[e1]
 rw[this];exact⟨e1,e2⟩
noncomputable def jY(s:List Int):au:=match ju s with
 | some (v,_)=>v
 | none=>aG
theorem mX{s:List Int}(hs:s.length≤9223372036854775807)(hb:Bt s):ju s=some (jY s,())∧j4 s=some (jY s,())∧VG (jY s):=by
 obtain⟨v,e1,e2,e3,e4,e5⟩:=Pv s hs hb
 have:jY s=v:=by unfold jY;rw[e2]
 rw[this]
 rw[vY v e5]at e3
 exact⟨e2,e1,congrArg Prod.fst (Option.some.inj e3),e5⟩
def dM(v:au):List Int:=(a7 v).take 300
theorem Di(v:au):(dM v).length≤300:=by unfold dM;rw[List.length_take];omega
theorem gG{v:au}(h:VG v):jy (a7 v)=some (dM v,())∧nq v=some (dM v,()):=by
 have hl:=(dy h).1
 refine⟨u7 _ (by omega),?_⟩
 rw[QW,eg,aa]
 dsimp only
 unfold dM
 rw[aj (by omega),List.take_of_length_le hl]
theorem Hd{n:Int}(h:Dc n):-9000000≤Int.tdiv n 1000000∧Int.tdiv n 1000000≤9000000:=by
 unfold Dc at h
 rcases Int.lt_or_le n 0 with c | c
 ·have e:Int.tdiv n 1000000 = -(Int.tdiv (-n) 1000000):=by rw[Int.neg_tdiv,Int.neg_neg]
  rw[e,Int.tdiv_eq_ediv_of_nonneg (by omega)];omega
 ·rw[Int.tdiv_eq_ediv_of_nonneg c];omega
theorem Su{n:Int}(h:Dc n):-1000000<Int.tmod n 1000000∧Int.tmod n 1000000<1000000:=by
 have h1:=Int.tmod_lt_of_pos n (show(0:Int)<1000000 by decide)
 have h2:-1000000<Int.tmod n 1000000:=by
  have h3:=Int.tmod_lt_of_pos (-n) (show(0:Int)<1000000 by decide)
  rw[Int.neg_tmod]at h3
  omega
 exact⟨h2,h1⟩
theorem qP{n:Int}(h:Dc n):rg n=some (Int.tdiv n 1000000*1000000,())∧yd n=some (Int.tdiv n 1000000*1000000,())∧Dc (Int.tdiv n 1000000*1000000):=by
 have hb:=Hd h
 have hm:=Su h
 have hd:1000000*Int.tdiv n 1000000+Int.tmod n 1000000=n:=Int.mul_tdiv_add_tmod n 1000000
 have hsame:0≤n→0≤Int.tmod n 1000000:=fun h0=>Int.tmod_nonneg _ h0
 have hneg:n≤0→Int.tmod n 1000000≤0:=fun h0=>by
  have:Int.tmod n 1000000 = -(Int.tmod (-n) 1000000):=by rw[Int.neg_tmod,Int.neg_neg]
  rw[this]
  have:=Int.tmod_nonneg (a:=-n) 1000000 (by omega)
  omega
 unfold Dc at h ⊢
 rw[Lg,Qf,aI (n:=Int.tdiv n 1000000) (by omega) (by omega),aI (n:=Int.tdiv n 1000000*1000000) (by omega) (by omega),show n-Int.tmod n 1000000=Int.tdiv n 1000000*1000000 by omega,aI (by omega) (by omega)]
 exact⟨rfl,rfl,by omega⟩
noncomputable def b8(v:au):Int:=Int.tdiv (bq v) 1000000
theorem nH{v:au}(h:VG v):oZ v=some (b8 v,())∧w64 (Int.tdiv (bq v) 1000000)=b8 v∧(-9000000≤b8 v∧b8 v≤9000000):=by
 obtain⟨e1,e2,e3⟩:=b7 h
 have hb:=Hd e3
 have e4:=(qP e3).1
 unfold b8
 refine⟨?_,aI (by omega) (by omega),hb⟩
 rw[MT,e1,aa]
 dsimp only
 rw[e4,aa]
 dsimp only
 rw[Int.mul_tdiv_cancel _ (by decide),aI (by omega) (by omega)]
noncomputable def ot(line:List Int)(n:Int):au :=
 if n=0 then jY line else if 1≤n∧n≤((bP line).length:Int)then jY ((bP line).getD (n-1).toNat [])else jY []
theorem A2{line:List Int}(hl:line.length≤4294967000)(hb:Bt line)(n:Int):wa line n=some (ot line n,())∧VG (ot line n):=by
 have hf:=ou line
 obtain⟨r1,_,r3⟩:=mX (s:=line) (by omega) hb
 obtain⟨z1,_,z3⟩:=mX (s:=[]) (by simp) (fun x hx=>by cases hx)
 rw[LV]
 unfold ot
 by_cases c:n=0
 ·rw[ak c,if_pos c,r1];exact⟨rfl,r3⟩
 ·rw[aj c,if_neg c,Cw line hl,aa,d4,aa]
  dsimp only
  by_cases d:1≤n∧n≤((bP line).length:Int)
  ·have hi:(n-1).toNat<(bP line).length:=by omega
   obtain⟨g1,g2⟩:=A3 (P:=fun x=>0≤x∧x≤255) hb (List.getElem_mem hi)
   obtain⟨q1,_,q3⟩:=mX (s:=(bP line)[(n-1).toNat]) (by omega) g1
   rw[ak d,if_pos d,aI (by omega) (by omega),if_pos (by omega),bk hi,q1]
   exact⟨rfl,q3⟩
  ·rw[aj d,if_neg d,z1];exact⟨rfl,z3⟩
end Go.Proofs.YtijfhaljjmhibaaGreatDoor.E.TV
