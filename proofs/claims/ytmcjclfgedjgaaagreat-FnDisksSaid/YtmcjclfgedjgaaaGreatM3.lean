/- What the pure statement needs (3). No condition. -/
import Derived.Test.YtmcjclfgedjgaaaGreatM1
import Derived.Test.YtmcjclfgedjgaaaGreatTDe1
import Derived.Test.YtmcjclfgedjgaaaGreatTDe2
import Derived.Test.YtmcjclfgedjgaaaGreatTDe3
import Derived.Test.YtmcjclfgedjgaaaGreatM2
import Derived.KernelRfl
namespace Go.Proofs.YtmcjclfgedjgaaaGreat.E.TD
open Go.Proofs.YtmcjclfgedjgaaaGreat.E
set_option linter.unusedVariables false
theorem BA(a b c:Int):rT a b c=some (decide (b≤a∧a≤c),()):=by
 rw[Bz]
 by_cases h:a≥b
 ·rw[bm (by simp[h])];simp[show b≤a from h]
 ·rw[bn (by simp[h])];simp[show ¬ b≤a from h]
def isD(x:Int):Bool:=decide (48≤x)&&decide (x≤57)
def AllD(l:List Int):Prop:=∀ x∈l,48≤x∧x≤57
theorem AllD.tail{c:Int}{l:List Int}(h:AllD (c::l)):AllD l:=fun x hx=>h x (aF _ hx)
theorem AllD.head{c:Int}{l:List Int}(h:AllD (c::l)):48≤c∧c≤57:=h c (aE ..)
def dv(a:Int)(l:List Int):Int:=l.foldl (fun n c=>10*n+(c-48)) a
theorem jX(a c:Int)(l:List Int):dv a (c::l)=dv (10*a+(c-48)) l:=rfl
theorem AP(a:Int)(l m:List Int):dv a (l++m)=dv (dv a l) m:=List.foldl_append ..
theorem o9:∀ (l:List Int) (a:Int),dv a l=a*10 ^ l.length+dv 0 l
 | [],a=>by simp[dv]
 | c::l,a=>by
  rw[jX,jX,o9 l (10*a+(c-48)),o9 l (10*0+(c-48)),aS,Int.pow_succ,Int.add_mul,Int.mul_zero,Int.zero_add,← Int.add_assoc]
  congr 2
  rw[Int.mul_comm 10 a,Int.mul_assoc,Int.mul_comm 10]
theorem vL:∀ (l:List Int) (a:Int),AllD l→0≤a→0≤dv a l
 | [],a,_,h=>h
 | c::l,a,hd,h=>vL l (10*a+(c-48)) hd.tail (by have:=hd.head;omega)
theorem vK:∀ (l:List Int),AllD l→dv 0 l<10 ^ l.length
 | [],_=>by simp[dv]
 | c::l,hd=>by
  have h1:=vK l hd.tail
  have h2:=hd.head
  rw[jX,o9,aS,Int.pow_succ]
  have:(10*0+(c-48))*10 ^ l.length≤9*10 ^ l.length:=Int.mul_le_mul_of_nonneg_right (by omega) (Int.le_of_lt (Int.pow_pos (by omega)))
  omega
def fr:List Int→Int→Int
 | [],_=>0
 | c::l,u=>(c-48)*u+fr l (u/10)
theorem vM:∀ k:Nat,dv 0 (List.replicate k 48)=0
 | 0=>rfl
 | k+1=>by rw[List.replicate_succ,jX];exact vM k
def Bt(b:List Int):Prop:=∀ x∈b,0≤x∧x≤255
theorem sd(x:Int):s_l2Digit x=some (isD x,()):=by
 rw[Ja]
 unfold isD
 by_cases h:x≥48
 ·rw[ak h,show decide (48≤x)=true from ac h,Bool.true_and]
 ·rw[aj h,show decide (48≤x)=false from ae h,Bool.false_and]
def fin(p:Int)(b:Bool)(n m:Int):Option (Int×Int×Unit):=if m=0 then some (0,0,())else if n>9000000000000 then some (0,0,())else some (if b=true then 0-n else n,p,())
set_option linter.defProp false
def bj:=@List.length_singleton
def dI(n:Nat):List Int:=(Lib.decDigits n).map fun b=>(b.toNat:Int)
theorem o8{n:Nat}(h:n<10):dI n=[48+(n:Int)]:=by
 unfold dI
 rw[Lib.decDigits,dif_pos h]
 have:(UInt8.ofNat (48+n)).toNat=48+n:=by rw[UInt8.toNat_ofNat'];omega
 simp only[bc,List.map_nil,this]
 congr 1
theorem rF{n:Nat}(h:¬ n<10):dI n=dI (n/10)++[48+((n%10:Nat):Int)]:=by
 unfold dI
 rw[Lib.decDigits,dif_neg h]
 have:(UInt8.ofNat (48+n%10)).toNat=48+n%10:=by rw[UInt8.toNat_ofNat'];omega
 simp only[List.map_append,bc,List.map_nil,this]
 congr 2
theorem AllD.app{l m:List Int}(h:AllD l)(g:AllD m):AllD (l++m):=fun x hx=>(aB.1 hx).elim (h x) (g x)
theorem vH(n:Nat):AllD (dI n)∧dv 0 (dI n)=n∧dI n≠[]∧(0<n→∃ c r,dI n=c::r∧49≤c):=by
 induction n using Nat.strongRecOn with
 | ind n ih =>
  by_cases h:n<10
  ·rw[o8 h]
   refine⟨fun x hx=>?_,?_,by simp,fun h0=>⟨_,_,rfl,by omega⟩⟩
   ·rw[aK.1 hx];omega
   ·simp only[dv,List.foldl_cons,List.foldl_nil];omega
  ·obtain⟨h1,h2,h3,h4⟩:=ih (n/10) (by omega)
   rw[rF h]
   refine⟨h1.app fun x hx=>?_,?_,by simp,fun _=>?_⟩
   ·rw[aK.1 hx];omega
   ·rw[AP,h2];simp only[dv,List.foldl_cons,List.foldl_nil];omega
   ·obtain⟨c,r,e,hc⟩:=h4 (by omega)
    rw[e]
    exact⟨c,r++_,rfl,hc⟩
theorem rG{n k:Nat}(h:n<10 ^ k)(hk:0<k):(dI n).length≤k:=by
 induction k generalizing n with
 | zero=>omega
 | succ k ih =>
  by_cases h9:n<10
  ·rw[o8 h9];simp
  ·rw[rF h9,ag,bj]
   have hk0:0<k:=by
    rcases Nat.eq_zero_or_pos k with h0 | h0
    ·subst h0;omega
    ·exact h0
   have:=ih (n:=n/10) (by rw[Nat.pow_succ]at h;omega) hk0
   omega
theorem vG{r:Nat}(h:r<1000000):∃ l,dI (1000000+r)=49::l∧l.length=6∧AllD l∧dv 0 l=r:=by
 obtain⟨h1,h2,h3,h4⟩:=vH (1000000+r)
 obtain⟨c,l,e,hc⟩:=h4 (by omega)
 have hlen:=rG (n:=1000000+r) (k:=7) (by omega) (by omega)
 rw[e]at h1 h2 hlen
 have hl:=vK l h1.tail
 have hn:=vL l 0 h1.tail (Int.le_refl 0)
 have hc9:=h1.head
 rw[jX,o9]at h2
 simp only[aS]at hlen
 have h6:l.length=6:=by
  by_cases h6:l.length=6
  ·exact h6
  ·exfalso
   have h5:(10:Int) ^ l.length≤10 ^ 5:=by
    have:(10:Nat) ^ l.length≤10 ^ 5:=Nat.pow_le_pow_right (by omega) (by omega)
    exact_mod_cast this
   have:(10*0+(c-48))*10 ^ l.length≤9*10 ^ 5:=Int.mul_le_mul (by omega) h5 (Int.le_of_lt (Int.pow_pos (by omega))) (by omega)
   omega
 rw[h6]at h2 hl
 have hc1:c=49:=by omega
 subst hc1
 exact⟨l,e,h6,h1.tail,by omega⟩
theorem BR(n:Nat):∀ acc:List Int,acc.length+n≤9223372036854775807→qy (n:Int) acc=some ((if n=0 then []else dI n)++acc,()):=by
 induction n using Nat.strongRecOn with
 | ind n ih =>
  intro acc hb
  rw[Jb]
  by_cases h0:n=0
  ·rw[aq,bm h0];rfl
  ·have e1:Int.tdiv (n:Int) 10=((n/10:Nat):Int):=rfl
   have e2:Int.tmod (n:Int) 10=((n%10:Nat):Int):=rfl
   have e3:w8 (w64 (48+((n%10:Nat):Int)))=48+((n%10:Nat):Int):=by rw[ar,zk (by omega) (by omega)]
   rw[ap,e1,e2,e3,bm (by rw[bj];omega),ar,bn h0,ih (n/10) (by omega) _ (by rw[ag,bj];omega)]
   by_cases h9:n<10
   ·rw[al,o8 h9,Nat.mod_eq_of_lt h9];rfl
   ·rw[am,rF h9,ah]
theorem wB(n:Nat)(h:n≤9223372036854775807):qx (n:Int)=some (dI n,()):=by
 rw[Jc]
 by_cases h0:n=0
 ·subst h0
  rw[ap,o8 (by omega)];rfl
 ·rw[aq,BR n [] (by simpa using h),bn h0,aI]
def eb(c:Int)(l:List Int):List Int:=(l.reverse.dropWhile (fun x=>decide (x=c))).reverse
theorem zd(c:Int)(l:List Int):eb c (l++[c])=eb c l:=by
 unfold eb
 rw[List.reverse_append,List.reverse_singleton,List.singleton_append,List.dropWhile_cons_of_pos (by simp)]
theorem zc{c x:Int}(h:x≠c)(l:List Int):eb c (l++[x])=l++[x]:=by
 unfold eb
 rw[List.reverse_append,List.reverse_singleton,List.singleton_append,List.dropWhile_cons_of_neg (by simpa using h),List.reverse_cons,List.reverse_reverse]
theorem ul{l:List Int}{n:Nat}(h:l.length=n+1):l=l.take (l.length-1)++[l[l.length-1]]:=by
 have h1:=List.take_append_drop (l.length-1) l
 have h2:l.drop (l.length-1)=[l[l.length-1]]:=by
  rw[ai (by omega),aX (by omega)]
 rw[h2]at h1
 exact h1.symm
theorem za(c:Int):∀ (n:Nat) (l:List Int),l.length=n→∃ k,l=eb c l++List.replicate k c∧((∃ x∈l,x≠c)→eb c l≠[])
 | 0,l,h=>by
  have:l=[]:=List.eq_nil_of_length_eq_zero h
  subst this
  exact⟨0,rfl,fun⟨x,hx,_⟩=>by cases hx⟩
 | n+1,l,h=>by
  have hs:=ul h
  generalize hA:l.take (l.length-1)=A at hs
  generalize l[l.length-1]=x at hs
  have hAl:A.length=n:=by rw[← hA,aQ];omega
  subst hs
  by_cases hx:x=c
  ·subst hx
   obtain⟨k,e,g⟩:=za x n A hAl
   rw[zd]
   refine⟨k+1,?_,fun⟨y,hy,hne⟩=>g ⟨y,?_,hne⟩⟩
   ·rw[List.replicate_succ',← ah,← e]
   ·rcases aB.1 hy with hy | hy
    ·exact hy
    ·exact absurd (aK.1 hy) hne
  ·rw[zc hx]
   exact⟨0,by simp,fun _=>by simp⟩
theorem zb(c:Int)(l:List Int):(eb c l).length≤l.length:=by
 obtain⟨k,e,_⟩:=za c l.length l rfl
 have:=congrArg List.length e
 rw[ag]at this
 omega
theorem yF(t0:Int)(t4:List Int)(h4:t4.length≤1000):∀ (n:Nat) (l:List Int),l.length=n→l.length≤1000→(∃ x∈l,x≠48)→pR t0 t4 l=kF t0 (t4++[46]++eb 48 l)
 | 0,l,hl,_,⟨x,hx,_⟩=>by
  have:l=[]:=List.eq_nil_of_length_eq_zero hl
  subst this
  cases hx
 | n+1,l,hl,h,hne=>by
  rw[Hl,ar,al,show((l.length:Int)-1).toNat=l.length-1 by omega,dQ (by omega)]
  have hs:=ul hl
  have e:List.take (l.length-1-0) (List.drop 0 l)=l.take (l.length-1):=rfl
  by_cases hx:l[l.length-1]=48
  ·rw[ak hx,al,e]
   rw[hx]at hs
   obtain⟨x,hx1,hx2⟩:=hne
   have hx3:x∈l.take (l.length-1):=by
    rw[hs]at hx1
    rcases aB.1 hx1 with h1 | h1
    ·exact h1
    ·exact absurd (aK.1 h1) hx2
   rw[yF t0 t4 h4 n _ (by rw[aQ];omega) (by rw[aQ];omega) ⟨x,hx3,hx2⟩]
   have:eb 48 l=eb 48 (l.take (l.length-1)):=by
    generalize l.take (l.length-1)=A at *
    rw[hs];exact zd 48 A
   rw[this]
  ·rw[aj hx,bm (by simp only[bj];omega),bm (by rw[ag];simp only[bj];omega)]
   have:eb 48 l=l:=by
    generalize hA:l.take (l.length-1)=A at hs
    generalize l[l.length-1]=x at hs hx
    rw[hs];exact zc hx _
   rw[this]
def j5(r:Nat):List Int:=if 0<r then 46::eb 48 ((dI (1000000+r)).drop 1)else []
def jW(n:Nat):List Int:=dI (n/1000000)++j5 (n%1000000)
def ib(n:Int):List Int:=if -9000000000000≤n∧n≤9000000000000 then(if n<0 then [45]else [])++jW n.natAbs else []
theorem Bg{r:Nat}(h:r<1000000):(j5 r).length≤7:=by
 unfold j5
 obtain⟨l,e,h6,_⟩:=vG h
 split
 ·rw[e,List.drop_one,List.tail_cons,aS]
  have:=zb 48 l
  omega
 ·simp
theorem AF{n:Nat}(h:n≤9000000000000):(jW n).length≤14:=by
 unfold jW
 have h1:=rG (n:=n/1000000) (k:=7) (by omega) (by omega)
 have h2:=Bg (r:=n%1000000) (by omega)
 rw[ag];omega
theorem AH(n:Int):(ib n).length≤15:=by
 unfold ib
 split
 ·rename_i h
  have:=AF (n:=n.natAbs) (by omega)
  rw[ag]
  split
  ·simp only[bj];omega
  ·simp only[List.length_nil];omega
 ·simp
theorem xX(n:Int)(t:List Int)(h:t.length≤1000):kF n t=some ((if n<0 then [45]else [])++t,()):=by
 rw[Hm]
 by_cases h0:n<0
 ·rw[ak h0,bm h0,bm (by rw[bj];omega)]
 ·rw[aj h0,bn h0];rfl
theorem xW(n:Int):s_DecOk n=some (decide (-9000000000000≤n∧n≤9000000000000),()):=by
 rw[Hj,yy]
 by_cases h:n ≥ -9000000000000
 ·rw[ak h]
  simp[show -9000000000000≤n from h]
 ·rw[aj h]
  simp[show ¬ -9000000000000≤n from h]
theorem Ho(n:Int):s7 n=some (ib n,()):=by
 rw[Hn,xW,aa]
 dsimp only
 unfold ib
 by_cases h:-9000000000000≤n∧n≤9000000000000
 ·rw[ac h,bn (by decide),bm h]
  have ea:jt n=some (((n.natAbs:Nat):Int),()):=by
   rw[yx]
   by_cases h0:n<0
   ·rw[ak h0,ar,show(0:Int)-n=((n.natAbs:Nat):Int) by omega]
   ·rw[aj h0,show((n.natAbs:Nat):Int)=n by omega]
  rw[ea,aa]
  dsimp only
  generalize hm:n.natAbs=m
  have e1:Int.tdiv (m:Int) 1000000=((m/1000000:Nat):Int):=rfl
  have e2:Int.tmod (m:Int) 1000000=((m%1000000:Nat):Int):=rfl
  have h1:=rG (n:=m/1000000) (k:=7) (by omega) (by omega)
  rw[e1,e2,ar,wB _ (by omega),aa]
  dsimp only
  unfold jW j5
  by_cases h0:0<m%1000000
  ·have e3:w64 (1000000+((m%1000000:Nat):Int))=((1000000+m%1000000:Nat):Int):=by rw[ar];omega
   obtain⟨l,e,h6,hd,hv⟩:=vG (r:=m%1000000) (by omega)
   have e4:List.take ((49::l).length-1) (List.drop 1 (49::l))=l:=by simp
   have h7:=zb 48 l
   have hne:∃ x∈l,x≠48:=by
    by_cases hh:∃ x∈l,x≠48
    ·exact hh
    ·exfalso
     have hall:∀ x∈l,x=48:=fun x hx=>by
      by_cases hx48:x=48
      ·exact hx48
      ·exact absurd ⟨x,hx,hx48⟩ hh
     rw[List.eq_replicate_of_mem hall,vM]at hv
     omega
   rw[ap,e3,wB _ (by omega),aa,bm h0]
   dsimp only
   rw[e,e4,bm (by rw[aS];omega),yF n _ (by omega) _ l rfl (by omega) hne,xX _ _ (by simp only[ag,bj];omega),List.drop_one,List.tail_cons,ah (dI _)]
   rfl
  ·rw[aq,bn h0,aI,xX _ _ (by omega)]
 ·rw[ae h,bm (by decide),bn h]
def zD(v:bH):Prop:=v.S.length≤100000∧Bt v.S
def qI(v:bH):List Int:=if v.Kind=1 then ib v.N else v.S
theorem HS(v:bH):dA v=some (qI v,()):=by
 rw[HR]
 unfold qI
 by_cases h:v.Kind=1
 ·rw[ak h,bm h,Ho];rfl
 ·rw[aj h,bn h]
theorem u6(b:Bool):s_l1Bit b=some (if b=true then 1 else 0,()):=by rw[I1];cases b <;> rfl
end Go.Proofs.YtmcjclfgedjgaaaGreat.E.TD
namespace Go.Proofs.YtmcjclfgedjgaaaGreat.E
set_option linter.unusedVariables false
set_option linter.defProp false
def aW:=@List.getElem_mem
def gm(p:Nat→Bool)(n:Nat):Bool:=(List.range n).any p
theorem anyB_iff{p:Nat→Bool}{n:Nat}:gm p n=true ↔ ∃ i,i<n∧p i=true:=by
 unfold gm
 rw[List.any_eq_true]
 constructor
 ·rintro ⟨i,h,e⟩;exact⟨i,List.mem_range.1 h,e⟩
 ·rintro ⟨i,h,e⟩;exact⟨i,List.mem_range.2 h,e⟩
theorem anyB_false{p:Nat→Bool}{n:Nat}:gm p n=false ↔ ∀ i,i<n→p i=false:=by
 rw[← aU,anyB_iff]
 constructor
 ·intro h i hi
  cases e:p i with
  | false=>rfl
  | true=>exact absurd ⟨i,hi,e⟩ h
 ·rintro h ⟨i,hi,e⟩
  rw[h i hi]at e;cases e
theorem A6{ρ:Type}(F:Int→Option ρ)(n:Nat)(p:Nat→Bool)(x y:Option ρ)
  (step:∀ i:Nat,i<n→F i=if p i=true then x else F ((i+1:Nat):Int)) (stop:F (n:Int)=y):F 0=if gm p n=true then x else y:=by
 have key:∀ (d i:Nat),i+d=n→(∀ j,j<i→p j=false)→F (i:Int)=if gm p n=true then x else y:=by
  intro d
  induction d with
  | zero =>
   intro i hd hj
   have hi:i=n:=by omega
   subst hi
   rw[stop,anyB_false.2 hj];rfl
  | succ d ih =>
   intro i hd hj
   rw[step i (by omega)]
   cases e:p i with
   | true=>rw[bm rfl,anyB_iff.2 ⟨i,by omega,e⟩,bm rfl]
   | false =>
    rw[bn (by simp)]
    refine ih (i+1) (by omega) fun j h=>?_
    by_cases h':j=i
    ·subst h';exact e
    ·exact hj j (by omega)
 exact key n 0 (by omega) (fun j h=>absurd h (by omega))
theorem BD{σ:Type}(F:Int→Option (Int×σ))(s:σ)(n:Nat)(p:Nat→Bool)
  (step:∀ i:Nat,i<n→F i=if p i=true then some ((i:Int),s)else F ((i+1:Nat):Int)) (stop:F (n:Int)=some (-1,s)) :
  ∃ k:Int,F 0=some (k,s)∧decide (k≥0)=gm p n∧k<n∧(0≤k→p k.toNat=true∧∀ j:Nat,(j:Int)<k→p j=false)∧(k<0→k = -1):=by
 have key:∀ (d i:Nat),i+d=n→(∀ j,j<i→p j=false)→∃ k:Int,F (i:Int)=some (k,s)∧decide (k≥0)=gm p n∧k<n∧(0≤k→p k.toNat=true∧∀ j:Nat,(j:Int)<k→p j=false)∧(k<0→k = -1):=by
  intro d
  induction d with
  | zero =>
   intro i hd hj
   have hi:i=n:=by omega
   subst hi
   exact⟨-1,stop,by rw[anyB_false.2 hj];rfl,by omega,fun h=>by omega,fun _=>rfl⟩
  | succ d ih =>
   intro i hd hj
   rw[step i (by omega)]
   cases e:p i with
   | true=>rw[bm rfl];exact⟨i,rfl,by rw[anyB_iff.2 ⟨i,by omega,e⟩];exact ac (by omega),by omega,fun _=>⟨by rw[af];exact e,fun j h=>hj j (by omega)⟩,fun h=>by omega⟩
   | false =>
    rw[bn (by simp)]
    refine ih (i+1) (by omega) fun j h=>?_
    by_cases h':j=i
    ·subst h';exact e
    ·exact hj j (by omega)
 exact key n 0 (by omega) (fun j h=>absurd h (by omega))
theorem uM{α:Type}(l:List α)(z:α)(p:α→Bool):gm (fun i=>p (l.getD i z)) l.length=l.any p:=by
 cases h:l.any p with
 | true =>
  obtain⟨x,hx,e⟩:=List.any_eq_true.1 h
  obtain⟨i,hi,rfl⟩:=bk.1 hx
  exact anyB_iff.2 ⟨i,hi,by rw[dQ hi];exact e⟩
 | false =>
  rw[anyB_false]
  intro i hi
  rw[dQ hi]
  cases e:p l[i] with
  | false=>rfl
  | true =>
   have:l.any p=true:=List.any_eq_true.2 ⟨l[i],aW hi,e⟩
   rw[h]at this;cases this
end Go.Proofs.YtmcjclfgedjgaaaGreat.E
namespace Go.Proofs.YtmcjclfgedjgaaaGreat.E.TD
open Go.Proofs.YtmcjclfgedjgaaaGreat.E
set_option linter.unusedVariables false
def spl:List Int→List (List Int)
 | []=>[[]]
 | c::l=>if c=32 then []::spl l else((c::(spl l).getD 0 [])::(spl l).drop 1)
def pre(w:List Int):List (List Int)→List (List Int)
 | []=>[w]
 | x::xs=>(w++x)::xs
def ne(w:List Int):Bool:=!decide (w=[])
def j0(l:List Int):List (List Int):=(spl l).filter ne
theorem qF(l:List Int):∃ x xs,spl l=x::xs:=by
 cases l with
 | nil=>exact⟨_,_,rfl⟩
 | cons c l=>rw[spl];split <;> exact⟨_,_,rfl⟩
theorem uo{c:Int}(h:c≠32)(l:List Int):spl (c::l)=pre [c] (spl l):=by
 obtain⟨x,xs,e⟩:=qF l
 rw[spl,bn h,e];rfl
theorem Gg(a b:List Int)(l:List (List Int)):pre a (pre b l)=pre (a++b) l:=by
 cases l with
 | nil=>rfl
 | cons x xs=>show(a++(b++x))::xs=_;rw[← ah];rfl
theorem xm(l:List Int):pre [] (spl l)=spl l:=by
 obtain⟨x,xs,e⟩:=qF l
 rw[e];rfl
theorem um:∀ l:List Int,(spl l).length=l.count 32+1
 | []=>rfl
 | c::l=>by
  by_cases h:c=32
  ·subst h;rw[spl,bm rfl,aS,um l,List.count_cons_self]
  ·obtain⟨x,xs,e⟩:=qF l
   rw[uo h,List.count_cons_of_ne h,← um l,e];rfl
theorem wR{w:List Int}(h:w≠[]):ne w=true:=by unfold ne;rw[ae h];rfl
theorem HY(t:List Int)(ht:t.length≤4294967290):∀ (d i f:Nat) (acc:List (List Int)),i+d=t.length→f≤i→acc.length≤i→fC t acc (f:Int) (i:Int)=some (acc++(pre ((t.drop f).take (i-f)) (spl (t.drop i))).filter ne,()):=by
 have fin:∀ (acc:List (List Int)) (a:Int) (b:Nat),t.length<b→fC t acc a (b:Int)=some (acc,()):=fun acc a b hb=>by rw[tj,aq]
 intro d
 induction d with
 | zero =>
  intro i f acc hi hf ha
  have hw:w64 ((i:Int)+1)=((i+1:Nat):Int):=by rw[ar];omega
  rw[tj,ap,aq,hw,aX (i:=i) (by omega)]
  show _=some (acc++List.filter ne [(t.drop f).take (i-f)++[]],())
  rw[aI]
  by_cases c:f<i
  ·have hne:(t.drop f).take (i-f)≠[]:=fun e=>by
    have:=congrArg List.length e
    rw[aQ,aR]at this
    simp only[List.length_nil]at this
    omega
   rw[ap,al,bm (by rw[b8];omega),fin _ _ _ (by omega),List.filter_cons_of_pos (wR hne),af,af]
   rfl
  ·rw[aq,fin _ _ _ (by omega),show i-f=0 by omega,List.take_zero,List.filter_cons_of_neg (by decide)]
   rw[List.filter_nil,aI]
 | succ d ih =>
  intro i f acc hi hf ha
  have hi':i<t.length:=by omega
  have hw:w64 ((i:Int)+1)=((i+1:Nat):Int):=cP hi' (by omega)
  rw[tj,ap,ap,al,dp hi',hw,ai hi']
  have hstep:(t.drop f).take (i+1-f)=(t.drop f).take (i-f)++[t[i]]:=by
   rw[show i+1-f=(i-f)+1 by omega,List.take_add_one,List.getElem?_drop,show f+(i-f)=i by omega,List.getElem?_eq_getElem hi'];rfl
  by_cases c:t[i]=32
  ·rw[bn (by rw[c];decide),c,spl,bm rfl]
   show _=some (acc++List.filter ne (((t.drop f).take (i-f)++[])::spl (t.drop (i+1))),())
   rw[aI]
   have hrec:∀ acc:List (List Int),acc.length≤i+1→fC t acc ((i+1:Nat):Int) ((i+1:Nat):Int)=some (acc++(spl (t.drop (i+1))).filter ne,()):=fun acc ha=>by
    have:=ih (i+1) (i+1) acc (by omega) (aH _) ha
    rwa [Nat.sub_self,List.take_zero,xm]at this
   by_cases c2:f<i
   ·have hne:(t.drop f).take (i-f)≠[]:=fun e=>by
     have:=congrArg List.length e
     rw[aQ,aR]at this
     simp only[List.length_nil]at this
     omega
    rw[ap,al,bm (by rw[b8];omega),List.filter_cons_of_pos (wR hne),af,af]
    have:=hrec (acc++[(t.drop f).take (i-f)]) (by simp;omega)
    rw[ah]at this
    exact this
   ·rw[aq,show i-f=0 by omega,List.take_zero,List.filter_cons_of_neg (by decide)]
    exact hrec acc (by omega)
  ·rw[bm (by simp[c]),uo c,Gg,← hstep]
   exact ih (i+1) f acc (by omega) (by omega) (by omega)
theorem HZ(t:List Int)(ht:t.length≤4294967290):th t=some (j0 t,()):=by
 rw[Hv]
 have:=HY t ht t.length 0 0 [] (by omega) (aH _) (aH _)
 rw[aN,Nat.sub_zero,List.take_zero,xm,bg]at this
 exact this
theorem A3(t:List Int):(j0 t).length≤t.length+1:=by
 have hc:=List.count_le_length (a:=(32:Int)) (l:=t)
 have:=um t
 have:=List.length_filter_le ne (spl t)
 unfold j0
 omega
theorem yT:∀ (l:List Int) (P:Int→Prop),(∀ x∈l,P x)→∀ w∈spl l,(∀ x∈w,P x)∧w.length≤l.length
 | [],P,h,w,hw=>by rw[aK.1 hw];exact⟨fun x hx=>(by cases hx),aH _⟩
 | c::l,P,h,w,hw=>by
  have ih:=yT l P fun x hx=>h x (aF _ hx)
  by_cases hc:c=32
  ·rw[spl,bm hc]at hw
   rcases aL.1 hw with rfl | hw
   ·exact⟨fun x hx=>(by cases hx),Nat.zero_le _⟩
   ·exact⟨(ih w hw).1,by have:=(ih w hw).2;rw[aS];omega⟩
  ·obtain⟨x,xs,e⟩:=qF l
   rw[uo hc,e]at hw
   rcases aL.1 (show w∈([c]++x)::xs from hw)with rfl | hw
   ·obtain⟨g1,g2⟩:=ih x (by rw[e];exact aE ..)
    refine⟨fun y hy=>?_,by simp;omega⟩
    rcases aL.1 (show y∈c::x from hy)with rfl | hy
    ·exact h _ (aE ..)
    ·exact g1 y hy
   ·obtain⟨g1,g2⟩:=ih w (by rw[e];exact aF _ hw)
    exact⟨g1,by rw[aS];omega⟩
theorem A4{l:List Int}{P:Int→Prop}(h:∀ x∈l,P x){w:List Int}(hw:w∈j0 l):(∀ x∈w,P x)∧w.length≤l.length:=yT l P h w (List.mem_filter.1 hw).1
theorem fh(a b c:Int):s_l1In a b c=some (decide (b≤a∧a≤c),()):=by
 rw[yy]
 by_cases h:b≤a
 ·rw[bm (by simp[h])];simp[h]
 ·rw[bn (by simp[h])];simp[h]
inductive Small:bD→Prop
 | mk (x:bD):x.Kids.length≤100→(∀ k∈x.Kids,Small k)→Small x
def n93(x:Int):Bool:=!decide (x=93)
def oU(l:List Int):List Int:=l.takeWhile n93
noncomputable def wO(s:List Int):Int×Bool:=match pP s with
 | some (v,ok,_)=>(v,ok)
 | none=>(0,false)
noncomputable def zh(v:bH):Bool:=(decide (-9000000000000≤v.N∧v.N≤9000000000000) && !decide ((v.S.length:Int)>300)) &&
 (if v.Kind=0 then decide (v.N=0)&&decide (v.S=[])else if v.Kind=1 then decide (v.S=[])else if v.Kind=2 then decide (v.N=0)else if v.Kind=3 then(wO v.S).2&&decide ((wO v.S).1=v.N)else false)
def oY(a b:bo):Bool:=decide (a.Name<b.Name)||(decide (a.Name=b.Name)&&ltS a.Key b.Key)
theorem H5(a:bo)(n:Int)(k:List Int):tu a n k=some (decide (a.Name<n)||(decide (a.Name=n)&&ltS a.Key k),()):=by
 rw[H4]
 cases decide (a.Name<n) <;> cases decide (a.Name=n) <;> rfl
def Dc(n:Int):Prop:=-9000000000000≤n∧n≤9000000000000
def VG(v:bH):Prop:=zh v=true∧Bt v.S
theorem VG.bd{v:bH}(h:VG v):Dc v.N∧v.S.length≤300:=by
 have h1:=h.1
 unfold zh at h1
 rw[aA,aA,ab,Bool.not_eq_true',decide_eq_false_iff_not]at h1
 exact⟨h1.1.1,by have:=h1.1.2;omega⟩
theorem VG.drawn{v:bH}(h:VG v):zD v:=⟨by have:=h.bd.2;omega,h.2⟩
theorem vF(n:Nat):Bt (dI n):=fun x hx=>by have:=(vH n).1 x hx;omega
theorem JN(c:Int)(l:List Int):∀ x∈eb c l,x∈l:=fun x hx=>by
 unfold eb at hx
 rw[List.mem_reverse]at hx
 have:=(List.dropWhile_sublist _).subset hx
 rwa [List.mem_reverse]at this
theorem AG(n:Int):Bt (ib n):=by
 intro x hx
 unfold ib at hx
 split at hx
 ·rcases aB.1 hx with hx | hx
  ·split at hx
   ·rw[aK.1 hx];omega
   ·cases hx
  ·unfold jW at hx
   rcases aB.1 hx with hx | hx
   ·exact vF _ x hx
   ·unfold j5 at hx
    split at hx
    ·rcases aL.1 hx with rfl | hx
     ·omega
     ·exact vF _ x (List.mem_of_mem_drop (JN _ _ x hx))
    ·cases hx
 ·cases hx
def atP(n:Int)(k:List Int)(c:bo):Bool:=decide (c.Name=n)&&decide (c.Key=k)
theorem atP_iff{n:Int}{k:List Int}{c:bo}:atP n k c=true↔c.Name=n∧c.Key=k:=by
 unfold atP;rw[aA,ab,ab]
def atV(l:List bo)(n:Int)(k:List Int):Int:=if l.any (atP n k)=true then(l.findIdx (atP n k):Int)else -1
theorem A5{α:Type}{l:List α}{p:α→Bool}{z:α}{k:Int}(h0:0≤k)(hl:k<(l.length:Int))(h1:p (l.getD k.toNat z)=true)(h2:∀ j:Nat,(j:Int)<k→p (l.getD j z)=false):(l.findIdx p:Int)=k:=by
 have hk:k.toNat<l.length:=by omega
 have h3:l.findIdx p=k.toNat:=by
  rw[List.findIdx_eq hk]
  refine⟨by rw[← dQ hk z];exact h1,fun j hj=>?_⟩
  rw[← dQ (by omega) z]
  exact h2 j (by omega)
 rw[h3];omega
theorem HV(s:bF)(n:Int)(k:List Int)(hl:s.Cells.length≤100000):jk s n k=some (atV s.Cells n k,()):=by
 obtain⟨v,e1,e2,e3,e4,e5⟩:=BD (fun i=>f5 n k i s) () s.Cells.length (fun i=>atP n k (s.Cells.getD i dV))
  (fun i hi=>by
   show f5 n k _ s=_
   rw[qd,ap,al,dp hi,dQ hi,cP hi (by omega)]
   unfold atP
   by_cases c:s.Cells[i].Name=n
   ·rw[ac c,bm rfl,al,Bool.true_and]
   ·rw[ae c,bn (by decide),Bool.false_and,bn (by decide)])
  (by show f5 n k _ s=_;rw[qd,bn (by simp)])
 have e1':f5 n k 0 s=some (v,()):=e1
 rw[ye,e1']
 congr 2
 unfold atV
 rw[uM s.Cells dV (atP n k)]at e2
 by_cases c:0≤v
 ·rw[← e2,ak c]
  exact(A5 c e3 (e4 c).1 (e4 c).2).symm
 ·rw[← e2,aj c]
  exact e5 (by omega)
theorem zR(l:List bo)(n:Int)(k:List Int):(atV l n k = -1∧∀ c∈l,¬ (c.Name=n∧c.Key=k))∨(0≤atV l n k∧atV l n k<(l.length:Int)):=by
 unfold atV
 by_cases c:l.any (atP n k)=true
 ·rw[bm c]
  have:=List.findIdx_lt_length_of_exists (xs:=l) (p:=atP n k) (by obtain⟨x,hx,e⟩:=List.any_eq_true.1 c;exact⟨x,hx,e⟩)
  exact .inr (by omega)
 ·rw[bn c]
  refine .inl ⟨rfl,fun x hx h=>c (List.any_eq_true.2 ⟨x,hx,atP_iff.2 h⟩)⟩
def je(l:List bo)(c:bo):Nat:=l.findIdx fun x=>!oY x c
def kv(l:List bo)(n:Int)(k:List Int)(v:bH):Option (List bo) :=
 if 0≤atV l n k then some (l.set (atV l n k).toNat ⟨(l.getD (atV l n k).toNat dV).Name,(l.getD (atV l n k).toNat dV).Key,v⟩)
 else if 40≤l.length then none else some (im l (je l ⟨n,k,v⟩) [⟨n,k,v⟩])
theorem vy{s:bF}(hv:s.Vars.length≤100000)(hc:s.Cells.length≤100000):f6 s=some (s,()):=by
 rw[H2,bm (by rw[b8];omega),bm (by rw[b8];omega)];rfl
theorem Gt(s:bF)(n:Int)(k:List Int)(v:bH)(hv:s.Vars.length≤100000)(hl:s.Cells.length≤100000) :
  pL s n k v=some (match kv s.Cells n k v with | some C=>(⟨s.Vars,C,s.Nr,s.Err⟩,true,()) | none=>(s,false,())):=by
 rw[G7,vy hv hl,HV s n k hl,aa,aa]
 dsimp only
 unfold kv
 rcases zR s.Cells n k with ⟨h,hno⟩ | h
 ·rw[aq,bn (c:=0≤atV s.Cells n k) (by omega)]
  by_cases c:40≤s.Cells.length
  ·rw[ap,bm c]
  ·rw[aq,bn c]
   have fin:∀ i:Nat,i≤s.Cells.length→(List.append (List.append (List.append [] (List.take ((i:Int).toNat-0) (List.drop 0 s.Cells))) [(bo.mk n k v)]) (List.take ((List.length s.Cells)-(i:Int).toNat) (List.drop (i:Int).toNat s.Cells)))=im s.Cells i [⟨n,k,v⟩]:=fun i hi=>by
    unfold im
    simp only[af,Nat.sub_zero,aN]
    rw[a9 (i:=s.Cells.length-i) (by rw[aR];omega)]
    show([]++s.Cells.take i)++[(⟨n,k,v⟩:bo)]++s.Cells.drop i=_
    simp
   have key:∀ (d i:Nat),i+d=s.Cells.length→(∀ j,j<i→oY (s.Cells.getD j dV) ⟨n,k,v⟩=true)→pM n k (i:Int) s v fG s=some (⟨s.Vars,im s.Cells (je s.Cells ⟨n,k,v⟩) [⟨n,k,v⟩],s.Nr,s.Err⟩,true,()):=by
    intro d
    induction d with
    | zero =>
     intro i hi hj
     have hp:je s.Cells ⟨n,k,v⟩=i:=by
      rw[show i=s.Cells.length by omega]
      unfold je
      rw[List.findIdx_eq_length]
      intro x hx
      obtain⟨j,hj',rfl⟩:=bk.1 hx
      have:=hj j (by omega)
      rw[dQ hj']at this
      rw[this];rfl
     rw[xP,aq,al,bm (by rw[b8];simp;omega),bm (by rw[b8];simp;omega),al,bm (by rw[b8];simp;omega),fin i (by omega),hp]
    | succ d ih =>
     intro i hi hj
     have hi':i<s.Cells.length:=by omega
     rw[xP,ap,al,dp hi',H5,aa]
     dsimp only
     rw[show(decide (s.Cells[i].Name<n)||(decide (s.Cells[i].Name=n)&&ltS s.Cells[i].Key k))=oY s.Cells[i] ⟨n,k,v⟩from rfl]
     cases c3:oY s.Cells[i] ⟨n,k,v⟩ with
     | true =>
      rw[bm rfl,cP hi' (by omega)]
      refine ih (i+1) (by omega) fun j hji=>?_
      by_cases e:j=i
      ·subst e;rw[dQ hi'];exact c3
      ·exact hj j (by omega)
     | false =>
      have hp:je s.Cells ⟨n,k,v⟩=i:=by
       unfold je
       rw[List.findIdx_eq hi']
       refine⟨by rw[c3];rfl,fun j hji=>?_⟩
       have:=hj j hji
       rw[dQ (by omega)]at this
       rw[this];rfl
      rw[bn (by decide),al,bm (by rw[b8];simp;omega),bm (by rw[b8];simp;omega),al,bm (by rw[b8];simp;omega),fin i (by omega),hp]
   exact key s.Cells.length 0 (by omega) fun j hj=>absurd hj (by omega)
 ·rw[ap,bm h,bm h.1]
mutual
def wX:bD→Nat
 | ⟨_,_,_,_,ks⟩=>1+wY ks
def wY:List bD→Nat
 | []=>0
 | k::ks=>wX k+wY ks
end
def eh(f:List Bool)(j n:Nat):List Int:=((List.range' j n).filter fun i=>f.getD i false).map Int.ofNat
theorem marks_mem{f:List Bool}{j n:Nat}{x:Int}:x∈eh f j n ↔ ∃ i:Nat,x=i∧j≤i∧i<j+n∧f.getD i false=true:=by
 unfold eh
 rw[List.mem_map]
 constructor
 ·rintro ⟨i,hi,rfl⟩
  rw[List.mem_filter,List.mem_range'_1]at hi
  exact⟨i,rfl,hi.1.1,hi.1.2,hi.2⟩
 ·rintro ⟨i,rfl,h1,h2,h3⟩
  exact⟨i,List.mem_filter.2 ⟨List.mem_range'_1.2 ⟨h1,h2⟩,h3⟩,rfl⟩
theorem Fp(f:List Bool)(j n:Nat):(eh f j n).length≤n:=by
 unfold eh
 rw[bh]
 exact Nat.le_trans (List.length_filter_le ..) (by rw[List.length_range'];exact aH _)
theorem Fq(f:List Bool)(j n m:Nat):eh f j (n+m)=eh f j n++eh f (j+n) m:=by
 unfold eh
 rw[← List.range'_append_1,List.filter_append,List.map_append]
theorem wv(t:List Int):∀ l:List Int,0≤dc l t↔t <:+: l
 | []=>by
  unfold dc
  cases t with
  | nil=>simp
  | cons a t=>simp
 | b::l=>by
  have ih:=wv t l
  have hb:=pj l t
  unfold dc
  rw[List.infix_cons_iff]
  by_cases c:t.isPrefixOf (b::l)=true
  ·rw[bm c];exact⟨fun _=>.inl (List.isPrefixOf_iff_prefix.1 c),fun _=>Int.le_refl _⟩
  ·rw[bn c]
   have c':¬ t <+: b::l:=fun h=>c (List.isPrefixOf_iff_prefix.2 h)
   by_cases d:dc l t = -1
   ·rw[bm d]
    exact⟨fun h=>by omega,fun h=>by rcases h with h | h;exact absurd h c';exact absurd (ih.2 h) (by omega)⟩
   ·rw[bn d]
    exact⟨fun h=>.inr (ih.1 (by omega)),fun h=>by rcases h with h | h;exact absurd h c';have:=ih.2 h;omega⟩
theorem BB{l t:List Int}(h:l.length<t.length):dc l t = -1:=by
 have hb:=pj l t
 have:=(wv t l).1
 by_cases c:0≤dc l t
 ·have:=(this c).length_le;omega
 ·omega
theorem H0(s t:List Int)(hs:s.length≤300)(ht:t.length≤300):∀ (d i:Nat),i+d=s.length→qi s t (i:Int)=some (if dc (s.drop i) t = -1 then 0 else(i:Int)+dc (s.drop i) t+1,()):=by
 intro d
 induction d with
 | zero =>
  intro i hi
  have hw:w64 ((i:Int)+(t.length:Int))=((i+t.length:Nat):Int):=by rw[ar];omega
  have hd:s.drop i=[]:=aX (by omega)
  rw[yh,hw,hd]
  cases t with
  | nil =>
   rw[ak (by simp;omega),bm (by simp;omega)]
   rw[bm (by simp[hd]),ar]
   simp[dc]
  | cons c t =>
   rw[bn (by rw[ab,aS];omega)]
   simp[dc]
 | succ d ih =>
  intro i hi
  have hi':i<s.length:=by omega
  have hw:w64 ((i:Int)+(t.length:Int))=((i+t.length:Nat):Int):=by rw[ar];omega
  rw[yh,hw]
  by_cases c:i+t.length≤s.length
  ·have hpre:(t.isPrefixOf (s.drop i)=true)↔(s.drop i).take t.length=t:=by
    rw[List.isPrefixOf_iff_prefix,List.prefix_iff_eq_take];exact eq_comm
   have hcons:=ai hi'
   rw[ap,al,af,af,show i+t.length-i=t.length by omega,cP hi' (by omega)]
   by_cases c2:(s.drop i).take t.length=t
   ·have e:dc (s.drop i) t=0:=by rw[hcons]at hpre c2 ⊢;unfold dc;rw[bm (hpre.2 c2)]
    rw[ak c2,e,bn (by decide)]
    congr 2
   ·have hn:¬ t.isPrefixOf (s.drop i)=true:=fun h=>c2 (hpre.1 h)
    have e:dc (s.drop i) t=if dc (s.drop (i+1)) t = -1 then -1 else dc (s.drop (i+1)) t+1:=by rw[hcons]at hn ⊢;exact(by rw[dc,bn hn])
    have hb:=pj (s.drop (i+1)) t
    rw[aj c2,ih (i+1) (by omega),e]
    by_cases c3:dc (s.drop (i+1)) t = -1
    ·rw[bm c3,bm c3,bm rfl]
    ·rw[bn c3,bn c3,am]
     congr 2;omega
  ·rw[aq,bm (BB (by rw[aR];omega))]
theorem H1(s t:List Int)(hs:s.length≤300)(ht:t.length≤300):tz s t=some (dc s t+1,()):=by
 rw[Ie]
 have:=H0 s t hs ht s.length 0 (by omega)
 rw[aN]at this
 rw[show(0:Int)=((0:Nat):Int)from rfl,this]
 have hb:=pj s t
 congr 2
 split <;> omega
def Tot{α:Type}(x:Option α)(P:α→Prop):Prop:=∃ y,x=some y∧P y
theorem tb{α β:Type}{x:Option α}{P:α→Prop}{f:α→Option β}{Q:β→Prop}(h:Tot x P)(k:∀ y,P y→Tot (f y) Q):Tot (x.bind f) Q:=by
 obtain⟨y,rfl,hy⟩:=h;exact k y hy
theorem ts{α:Type}{y:α}{Q:α→Prop}(h:Q y):Tot (some y) Q:=⟨y,rfl,h⟩
theorem ti{α:Type}{c:Prop}[Decidable c]{a b:Option α}{Q:α→Prop}(h:c→Tot a Q)(k:¬ c→Tot b Q):Tot (if c then a else b) Q:=by
 by_cases hc:c
 ·rw[bm hc];exact h hc
 ·rw[bn hc];exact k hc
theorem tc{α:Type}{c:Prop}[Decidable c]{a b:Option α}{Q:α→Prop}(hc:c)(h:Tot a Q):Tot (if c then a else b) Q:=by rw[bm hc];exact h
theorem tn{α:Type}{c:Prop}[Decidable c]{a b:Option α}{Q:α→Prop}(hc:¬ c)(h:Tot b Q):Tot (if c then a else b) Q:=by rw[bn hc];exact h
theorem te{α:Type}{x:Option α}{y:α}{P:α→Prop}(h:x=some y)(hp:P y):Tot x P:=⟨y,h,hp⟩
def TW(t:List Int):Prop:=t.length≤300∧Bt t
def VW(v:bH):Prop:=TW v.S
theorem oD:TW []:=⟨by simp,fun x hx=>by cases hx⟩
theorem jD(k n:Int):VW ⟨k,n,[]⟩:=oD
theorem zj:VW cj:=oD
theorem JP{v:bH}(h:VW v):TW (qI v):=by
 unfold qI
 split
 ·have:=AH v.N;exact⟨by omega,AG _⟩
 ·exact h
theorem dU{v:bH}(h:VW v):Tot (dA v) (fun y=>TW y.1):=te (HS v) (JP h)
theorem cK{l:List bH}(h:∀ v∈l,VW v)(n:Nat):VW (l.getD n cj):=by
 by_cases c:n<l.length
 ·rw[dQ c];exact h _ (aW c)
 ·rw[List.getD_eq_getElem?_getD,List.getElem?_eq_none (by omega)];exact zj
theorem i3(p:Int)(b:Bool)(n m:Int)(N:Int)(h0:0≤p)(h1:p≤N):Tot (s_DecFront_L5 p b n m) (fun y=>0≤y.2.1∧y.2.1≤N):=by
 rw[He]
 refine ti (fun _=>ts ⟨Int.le_refl _,?_⟩) (fun _=>ti (fun _=>ts ⟨Int.le_refl _,?_⟩) (fun _=>ti (fun _=>ts ⟨h0,h1⟩) (fun _=>ts ⟨h0,h1⟩))) <;> exact Int.le_trans h0 h1
theorem Bj(s:List Int)(hs:s.length≤1000)(b:Bool):∀ (d i:Nat) (n m u:Int),i+d=s.length→Tot (s_DecFront_L4 s (i:Int) b n m u) (fun y=>0≤y.2.1∧y.2.1≤(s.length:Int)):=by
 intro d
 induction d with
 | zero =>
  intro i n m u hd
  rw[xT,aq]
  exact i3 _ _ _ _ _ (by omega) (by omega)
 | succ d ih =>
  intro i n m u hd
  have hi:i<s.length:=by omega
  rw[xT,ap,al,dp hi,sd,aa,cP hi (by omega)]
  exact ti (fun _=>tc (by omega) (ih (i+1) _ _ _ (by omega))) (fun _=>i3 _ _ _ _ _ (by omega) (by omega))
theorem Bi(s:List Int)(hs:s.length≤1000)(b:Bool):∀ (d i:Nat) (n m:Int),i+d=s.length→Tot (s_DecFront_L3 s (i:Int) b n m) (fun y=>0≤y.2.1∧y.2.1≤(s.length:Int)):=by
 intro d
 induction d with
 | zero =>
  intro i n m hd
  rw[xS,aq,ar (n:=(i:Int)+1),aq]
  exact i3 _ _ _ _ _ (by omega) (by omega)
 | succ d ih =>
  intro i n m hd
  have hi:i<s.length:=by omega
  rw[xS,ap,al,dp hi,sd,aa,cP hi (by omega)]
  refine ti (fun _=>ti (fun _=>tc (by omega) (ih (i+1) _ _ (by omega))) (fun _=>ih (i+1) _ _ (by omega))) (fun _=>ti (fun h=>?_) (fun _=>i3 _ _ _ _ _ (by omega) (by omega)))
  rw[ab]at h
  refine tc (by omega) (ti (fun _=>tc (by omega) ?_) (fun _=>i3 _ _ _ _ _ (by omega) (by omega)))
  rw[sd,aa]
  exact ti (fun _=>Bj s hs b _ (i+1) _ _ _ (show i+1+(s.length-(i+1))=s.length by omega)) (fun _=>i3 _ _ _ _ _ (by omega) (by omega))
theorem pg(s:List Int)(hs:s.length≤1000)(b:Bool)(i:Nat)(hi:i≤s.length):Tot (s_DecFront_L2 s (i:Int) b) (fun y=>0≤y.2.1∧y.2.1≤(s.length:Int)):=by
 rw[Hd];exact Bi s hs b (s.length-i) i 0 0 (by omega)
theorem Bh(s:List Int)(hs:s.length≤1000):∀ (d i:Nat),i+d=s.length→Tot (s_DecFront_L1 s (i:Int)) (fun y=>0≤y.2.1∧y.2.1≤(s.length:Int)):=by
 intro d
 induction d with
 | zero =>
  intro i hd
  have e:¬ (i:Int)<(s.length:Int):=by omega
  rw[xR]
  simp only[ab,bn e]
  exact pg s hs _ i (by omega)
 | succ d ih =>
  intro i hd
  have hi:i<s.length:=by omega
  have e:(i:Int)<(s.length:Int):=by omega
  have e2:(0:Int)≤(i:Int)∧(i:Int)<(s.length:Int):=by omega
  rw[xR,cP hi (by omega)]
  simp only[ab,bm e,bm e2]
  refine ti (fun _=>ih (i+1) (by omega)) (fun _=>ti (fun _=>pg s hs _ (i+1) (by omega)) (fun _=>ti (fun _=>pg s hs _ (i+1) (by omega)) (fun _=>pg s hs _ i (by omega))))
theorem wh(s:List Int)(hs:s.length≤1000):Tot (s_DecFront s) (fun y=>0≤y.2.1∧y.2.1≤(s.length:Int)):=by
 rw[Hf];exact Bh s hs s.length 0 (by omega)
theorem dY{v:bH}(h:VW v):Tot (dM v) (fun _=>True):=by
 have key:∀ b:Bool,Tot (qb v.Kind b v) (fun _=>True):=fun b=>by
  rw[HP]
  exact ti (fun _=>ts trivial) (fun _=>ti (fun _=>tb (wh v.S (by have:=h.1;omega)) (fun _ _=>ts trivial)) (fun _=>ts trivial))
 rw[HQ]
 exact ti (fun _=>key _) (fun _=>key _)
theorem Fe(s:List Int)(hs:s.length≤1000):Tot (pP s) (fun _=>True):=by
 have key:∀ (d i:Nat) (n:Int),i+d=s.length→Tot (pQ s n (i:Int)) (fun _=>True):=by
  intro d
  induction d with
  | zero =>
   intro i n hd
   rw[xV,aq];exact ts trivial
  | succ d ih =>
   intro i n hd
   have hi:i<s.length:=by omega
   rw[xV,ap,al,cP hi (by omega)]
   exact ti (fun _=>ts trivial) (fun _=>ih (i+1) n (by omega))
 rw[Hh]
 refine tb (wh s hs) (fun y hy=>ti (fun _=>ts trivial) (fun _=>?_))
 obtain⟨k,hk⟩:=Int.eq_ofNat_of_zero_le hy.1
 rw[hk]
 exact key (s.length-k) k _ (by have:=hy.2;omega)
theorem sK{s:List Int}(hs:s.length≤1000)(hb:Bt s):Tot (kJ s) (fun y=>VW y.1):=by
 have key:∀ (t:List Int),TW t→Tot (p7 t cj) (fun y=>VW y.1):=fun t ht=>by
  rw[HF]
  exact tb (Fe t (by have:=ht.1;omega)) (fun y _=>ti (fun _=>ts ht) (fun _=>ts ht))
 rw[HG]
 refine ti (fun h=>?_) (fun h=>key s ?_)
 ·rw[ab]at h
  refine tc (by omega) (key _ ⟨by rw[aQ];omega,fun x hx=>?_⟩)
  rw[aN]at hx
  exact hb x (List.mem_of_mem_take hx)
 ·rw[ab]at h
  exact⟨by omega,hb⟩
theorem fZ(n:Int):Tot (s_DecOk n) (fun _=>True):=te (xW n) trivial
theorem iy(n:Int):Tot (f9 n) (fun _=>True):=by
 rw[I7]
 exact tb (fZ _) (fun _ _=>ti (fun _=>ts trivial) (fun _=>ts trivial))
theorem zF(a b:Int):Tot (sZ a b) (fun _=>True):=by
 rw[Hb]
 exact tb (fZ _) (fun _ _=>ti (fun _=>ts trivial) (fun _=>tb (fZ _) (fun _ _=>ti (fun _=>ts trivial) (fun _=>tb (iy _) (fun _ _=>ts trivial)))))
theorem JF(a b:Int):Tot (s6 a b) (fun _=>True):=by
 rw[Hk]
 exact tb (fZ _) (fun _ _=>ti (fun _=>ts trivial) (fun _=>tb (fZ _) (fun _ _=>ti (fun _=>ts trivial) (fun _=>tb (iy _) (fun _ _=>ts trivial)))))
theorem uH(a:Int):Tot (jt a) (fun _=>True):=by
 rw[yx];exact ti (fun _=>ts trivial) (fun _=>ts trivial)
theorem FA(a b:Int):Tot (s5 a b) (fun _=>True):=by
 rw[Hi]
 refine tb (fZ _) (fun _ _=>ti (fun _=>ts trivial) (fun _=>tb (fZ _) (fun _ _=>ti (fun _=>ts trivial) (fun _=>tb (uH _) (fun _ _=>tb (uH _) (fun y _=>ti (fun h=>tc ?_ (ti (fun _=>ts trivial) (fun _=>?_))) (fun _=>?_)))))))
 ·rw[ab]at h;omega
 ·exact ti (fun _=>tb (iy _) (fun _ _=>ts trivial)) (fun _=>tb (iy _) (fun _ _=>ts trivial))
 ·exact ti (fun _=>tb (iy _) (fun _ _=>ts trivial)) (fun _=>tb (iy _) (fun _ _=>ts trivial))
theorem AL(a b:Int):Tot (s4 a b) (fun _=>True):=by
 rw[Hc]
 refine tb (fZ _) (fun _ _=>ti (fun _=>ts trivial) (fun _=>tb (fZ _) (fun _ _=>ti (fun _=>ts trivial) (fun _=>ti (fun _=>ts trivial) (fun h=>tc ?_ (tb (iy _) (fun _ _=>ts trivial)))))))
 rw[ab]at h;exact h
theorem uw(v:bH):Tot (kK v) (fun _=>True):=by
 have key:∀ b:Bool,Tot (qc v.Kind b v) (fun _=>True):=fun b=>by
  rw[HT]
  exact ti (fun _=>ts trivial) (fun _=>ti (fun _=>ts trivial) (fun _=>ts trivial))
 rw[HU]
 exact ti (fun _=>key _) (fun _=>key _)
theorem qL(b:Bool):Tot (jl b) (fun y=>VW y.1):=by
 rw[H6,u6,aa,yi,aa];exact ts (jD _ _)
theorem ge(n:Int):Tot (eP n) (fun y=>VW y.1):=by rw[yi];exact ts (jD _ _)
theorem rt(b:Bool):Tot (s_l1Bit b) (fun _=>True):=te (u6 b) trivial
theorem AA{a b:bH}(ha:VW a)(hb:VW b):Tot (sY a b) (fun _=>True):=by
 rw[Ha]
 refine tb (dU ha) (fun _ _=>tb (dU hb) (fun _ _=>tb (dU ha) (fun _ _=>tb (dU hb) (fun _ _=>ti (fun _=>ti (fun _=>tb (dY ha) (fun _ _=>tb (dY hb) (fun _ _=>tb (dY ha) (fun _ _=>tb (dY hb) (fun _ _=>ti (fun _=>ts trivial) (fun _=>tb (rt _) (fun _ _=>ts trivial))))))) (fun _=>?_)) (fun _=>?_)))))
 ·exact ti (fun _=>ts trivial) (fun _=>tb (rt _) (fun _ _=>ts trivial))
 ·exact ti (fun _=>ts trivial) (fun _=>tb (rt _) (fun _ _=>ts trivial))
theorem FY{op:Int}(h0:0≤op∧op<6){a b:bH}(ha:VW a)(hb:VW b):Tot (tA op a b) (fun y=>VW y.1):=by
 rw[Ij]
 exact tb (AA ha hb) (fun _ _=>tc h0 (tb (qL _) (fun _ h=>ts h)))
theorem pp{v:bH}(h:VW v):Tot (jo v) (fun y=>TW y.1):=by
 rw[Ig]
 refine tb (dU h) (fun y hy=>ti (fun c=>?_) (fun _=>ts hy))
 rw[ab]at c
 have:=hy.1
 omega
theorem F5{l:List bH}(h:∀ v∈l,VW v)(h2:2≤l.length):Tot (tB l) (fun y=>TW y.1):=by
 have key:∀ (t:List Int) (f u:Int),TW t→u≤t.length→Tot (qj t f u) (fun y=>TW y.1):=fun t f u ht hu=>by
  rw[Ik]
  have hm:Tot (s_l1Max f 1) (fun y=>1≤y.1):=by
   rw[tX]
   exact ti (fun c=>ts (by rw[ab]at c;show 1≤f;omega)) (fun _=>ts (Int.le_refl 1))
  refine tb hm (fun y hy=>ti (fun _=>ts oD) (fun c=>?_))
  rw[ab]at c
  have hl:=ht.1
  have e:w64 (y.1-1)=y.1-1:=ar
  rw[e]
  refine tc (by omega) (ts ⟨?_,fun x hx=>ht.2 x (List.mem_of_mem_drop (List.mem_of_mem_take hx))⟩)
  rw[aQ,aR];omega
 rw[Il]
 refine tc (by omega) (tb (dU (cK h _)) (fun y hy=>tc (by omega) (tb (dY (cK h _)) (fun n _=>ti (fun c=>?_) (fun _=>key _ _ _ hy (by omega))))))
 rw[ab]at c
 refine tc (by omega) (tb (dY (cK h _)) (fun m _=>tb (P:=fun z=>z.1≤(y.1.length:Int)) ?_ (fun z hz=>key _ _ _ hy hz)))
 rw[tY]
 exact ti (fun c=>ts (Int.le_refl _)) (fun c=>ts (by rw[ab]at c;show _≤_;omega))
theorem vl(a b:Int)(t:List Int)(ht:TW t):Tot (qf t a b) (fun y=>TW y.1):=by
 have key:∀ (d i:Nat) (t:List Int),TW t→i+d=t.length→Tot (jn a b t (i:Int)) (fun y=>TW y.1):=by
  intro d
  induction d with
  | zero =>
   intro i t ht hd
   rw[yg,aq];exact ts ht
  | succ d ih =>
   intro i t ht hd
   have hi:i<t.length:=by omega
   have hl:=ht.1
   rw[yg,ap,al,cP hi (by omega)]
   refine ti (fun _=>tc (by omega) (ti (fun _=>tc (by omega) (tc (by omega) (ih (i+1) _ ⟨by rw[aY];omega,fun x hx=>?_⟩ (by rw[aY];omega)))) (fun _=>ih (i+1) t ht (by omega)))) (fun _=>ih (i+1) t ht (by omega))
   rcases List.mem_or_eq_of_mem_set hx with hx | rfl
   ·exact ht.2 x hx
   ·exact oF _
 rw[H8]
 exact tc (by have:=ht.1;rw[b8];omega) (key t.length 0 t ht (by omega))
theorem oW{l:List bH}(h:∀ v∈l,VW v)(h2:1≤l.length)(nm:List Int)(hn:nm=[105,110,100,101,120]∨nm=[115,117,98,115,116,114]→2≤l.length)(hk:nm∈[[108,101,110,103,116,104],[105,110,116],[105,110,100,101,120],[117,112,112,101,114],[108,111,119,101,114],[115,117,98,115,116,114]]):Tot (jm nm l) (fun y=>VW y.1):=by
 rw[H7]
 refine ti (fun _=>tc (by omega) (tb (dU (cK h _)) (fun _ _=>tb (ge _) (fun _ q=>ts q)))) (fun n1=>ti (fun _=>tc (by omega) (tb (dY (cK h _)) (fun y _=>?_))) (fun n2=>ti (fun c=>?_) (fun n3=>ti (fun _=>tc (by omega) (tb (dU (cK h _)) (fun y hy=>tb (vl _ _ _ hy) (fun _ q=>ts q)))) (fun n4=>ti (fun _=>tc (by omega) (tb (dU (cK h _)) (fun y hy=>tb (vl _ _ _ hy) (fun _ q=>ts q)))) (fun n5=>?_)))))
 ·rw[Hg,aa];exact tb (ge _) (fun _ q=>ts q)
 ·rw[ab]at c
  have:=hn (.inl c)
  refine tc (by omega) (tb (dU (cK h _)) (fun y hy=>tc (by omega) (tb (dU (cK h _)) (fun z hz=>?_))))
  rw[H1 _ _ hy.1 hz.1,aa]
  exact tb (ge _) (fun _ q=>ts q)
 ·rw[ab]at n1 n2 n3 n4 n5
  have:nm=[115,117,98,115,116,114]:=by simpa [n1,n2,n3,n4,n5]using hk
  exact tb (F5 h (hn (.inr this))) (fun _ q=>ts q)
theorem Ai{l:List bH}(h:∀ v∈l,VW v)(h2:1≤l.length)(h3:l.length≤100)(nm:List Int)(hk:nm∈[[108,101,110,103,116,104],[105,110,116],[105,110,100,101,120],[117,112,112,101,114],[108,111,119,101,114],[115,117,98,115,116,114]]):Tot (tD nm l) (fun y=>VW y.1):=by
 have hv:∀ v∈List.append (List.append [] l) [bH.mk 0 0 []],VW v:=fun v hv=>by
  rcases aB.1 (show v∈l++[bH.mk 0 0 []]from hv)with hv | hv
  ·exact h v hv
  ·rw[aK.1 hv];exact jD _ _
 have hl:(List.append (List.append [] l) [bH.mk 0 0 []]).length=l.length+1:=by show(l++[bH.mk 0 0 []]).length=_;simp
 have hl0:(List.append [] l).length=l.length:=rfl
 rw[Iq]
 refine ti (fun c=>ti (fun _=>tc (by rw[b8];omega) (tc (by rw[b8,hl0];omega) (tb (oW hv (by omega) nm (fun _=>by omega) hk) (fun _ q=>ts q)))) (fun n1=>ti (fun _=>tc (by rw[b8];omega) (tc (by rw[b8,hl0];omega) (tb (oW hv (by omega) nm (fun _=>by omega) hk) (fun _ q=>ts q)))) (fun n2=>tb (oW h h2 nm (fun e=>?_) hk) (fun _ q=>ts q)))) (fun c=>tb (oW h h2 nm (fun _=>?_) hk) (fun _ q=>ts q))
 ·rw[ab]at n1 n2;exact(e.elim n1 n2).elim
 ·rw[ab]at c;omega
set_option linter.defProp false
def a7:=@List.length_eq_zero_iff
def adj(l:List bA)(b e:Bool)(k:Nat):List Int :=
 if(l.getD k cg).Op=6 then [(l.getD k cg).A]else if(l.getD k cg).Op=7 then [(l.getD k cg).A,(l.getD k cg).B]
 else if(l.getD k cg).Op=4 then(if b=true then [(k:Int)+1]else [])else if(l.getD k cg).Op=5 then(if e=true then [(k:Int)+1]else [])else []
theorem zG(l:List bA)(b e:Bool)(k:Nat):(adj l b e k).length≤2:=by
 unfold adj
 split
 ·simp
 ·split
  ·simp
  ·split
   ·split <;> simp
   ·split
    ·split <;> simp
    ·simp
inductive Rch (l:List bA) (at_:List Int) (b e:Bool):Int→Prop
 | base {i:Int}:i∈at_→0≤i→i<(l.length:Int)→Rch l at_ b e i
 | step {k j:Int}:Rch l at_ b e k→j∈adj l b e k.toNat→0≤j→j<(l.length:Int)→Rch l at_ b e j
theorem Rch.bd{l:List bA}{at_:List Int}{b e:Bool}{i:Int}(h:Rch l at_ b e i):0≤i∧i<(l.length:Int):=by
 cases h with
 | base _ h1 h2=>exact⟨h1,h2⟩
 | step _ _ h1 h2=>exact⟨h1,h2⟩
def St(l:List bA)(seen:List Bool)(out:List Int):Prop:=seen.length=l.length∧(∀ i:Nat,i<l.length→seen.getD i false=decide ((i:Int)∈out))∧(∀ x∈out,0≤x∧x<(l.length:Int))∧out.Nodup
theorem vz:∀ (f:List Bool) (k:Nat),k<f.length→f.getD k false=false→(f.set k true).count false+1=f.count false
 | [],k,h,_=>absurd h (by simp)
 | a::f,0,h,e=>by
  have:a=false:=e
  subst this
  rw[List.set_cons_zero,List.count_cons,List.count_cons];simp
 | a::f,k+1,h,e=>by
  have:=vz f k (by simpa using h) e
  rw[List.set_cons_succ,List.count_cons,List.count_cons];omega
def Mk(l:List bA)(at_:List Int)(b e:Bool)(f:List Bool)(todo:List Int):Prop:=f.length=l.length∧(∀ k:Nat,f.getD k false=true→Rch l at_ b e k)∧(∀ y∈todo,0≤y→y<(l.length:Int)→Rch l at_ b e y) ∧
 ∀ k:Nat,f.getD k false=true→∀ y∈adj l b e k,0≤y→y<(l.length:Int)→f.getD y.toNat false=true∨y∈todo
theorem HW{l:List bA}(hl:l.length≤1000)(at_:List Int)(b e:Bool):∀ (d:Nat) (f:List Bool) (todo:List Int),3*f.count false+todo.length≤d→d≤100000→Mk l at_ b e f todo →
  ∃ f',d9 l f b e todo=some (f',())∧Mk l at_ b e f' []∧(∀ k:Nat,f.getD k false=true→f'.getD k false=true)∧∀ y∈todo,0≤y→y<(l.length:Int)→f'.getD y.toNat false=true:=by
 intro d
 induction d with
 | zero =>
  intro f todo hd hd2 h
  have ht:todo=[]:=a7.1 (by omega)
  subst ht
  rw[ua,bn (by simp)]
  exact⟨f,rfl,h,fun k hk=>hk,fun y hy=>by cases hy⟩
 | succ d ih =>
  intro f todo hd hd2 h
  obtain⟨h1,h2,h3,h4⟩:=h
  by_cases ht:todo.length=0
  ·have ht:todo=[]:=a7.1 ht
   subst ht
   rw[ua,bn (by simp)]
   exact⟨f,rfl,⟨h1,h2,h3,h4⟩,fun k hk=>hk,fun y hy=>by cases hy⟩
  ·have w:w64 ((todo.length:Int)-1)=((todo.length-1:Nat):Int):=by rw[ar];omega
   have hlt:todo.length-1<todo.length:=by omega
   rw[ua,ap,w,al,al,dp hlt,af]
   have hsplit:todo=todo.take (todo.length-1)++[todo[todo.length-1]]:=ul (n:=todo.length-1) (by omega)
   have hrl:(todo.take (todo.length-1)).length=todo.length-1:=by rw[aQ];omega
   generalize todo.take (todo.length-1)=rest at hsplit hrl
   generalize todo[todo.length-1]=v at hsplit
   have hmem:∀ y,y∈todo↔y∈rest∨y=v:=fun y=>by rw[hsplit,aB,aK]
   have skip:(0≤v→v<(l.length:Int)→f.getD v.toNat false=true)→∃ f',d9 l f b e rest=some (f',())∧Mk l at_ b e f' []∧(∀ k:Nat,f.getD k false=true→f'.getD k false=true)∧∀ y∈todo,0≤y→y<(l.length:Int)→f'.getD y.toNat false=true:=fun hv=>by
    obtain⟨f',e1,e2,e3,e4⟩:=ih f rest (by omega) (by omega) ⟨h1,h2,fun y hy=>h3 y ((hmem y).2 (.inl hy)),fun k hk y hy y0 y1=>by
     rcases h4 k hk y hy y0 y1 with h | h
     ·exact .inl h
     ·rcases(hmem y).1 h with h | h
      ·exact .inr h
      ·subst h;exact .inl (hv y0 y1)⟩
    refine⟨f',e1,e2,e3,fun y hy y0 y1=>?_⟩
    rcases(hmem y).1 hy with h | h
    ·exact e4 y h y0 y1
    ·subst h;exact e3 _ (hv y0 y1)
   by_cases c1:v≥(l.length:Int)
   ·rw[ak c1];exact skip fun _ h=>absurd h (by omega)
   rw[aj c1]
   by_cases c2:v<0
   ·rw[ak c2];exact skip fun h=>absurd h (by omega)
   rw[aj c2,al]
   by_cases c3:f.getD v.toNat false=true
   ·rw[bm c3];exact skip fun _ _=>c3
   rw[bn c3,al,al]
   have hvn:v.toNat<f.length:=by omega
   have hvr:Rch l at_ b e v:=h3 v ((hmem v).2 (.inr rfl)) (by omega) (by omega)
   have hcount:=vz f v.toNat hvn (by simpa using c3)
   have hw:w64 (v+1)=((v.toNat:Nat):Int)+1:=by rw[ar];omega
   have go:∃ f',d9 l (f.set v.toNat true) b e (rest++adj l b e v.toNat)=some (f',())∧Mk l at_ b e f' []∧(∀ k:Nat,f.getD k false=true→f'.getD k false=true)∧∀ y∈todo,0≤y→y<(l.length:Int)→f'.getD y.toNat false=true:=by
    have hal:=zG l b e v.toNat
    have hget:∀ k:Nat,(f.set v.toNat true).getD k false=true↔f.getD k false=true∨k=v.toNat:=fun k=>by
     by_cases hk:v.toNat=k
     ·subst hk;rw[Bl hvn];simp
     ·rw[List.getD_eq_getElem?_getD,List.getElem?_set_ne hk,← List.getD_eq_getElem?_getD]
      exact⟨.inl,fun h=>h.elim id fun h=>absurd h.symm hk⟩
    obtain⟨f',e1,e2,e3,e4⟩:=ih (f.set v.toNat true) (rest++adj l b e v.toNat) (by rw[ag];omega) (by omega) ⟨by rw[aY];exact h1,fun k hk=>by
      rcases(hget k).1 hk with h | h
      ·exact h2 k h
      ·subst h;rw[Int.toNat_of_nonneg (by omega)];exact hvr,
     fun y hy y0 y1=>by
      rcases aB.1 hy with hy | hy
      ·exact h3 y ((hmem y).2 (.inl hy)) y0 y1
      ·exact .step hvr hy y0 y1,
     fun k hk y hy y0 y1=>by
      rcases(hget k).1 hk with h | h
      ·rcases h4 k h y hy y0 y1 with h | h
       ·exact .inl ((hget _).2 (.inl h))
       ·rcases(hmem y).1 h with h | h
        ·exact .inr (au _ h)
        ·exact .inl ((hget _).2 (.inr (by rw[h])))
      ·subst h;exact .inr (av _ hy)⟩
    refine⟨f',e1,e2,fun k hk=>e3 k ((hget k).2 (.inl hk)),fun y hy y0 y1=>?_⟩
    rcases(hmem y).1 hy with h | h
    ·exact e4 y (au _ h) y0 y1
    ·exact e3 _ ((hget _).2 (.inr (by rw[h])))
   have hnil:rest++[]=rest:=aI _
   unfold adj at go
   revert go
   generalize l.getD v.toNat cg=p
   intro go
   by_cases c6:p.Op=6
   ·rw[bm c6]at go
    rw[ak c6,bm (by rw[b8];omega)]
    exact go
   rw[bn c6]at go
   rw[aj c6]
   by_cases c7:p.Op=7
   ·rw[bm c7]at go
    rw[ak c7,bm (by rw[b8];omega)]
    exact go
   rw[bn c7]at go
   rw[aj c7]
   by_cases c4:p.Op=4
   ·rw[bm c4]at go
    rw[ak c4]
    cases b with
    | true =>
     rw[bm rfl]at go
     rw[bm rfl,bm (by rw[b8];omega),hw]
     exact go
    | false =>
     rw[bn (by decide),hnil]at go
     rw[bn (by decide)]
     exact go
   rw[bn c4]at go
   rw[aj c4]
   by_cases c5:p.Op=5
   ·rw[bm c5]at go
    rw[ak c5]
    cases e with
    | true =>
     rw[bm rfl]at go
     rw[bm rfl,bm (by rw[b8];omega),hw]
     exact go
    | false =>
     rw[bn (by decide),hnil]at go
     rw[bn (by decide)]
     exact go
   rw[bn c5,hnil]at go
   rw[aj c5]
   exact go
theorem Jt(f:List Bool)(hf:f.length≤1000):ub f=some (eh f 0 f.length,()):=by
 have key:∀ (d i:Nat) (t:List Int),i+d=f.length→t.length≤i→kO f t (i:Int)=some (t++eh f i d,()):=by
  intro d
  induction d with
  | zero =>
   intro i t hi ht
   rw[yB,aq]
   show _=some (t++[],())
   rw[aI]
  | succ d ih =>
   intro i t hi ht
   have hi':i<f.length:=by omega
   rw[yB,ap,al,cP hi' (by omega),af,show d+1=1+d by omega,Fq]
   have hm:eh f i 1=if f.getD i false=true then [(i:Int)]else []:=by
    unfold eh
    rw[show List.range' i 1=[i]from rfl,List.filter_cons]
    split <;> rfl
   rw[hm]
   by_cases c:f.getD i false=true
   ·rw[bm c,bm c,bm (by rw[b8];omega)]
    have:=ih (i+1) (t++[(i:Int)]) (by omega) (by simp;omega)
    rw[ah]at this
    exact this
   ·rw[bn c,bn c,bg]
    exact ih (i+1) t (by omega) (by omega)
 rw[Je]
 have:=key f.length 0 [] (by omega) (aH _)
 rwa [bg]at this
theorem HX{l:List bA}(hl:l.length≤1000)(at_:List Int)(hat:at_.length≤1000000)(b e:Bool):∃ f:List Bool,kE l at_ b e=some (eh f 0 l.length,())∧∀ k:Nat,k<l.length→(f.getD k false=true↔Rch l at_ b e k):=by
 have key:∀ (d i:Nat) (f:List Bool),i+d=at_.length→Mk l at_ b e f []→(∀ (j:Nat) (hj:j<at_.length),j<i→0≤at_[j]→at_[j]<(l.length:Int)→f.getD at_[j].toNat false=true) →
   ∃ g:List Bool,pN l at_ b e f (i:Int)=some (eh g 0 l.length,())∧∀ k:Nat,k<l.length→(g.getD k false=true↔Rch l at_ b e k):=by
  intro d
  induction d with
  | zero =>
   intro i f hi h ha
   obtain⟨h1,h2,h3,h4⟩:=h
   rw[xQ,aq,Jt f (by omega),aa,h1]
   refine⟨f,rfl,fun k hk=>⟨h2 k,fun hx=>?_⟩⟩
   have all:∀ y:Int,Rch l at_ b e y→f.getD y.toNat false=true:=fun y hy=>by
    induction hy with
    | base g1 g2 g3 =>
     obtain⟨j,hj,rfl⟩:=bk.1 g1
     exact ha j hj (by omega) g2 g3
    | step g0 g1 g2 g3 ih =>
     rcases h4 _ ih _ g1 g2 g3 with h | h
     ·exact h
     ·cases h
   have:=all k hx
   rwa [af]at this
  | succ d ih =>
   intro i f hi h ha
   have hi':i<at_.length:=by omega
   obtain⟨h1,h2,h3,h4⟩:=h
   rw[xQ,ap,al,dp hi',Jd]
   have hc:=List.count_le_length (a:=false) (l:=f)
   obtain⟨f',e1,e2,e3,e4⟩:=HW hl at_ b e (3*f.count false+1) f [at_[i]] (by simp) (by omega) ⟨h1,h2,fun y hy y0 y1=>.base (by rw[aK.1 hy];exact aW hi') y0 y1,fun k hk y hy y0 y1=>(h4 k hk y hy y0 y1).imp id fun h=>by cases h⟩
   rw[e1,aa]
   dsimp only
   rw[cP hi' (by omega)]
   refine ih (i+1) f' (by omega) e2 fun j hj hji x0 x1=>?_
   by_cases hj':j=i
   ·subst hj';exact e4 _ (aK.2 rfl) x0 x1
   ·exact e3 _ (ha j hj (by omega) x0 x1)
 rw[G8,bm ⟨by omega,by omega,by rw[b8];omega⟩,af]
 have hno:∀ k:Nat,(List.replicate l.length false).getD k false=false:=fun k=>by
  rw[List.getD_eq_getElem?_getD,List.getElem?_replicate];split <;> rfl
 exact key at_.length 0 _ (by omega) ⟨a8,fun k hk=>(by rw[hno]at hk;cases hk),fun y hy=>(by cases hy),fun k hk=>(by rw[hno]at hk;cases hk)⟩ (fun j hj h=>absurd h (by omega))
def plB(p:bA)(n:Int):Bool :=
 if p.Op=1 then decide (0≤p.C∧p.C≤255)&&((decide (p.Set=[]) && !p.Not)&&(decide (p.A=0)&&decide (p.B=0)))
 else if p.Op=3 then decide (p.C=0)&&(decide (p.A=0)&&decide (p.B=0))
 else if p.Op=6 then decide (p.C=0)&&((decide (p.Set=[]) && !p.Not)&&(decide (0≤p.A∧p.A≤w64 (n-1))&&decide (p.B=0)))
 else if p.Op=7 then decide (p.C=0)&&((decide (p.Set=[]) && !p.Not)&&(decide (0≤p.A∧p.A≤w64 (n-1))&&decide (0≤p.B∧p.B≤w64 (n-1))))
 else if p.Op=2∨p.Op=4∨p.Op=5∨p.Op=8 then decide (p.C=0)&&((decide (p.Set=[]) && !p.Not)&&(decide (p.A=0)&&decide (p.B=0)))
 else false
theorem Ju(p:bA)(n:Int):uc p n=some (plB p n,()):=by
 rw[Jk]
 simp only[Jf,Jg,Jh,Ji,Jj,fh,aa]
 unfold plB
 generalize w64 (n-1)=m
 by_cases c1:p.Op=1
 ·by_cases hC:0≤p.C∧p.C≤255
  ·by_cases hs:p.Set=[] <;> by_cases hn:p.Not <;> by_cases hA:p.A=0 <;> by_cases hB:p.B=0 <;> simp[c1,hC,hs,hn,hA,hB]
  ·have hC':p.C≠0:=fun h=>hC (by omega)
   by_cases hs:p.Set=[] <;> by_cases hn:p.Not <;> by_cases hA:p.A=0 <;> by_cases hB:p.B=0 <;> simp[c1,hC,hC',hs,hn,hA,hB]
 by_cases hC:p.C=0
 ·by_cases c3:p.Op=3
  ·by_cases hA:p.A=0 <;> by_cases hB:p.B=0 <;> simp[c3,hC,hA,hB]
  by_cases c6:p.Op=6
  ·by_cases hs:p.Set=[] <;> by_cases hn:p.Not <;> by_cases hA:0≤p.A∧p.A≤m <;> by_cases hB:p.B=0 <;> simp[c6,hC,hs,hn,hA,hB]
  by_cases c7:p.Op=7
  ·by_cases hs:p.Set=[] <;> by_cases hn:p.Not <;> by_cases hA:0≤p.A∧p.A≤m <;> by_cases hB:0≤p.B∧p.B≤m <;> simp[c7,hC,hs,hn,hA,hB]
  by_cases c2:p.Op=2
  ·by_cases hs:p.Set=[] <;> by_cases hn:p.Not <;> by_cases hA:p.A=0 <;> by_cases hB:p.B=0 <;> simp[c2,hC,hs,hn,hA,hB]
  by_cases c4:p.Op=4
  ·by_cases hs:p.Set=[] <;> by_cases hn:p.Not <;> by_cases hA:p.A=0 <;> by_cases hB:p.B=0 <;> simp[c4,hC,hs,hn,hA,hB]
  by_cases c5:p.Op=5
  ·by_cases hs:p.Set=[] <;> by_cases hn:p.Not <;> by_cases hA:p.A=0 <;> by_cases hB:p.B=0 <;> simp[c5,hC,hs,hn,hA,hB]
  by_cases c8:p.Op=8
  ·by_cases hs:p.Set=[] <;> by_cases hn:p.Not <;> by_cases hA:p.A=0 <;> by_cases hB:p.B=0 <;> simp[c8,hC,hs,hn,hA,hB]
  have hno:¬ (1≤p.Op∧p.Op≤8):=by omega
  simp[c1,c2,c3,c4,c5,c6,c7,c8,hno]
 ·have e5:(decide (p.C=0))=false:=ae hC
  by_cases c3:p.Op=3
  ·simp[c3,hC]
  by_cases c6:p.Op=6
  ·simp[c6,hC]
  by_cases c7:p.Op=7
  ·simp[c7,hC]
  simp[c1,c3,c6,c7,hC]
theorem zL(l:List Int)(c:Int):(l.any fun x=>decide (x=c))=decide (c∈l):=by
 cases h:decide (c∈l) with
 | true=>exact List.any_eq_true.2 ⟨c,of_decide_eq_true h,by simp⟩
 | false =>
  have h:=of_decide_eq_false h
  rw[← aU]
  intro e
  obtain⟨x,hx,e⟩:=List.any_eq_true.1 e
  exact h (by rw[← of_decide_eq_true e];exact hx)
theorem Jm(l:List Int)(c:Int)(hl:l.length≤4294967296):ud l c=some (decide (c∈l),()):=by
 rw[Jl]
 have h:=A6 (fun i=>iD l c i) l.length (fun i=>decide (l.getD i 0=c)) (some (true,())) (some (false,()))
  (fun i hi=>by show iD l c _=_;rw[yC,ap,al,dp hi,dQ hi,cP hi (by omega)])
  (by show iD l c _=_;rw[yC,bn (by simp)])
 have h':iD l c 0=_:=h
 rw[h',uM l 0 (fun x=>decide (x=c)),zL]
 by_cases d:c∈l
 ·rw[ac d,bm rfl]
 ·rw[ae d,bn (by decide)]
inductive R
 | err (e:Int)
 | stop
 | go (a:Int) (V:List bH) (C:List bo) (out:List Int) (st:List bH)
def cA(o:bz):Int :=
 if o.Code=4∨o.Code=5∨o.Code=6∨o.Code=9∨o.Code=24∨o.Code=26∨o.Code=27∨o.Code=28∨o.Code=31∨o.Code=32∨o.Code=33∨o.Code=35 then 1
 else if o.Code=7∨o.Code=8 then 2 else if o.Code=29 then o.N else if 12≤o.Code∧o.Code≤23 then 2 else 0
abbrev WTy:=bF×(List (List Int)×(List (List Int)×(List Int×(List (List Int)×(List Int×(Int×(Bool×Unit)))))))
def ClW(c:bo):Prop:=TW c.Key∧VW c.Val
def SW(nv:Nat)(s:bF):Prop:=(s.Vars.length=nv∧∀ v∈s.Vars,VW v)∧(s.Cells.length≤40∧∀ c∈s.Cells,ClW c)
def FW(line:List Int)(fs:List (List Int)):Prop:=(line.length≤1000∧Bt line)∧(fs.length≤2000∧∀ f∈fs,f.length≤1000∧Bt f)
def OW(o:List Int):Prop:=o.length≤600∧Bt o
def WW(nv:Nat)(x:WTy):Prop:=SW nv x.1∧FW x.2.2.2.1 x.2.2.2.2.1∧OW x.2.2.2.2.2.1
def StW(st:List bH):Prop:=st.length≤64∧∀ v∈st,VW v
theorem fv{nv:Nat}{s:bF}{vs:List (List Int)}{cs:List (List Int)}{line:List Int}{fs:List (List Int)}{out:List Int}{fuel:Int}{done:Bool}(hs:SW nv s)(hf:FW line fs)(ho:OW out)(e:Int):Tot (eO s vs cs line fs out fuel done e) (fun y=>WW nv y.1):=by
 rw[Ib]
 exact ti (fun _=>ts ⟨hs,hf,ho⟩) (fun _=>ts ⟨hs,hf,ho⟩)
theorem qD{nv:Nat}{s:bF}{vs:List (List Int)}{cs:List (List Int)}{line:List Int}{fs:List (List Int)}{out:List Int}{fuel:Int}{done:Bool}(hs:SW nv s)(hf:FW line fs)(ho:OW out)(t:List Int)(ht:TW t):Tot (jp s vs cs line fs out fuel done t) (fun y=>WW nv y.1):=by
 rw[Im]
 have h1:=ho.1
 have h2:=ht.1
 rw[ar]
 refine ti (fun _=>tb (fv hs hf ho _) (fun _ h=>ts h)) (fun c=>tc (by omega) (ts ⟨hs,hf,?_,fun x hx=>?_⟩))
 ·rw[ab]at c
  show(out++t).length≤600
  rw[ag];omega
 ·rcases aB.1 hx with hx | hx
  ·exact ho.2 x hx
  ·exact ht.2 x hx
theorem jd{nv:Nat}{s:bF}{vs:List (List Int)}{cs:List (List Int)}{line:List Int}{fs:List (List Int)}{out:List Int}{fuel:Int}{done:Bool}(hs:SW nv s)(hf:FW line fs)(ho:OW out){st:List bH}(hst:StW st){v:bH}(hv:VW v):Tot (gM ⟨(),st⟩ s vs cs line fs out fuel done v) (fun y=>StW y.1.stack∧WW nv y.2.1):=by
 rw[It]
 refine ti (fun _=>tb (fv hs hf ho _) (fun _ h=>ts ⟨hst,h⟩)) (fun c=>tc (by have:=hst.1;rw[b8];show st.length+1≤_;omega) (ts ⟨⟨?_,fun x hx=>?_⟩,hs,hf,ho⟩))
 ·rw[ab]at c
  have c':¬ (st.length:Int)=64:=c
  have:=hst.1
  show(st++[v]).length≤64
  rw[ag,bj];omega
 ·rcases aB.1 (show x∈st++[v]from hx)with hx | hx
  ·exact hst.2 x hx
  ·rw[aK.1 hx];exact hv
theorem sv{nv:Nat}{s:bF}{vs:List (List Int)}{cs:List (List Int)}{line:List Int}{fs:List (List Int)}{out:List Int}{fuel:Int}{done:Bool}(hs:SW nv s)(hf:FW line fs)(ho:OW out)(op a b:Int):Tot (kL s vs cs line fs out fuel done op a b) (fun y=>VW y.1∧WW nv y.2.1):=by
 have L1:∀ (n:Int) (ok:Bool),Tot (iB n ok (bI.mk s vs cs line fs out fuel done) cj) (fun y=>VW y.1∧WW nv y.2.1):=fun n ok=>by
  rw[Ih]
  exact ti (fun _=>tb (fv hs hf ho _) (fun _ h=>tb (ge _) (fun _ q=>ts ⟨q,h⟩))) (fun _=>tb (ge _) (fun _ q=>ts ⟨q,hs,hf,ho⟩))
 rw[Ii]
 refine ti (fun _=>tb (zF _ _) (fun _ _=>L1 _ _)) (fun _=>ti (fun _=>tb (JF _ _) (fun _ _=>L1 _ _)) (fun _=>ti (fun _=>tb (FA _ _) (fun _ _=>L1 _ _)) (fun _=>ti (fun _=>tb (fv hs hf ho _) (fun _ h=>ts ⟨jD _ _,h⟩)) (fun c=>tb (AL _ _) (fun _ _=>ti (fun _=>tc ?_ (L1 _ _)) (fun _=>L1 _ _))))))
 rw[ab]at c;exact c
theorem A2{nv:Nat}{s:bF}{vs:List (List Int)}{cs:List (List Int)}{line:List Int}{fs:List (List Int)}{out:List Int}{fuel:Int}{done:Bool}(hs:SW nv s)(hf:FW line fs)(ho:OW out){v:bH}(hv:VW v):Tot (tw s vs cs line fs out fuel done v) (fun y=>VW y.1∧WW nv y.2.1):=by
 rw[Ic]
 refine tb (dY hv) (fun n _=>ti (fun _=>tb (sK hf.1.1 hf.1.2) (fun _ h=>ts ⟨h,hs,hf,ho⟩)) (fun c=>?_))
 rw[fh,aa]
 refine ti (fun _=>tb (sK (s:=[]) (by simp) (fun x hx=>by cases hx)) (fun _ h=>ts ⟨h,hs,hf,ho⟩)) (fun d=>?_)
 have d':1≤w64 (Int.tdiv n.1 1000000)∧w64 (Int.tdiv n.1 1000000)≤(fs.length:Int):=by simpa using d
 have hl:=hf.2.1
 rw[ar (n:=w64 (Int.tdiv n.1 1000000)-1)]
 have hi:(w64 (Int.tdiv n.1 1000000)-1).toNat<fs.length:=by omega
 refine tc (by omega) (tb (P:=fun y=>VW y.1) ?_ (fun _ h=>ts ⟨h,hs,hf,ho⟩))
 rw[dQ hi]
 have:=hf.2.2 _ (aW hi)
 exact sK this.1 this.2
theorem Ak{nv:Nat}{s:bF}{vs:List (List Int)}{cs:List (List Int)}{line:List Int}{fs:List (List Int)}{out:List Int}{fuel:Int}{done:Bool}(hs:SW nv s)(hf:FW line fs)(ho:OW out){a b:bH}(ha:VW a)(hb:VW b):Tot (tv s vs cs line fs out fuel done a b) (fun y=>VW y.1∧WW nv y.2.1):=by
 rw[H9]
 refine tb (dU ha) (fun x hx=>tb (dU hb) (fun y hy=>tc (by have:=hx.1;have:=hy.1;omega) (ti (fun _=>tb (fv hs hf ho _) (fun _ h=>ts ⟨jD _ _,h⟩)) (fun c=>ts ⟨⟨?_,fun z hz=>?_⟩,hs,hf,ho⟩))))
 ·rw[ab]at c
  show(x.1++y.1).length≤300
  omega
 ·rcases aB.1 (show z∈x.1++y.1 from hz)with hz | hz
  ·exact hx.2 z hz
  ·exact hy.2 z hz
theorem uR{nv:Nat}{s:bF}(hs:SW nv s)(n:Int)(k:List Int):Tot (jk s n k) (fun y=>y.1<(s.Cells.length:Int)):=by
 have key:∀ (d i:Nat),i+d=s.Cells.length→Tot (f5 n k (i:Int) s) (fun y=>y.1<(s.Cells.length:Int)):=by
  intro d
  have hl:=hs.2.1
  induction d with
  | zero =>
   intro i hd
   rw[qd,aq];exact ts (show(-1:Int)<_ by omega)
  | succ d ih =>
   intro i hd
   have hi:i<s.Cells.length:=by omega
   rw[qd,ap,al,cP hi (by omega)]
   exact ti (fun _=>tc (by omega) (ti (fun _=>ts (show(i:Int)<_ by omega)) (fun _=>ih (i+1) (by omega)))) (fun _=>ih (i+1) (by omega))
 rw[ye];exact key s.Cells.length 0 (by omega)
theorem jV{nv:Nat}{s:bF}(hs:SW nv s)(hn:nv≤100):f6 s=some (s,()):=vy (by have:=hs.1.1;omega) (by have:=hs.2.1;omega)
theorem vD{nv:Nat}{s:bF}(hs:SW nv s)(i:Nat):ClW (s.Cells.getD i dV):=by
 by_cases c:i<s.Cells.length
 ·rw[dQ c];exact hs.2.2 _ (aW c)
 ·rw[List.getD_eq_getElem?_getD,List.getElem?_eq_none (by omega)];exact⟨oD,oD⟩
theorem wk{nv:Nat}{s:bF}(hs:SW nv s)(n:Int)(k:List Int):Tot (pJ s n k) (fun y=>VW y.1):=by
 rw[G6]
 refine tb (uR hs n k) (fun y hy=>ti (fun _=>ts (jD _ _)) (fun c=>?_))
 rw[ab]at c
 exact tc (by omega) (ts (vD hs _).2)
theorem Gu{nv:Nat}{s:bF}(hs:SW nv s)(hn:nv≤100)(n:Int){k:List Int}(hk:TW k){v:bH}(hv:VW v):Tot (pL s n k v) (fun y=>SW nv y.1):=by
 have hv1:=hs.1.1
 have hl:=hs.2.1
 rw[Gt s n k v (by omega) (by omega)]
 have hp:∀ C,kv s.Cells n k v=some C→C.length≤40∧∀ c∈C,ClW c:=by
  intro C hC
  unfold kv at hC
  split at hC
  ·cases hC
   refine⟨by rw[aY];exact hl,fun c hc=>?_⟩
   rcases List.mem_or_eq_of_mem_set hc with hc | rfl
   ·exact hs.2.2 c hc
   ·exact⟨(vD hs _).1,hv⟩
  ·split at hC
   ·cases hC
   ·cases hC
    have ins:∀ (p:Nat) (x:bo),ClW x→(im s.Cells p [x]).length≤40∧∀ c∈im s.Cells p [x],ClW c:=by
     intro p x hx
     unfold im
     refine⟨?_,fun c hc=>?_⟩
     ·simp only[ag,aQ,aR,bj];omega
     ·rcases aB.1 hc with hc | hc
      ·exact hs.2.2 c (List.mem_of_mem_take hc)
      ·rcases aB.1 hc with hc | hc
       ·rw[aK.1 hc];exact hx
       ·exact hs.2.2 c (List.mem_of_mem_drop hc)
    exact ins _ _ ⟨hk,hv⟩
 cases e:kv s.Cells n k v with
 | none=>exact ts hs
 | some C=>exact ts ⟨hs.1,hp C e⟩
theorem AO{nv:Nat}{s:bF}(hs:SW nv s)(hn:nv≤100)(n:Int)(k:List Int):Tot (sW s n k) (fun y=>SW nv y.1):=by
 have hl:=hs.2.1
 rw[G5,jV hs hn,aa]
 refine tb (uR hs n k) (fun y hy=>ti (fun c=>?_) (fun _=>ts hs))
 rw[ab]at c
 rw[ar (n:=y.1+1)]
 refine tc (by omega) (tc (by rw[b8,aQ];omega) (tc (by omega) (tc ?_ (ts ⟨hs.1,?_,fun c hc=>?_⟩))))
 ·show(List.take _ (List.drop 0 s.Cells)).length+_≤_
  rw[b8,aQ,aQ,aR,aR];omega
 ·show(List.take (y.1.toNat-0) (List.drop 0 s.Cells)++List.take _ (List.drop _ s.Cells)).length≤40
  rw[ag,aQ,aQ,aR,aR];omega
 ·rcases aB.1 (show c∈List.take (y.1.toNat-0) (List.drop 0 s.Cells)++List.take _ (List.drop _ s.Cells)from hc)with hc | hc
  ·exact hs.2.2 c (List.mem_of_mem_drop (List.mem_of_mem_take hc))
  ·exact hs.2.2 c (List.mem_of_mem_drop (List.mem_of_mem_take hc))
theorem vm{nv:Nat}{s:bF}{vs:List (List Int)}{cs:List (List Int)}{line:List Int}{fs:List (List Int)}{out:List Int}{fuel:Int}{done:Bool}(hs:SW nv s)(hn:nv≤100)(hf:FW line fs)(ho:OW out){st:List bH}(hst:StW st)(n:Int){k:List Int}(hk:TW k){v:bH}(hv:VW v):Tot (qk ⟨(),st⟩ s vs cs line fs out fuel done n k v) (fun y=>StW y.1.stack∧WW nv y.2.1):=by
 rw[Ir]
 exact tb (Gu hs hn n hk hv) (fun y hy=>ti (fun _=>tb (fv hs hf ho _) (fun _ h=>ts ⟨hst,h⟩)) (fun _=>tb (jd hy hf ho hst hv) (fun _ h=>ts h)))
theorem FC{nv:Nat}{s:bF}{vs:List (List Int)}{cs:List (List Int)}{line:List Int}{fs:List (List Int)}{out:List Int}{fuel:Int}{done:Bool}(hs:SW nv s)(hn:nv≤100)(hf:FW line fs)(ho:OW out){st l:List bH}(hst:StW st)(hl:∀ v∈l,VW v){o:bz}(hN:(o.Code=3∨o.Code=4∨o.Code=5)→0≤o.N∧o.N<nv)
  (h1:(o.Code=4∨o.Code=5∨o.Code=6∨o.Code=35)→1≤l.length) (h2:(o.Code=7∨o.Code=8)→2≤l.length):Tot (tF ⟨(),st⟩ s vs cs line fs out fuel done o l) (fun y=>StW y.1.stack∧WW nv y.2.1):=by
 have hv1:=hs.1.1
 have setW:∀ {s':bF} (hs':SW nv s') (i:Nat) {v:bH},VW v→∀ (n e:Int),SW nv ⟨List.set s'.Vars i v,s'.Cells,n,e⟩:=fun {s'} hs' i {v} hv n e=>⟨⟨by rw[← hs'.1.1];exact aY,fun x hx=>by
  rcases List.mem_or_eq_of_mem_set hx with hx | rfl
  ·exact hs'.1.2 x hx
  ·exact hv⟩,hs'.2⟩
 rw[Is]
 refine ti (fun c=>?_) (fun c3=>ti (fun c=>?_) (fun c4=>ti (fun c=>?_) (fun c5=>ti (fun c=>?_) (fun c6=>ti (fun c=>?_) (fun c7=>ti (fun c=>?_) (fun c8=>ti (fun c=>?_) (fun _=>ts ⟨hst,hs,hf,ho⟩)))))))
 ·rw[ab]at c
  have:=hN (.inl c)
  exact tc (by omega) (tb (jd hs hf ho hst (cK hs.1.2 _)) (fun _ h=>ts h))
 ·rw[ab]at c
  have:=hN (.inr (.inl c))
  have:=h1 (.inl c)
  exact tc (by omega) (tc (by omega) (tc (by omega) (tb (jd (setW hs _ (cK hl _) _ _) hf ho hst (cK hl _)) (fun _ h=>ts h))))
 ·rw[ab]at c
  have:=hN (.inr (.inr c))
  have:=h1 (.inr (.inl c))
  refine tc (by omega) (tb (dY (cK hs.1.2 _)) (fun _ _=>tc (by omega) (tb (dY (cK hl _)) (fun _ _=>tb (sv hs hf ho _ _ _) (fun y hy=>ti (fun _=>tc ?_ (tb (jd (setW hy.2.1 _ hy.1 _ _) hy.2.2.1 hy.2.2.2 hst hy.1) (fun _ h=>ts h))) (fun _=>ts ⟨hst,hy.2⟩))))))
  have:=hy.2.1.1.1
  omega
 ·rw[ab]at c
  have:=h1 (.inr (.inr (.inl c)))
  exact tc (by omega) (tb (pp (cK hl _)) (fun k hk=>tb (wk hs _ _) (fun v hv=>tb (jd hs hf ho hst hv) (fun _ h=>ts h))))
 ·rw[ab]at c
  have:=h2 (.inl c)
  exact tc (by omega) (tb (pp (cK hl _)) (fun k hk=>tc (by omega) (tb (vm hs hn hf ho hst _ hk (cK hl _)) (fun _ h=>ts h))))
 ·rw[ab]at c
  have:=h2 (.inr c)
  exact tc (by omega) (tb (pp (cK hl _)) (fun k hk=>tb (wk hs _ _) (fun v hv=>tb (dY hv) (fun _ _=>tc (by omega) (tb (dY (cK hl _)) (fun _ _=>tb (sv hs hf ho _ _ _) (fun y hy=>ti (fun _=>tb (vm hy.2.1 hn hy.2.2.1 hy.2.2.2 hst _ hk hy.1) (fun _ h=>ts h)) (fun _=>ts ⟨hst,hy.2⟩))))))))
 ·rw[ab]at c
  have:=h1 (.inr (.inr (.inr c)))
  exact tc (by omega) (tb (pp (cK hl _)) (fun k hk=>tb (AO hs hn _ _) (fun v hv=>ts ⟨hst,hv,hf,ho⟩)))
theorem Jr(l:List Int)(hl:l.length≤9223372036854775807):s_l9Line l=some (!decide ((10:Int)∈l),()):=by
 rw[Jq]
 have key:∀ (d i:Nat),i+d=l.length→s_l9Line_L1 l i=some (!decide ((10:Int)∈l.drop i),()):=by
  intro d
  induction d with
  | zero =>
   intro i hd
   rw[yE,aq,aX (by omega)];simp
  | succ d ih =>
   intro i hd
   have hi:i<l.length:=by omega
   rw[yE,ap,al,dp hi,cP hi hl,ih (i+1) (by omega),ai hi]
   by_cases h:l[i]=10
   ·rw[ak h,h];simp
   ·rw[aj h]
    have h':¬ (10:Int)=l[i]:=fun e=>h e.symm
    simp only[aL,h',false_or]
 have:=key l.length 0 (by omega)
 simpa using this
def fq(c:bp):Bool :=
 if c.Who = -1 then decide (c.Seq=0)&&decide (c.Line=[])
 else decide (0≤c.Who∧c.Who≤2)&&(decide (1≤c.Seq∧c.Seq≤100000)&&(decide ((c.Line.length:Int)≤60) && !decide ((10:Int)∈c.Line)))
theorem sX(c:bp)(hl:c.Line.length≤9223372036854775807):pO c=some (fq c,()):=by
 rw[G9]
 unfold fq
 simp only[fh,Jr _ hl,aa,ab]
 by_cases h1:c.Who = -1
 ·simp only[bm h1]
  by_cases h2:c.Seq=0
  ·simp only[bm h2,ac h2,Bool.true_and]
  ·simp only[bn h2,ae h2,Bool.false_and]
 ·simp only[bn h1]
  by_cases h2:0≤c.Who∧c.Who≤2
  ·simp only[bm h2,ac h2,Bool.true_and]
   by_cases h3:1≤c.Seq∧c.Seq≤100000
   ·simp only[bm h3,ac h3,Bool.true_and]
    by_cases h4:(c.Line.length:Int)≤60
    ·simp only[bm h4,ac h4,Bool.true_and]
    ·simp only[bn h4,ae h4,Bool.false_and]
   ·simp only[bn h3,ae h3,Bool.false_and]
  ·simp only[bn h2,ae h2,Bool.false_and]
def oQ(l:List bt):Prop:=∀ e∈l,e.C.Line.length≤9223372036854775807
def pc(m:Int)(e:bt):Bool:=decide (0≤e.Term∧e.Term≤m)&&fq e.C
def iX(l:List bt)(m:Int):Bool:=decide ((l.length:Int)≤40)&&l.all (pc m)
theorem IY(l:List bt)(m:Int)(hl:l.length≤4294967296)(hw:oQ l):tW l m=some (iX l m,()):=by
 rw[IX]
 have key:∀ (d i:Nat),i+d=l.length→qv l m i=some ((l.drop i).all (pc m)&&decide ((l.length:Int)≤40),()):=by
  intro d
  induction d with
  | zero =>
   intro i hd
   rw[yv,aq,aX (by omega)];rfl
  | succ d ih =>
   intro i hd
   have hi:i<l.length:=by omega
   have c:(0:Int)≤(i:Int)∧(i:Int)<(l.length:Int):=by omega
   rw[yv,ak c.2,dp hi,cP hi (by omega),ai hi]
   simp only[bm c,fh,sX _ (hw _ (aW hi)),aa]
   rw[ih (i+1) (by omega),List.all_cons]
   unfold pc
   cases decide (0≤l[i].Term∧l[i].Term≤m) with
   | false=>rfl
   | true=>cases fq l[i].C <;> rfl
 have:=key l.length 0 (by omega)
 unfold iX
 rw[Bool.and_comm]
 simpa using this
theorem Ap(l:List Int)(hl:l.length≤4294967296):uz l=some (l,()):=by
 rw[J0,bm (show 0+l.length≤room by rw[b8];omega)]
 cases l with
 | nil=>exact zJ _
 | cons a l=>rfl
theorem rE(d:bq)(hl:d.Bytes.length≤4294967296):kN d=some (d,()):=by
 rw[I8,bm (by rw[b8];omega)];rfl
theorem rA(d:bq)(hl:d.Bytes.length≤4294967296):j8 d=some (d,()):=by
 rw[Bx,Ap _ hl];rfl
def eg(d:bq):Bool:=decide ((d.Bytes.length:Int)≤80000)&&decide (0≤d.Sure∧d.Sure≤(d.Bytes.length:Int))
theorem pT(d:bq):ji d=some (eg d,()):=by
 rw[Hp,fh]
 unfold eg
 by_cases h:(d.Bytes.length:Int)≤80000
 ·rw[ak h,aa,ac h];rfl
 ·rw[aj h,ae h];rfl
theorem pi(d:bq):gx d=some (eg d,()):=by
 rw[Bu,BA]
 unfold eg
 by_cases h:(d.Bytes.length:Int)≤80000
 ·rw[ak h,aa,ac h];rfl
 ·rw[aj h,ae h];rfl
theorem diskOk_iff{d:bq}:eg d=true↔(d.Bytes.length:Int)≤80000∧0≤d.Sure∧d.Sure≤(d.Bytes.length:Int):=by
 unfold eg;simp
set_option linter.defProp false
def ba:=@Int.tdiv_eq_ediv_of_nonneg
def ff:Nat→Int→List Int
 | 0,n=>[n%256]
 | d+1,n=>if n>127 then(n%128+128)::ff d (n/128)else [n%256]
theorem Gs(d:Nat):∀ n:Int,(ff d n).length≤d+1:=by
 induction d with
 | zero=>intro n;simp[ff]
 | succ d ih =>
  intro n;unfold ff;split
  ·have:=ih (n/128);simp;omega
  ·simp
theorem zl(n:Int):w8 n=n%256:=IntKind.wrap_u8 n
theorem HC(d:Nat):∀ (n:Int) (out:List Int),0≤n→n<128 ^ (d+1)→n≤9223372036854775807→out.length+d≤1000→pZ n out=some (out++ff d n,()):=by
 induction d with
 | zero =>
  intro n out h0 h1 h2 h3
  rw[yc,aj (by simp at h1;omega),bm (by rw[b8];omega),zl];rfl
 | succ d ih =>
  intro n out h0 h1 h2 h3
  rw[yc]
  unfold ff
  have c1:out.length+1≤room:=by rw[b8];omega
  by_cases h:n>127
  ·have e:=ih (n/128) (out++[n%128+128]) (by omega) (by rw[Int.pow_succ]at h1;omega) (by omega) (by simp;omega)
   rw[ah,List.singleton_append]at e
   rw[bm h,ak h,bm c1,ba h0,Int.tmod_eq_emod_of_nonneg h0,ar (n:=n/128),ar (n:=n%128+128),zk (n:=n%128+128) (by omega) (by omega)]
   exact e
  ·rw[bn h,aj h,bm c1,zl];rfl
def ce(n:Int):List Int:=if 0≤n∧n≤4611686018427387903 then ff 8 n else []
theorem cH(n:Int):(ce n).length≤9:=by
 unfold ce;split
 ·exact Gs 8 n
 ·simp
theorem ev(n:Int):dk n=some (ce n,()):=by
 rw[HD,fh,aa]
 unfold ce
 by_cases h:0≤n∧n≤4611686018427387903
 ·rw[bm h,bn (by simp[h])]
  exact HC 8 n [] h.1 (by have:=h.2;omega) (by omega) (by simp)
 ·rw[bn h,bm (by simp[h])]
def fg(s:List Int):List Int:=ce s.length++s
theorem fB(s:List Int):(fg s).length≤9+s.length:=by
 unfold fg;rw[ag];have:=cH s.length;omega
theorem kI(s:List Int)(h:s.length≤4000000000):iA s=some (fg s,()):=by
 have:=cH s.length
 rw[HE,ev,aa]
 dsimp only
 rw[bm (by rw[b8];omega),bm (by rw[b8];omega)];rfl
theorem Gq(d:Nat){n:Int}(h:n>127):ff (d+1) n=(n%128+128)::ff d (n/128):=by show(if n>127 then _ else _)=_;rw[bm h]
def Bytes(b:List Int):Prop:=∀ x∈b,0≤x∧x≤255
theorem Gr(d:Nat):∀ n:Int,0≤n→∀ x∈ff d n,0≤x∧x≤255:=by
 induction d with
 | zero=>intro n h x hx;rw[aK.1 (show x∈[n%256]from hx)];omega
 | succ d ih =>
  intro n h x hx
  by_cases hb:n>127
  ·rw[Gq d hb]at hx
   rcases aL.1 hx with rfl | hx
   ·omega
   ·exact ih _ (by omega) x hx
  ·have hp2:ff (d+1) n=[n%256]:=by show(if n>127 then _ else _)=_;rw[bn hb]
   rw[hp2]at hx
   rw[aK.1 hx];omega
theorem Gp(n:Int):Bytes (ce n):=by
 unfold ce
 split
 ·rename_i h;exact Gr 8 n h.1
 ·intro x hx;cases hx
def zig(n:Int):Int:=if n<0 then -2*n-1 else 2*n
def InZ(n:Int):Prop:=-2305843009213693951≤n∧n≤2305843009213693951
instance (n:Int):Decidable (InZ n):=inferInstanceAs (Decidable (_∧_))
def iw(n:Int):List Int:=if InZ n then ce (zig n)else []
theorem HB(n:Int):tm n=some (iw n,()):=by
 rw[HA,fh,aa]
 unfold iw
 by_cases h:InZ n
 ·have hh:=h
  unfold InZ at hh
  rw[bm h,bn (by simp[hh])]
  unfold zig
  by_cases h2:n<0
  ·rw[ak h2,bm h2,ar (n:=-2*n),ar,ev];rfl
  ·rw[aj h2,bn h2,ar,ev];rfl
 ·have hh:=h
  unfold InZ at hh
  rw[bn h,bm (by simp[hh])]
theorem rP{α β ρ:Type}(F:β→Int→Option ρ)(g:β→α→β)(l:List α)(P:Nat→β→Prop)
  (step:∀ (i:Nat) (h:i<l.length) (acc:β),P i acc→F acc i=F (g acc l[i]) ((i+1:Nat):Int)∧P (i+1) (g acc l[i])) (acc:β) (h0:P 0 acc) :
  F acc 0=F (l.foldl g acc) (l.length:Int)∧P l.length (l.foldl g acc):=by
 have key:∀ (d i:Nat) (acc:β),i+d=l.length→P i acc→F acc i=F ((l.drop i).foldl g acc) (l.length:Int)∧P l.length ((l.drop i).foldl g acc):=by
  intro d
  induction d with
  | zero =>
   intro i acc hd hp
   have hi:i=l.length:=by omega
   subst hi
   rw[List.drop_length];exact⟨rfl,hp⟩
  | succ d ih =>
   intro i acc hd hp
   have hi:i<l.length:=by omega
   obtain⟨e1,e2⟩:=step i hi acc hp
   rw[e1,ai hi,List.foldl_cons]
   exact ih (i+1) _ (by omega) e2
 exact key l.length 0 acc (by omega) h0
theorem xr(n:Int):(iw n).length≤9:=by
 unfold iw
 split
 ·exact cH _
 ·simp
def gQ(v:bH):List Int:=(ce v.Kind++iw v.N)++fg v.S
theorem qK(v:bH):(gQ v).length≤27+v.S.length:=by
 unfold gQ
 have h1:=cH v.Kind
 have h2:=xr v.N
 have h3:=fB v.S
 rw[ag,ag];omega
theorem gy{α:Type}(a b:List α):(List.append a b).length=a.length+b.length:=ag
theorem yq(v:bH)(h:v.S.length≤2097152):qp v=some (gQ v,()):=by
 have h1:=cH v.Kind
 have h2:=xr v.N
 have h3:=fB v.S
 rw[IP,ev,HB,kI _ (by omega),aa,aa]
 dsimp only
 rw[bm (by rw[b8];omega),aa,bm (by rw[b8,gy];dsimp only;omega)]
 rfl
def g9(a:List Int)(v:bH):List Int:=a++gQ v
def g8(a:List Int)(c:bo):List Int:=((a++ce c.Name)++fg c.Key)++gQ c.Val
def iU(a:List Int)(n:Int):List Int:=a++ce n
def gq(m:bv):List Int:=m.State.Vars.foldl g9 (ce (m.State.Vars.length:Int))++ce (m.State.Cells.length:Int)
def gp(m:bv):List Int:=((m.State.Cells.foldl g8 (gq m))++ce m.State.Nr)++ce m.State.Err
def i9(m:bv):List Int:=m.Done.foldl iU (gp m)++fg m.Out
def jL(m:bv):Prop :=
 m.State.Vars.length≤8∧(∀ v∈m.State.Vars,v.S.length≤300)∧m.State.Cells.length≤40∧(∀ c∈m.State.Cells,c.Key.length≤300∧c.Val.S.length≤300)∧m.Done.length=3∧m.Out.length≤1500
theorem Be(l:List bH)(h:∀ v∈l,v.S.length≤300):∀ acc:List Int,(l.foldl g9 acc).length≤acc.length+327*l.length:=by
 induction l with
 | nil=>intro acc;simp
 | cons v l ih =>
  intro acc
  have h1:=ih (fun x hx=>h x (aF _ hx)) (g9 acc v)
  have h2:=qK v
  have h3:=h v (aE ..)
  have h4:(g9 acc v).length=acc.length+(gQ v).length:=by unfold g9;rw[ag]
  rw[List.foldl_cons,aS];omega
theorem uI(a:List Int)(c:bo)(h:c.Key.length≤300∧c.Val.S.length≤300):(g8 a c).length≤a.length+645:=by
 unfold g8
 have h1:=cH c.Name
 have h2:=fB c.Key
 have h3:=qK c.Val
 rw[ag,ag,ag];omega
theorem Bd(l:List bo)(h:∀ c∈l,c.Key.length≤300∧c.Val.S.length≤300):∀ acc:List Int,(l.foldl g8 acc).length≤acc.length+645*l.length:=by
 induction l with
 | nil=>intro acc;simp
 | cons v l ih =>
  intro acc
  have h1:=ih (fun x hx=>h x (aF _ hx)) (g8 acc v)
  have h2:=uI acc v (h v (aE ..))
  rw[List.foldl_cons,aS];omega
theorem wg(l:List Int):∀ acc:List Int,(l.foldl iU acc).length≤acc.length+9*l.length:=by
 induction l with
 | nil=>intro acc;simp
 | cons v l ih =>
  intro acc
  have h1:=ih (iU acc v)
  have h2:=cH v
  have h4:(iU acc v).length=acc.length+(ce v).length:=by unfold iU;rw[ag]
  rw[List.foldl_cons,aS];omega
theorem vf{m:bv}(h:jL m):(gq m).length≤2700:=by
 obtain⟨h1,h2,h3,h4,h5,h6⟩:=h
 unfold gq
 have a1:=Be _ h2 (ce (m.State.Vars.length:Int))
 have a2:=cH (m.State.Vars.length:Int)
 have a3:=cH (m.State.Cells.length:Int)
 rw[ag];omega
theorem ve{m:bv}(h:jL m):(gp m).length≤28600:=by
 have hv:=vf h
 obtain⟨h1,h2,h3,h4,h5,h6⟩:=h
 unfold gp
 have a1:=Bd _ h4 (gq m)
 have a2:=cH m.State.Nr
 have a3:=cH m.State.Err
 rw[ag,ag];omega
theorem IM(m:bv)(h:jL m):tR m=some (i9 m,()):=by
 have hv:=vf h
 have hc:=ve h
 obtain⟨h1,h2,h3,h4,h5,h6⟩:=h
 rw[IL,ev,aa]
 dsimp only
 have a2:=cH (m.State.Vars.length:Int)
 obtain⟨f1,_⟩:=rP (fun acc i=>jq acc i m m.State) g9 m.State.Vars (fun i acc=>acc.length≤9+400*i) (fun i hi acc hp=>by
  have hS:=h2 _ (aW hi)
  have hv:=qK m.State.Vars[i]
  refine⟨?_,by show(acc++gQ m.State.Vars[i]).length≤_;rw[ag];omega⟩
  show jq acc i m m.State=jq _ _ m m.State
  rw[ym,ap,al,dp hi,yq _ (by omega),aa,bm (by rw[b8];dsimp only;omega),cP hi (by omega)]
  rfl) (ce (m.State.Vars.length:Int)) (by omega)
 rw[f1,ym,bn (by simp),ev,aa]
 dsimp only
 have e1:List.append (m.State.Vars.foldl g9 (ce (m.State.Vars.length:Int))) (ce (m.State.Cells.length:Int))=gq m:=rfl
 rw[bm (by have:=congrArg List.length e1;rw[gy]at this;rw[b8];omega),e1]
 obtain⟨f2,_⟩:=rP (fun acc i=>jr acc i m m.State) g8 m.State.Cells (fun i acc=>acc.length≤2700+700*i) (fun i hi acc hp=>by
  have hS:=h4 _ (aW hi)
  have hp':acc.length≤2700+700*i:=hp
  refine⟨?_,Nat.le_trans (uI acc _ hS) (by omega)⟩
  show jr acc i m m.State=jr _ _ m m.State
  have q1:=cH m.State.Cells[i].Name
  have q2:=fB m.State.Cells[i].Key
  have q3:=qK m.State.Cells[i].Val
  have hb:(0:Int)≤(i:Int)∧(i:Int)<(m.State.Cells.length:Int):=by omega
  rw[yn,ap,dp hi]
  simp only[bm hb]
  rw[ev,aa,bm (by rw[b8];dsimp only;omega),kI _ (by omega),aa,bm (by rw[b8,gy];dsimp only;omega),yq _ (by omega),aa,bm (by rw[b8,gy,gy];dsimp only;omega),cP hi (by omega)]
  rfl) (gq m) (by omega)
 rw[f2,yn,bn (by simp),ev,aa]
 dsimp only
 have e2:List.append (List.append (m.State.Cells.foldl g8 (gq m)) (ce m.State.Nr)) (ce m.State.Err)=gp m:=rfl
 have e2l:=congrArg List.length e2
 rw[gy,gy]at e2l
 rw[bm (by rw[b8];omega),ev,aa]
 dsimp only
 rw[bm (by rw[b8,gy];omega),e2]
 obtain⟨f3,_⟩:=rP (fun acc i=>js acc i m) iU m.Done (fun i acc=>acc.length≤28600+9*i) (fun i hi acc hp=>by
  have q1:=cH m.Done[i]
  refine⟨?_,by show(acc++ce m.Done[i]).length≤_;rw[ag];omega⟩
  show js acc i m=js _ _ m
  rw[yp,ap,al,dp hi,ev,aa,bm (by rw[b8];dsimp only;omega),cP hi (by omega)]
  rfl) (gp m) (by omega)
 have q4:=fB m.Out
 have q5:=wg m.Done (gp m)
 rw[f3,yp,bn (by simp),kI _ (by omega),aa,bm (by rw[b8];dsimp only;omega)]
 rfl
theorem Fj{m:bv}(h:jL m):(i9 m).length≤30200:=by
 have hc:=ve h
 obtain⟨h1,h2,h3,h4,h5,h6⟩:=h
 unfold i9
 have q4:=fB m.Out
 have q5:=wg m.Done (gp m)
 rw[ag];omega
theorem vt{l:List bA}(hl:l.length≤1000)(at_:List Int)(hat:at_.length≤1000000)(b e:Bool):Tot (kE l at_ b e) (fun y=>y.1.length≤1000∧∀ x∈y.1,0≤x∧x<(l.length:Int)):=by
 obtain⟨f,e4,_⟩:=HX hl at_ hat b e
 refine te e4 ⟨Nat.le_trans (Fp _ _ _) hl,fun x hx=>?_⟩
 obtain⟨i,rfl,h1,h2,_⟩:=marks_mem.1 hx
 omega
theorem FE(l:List bA)(hl:l.length≤1000):Tot (tl l) (fun _=>True):=by
 have key:∀ (d i:Nat),i+d=l.length→Tot (pY l (l.length:Int) (i:Int)) (fun _=>True):=by
  intro d
  induction d with
  | zero =>
   intro i hd
   rw[yb,aq,fh,aa];exact ts trivial
  | succ d ih =>
   intro i hd
   have hi:i<l.length:=by omega
   rw[yb,ap,al,Ju,aa,cP hi (by omega)]
   exact ti (fun _=>ts trivial) (fun _=>tc (by omega) (ti (fun _=>ts trivial) (fun _=>ih (i+1) (by omega))))
 rw[Hz];exact key l.length 0 (by omega)
theorem JM(p:bA)(c:Int)(hl:p.Set.length≤1000):Tot (ue p c) (fun _=>True):=by
 rw[Jn]
 refine ti (fun _=>ts trivial) (fun _=>ti (fun _=>ts trivial) (fun _=>ti (fun _=>?_) (fun _=>ts trivial)))
 rw[Jm _ _ (by omega),aa];exact ts trivial
theorem Ft{l:List bA}(hl:l.length≤1000)(hS:∀ p∈l,p.Set.length≤1000){s:List Int}(hs:s.length≤1000000)(p:Nat)(hp:p≤s.length):Tot (tk l s (p:Int)) (fun _=>True):=by
 have L1:∀ (d p:Nat),p+d=s.length→∀ (m:List Int) (best:Int),m.length≤1000→(∀ x∈m,0≤x∧x<(l.length:Int))→Tot (pW l s m best (p:Int)) (fun _=>True):=by
  intro d
  induction d with
  | zero =>
   intro p hd m best hm hb
   have L2:∀ best,Tot (kG l s m best (p:Int)) (fun _=>True):=fun best=>by
    rw[x7,ap];exact ts trivial
   rw[x6]
   refine ti (fun c=>?_) (fun _=>ts trivial)
   rw[ab]at c
   rw[ar (n:=(m.length:Int)-1)]
   exact tc (by omega) (ti (fun _=>L2 _) (fun _=>L2 _))
  | succ d ih =>
   intro p hd m best hm hb
   have hp:p<s.length:=by omega
   have L3:∀ (best:Int) (e i:Nat) (t:List Int),i+e=m.length→t.length≤i→Tot (kH l s m best (p:Int) t (i:Int)) (fun _=>True):=by
    intro best e
    induction e with
    | zero =>
     intro i t hi ht
     rw[x8,aq,cP hp (by omega)]
     exact tb (vt hl t (by omega) _ _) (fun y hy=>ih (p+1) (by omega) y.1 best hy.1 hy.2)
    | succ e ihe =>
     intro i t hi ht
     have hi':i<m.length:=by omega
     have hv:=hb _ (aW hi')
     have hvn:m[i].toNat<l.length:=by omega
     rw[x8,ap,al,dp hi',al,al,dQ hvn,cP hi' (by omega)]
     exact tb (JM _ _ (hS _ (aW hvn))) (fun y _=>ti (fun _=>tc (by omega) (tc (by rw[b8];omega) (ihe (i+1) _ (by omega) (by show(t++[_]).length≤_;rw[ag,bj];omega)))) (fun _=>ihe (i+1) t (by omega) (by omega)))
   have L2:∀ best,Tot (kG l s m best (p:Int)) (fun _=>True):=fun best=>by
    rw[x7,aq]
    exact L3 best m.length 0 [] (by omega) (by simp)
   rw[x6]
   refine ti (fun c=>?_) (fun _=>ts trivial)
   rw[ab]at c
   rw[ar (n:=(m.length:Int)-1)]
   exact tc (by omega) (ti (fun _=>L2 _) (fun _=>L2 _))
 rw[Hw]
 refine tb (FE l hl) (fun _ _=>ti (fun _=>ts trivial) (fun _=>?_))
 rw[fh,aa]
 exact ti (fun _=>ts trivial) (fun _=>tb (vt hl [0] (by simp) _ _) (fun y hy=>L1 (s.length-p) p (by omega) y.1 (-1) hy.1 hy.2))
def rj(pat:List Int):Prop:=∃ r ok l,s_RexParse pat=some (r,ok,())∧s_NfaOf r=some (l,())∧l.length≤1000∧∀ p∈l,p.Set.length≤1000
theorem v6{pat:List Int}(hp:rj pat)(s:List Int)(hs:s.length≤1000):Tot (qh pat s) (fun y=>VW y.1):=by
 obtain⟨r,ok,l,e1,e2,hl,hS⟩:=hp
 have key:∀ (d p:Nat),p+d=s.length+1→Tot (pX l s (p:Int)) (fun _=>True):=by
  intro d
  induction d with
  | zero =>
   intro p hd
   rw[ya,aq];exact ts trivial
  | succ d ih =>
   intro p hd
   rw[ya,ap,ar (n:=(p:Int)+1)]
   exact tb (Ft hl hS (by omega) p (by omega)) (fun _ _=>ti (fun _=>ts trivial) (fun _=>ih (p+1) (by omega)))
 rw[Id,e1,aa]
 dsimp only
 rw[Hx,e2,aa]
 dsimp only
 rw[Hy]
 exact tb (P:=fun _=>True) (tb (key (s.length+1) 0 (by omega)) (fun _ _=>ts trivial)) (fun(y:Bool×Unit) _=>tb (qL _) (fun _ h=>ts h))
structure OpW (nv len at_:Int) (o:bz):Prop where
 code:1≤o.Code∧o.Code≤36
 text:TW o.S
 var:(o.Code=3∨o.Code=4∨o.Code=5)→0≤o.N∧o.N<nv
 call:o.Code=29→(1≤o.N∧o.N≤3)∧o.S∈[[108,101,110,103,116,104],[105,110,116],[105,110,100,101,120],[117,112,112,101,114],[108,111,119,101,114],[115,117,98,115,116,114]]
 pat:(o.Code=24∨o.Code=25)→rj o.S
 jump:(o.Code=30∨o.Code=31)→0≤o.N∧o.N<len
 next:o.Code≠36→at_+1<len
theorem FL{o:bz}(h:1≤o.Code∧o.Code≤36):tJ o=some (cA o,()):=by
 rw[IB]
 simp only[IA,fh,aa]
 unfold cA
 by_cases hr:12≤o.Code∧o.Code≤23
 ·have n:∀ k:Int,(k<12∨23<k)→¬ o.Code=k:=fun k h1 h2=>by omega
  simp[n,hr.1,hr.2]
 ·have ee:o.Code=1∨o.Code=2∨o.Code=3∨o.Code=4∨o.Code=5∨o.Code=6∨o.Code=7∨o.Code=8∨o.Code=9∨o.Code=10∨o.Code=11∨o.Code=24∨o.Code=25∨o.Code=26∨o.Code=27∨o.Code=28∨o.Code=29∨o.Code=30∨o.Code=31∨o.Code=32∨o.Code=33∨o.Code=34∨o.Code=35∨o.Code=36:=by omega
  rcases ee with e | e | e | e | e | e | e | e | e | e | e | e | e | e | e | e | e | e | e | e | e | e | e | e <;> simp[e]
theorem ef{nv:Nat}{s:bF}{vs:List (List Int)}{cs:List (List Int)}{line:List Int}{fs:List (List Int)}{out:List Int}{fuel:Int}{done:Bool}(hs:SW nv s)(hf:FW line fs)(ho:OW out){st:List bH}(hst:StW st){v:bH}(hv:VW v):Tot (dN ⟨(),st⟩ s vs cs line fs out fuel done v) (fun y=>StW y.1.stack∧WW nv y.2.1):=by
 rw[IC]
 exact ti (fun _=>tb (jd hs hf ho hst hv) (fun _ h=>ts h)) (fun _=>ts ⟨hst,hs,hf,ho⟩)
theorem JT{nv:Nat}{s:bF}{vs:List (List Int)}{cs:List (List Int)}{line:List Int}{fs:List (List Int)}{out:List Int}{fuel:Int}{done:Bool}(hs:SW nv s)(hf:FW line fs)(ho:OW out){st l:List bH}(hst:StW st)(hl:∀ v∈l,VW v){o:bz}{len at_:Int}(hO:OpW nv len at_ o)(hlen:(l.length:Int)=cA o)(hc:o.Code≤29)
  (hn:¬ (o.Code=3∨o.Code=4∨o.Code=5∨o.Code=6∨o.Code=7∨o.Code=8)):Tot (tK ⟨(),st⟩ s vs cs line fs out fuel done o l) (fun y=>StW y.1.stack∧WW nv y.2.1):=by
 have hcd:=hO.code
 rw[ID]
 refine ti (fun c=>tb (ge _) (fun _ h=>ef hs hf ho hst h)) (fun c1=>ti (fun c=>ti (fun _=>tb (fv hs hf ho _) (fun _ h=>ef h.1 h.2.1 h.2.2 hst hO.text)) (fun _=>ef hs hf ho hst hO.text)) (fun c2=>ti (fun c=>?_) (fun c9=>ti (fun c=>tb (ge _) (fun _ h=>ef hs hf ho hst h)) (fun c10=>ti (fun c=>tb (ge _) (fun _ h=>ef hs hf ho hst h)) (fun c11=>ti (fun c=>?_) (fun c17=>ti (fun c=>?_) (fun c24=>ti (fun c=>?_) (fun c25=>ti (fun c=>?_) (fun c26=>ti (fun c=>?_) (fun c27=>ti (fun c=>?_) (fun c28=>ti (fun c=>?_) (fun c29=>?_))))))))))))
 ·rw[ab]at c
  have hk:cA o=1:=by unfold cA;simp[c]
  exact tc (by omega) (tb (A2 hs hf ho (cK hl _)) (fun _ h=>ef h.2.1 h.2.2.1 h.2.2.2 hst h.1))
 ·rw[ab]at c
  have hk:cA o=2:=by unfold cA;simp[c]
  exact tc (by omega) (tc (by omega) (tb (Ak hs hf ho (cK hl _) (cK hl _)) (fun _ h=>ef h.2.1 h.2.2.1 h.2.2.2 hst h.1)))
 ·rw[ab]at c
  have hk:cA o=1:=by unfold cA;simp[c]
  exact tc (by omega) (tb (dU (cK hl _)) (fun y hy=>tb (v6 (hO.pat (.inl c)) _ (by have:=hy.1;omega)) (fun _ h=>ef hs hf ho hst h)))
 ·rw[ab]at c
  exact tb (v6 (hO.pat (.inr c)) _ hf.1.1) (fun _ h=>ef hs hf ho hst h)
 ·rw[ab]at c
  have hk:cA o=1:=by unfold cA;simp[c]
  exact tc (by omega) (tb (uw _) (fun _ _=>tb (qL _) (fun _ h=>ef hs hf ho hst h)))
 ·rw[ab]at c
  have hk:cA o=1:=by unfold cA;simp[c]
  exact tc (by omega) (tb (dY (cK hl _)) (fun _ _=>tb (ge _) (fun _ h=>ef hs hf ho hst h)))
 ·rw[ab]at c
  have hk:cA o=1:=by unfold cA;simp[c]
  exact tc (by omega) (tb (uw _) (fun _ _=>tb (qL _) (fun _ h=>ef hs hf ho hst h)))
 ·rw[ab]at c
  have hk:cA o=o.N:=by unfold cA;simp[c]
  obtain⟨q1,q2⟩:=hO.call c
  exact tb (Ai hl (by omega) (by omega) _ q2) (fun _ h=>ef hs hf ho hst h)
 ·rw[ab]at c1 c2 c9 c10 c11 c17 c24 c25 c26 c27 c28 c29
  have hk:cA o=2:=by
   have hr:12≤o.Code∧o.Code≤23:=by omega
   unfold cA
   rw[am,am,bn c29,bm hr]
  refine ti (fun c=>tc (by omega) (tb (dY (cK hl _)) (fun _ _=>tc (by omega) (tb (dY (cK hl _)) (fun _ _=>tb (sv hs hf ho _ _ _) (fun _ h=>ef h.2.1 h.2.2.1 h.2.2.2 hst h.1)))))) (fun c=>?_)
  rw[ab]at c
  rw[ar (n:=o.Code-18)]
  exact tc (by omega) (tc (by omega) (tb (FY (by omega) (cK hl _) (cK hl _)) (fun _ h=>ef hs hf ho hst h)))
theorem JD{nv:Nat}{s:bF}{vs:List (List Int)}{cs:List (List Int)}{line:List Int}{fs:List (List Int)}{out:List Int}{fuel:Int}{done:Bool}(hs:SW nv s)(hn:nv≤100)(hf:FW line fs)(ho:OW out){st:List bH}(hst:StW st){o:bz}{len at_:Int}(hO:OpW nv len at_ o)(ha:0≤at_)(hlen:len≤100000)(ha2:at_<len) :
  Tot (tI ⟨(),st⟩ s vs cs line fs out fuel done o at_) (fun y=>(y.2.1=true→0≤y.1∧y.1<len)∧StW y.2.2.1.stack∧WW nv y.2.2.2.1):=by
 have hcd:=hO.code
 have hst1:=hst.1
 have htk:0≤cA o∧cA o≤3:=by
  unfold cA
  split
  ·omega
  ·split
   ·omega
   ·split
    ·rename_i c
     have:=(hO.call c).1;omega
    ·split <;> omega
 have hw:w64 ((st.length:Int)-cA o)=(st.length:Int)-cA o:=ar
 rw[Iz,FL hcd,aa]
 dsimp only
 rw[hw]
 refine ti (fun _=>tb (fv hs hf ho _) (fun _ h=>ts ⟨(fun e=>by cases e),hst,h⟩)) (fun c=>?_)
 rw[ab]at c
 have hlist:∀ v∈List.append [] (List.take (st.length-((st.length:Int)-cA o).toNat) (List.drop ((st.length:Int)-cA o).toNat st)),VW v:=fun v hv=>hst.2 v (List.mem_of_mem_drop (List.mem_of_mem_take (show v∈List.take _ _ from hv)))
 have hll:((List.append [] (List.take (st.length-((st.length:Int)-cA o).toNat) (List.drop ((st.length:Int)-cA o).toNat st))).length:Int)=cA o:=by
  show((List.take _ (List.drop _ st)).length:Int)=_
  rw[aQ,aR];omega
 have hst':StW (List.take ((st.length:Int)-cA o).toNat st):=⟨by rw[aQ];omega,fun v hv=>hst.2 v (List.mem_of_mem_take hv)⟩
 generalize List.append [] (List.take (st.length-((st.length:Int)-cA o).toNat) (List.drop ((st.length:Int)-cA o).toNat st))=l at hlist hll ⊢
 generalize List.take ((st.length:Int)-cA o).toNat st=st' at hst' ⊢
 refine tc (by omega) (tc (by rw[b8,aQ,aR];omega) (tc (by omega) ?_))
 have L1:∀ {s':bF} {vs' cs':List (List Int)} {line':List Int} {fs':List (List Int)} {out':List Int} {fuel':Int} {done':Bool} {st2:List bH},o.Code≠36→SW nv s'→FW line' fs'→OW out'→StW st2→Tot (f7 at_ () st2 s' vs' cs' line' fs' out' fuel' done') (fun y=>(y.2.1=true→0≤y.1∧y.1<len)∧StW y.2.2.1.stack∧WW nv y.2.2.2.1):=fun {s' vs' cs' line' fs' out' fuel' done' st2} h36 a1 a2 a3 a4=>by
  have:=hO.next h36
  rw[Ix,ar (n:=at_+1)]
  exact ts ⟨fun _=>⟨by show 0≤at_+1;omega,this⟩,a4,a1,a2,a3⟩
 refine ti (fun c=>ts ⟨(fun e=>by cases e),hst',hs,hf,ho⟩) (fun c36=>ti (fun c=>?_) (fun c30=>ti (fun c=>?_) (fun c31=>ti (fun c=>L1 (by rw[ab]at c36;exact c36) hs hf ho hst') (fun c32=>ti (fun c=>?_) (fun c33=>ti (fun c=>tb (qD hs hf ho _ ?_) (fun _ h=>L1 (by rw[ab]at c36;exact c36) h.1 h.2.1 h.2.2 hst')) (fun c34=>?_))))))
 ·rw[ab]at c
  exact ts ⟨fun _=>hO.jump (.inl c),hst',hs,hf,ho⟩
 ·rw[ab]at c c36
  have hk:cA o=1:=by unfold cA;simp[c]
  exact tc (by omega) (tb (uw _) (fun _ _=>ti (fun _=>ts ⟨fun _=>hO.jump (.inr c),hst',hs,hf,ho⟩) (fun _=>L1 c36 hs hf ho hst')))
 ·rw[ab]at c c36
  have hk:cA o=1:=by unfold cA;simp[c]
  refine ti (fun _=>tb (qD hs hf ho _ ⟨by simp,fun x hx=>by rw[aK.1 hx];omega⟩) (fun _ h=>tc (by omega) (tb (dU (cK hlist _)) (fun t ht=>tb (qD h.1 h.2.1 h.2.2 _ ht) (fun _ q=>L1 c36 q.1 q.2.1 q.2.2 hst'))))) (fun _=>tc (by omega) (tb (dU (cK hlist _)) (fun t ht=>tb (qD hs hf ho _ ht) (fun _ q=>L1 c36 q.1 q.2.1 q.2.2 hst'))))
 ·exact⟨by simp,fun x hx=>by rw[aK.1 hx];omega⟩
 ·rw[ab]at c36 c30 c31 c32 c33 c34
  have N:∀ b:Bool,(o.Code=3∨o.Code=4∨o.Code=5∨o.Code=6∨o.Code=7∨o.Code=8∨o.Code=35↔b=true)→Tot (f8 at_ l b (bK.mk () st') (bI.mk s vs cs line fs out fuel done) o) (fun y=>(y.2.1=true→0≤y.1∧y.1<len)∧StW y.2.2.1.stack∧WW nv y.2.2.2.1):=fun b hb=>by
   rw[Iy]
   refine ti (fun e=>tb (FC hs hn hf ho hst' hlist hO.var (fun h=>?_) (fun h=>?_)) (fun _ h=>L1 c36 h.2.1 h.2.2.1 h.2.2.2 h.1)) (fun e=>tb (JT hs hf ho hst' hlist hO hll ?_ ?_) (fun _ h=>L1 c36 h.2.1 h.2.2.1 h.2.2.2 h.1))
   ·have hk:cA o=1:=by unfold cA;rcases h with h | h | h | h <;> simp[h]
    omega
   ·have hk:cA o=2:=by unfold cA;rcases h with h | h <;> simp[h]
    omega
   ·exact Classical.byContradiction fun hh=>e (hb.1 (by omega))
   ·intro h;exact e (hb.1 (by omega))
  refine ti (fun c=>N _ ?_) (fun d3=>ti (fun c=>N _ ?_) (fun d4=>ti (fun c=>N _ ?_) (fun d5=>ti (fun c=>N _ ?_) (fun d6=>ti (fun c=>N _ ?_) (fun d7=>ti (fun c=>N _ ?_) (fun d8=>N _ ?_)))))) <;> (simp only[ab]at *;omega)
def rn(nv:Int)(l:List bz):Prop:=(0<l.length∧l.length≤100000)∧∀ (i:Nat) (h:i<l.length),OpW nv l.length i l[i]
theorem wm{nv:Nat}(hn:nv≤100){l:List bz}(hl:rn nv l):∀ (d n:Nat) (a:Int) (w:bI) (st:List bH),n+d=20000→0≤a→a<l.length→SW nv w.s→FW w.line w.fields→OW w.out→StW st →
  Tot (ql l a (n:Int) w (bK.mk () st)) (fun y=>WW nv y.1):=by
 intro d
 induction d with
 | zero =>
  intro n a w st hd h0 h1 hs hf ho hst
  rw[yj]
  exact ti (fun _=>tc (ac (by omega)) (tb (fv hs hf ho _) (fun _ h=>ts h))) (fun _=>ts ⟨hs,hf,ho⟩)
 | succ d ih =>
  intro n a w st hd h0 h1 hs hf ho hst
  have hi:a.toNat<l.length:=by omega
  have hO:=hl.2 a.toNat hi
  rw[Int.toNat_of_nonneg h0]at hO
  have hl2:=hl.1.2
  rw[yj,dQ hi,ar (n:=(n:Int)+1)]
  refine ti (fun _=>tn (by rw[ab];omega) (tc (by omega) (tb (JD hs hn hf ho hst hO h0 (by omega) h1) (fun y hy=>ti (fun _=>ts hy.2.2) (fun c=>?_))))) (fun _=>ts ⟨hs,hf,ho⟩)
  have hon:=hy.1 (by simpa using c)
  exact ih (n+1) y.1 _ _ (by omega) hon.1 hon.2 hy.2.2.1 hy.2.2.2.1 hy.2.2.2.2 hy.2.1
theorem vO{nv:Nat}(hn:nv≤100){w:bI}{s:bF}(hw:SW nv w.s)(ho:OW w.out)(hs:SW nv s):Tot (qg w s) (fun y=>SW nv y.1∧OW y.2.1):=by
 rw[Ia,jV hs hn,aa]
 exact ti (fun _=>ts ⟨hs,by simp,fun x hx=>by cases hx⟩) (fun _=>ts ⟨hw,ho⟩)
structure PrW (p:bB):Prop where
 names:p.Vars.length≤8
 start:rn (p.Vars.length:Int) p.Start
 main:rn (p.Vars.length:Int) p.Main
 right:∃ b,s_ProgOk p=some (b,())
theorem GT{p:bB}(hp:PrW p){s:bF}(hs:SW p.Vars.length s){line:List Int}(hl:line.length≤1000)(hb:Bt line):Tot (tG p s line) (fun y=>SW p.Vars.length y.1∧OW y.2.1):=by
 have hn:=hp.names
 have hf:FW line (j0 line):=⟨⟨hl,hb⟩,by have:=A3 line;omega,fun f h=>by
  have:=A4 (P:=fun x=>0≤x∧x≤255) hb h
  exact⟨by omega,this.1⟩⟩
 have ho:OW []:=⟨by simp,fun x hx=>by cases hx⟩
 have L1:∀ (w:bI),SW p.Vars.length w.s→FW w.line w.fields→OW w.out→Tot (qm p s fG w) (fun y=>SW p.Vars.length y.1∧OW y.2.1):=fun w a1 a2 a3=>by
  rw[Iu,yk]
  exact tb (wm (by omega) hp.main 20000 0 0 _ [] (by omega) (by omega) (by have:=hp.main.1.1;omega) a1 a2 a3 ⟨by simp,fun x hx=>by cases hx⟩) (fun y hy=>tb (vO (by omega) hy.1 hy.2.2 hs) (fun _ h=>ts h))
 rw[Iv,jV hs (by omega),aa,HZ _ (by omega),aa]
 dsimp only
 have hs2:SW p.Vars.length ⟨s.Vars,s.Cells,w64 (s.Nr+1),s.Err⟩:=hs
 exact ti (fun _=>tb (fv hs2 hf ho _) (fun y hy=>L1 _ hy.1 hy.2.1 hy.2.2)) (fun _=>L1 _ hs2 hf ho)
theorem yV(n:Nat)(hn:n≤8):Tot (p9 (n:Int)) (fun y=>SW n y.1):=by
 have e1:ju (n:Int) 8=some ((n:Int),()):=by
  rw[tY]
  by_cases c:(n:Int)<8
  ·rw[ak c]
  ·rw[aj c,show(8:Int)=(n:Int) by omega]
 have e2:s_l1Max 0 (n:Int)=some ((n:Int),()):=by
  rw[tX]
  by_cases c:(0:Int)>n
  ·omega
  ·rw[aj c]
 rw[HL,e1,aa]
 dsimp only
 rw[e2,aa]
 dsimp only
 refine tc ⟨by omega,by omega,by rw[b8];omega⟩ (ts ⟨⟨?_,fun v hv=>?_⟩,by simp,fun c hc=>by cases hc⟩)
 ·show(List.replicate _ _).length=n
  rw[a8];omega
 ·rw[List.eq_of_mem_replicate hv];exact zj
theorem JC{p:bB}(hp:PrW p):Tot (tH p) (fun y=>SW p.Vars.length y.1∧OW y.2.1):=by
 have hn:=hp.names
 have hf:FW [] []:=⟨⟨by simp,fun x hx=>by cases hx⟩,by simp,fun f h=>by cases h⟩
 have ho:OW []:=⟨by simp,fun x hx=>by cases hx⟩
 rw[Iw]
 refine tb (yV _ hn) (fun r hr=>?_)
 rw[jV hr (by omega),aa,yk]
 exact tb (wm (by omega) hp.start 20000 0 0 _ [] (by omega) (by omega) (by have:=hp.start.1.1;omega) hr hf ho ⟨by simp,fun x hx=>by cases hx⟩) (fun y hy=>tb (vO (by omega) hy.1 hy.2.2 hr) (fun _ h=>ts h))
def McW(nv:Nat)(m:bv):Prop:=SW nv m.State∧m.Done.length=3∧(m.Out.length≤1500∧Bt m.Out)
theorem wU{p:bB}(hp:PrW p):Tot (tQ p) (fun y=>McW p.Vars.length y.1):=by
 rw[IK]
 refine tb (JC hp) (fun y hy=>ti (fun _=>tb (yV _ hp.names) (fun z hz=>ts ⟨hz,rfl,by simp,fun x hx=>by cases hx⟩)) (fun c=>ts ⟨hy.1,rfl,?_,hy.2.2⟩))
 have:=hy.2.1
 show y.2.1.length≤1500
 omega
theorem vJ{p:bB}(hp:PrW p){m:bv}(hm:McW p.Vars.length m){c:bp}(hc:c.Who<3)(hl:c.Line.length≤1000)(hb:Bt c.Line):Tot (tM p m c) (fun y=>McW p.Vars.length y.1):=by
 have hn:=hp.names
 have hcp:tL m=some (m,()):=by
  rw[IE,jV hm.1 (by omega),aa,bm (by have:=hm.2.1;rw[b8];omega)];rfl
 have h3:=hm.2.1
 have ho:=hm.2.2.1
 rw[IG,hcp,aa]
 refine ti (fun _=>ts hm) (fun c0=>?_)
 rw[ab]at c0
 have hset:∀ x:Int,(List.set m.Done c.Who.toNat x).length=3:=fun x=>by rw[aY];exact h3
 refine tc (by omega) (ti (fun _=>ts hm) (fun _=>tc (by dsimp only;omega) (ti (fun _=>ts ⟨hm.1,hset _,hm.2.2⟩) (fun _=>tb (GT hp hm.1 hl hb) (fun y hy=>?_)))))
 have hy2:=hy.2.1
 rw[ar]
 refine ti (fun _=>ts ⟨hm.1,hset _,hm.2.2⟩) (fun d=>tc (by omega) (ts ⟨hy.1,hset _,?_,fun x hx=>?_⟩))
 ·rw[ab]at d
  show(m.Out++y.2.1).length≤1500
  rw[ag];omega
 ·rcases aB.1 hx with hx | hx
  ·exact hm.2.2.2 x hx
  ·exact hy.2.2 x hx
def wZ:bv:=⟨fG,[],[]⟩
theorem Fi{p:bB}(hp:PrW p){cs:List bp}(hl:cs.length≤1000)(hc:∀ c∈cs,c.Line.length≤1000∧Bt c.Line):Tot (pU p cs) (fun y=>y.1=wZ∨McW p.Vars.length y.1):=by
 have key:∀ (d i:Nat) (m:bv),i+d=cs.length→McW p.Vars.length m→Tot (jj cs (i:Int) p qV m) (fun y=>y.1=wZ∨McW p.Vars.length y.1):=by
  intro d
  induction d with
  | zero =>
   intro i m hd hm
   rw[pV,aq];exact ts (.inr hm)
  | succ d ih =>
   intro i m hd hm
   have hi:i<cs.length:=by omega
   obtain⟨h1,h2⟩:=hc _ (aW hi)
   rw[pV,ap,al,dp hi,sX _ (by omega),aa,cP hi (by omega)]
   refine ti (fun c=>tc (by omega) (tb (vJ hp hm ?_ h1 h2) (fun y hy=>ih (i+1) _ (by omega) hy))) (fun _=>ih (i+1) m (by omega) hm)
   have c':fq cs[i]=true:=c
   unfold fq at c'
   by_cases e:(cs[i].Who) = -1
   ·omega
   ·simp[e]at c';omega
 obtain⟨b,hb⟩:=hp.right
 rw[xY,hb,aa]
 exact ti (fun _=>ts (.inl rfl)) (fun _=>tb (wU hp) (fun y hy=>key cs.length 0 _ (by omega) hy))
theorem Fw{nv:Nat}(hn:nv≤8){m:bv}(h:McW nv m):jL m:=⟨by have:=h.1.1.1;omega,fun v hv=>(h.1.1.2 v hv).1,h.1.2.1,fun c hc=>⟨(h.1.2.2 c hc).1.1,(h.1.2.2 c hc).2.1⟩,h.2.1,h.2.2.1⟩
theorem oR(y:Int)(m:Nat)(hm:m<9223372036854775808):0≤Go.bits .and .i64 y m∧Go.bits .and .i64 y m≤m:=by
 have h:Go.bits .and .i64 y m=IntKind.i64.wrap (((BitVec.ofInt 64 y).toNat &&& m:Nat):Int):=by
  simp only[Go.bits,BitVec.toNat_and,BitVec.ofInt_natCast]
  congr 3
  exact Nat.mod_eq_of_lt (by show m<2 ^ 64;omega)
 have h2:(BitVec.ofInt 64 y).toNat &&& m≤m:=Nat.and_le_right
 rw[h,IntKind.wrap_i64]
 omega
def cq(c:bL):Prop:=0≤c.i∧c.b.length≤1048576
theorem jR{c:bL}(h:cq c):∃ x c',iC c=some (x,c',())∧cq c'∧0≤x∧x≤255:=by
 obtain⟨h1,h2⟩:=h
 rw[I2]
 by_cases hi:c.i<(c.b.length:Int)
 ·rw[ak hi,bm ⟨h1,hi⟩]
  refine⟨_,_,rfl,⟨?_,h2⟩,(oR _ 255 (by decide)).1,(oR _ 255 (by decide)).2⟩
  show 0≤w64 (c.i+1)
  rw[ar];omega
 ·rw[aj hi]
  exact⟨_,_,rfl,⟨h1,h2⟩,(oR _ 255 (by decide)).1,(oR _ 255 (by decide)).2⟩
theorem oT{c:bL}(h:cq c)(n:Int):∃ x c',df c n=some (x,c',())∧cq c'∧0≤x∧(0<n→x<n)∧(n≤0→x=0):=by
 rw[I0]
 by_cases h0:n≤0
 ·rw[ak h0]
  exact⟨0,c,rfl,h,by omega,fun h=>by omega,fun _=>rfl⟩
 ·rw[aj h0]
  have hn:0<n:=by omega
  by_cases h1:n≤256
  ·rw[ak h1]
   obtain⟨x,c',e,k1,k2,k3⟩:=jR h
   simp only[e,aa]
   rw[al]
   exact⟨_,_,rfl,k1,Int.tmod_nonneg _ k2,fun _=>Int.tmod_lt_of_pos _ hn,fun h=>by omega⟩
  ·rw[aj h1]
   obtain⟨x1,c1,e1,k1,a1,b1⟩:=jR h
   obtain⟨x2,c2,e2,k2,a2,b2⟩:=jR k1
   obtain⟨x3,c3,e3,k3,a3,b3⟩:=jR k2
   obtain⟨x4,c4,e4,k4,a4,b4⟩:=jR k3
   simp only[e1,e2,e3,e4,aa]
   rw[al]
   refine⟨_,_,rfl,k4,Int.tmod_nonneg _ ?_,fun _=>Int.tmod_lt_of_pos _ hn,fun h=>by omega⟩
   rw[ar (n:=x1*16777216),ar (n:=x2*65536),ar (n:=x3*256)]
   rw[ar (n:=x1*16777216+x2*65536),ar (n:=x1*16777216+x2*65536+x3*256)]
   rw[ar];omega
theorem F8{c:bL}(h:cq c)(l:List Int)(hl:l≠[]):∃ x c',kM c l=some (x,c',())∧cq c'∧x∈l:=by
 have hp:0<l.length:=List.length_pos_iff.2 hl
 rw[I5]
 obtain⟨x,c',e,k1,k2,k3,_⟩:=oT h (l.length:Int)
 have k3:=k3 (by omega)
 simp only[e,aa]
 rw[bm ⟨k2,k3⟩]
 obtain⟨i,rfl⟩:=Int.eq_ofNat_of_zero_le k2
 have hi:i<l.length:=by omega
 exact⟨_,_,rfl,k1,by rw[dp hi];exact aW hi⟩
theorem xh{c:bL}(h:cq c)(l:List (List Int))(hl:l≠[]):∃ x c',jx c l=some (x,c',())∧cq c'∧x∈l:=by
 have hp:0<l.length:=List.length_pos_iff.2 hl
 rw[I6]
 obtain⟨x,c',e,k1,k2,k3,_⟩:=oT h (l.length:Int)
 have k3:=k3 (by omega)
 simp only[e,aa]
 rw[bm ⟨k2,k3⟩]
 obtain⟨i,rfl⟩:=Int.eq_ofNat_of_zero_le k2
 have hi:i<l.length:=by omega
 exact⟨_,_,rfl,k1,by rw[dp hi];exact aW hi⟩
theorem FD(b:List Int)(h:b.length≤1048576):∃ c,jv b=some (((),c),())∧cq c:=by
 rw[I3]
 have key:∀ (d i:Nat) (k:Int),i+d=b.length→∃ c,qw b k (i:Int)=some (((),c),())∧cq c:=by
  intro d
  induction d with
  | zero =>
   intro i k hd
   rw[yz,aq]
   exact⟨_,rfl,Int.le_refl 0,h⟩
  | succ d ih =>
   intro i k hd
   rw[yz,ap]
   by_cases h4:(i:Int)<4000
   ·rw[ak h4,al,cP (n:=b.length) (by omega) (by omega)]
    exact ih (i+1) _ (by omega)
   ·rw[aj h4]
    exact⟨_,rfl,Int.le_refl 0,h⟩
 exact key b.length 0 _ (by omega)
theorem zV(b:List Int):sf b=some (decide ((b.length:Int)>1048576),()):=BU b
set_option maxRecDepth 1000000
def twC(t:List Int):Bool:=decide (t.length≤300)&&t.all fun x=>decide (0≤x∧x≤255)
theorem JO{t:List Int}(h:twC t=true):TW t:=by
 unfold twC at h
 rw[aA,ab]at h
 exact⟨h.1,fun x hx=>of_decide_eq_true (List.all_eq_true.1 h.2 x hx)⟩
def sA(t:List Int):Bool:=match (jZ 300).s_RexParse t with
 | some (r,_,_)=>(match (jZ 300).s_NfaOf r with
  | some (l,_)=>decide (l.length≤1000)&&l.all fun p=>decide (p.Set.length≤1000)
  | none=>false)
 | none=>false
theorem F7{t:List Int}(h:sA t=true):rj t:=by
 unfold sA at h
 split at h
 ·rename_i r ok u e
  split at h
  ·rename_i l u2 e2
   rw[aA,ab]at h
   exact⟨r,ok,l,(bR 300).s_RexParse _ _ e,(bR 300).s_NfaOf _ _ e2,h.1,fun p hp=>of_decide_eq_true (List.all_eq_true.1 h.2 p hp)⟩
  ·cases h
 ·cases h
def opC(nv len at_:Int)(o:bz):Bool :=
 (decide (1≤o.Code∧o.Code≤36)&&twC o.S)&&((decide ((o.Code=3∨o.Code=4∨o.Code=5)→0≤o.N∧o.N<nv)&&decide (o.Code=29→(1≤o.N∧o.N≤3)∧o.S∈[[108,101,110,103,116,104],[105,110,116],[105,110,100,101,120],[117,112,112,101,114],[108,111,119,101,114],[115,117,98,115,116,114]])) &&
  ((if o.Code=24∨o.Code=25 then sA o.S else true)&&(decide ((o.Code=30∨o.Code=31)→0≤o.N∧o.N<len)&&decide (o.Code≠36→at_+1<len))))
theorem FO{nv len at_:Int}{o:bz}(h:opC nv len at_ o=true):OpW nv len at_ o:=by
 unfold opC at h
 simp only[aA]at h
 obtain⟨⟨h1,h2⟩,⟨h3,h4⟩,h5,h6,h7⟩:=h
 exact⟨of_decide_eq_true h1,JO h2,of_decide_eq_true h3,of_decide_eq_true h4,fun c=>by rw[bm c]at h5;exact F7 h5,of_decide_eq_true h6,of_decide_eq_true h7⟩
def kB(nv len:Int):Int→List bz→Bool
 | _,[]=>true
 | i,o::l=>opC nv len i o&&kB nv len (i+1) l
theorem sS{nv len:Int}:∀ (l:List bz) (i:Int),kB nv len i l=true→∀ (j:Nat) (h:j<l.length),OpW nv len (i+j) l[j]
 | [],_,_,j,hj=>by cases hj
 | o::l,i,h,j,hj=>by
  unfold kB at h
  rw[aA]at h
  cases j with
  | zero=>rw[show i+((0:Nat):Int)=i by omega];exact FO h.1
  | succ j =>
   have:=sS l (i+1) h.2 j (by simpa using hj)
   rw[show i+((j+1:Nat):Int)=i+1+j by omega]
   exact this
def sD(p:bB):Bool:=(decide (p.Vars.length≤8)&&decide (0<p.Start.length∧p.Start.length≤100000))&&((kB p.Vars.length p.Start.length 0 p.Start&&(decide (0<p.Main.length∧p.Main.length≤100000)&&kB p.Vars.length p.Main.length 0 p.Main))&&(match (jZ 300).s_ProgOk p with
  | some (true,_)=>true
  | _=>false))
theorem Gi{p:bB}(h:sD p=true):PrW p∧s_ProgOk p=some (true,()):=by
 unfold sD at h
 simp only[aA]at h
 obtain⟨⟨h1,h2⟩,⟨h3,h4,h5⟩,h6⟩:=h
 have hr:s_ProgOk p=some (true,()):=by
  split at h6
  ·rename_i u e;exact(bR 300).s_ProgOk _ _ e
  ·cases h6
 refine⟨⟨of_decide_eq_true h1,⟨of_decide_eq_true h2,fun i hi=>?_⟩,⟨of_decide_eq_true h4,fun i hi=>?_⟩,⟨_,hr⟩⟩,hr⟩
 ·have:=sS _ 0 h3 i hi
  rwa [Int.zero_add]at this
 ·have:=sS _ 0 h5 i hi
  rwa [Int.zero_add]at this
def uq(s:List Int):Bool:=match (jZ 300).s_Build s with
 | some (p,_,_)=>sD p
 | none=>false
theorem Jz{s:List Int}(h:uq s=true):Tot (s_Build s) (fun y=>PrW y.1∧s_ProgOk y.1=some (true,())):=by
 unfold uq at h
 split at h
 ·rename_i p c u e
  exact te ((bR 300).s_Build _ _ e) (Gi h)
 ·cases h
def srcs:List (List Int):=[[123,32,110,32,43,61,32,49,59,32,115,91,36,49,93,32,43,61,32,36,50,59,32,112,114,105,110,116,32,110,44,32,36,49,44,32,115,91,36,49,93,59,32,125,10],[66,69,71,73,78,32,123,32,112,114,105,110,116,32,34,115,116,97,114,116,34,59,32,125,10,47,94,97,47,32,123,32,97,32,43,61,32,49,59,32,112,114,105,110,116,32,34,97,34,44,32,97,59,32,110,101,120,116,59,32,125,10,36,49,32,62,32,53,32,123,32,112,114,105,110,116,32,36,49,32,42,32,50,32,47,32,51,59,32,125,10,78,82,32,60,32,51,32,123,32,112,114,105,110,116,32,78,70,32,34,58,34,32,36,48,59,32,125,10],[123,32,105,32,61,32,49,59,32,119,104,105,108,101,32,40,105,32,60,61,32,78,70,41,32,123,32,119,91,36,105,93,32,43,61,32,49,59,32,112,114,105,110,116,32,36,105,32,34,61,34,32,119,91,36,105,93,59,32,105,32,43,61,32,49,59,32,125,32,125,10],[108,101,110,103,116,104,40,36,48,41,32,62,32,51,32,38,38,32,33,40,36,49,32,126,32,47,98,43,99,47,41,32,123,32,112,114,105,110,116,32,115,117,98,115,116,114,40,36,48,44,32,50,44,32,51,41,44,32,117,112,112,101,114,40,36,49,41,44,32,105,110,100,101,120,40,36,48,44,32,34,97,34,41,59,32,125,10,123,32,105,102,32,40,36,49,32,61,61,32,34,120,34,41,32,123,32,100,101,108,101,116,101,32,107,91,36,50,93,59,32,125,32,101,108,115,101,32,123,32,107,91,36,50,93,32,61,32,107,91,36,50,93,32,43,32,49,59,32,125,32,112,114,105,110,116,32,107,91,36,50,93,32,43,32,48,59,32,125,10],[123,32,116,32,61,32,116,32,36,49,32,34,46,34,59,32,112,114,105,110,116,32,116,44,32,45,36,49,32,37,32,51,44,32,105,110,116,40,36,49,32,47,32,50,41,59,32,105,102,32,40,108,101,110,103,116,104,40,116,41,32,62,32,49,50,41,32,123,32,116,32,61,32,34,34,59,32,125,32,125,10],[36,49,32,123,32,112,114,105,110,116,32,49,32,47,32,40,36,49,32,45,32,52,41,59,32,125,10,123,32,119,104,105,108,101,32,40,49,41,32,123,32,105,32,43,61,32,49,59,32,125,32,125,10],[78,82,32,61,61,32,49,123,32,112,114,105,110,116,32,34,102,105,114,115,116,34,59,32,125,10]]
theorem JB:(srcs.all uq)=true:=by kernel_rfl
theorem Ac{s:List Int}(h:s∈srcs):Tot (s_Build s) (fun y=>PrW y.1∧s_ProgOk y.1=some (true,())):=Jz (List.all_eq_true.1 JB s h)
theorem JA:uf=some (srcs,()):=Jp
theorem AM{c:bL}(h:cq c):Tot (tC c) (fun y=>(PrW y.1∧s_ProgOk y.1=some (true,()))∧cq y.2.1):=by
 rw[Ip,Jo,JA,aa]
 dsimp only
 obtain⟨x,c',e,k,m⟩:=xh h srcs (by simp[srcs])
 rw[e,aa,aa]
 exact tb (Ac m) (fun y hy=>ts ⟨hy,k⟩)
def ix(r:bC):Bool :=
 if decide (0≤r.Term∧r.Term≤300)&&(decide (0≤r.Prev∧r.Prev≤300)&&(iX r.List 300 && !decide ((r.Snap.length:Int)>30000))) then
  if r.Kind=1 then decide (-1≤r.Vote∧r.Vote≤4)&&(decide (r.Prev=0)&&(decide ((r.List.length:Int)=0)&&decide (r.Snap=[])))
  else if r.Kind=2 then decide (r.Vote=0)&&decide (r.Snap=[])
  else if r.Kind=3 then decide (r.Vote=0)&&decide ((r.List.length:Int)=0)
  else false
 else false
theorem GB{k v p:Int}{a b c:Bool}:(if k=1 then
   if a=true then if p=0 then if b=true then some (c,())else some (false,())else some (false,())else some (false,())
  else if k=2 then if v=0 then some (c,())else some (false,())
  else if k=3 then if v=0 then some (b,())else some (false,())else some (false,())) =
  some (if k=1 then a&&(decide (p=0)&&(b&&c))else if k=2 then decide (v=0)&&c else if k=3 then decide (v=0)&&b else false,()):=by
 by_cases h1:k=1
 ·simp only[bm h1]
  cases a
  ·rfl
  ·by_cases h2:p=0
   ·simp only[h2];cases b <;> simp
   ·simp[h2]
 ·simp only[bn h1]
  by_cases h2:k=2
  ·simp only[bm h2]
   by_cases h3:v=0 <;> simp[h3]
  ·simp only[bn h2]
   by_cases h3:k=3
   ·simp only[bm h3]
    by_cases h4:v=0 <;> simp[h4]
   ·simp only[bn h3]
theorem HK(r:bC)(hl:r.List.length≤4294967296)(hw:oQ r.List):tp r=some (ix r,()):=by
 rw[HJ]
 unfold ix
 simp only[fh,IY _ _ hl hw,aa]
 cases decide (0≤r.Term∧r.Term≤300) with
 | false=>rfl
 | true =>
 cases decide (0≤r.Prev∧r.Prev≤300) with
 | false=>rfl
 | true =>
 cases iX r.List 300 with
 | false=>rfl
 | true =>
 cases decide ((r.Snap.length:Int)>30000) with
 | true=>rfl
 | false =>
  have:=GB (k:=r.Kind) (v:=r.Vote) (p:=r.Prev) (a:=decide (-1≤r.Vote∧r.Vote≤4)) (b:=decide ((r.List.length:Int)=0)) (c:=decide (r.Snap=[]))
  simpa only[ab,Bool.not_true,Bool.not_false,Bool.false_eq_true,if_false,Bool.true_and,if_true]using this
def uv:List Int→Int→Int→Int
 | [],a,b=>w64 (w64 (b*65536)+a)
 | x::l,a,b=>uv l (Int.tmod (w64 (a+w64 x)) 65521) (Int.tmod (w64 (b+Int.tmod (w64 (a+w64 x)) 65521)) 65521)
def jB(l:List Int):Int:=uv l 1 0
theorem HN(l:List Int)(hl:l.length≤4294967296):tq l=some (jB l,()):=by
 rw[HM]
 have key:∀ (d i:Nat) (a b:Int),i+d=l.length→qa l a b i=some (uv (l.drop i) a b,()):=by
  intro d
  induction d with
  | zero =>
   intro i a b hd
   rw[yd,aq,aX (by omega)];rfl
  | succ d ih =>
   intro i a b hd
   have hi:i<l.length:=by omega
   rw[yd,ap,al,dp hi,cP hi (by omega),ih (i+1) _ _ (by omega),ai hi];rfl
 have:=key l.length 0 1 0 (by omega)
 simpa [jB]using this
def ic(acc:List Int)(e:bt):List Int:=(((acc++ce e.Term)++ce (w64 (e.C.Who+1)))++ce e.C.Seq)++fg e.C.Line
def hU:List bt→List Int→List Int
 | [],acc=>acc
 | e::l,acc=>hU l (ic acc e)
theorem vP(acc:List Int)(e:bt)(h:e.C.Line.length≤60):(ic acc e).length≤acc.length+96:=by
 unfold ic
 simp only[ag]
 have a:=cH e.Term
 have b:=cH (w64 (e.C.Who+1))
 have c:=cH e.C.Seq
 have d:=fB e.C.Line
 omega
theorem u7:∀ (l:List bt) (acc:List Int),(∀ e∈l,e.C.Line.length≤60)→(hU l acc).length≤acc.length+96*l.length
 | [],acc,_=>by simp[hU]
 | e::l,acc,h=>by
  have h1:=vP acc e (h e (aE ..))
  have h2:=u7 l (ic acc e) fun x hx=>h x (aF _ hx)
  show(hU l (ic acc e)).length≤_
  rw[aS];omega
theorem Aq{c:bp}(h:fq c=true):c.Line.length≤60:=by
 unfold fq at h
 split at h
 ·simp only[aA,ab]at h;rw[h.2];exact Nat.zero_le _
 ·simp only[aA,ab]at h;omega
theorem AV{l:List bt}{m:Int}(h:iX l m=true):l.length≤40∧∀ e∈l,e.C.Line.length≤60:=by
 unfold iX at h
 simp only[aA,ab,List.all_eq_true]at h
 refine⟨by omega,fun e he=>?_⟩
 have:=h.2 e he
 unfold pc at this
 simp only[aA]at this
 exact Aq this.2
theorem xz{r:bC}(h:ix r=true):r.List.length≤40∧(∀ e∈r.List,e.C.Line.length≤60)∧r.Snap.length≤30000:=by
 unfold ix at h
 split at h
 ·rename_i hc
  simp only[aA,Bool.not_eq_true',decide_eq_false_iff_not]at hc
  have:=AV hc.2.2.1
  exact⟨this.1,this.2,by omega⟩
 ·cases h
theorem IR(r:bC)(hl:r.List.length≤40)(hw:∀ e∈r.List,e.C.Line.length≤60)(hs:r.Snap.length≤30000):∀ (d i:Nat) (acc:List Int),i+d=r.List.length→acc.length≤100+96*i→qr acc i r=some (hU (r.List.drop i) acc++fg r.Snap,()):=by
 intro d
 induction d with
 | zero =>
  intro i acc hd ha
  have a:=fB r.Snap
  rw[yt,aq,kI _ (by omega),aa]
  dsimp only
  rw[bm (by rw[b8];omega),aX (by omega)];rfl
 | succ d ih =>
  intro i acc hd ha
  have hi:i<r.List.length:=by omega
  have he:=hw _ (aW hi)
  have a:=cH (r.List[i]).Term
  have b:=cH (w64 ((r.List[i]).C.Who+1))
  have c:=cH (r.List[i]).C.Seq
  have t:=fB (r.List[i]).C.Line
  have el:=vP acc _ he
  have c1:acc.length+(ce (r.List[i]).Term).length≤room:=by rw[b8];omega
  have c2:(acc++ce (r.List[i]).Term).length+(ce (w64 ((r.List[i]).C.Who+1))).length≤room:=by rw[b8,ag];omega
  have c3:((acc++ce (r.List[i]).Term)++ce (w64 ((r.List[i]).C.Who+1))).length+(ce (r.List[i]).C.Seq).length≤room:=by rw[b8];simp only[ag];omega
  have c4:(((acc++ce (r.List[i]).Term)++ce (w64 ((r.List[i]).C.Who+1)))++ce (r.List[i]).C.Seq).length+(fg (r.List[i]).C.Line).length≤room:=by rw[b8];simp only[ag];omega
  rw[yt,ap,al,dp hi,cP hi (by omega)]
  simp only[ev,kI _ (show(r.List[i]).C.Line.length≤4000000000 by omega),aa,List.append_eq,bm c1,bm c2,bm c3,bm c4]
  rw[ai hi]
  exact ih (i+1) (ic acc r.List[i]) (by omega) (by omega)
def kx(r:bC):List Int:=(((ce r.Kind++ce r.Term)++ce (w64 (r.Vote+1)))++ce r.Prev)++ce (r.List.length:Int)
def fX(r:bC):List Int:=hU r.List (kx r)++fg r.Snap
def uu(b:List Int):List Int:=[w8 (jB b),w8 (ey .i64 (jB b) 8),w8 (ey .i64 (jB b) 16),w8 (ey .i64 (jB b) 24)]
def jf(r:bC):List Int:=if ix r then(ce ((fX r).length:Int)++fX r)++uu (fX r)else []
theorem xy(r:bC):(kx r).length≤45:=by
 unfold kx
 simp only[ag]
 have a:=cH r.Kind
 have b:=cH r.Term
 have c:=cH (w64 (r.Vote+1))
 have d:=cH r.Prev
 have e:=cH (r.List.length:Int)
 omega
theorem xw{r:bC}(h:ix r=true):(fX r).length≤40000:=by
 obtain⟨h1,h2,h3⟩:=xz h
 unfold fX
 rw[ag]
 have a:=u7 r.List (kx r) h2
 have b:=fB r.Snap
 have c:=xy r
 omega
theorem Gy(r:bC):(jf r).length≤41000:=by
 unfold jf
 split
 ·rename_i h
  have a:=xw h
  have b:=cH ((fX r).length:Int)
  simp only[ag,uu,aS,List.length_nil]
  omega
 ·simp
theorem HI(r:bC)(hl:r.List.length≤4294967296)(hw:oQ r.List):p8 r=some (jf r,()):=by
 rw[HH,HK r hl hw,aa]
 unfold jf
 cases h:ix r with
 | false=>rfl
 | true =>
  obtain⟨h1,h2,h3⟩:=xz h
  have hb:=xw h
  have a:=cH r.Kind
  have b:=cH r.Term
  have c:=cH (w64 (r.Vote+1))
  have d:=cH r.Prev
  have e:=cH (r.List.length:Int)
  have f:=cH ((fX r).length:Int)
  have body:tU r=some (fX r,()):=by
   rw[IU]
   have c1:(ce r.Kind).length+(ce r.Term).length≤room:=by rw[b8];omega
   have c2:(ce r.Kind++ce r.Term).length+(ce (w64 (r.Vote+1))).length≤room:=by rw[b8];simp only[ag];omega
   have c3:((ce r.Kind++ce r.Term)++ce (w64 (r.Vote+1))).length+(ce r.Prev).length≤room:=by rw[b8];simp only[ag];omega
   have c4:(((ce r.Kind++ce r.Term)++ce (w64 (r.Vote+1)))++ce r.Prev).length+(ce (r.List.length:Int)).length≤room:=by rw[b8];simp only[ag];omega
   simp only[ev,aa,List.append_eq,bm c1,bm c2,bm c3,bm c4]
   exact IR r h1 h2 h3 r.List.length 0 (kx r) (by omega) (by have:=xy r;omega)
  rw[bn (by simp),body,aa,ev,aa]
  dsimp only
  rw[bm (by rw[b8];omega),IZ,HN _ (by omega)]
  simp only[aa,List.append_eq,if_true]
  rw[bm (by rw[b8];simp only[ag,aS,List.length_nil];omega)]
  rfl
theorem Bytes.app{a b:List Int}(ha:Bytes a)(hb:Bytes b):Bytes (a++b):=fun x hx=>(aB.1 hx).elim (ha x) (hb x)
theorem du{c:bL}(h:cq c)(n:Int)(hn:0<n):Tot (df c n) (fun y=>(0≤y.1∧y.1<n)∧cq y.2.1):=by
 obtain⟨x,c',e,k,a,b,_⟩:=oT h n
 exact te e ⟨⟨a,b hn⟩,k⟩
theorem xi{c:bL}(h:cq c)(l:List (List Int))(hl:l≠[]):Tot (jx c l) (fun y=>y.1∈l∧cq y.2.1):=by
 obtain⟨x,c',e,k,m⟩:=xh h l hl
 exact te e ⟨m,k⟩
theorem xg{c:bL}(h:cq c)(l:List Int)(hl:l≠[]):Tot (kM c l) (fun y=>y.1∈l∧cq y.2.1):=by
 obtain⟨x,c',e,k,m⟩:=F8 h l hl
 exact te e ⟨m,k⟩
theorem FN{c:bL}(h:cq c)(n:Int):Tot (tZ c n) (fun y=>cq y.2.1):=by
 obtain⟨x,c',e,k,_⟩:=oT h n
 rw[I4,e]
 exact ts k
theorem wP{l:List (List Int)}{n:Nat}{x:List Int}(hl:(l.all fun t=>decide (t.length≤n)&&t.all fun b=>decide (0≤b∧b≤255))=true)(h:x∈l):x.length≤n∧Bt x:=by
 have:=List.all_eq_true.1 hl x h
 rw[aA,ab]at this
 exact⟨this.1,fun b hb=>of_decide_eq_true (List.all_eq_true.1 this.2 b hb)⟩
theorem cS{a b:List Int}(ha:Bt a)(hb:Bt b):Bt (a++b):=fun x hx=>(aB.1 hx).elim (ha x) (hb x)
theorem hY:Bt []:=fun x hx=>by cases hx
theorem E3{c:bL}(h:cq c):Tot (tt c) (fun y=>(y.1.length≤100∧Bt y.1)∧cq y.2.1):=by
 rw[H3]
 have key:∀ (d i:Nat) (t:List Int) (c:bL),cq c→i+d=4→t.length≤5*i→Bt t→Tot (qe t (i:Int) c) (fun y=>(y.1.length≤100∧Bt y.1)∧cq y.2.1):=by
  intro d
  induction d with
  | zero =>
   intro i t c h hd ht hb
   rw[yf]
   exact tb (du h 5 (by omega)) (fun y hy=>tn (by rw[ab];omega) (ts ⟨⟨by show t.length≤_;omega,hb⟩,hy.2⟩))
  | succ d ih =>
   intro i t c h hd ht hb
   rw[yf,cP (n:=4) (by omega) (by omega)]
   refine tb (du h 5 (by omega)) (fun y hy=>ti (fun _=>tb (xi hy.2 _ (by simp)) (fun u hu=>?_)) (fun _=>ts ⟨⟨by show t.length≤_;omega,hb⟩,hy.2⟩))
   have l2:=wP (n:=3) (by decide) hu.1
   refine tc (by omega) (tb (xi hu.2 _ (by simp)) (fun v hv=>?_))
   have l3:=wP (n:=2) (by decide) hv.1
   refine tc (by rw[ag];omega) (ih (i+1) _ _ hv.2 (by omega) (by rw[ag,ag];omega) (cS (cS hb l2.2) l3.2))
 exact key 4 0 [] c h (by omega) (by simp) hY
def CmW(c:bp):Prop:=c.Line.length≤100∧Bt c.Line
theorem vu{c:bL}(h:cq c):Tot (qn c) (fun y=>CmW y.1∧cq y.2.1):=by
 rw[IH]
 exact tb (FN h 8) (fun y hy=>ti (fun _=>ts ⟨⟨by simp,hY⟩,hy⟩) (fun _=>tb (du hy 3 (by omega)) (fun z hz=>tb (du hz.2 5 (by omega)) (fun u hu=>tb (E3 hu.2) (fun v hv=>ts ⟨hv.1,hv.2⟩)))))
theorem Ar{c:bL}(h:cq c)(n:Nat)(hn:n≤100):Tot (tN c (n:Int)) (fun y=>(y.1.length≤100∧∀ x∈y.1,CmW x)∧cq y.2.1):=by
 rw[II,ar]
 refine tb (du h _ (by omega)) (fun y hy=>?_)
 obtain⟨m,hm⟩:=Int.eq_ofNat_of_zero_le hy.1.1
 rw[hm]
 have key:∀ (d i:Nat) (l:List bp) (c:bL),cq c→i+d=m→l.length=i→(∀ x∈l,CmW x)→Tot (qo l (m:Int) (i:Int) c) (fun y=>(y.1.length≤100∧∀ x∈y.1,CmW x)∧cq y.2.1):=by
  intro d
  induction d with
  | zero =>
   intro i l c hc hd hl hw
   rw[yl,aq]
   exact ts ⟨⟨by show l.length≤_;omega,hw⟩,hc⟩
  | succ d ih =>
   intro i l c hc hd hl hw
   rw[yl,ap,ar (n:=(i:Int)+1)]
   refine tb (vu hc) (fun z hz=>tc (by rw[b8];omega) (ih (i+1) _ _ hz.2 (by omega) (by show(l++[_]).length=_;rw[ag,hl];rfl) (fun x hx=>?_)))
   rcases aB.1 (show x∈l++[_]from hx)with hx | hx
   ·exact hw x hx
   ·rw[aK.1 hx];exact hz.1
 exact key m 0 [] _ hy.2 (by omega) rfl (fun x hx=>by cases hx)
theorem Fh{p:bB}(hp:PrW p)(hr:s_ProgOk p=some (true,())){cs:List bp}(hl:cs.length≤1000)(hc:∀ c∈cs,CmW c):Tot (pU p cs) (fun y=>McW p.Vars.length y.1):=by
 obtain⟨y,e,hy⟩:=Fi hp hl (fun c h=>⟨by have:=(hc c h).1;omega,(hc c h).2⟩)
 refine⟨y,e,hy.resolve_left fun hy=>?_⟩
 rw[xY,hr,aa,bn (by simp)]at e
 obtain⟨m,e2,hm⟩:=wU hp
 rw[e2,aa]at e
 have len:∀ (d i:Nat) (m:bv) (y:bv×Unit),i+d=cs.length→McW p.Vars.length m→jj cs (i:Int) p qV m=some y→McW p.Vars.length y.1:=by
  intro d
  induction d with
  | zero =>
   intro i m y hd hm e
   rw[pV,aq]at e
   cases e;exact hm
  | succ d ih =>
   intro i m y hd hm e
   have hi:i<cs.length:=by omega
   obtain⟨h1,h2⟩:=hc _ (aW hi)
   rw[pV,ap,al,dp hi,sX _ (by omega),aa,cP hi (by omega)]at e
   dsimp only at e
   by_cases c:fq cs[i]=true
   ·rw[bm c,al]at e
    have cw:cs[i].Who<3:=by
     have c':=c
     unfold fq at c'
     by_cases e:(cs[i].Who) = -1
     ·omega
     ·simp[e]at c';omega
    obtain⟨z,e3,hz⟩:=vJ hp hm cw (by omega) h2
    rw[e3,aa]at e
    exact ih (i+1) _ _ (by omega) hz e
   ·rw[bn c]at e
    exact ih (i+1) _ _ (by omega) hm e
 have h3:=(len cs.length 0 _ _ (by omega) hm e).2.1
 rw[hy]at h3
 cases h3
theorem GL{c:bL}(h:cq c):Tot (tO c) (fun y=>(PrW y.1∧s_ProgOk y.1=some (true,()))∧McW y.1.Vars.length y.2.1∧cq y.2.2.1):=by
 rw[IJ]
 exact tb (AM h) (fun y hy=>tb (Ar hy.2 8 (by omega)) (fun z hz=>tb (Fh hy.1.1 hy.1.2 (by have:=hz.1.1;omega) hz.1.2) (fun m hm=>ts ⟨hy.1,hm,hz.2⟩)))
theorem dD(n:Int):Bt (ce n):=Gp n
theorem jQ{t:List Int}(h:Bt t):Bt (fg t):=cS (dD _) h
theorem z7(n:Int):Bt (iw n):=by
 unfold iw
 split
 ·exact dD _
 ·exact hY
theorem vc{v:bH}(h:VW v):Bt (gQ v):=cS (cS (dD _) (z7 _)) (jQ h.2)
theorem oV{α:Type}(f:List Int→α→List Int)(P:α→Prop)(hf:∀ a x,Bt a→P x→Bt (f a x)):∀ (l:List α) (a:List Int),Bt a→(∀ x∈l,P x)→Bt (l.foldl f a)
 | [],a,ha,_=>ha
 | x::l,a,ha,h=>oV f P hf l (f a x) (hf a x ha (h x aE)) (fun y hy=>h y (aF _ hy))
theorem z8{nv:Nat}{m:bv}(h:McW nv m):Bt (i9 m):=by
 unfold i9 gp gq
 refine cS (oV _ (fun _=>True) (fun a x ha _=>cS ha (dD _)) _ _ (cS (cS (oV _ ClW (fun a x ha hx=>cS (cS (cS ha (dD _)) (jQ hx.1.2)) (vc hx.2)) _ _ (cS (oV _ VW (fun a x ha hx=>?_) _ _ (dD _) h.1.1.2) (dD _)) h.1.2.2) (dD _)) (dD _)) (fun _ _=>trivial)) (jQ h.2.2.2)
 exact cS ha (vc hx)
def RcW(r:bC):Prop:=(r.List.length≤100∧∀ e∈r.List,CmW e.C)∧r.Snap.length≤31000∧Bt r.Snap
theorem AW{c:bL}(h:cq c)(t:Int)(n:Nat)(hn:n≤50):Tot (tT c t (n:Int)) (fun y=>(y.1.length≤50∧∀ e∈y.1,CmW e.C)∧cq y.2.1):=by
 rw[IQ,ar]
 refine tb (du h _ (by omega)) (fun y hy=>?_)
 obtain⟨m,hm⟩:=Int.eq_ofNat_of_zero_le hy.1.1
 rw[hm]
 have key:∀ (d i:Nat) (t:Int) (l:List bt) (c:bL),cq c→i+d=m→l.length=i→(∀ e∈l,CmW e.C)→Tot (qq t l (m:Int) (i:Int) c) (fun y=>(y.1.length≤50∧∀ e∈y.1,CmW e.C)∧cq y.2.1):=by
  intro d
  induction d with
  | zero =>
   intro i t l c hc hd hl hw
   rw[yr,aq]
   exact ts ⟨⟨by show l.length≤_;omega,hw⟩,hc⟩
  | succ d ih =>
   intro i t l c hc hd hl hw
   rw[yr,ap,ar (n:=(i:Int)+1)]
   refine tb (du hc 2 (by omega)) (fun u hu=>tb (vu hu.2) (fun z hz=>tc (by rw[b8];omega) (ih (i+1) _ _ _ hz.2 (by omega) (by show(l++[_]).length=_;rw[ag,hl];rfl) (fun x hx=>?_))))
   rcases aB.1 (show x∈l++[_]from hx)with hx | hx
   ·exact hw x hx
   ·rw[aK.1 hx];exact hz.1
 exact key m 0 t [] _ hy.2 (by omega) rfl (fun x hx=>by cases hx)
theorem GA{c:bL}(h:cq c):Tot (tV c) (fun y=>RcW y.1∧cq y.2.1):=by
 have nl:(([]:List bt).length≤100∧∀ e∈([]:List bt),CmW e.C):=⟨by simp,fun e he=>by cases he⟩
 rw[IW]
 refine tb (du h 4 (by omega)) (fun y hy=>ti (fun _=>tb (du hy.2 6 (by omega)) (fun z hz=>tb (du hz.2 4 (by omega)) (fun u hu=>ts ⟨⟨nl,by simp,hY⟩,hu.2⟩))) (fun _=>ti (fun _=>tb (GL hy.2) (fun z hz=>tb (du hz.2.2 3 (by omega)) (fun u hu=>tb (du hu.2 5 (by omega)) (fun v hv=>?_)))) (fun _=>tb (du hy.2 2 (by omega)) (fun z hz=>tb (du hz.2 3 (by omega)) (fun u hu=>tb (AW hu.2 1 4 (by omega)) (fun v hv=>ts ⟨⟨⟨by have:=hv.1.1;show v.1.length≤100;omega,hv.1.2⟩,by simp,hY⟩,hv.2⟩))))))
 have hf:=Fw hz.1.1.names hz.2.1
 have hl:=Fj hf
 rw[IM _ hf,aa]
 exact ts ⟨⟨nl,by show(i9 _).length≤_;omega,z8 hz.2.1⟩,hv.2⟩
theorem vb:∀ (l:List bt) (a:List Int),Bt a→(∀ e∈l,CmW e.C)→Bt (hU l a)
 | [],a,ha,_=>ha
 | e::l,a,ha,h=>vb l (ic a e) (cS (cS (cS (cS ha (dD _)) (dD _)) (dD _)) (jQ (h e aE).2)) (fun x hx=>h x (aF _ hx))
theorem z9{r:bC}(h:RcW r):Bt (jf r):=by
 unfold jf
 split
 ·have hb:Bt (fX r):=cS (vb _ _ (cS (cS (cS (cS (dD _) (dD _)) (dD _)) (dD _)) (dD _)) h.1.2) (jQ h.2.2)
  refine cS (cS (dD _) hb) (fun x hx=>?_)
  unfold uu at hx
  rcases aL.1 hx with rfl | hx
  ·exact oF _
  rcases aL.1 hx with rfl | hx
  ·exact oF _
  rcases aL.1 hx with rfl | hx
  ·exact oF _
  rw[aK.1 hx];exact oF _
 ·exact hY
theorem E4{r:bC}(h:RcW r):oQ r.List:=fun e he=>by have:=(h.1.2 e he).1;omega
theorem Gz{r:bC}(h:RcW r):Tot (p8 r) (fun y=>y.1.length≤41000∧Bt y.1):=te (HI r (by have:=h.1.1;omega) (E4 h)) ⟨Gy r,z9 h⟩
theorem vg{c:bL}(h:cq c):Tot (qt c) (fun y=>(y.1.length≤200000∧Bt y.1)∧cq y.2.1):=by
 rw[IV]
 have key:∀ (d i:Nat) (t:List Int) (c:bL),cq c→i+d=3→t.length≤41000*i→Bt t→Tot (qu t (i:Int) c) (fun y=>(y.1.length≤200000∧Bt y.1)∧cq y.2.1):=by
  intro d
  induction d with
  | zero =>
   intro i t c h hd ht hb
   rw[yu]
   exact tb (du h 4 (by omega)) (fun y hy=>tn (by rw[ab];omega) (ts ⟨⟨by show t.length≤_;omega,hb⟩,hy.2⟩))
  | succ d ih =>
   intro i t c h hd ht hb
   rw[yu,cP (n:=4) (by omega) (by omega)]
   refine tb (du h 4 (by omega)) (fun y hy=>ti (fun _=>tb (GA hy.2) (fun r hr=>tb (Gz hr.1) (fun b hb2=>?_))) (fun _=>ts ⟨⟨by show t.length≤_;omega,hb⟩,hy.2⟩))
   have:=hb2.1
   exact tc (by rw[b8];omega) (ih (i+1) _ _ hr.2 (by omega) (by show(t++_).length≤_;rw[ag];omega) (cS hb hb2.2))
 exact key 3 0 [] c h (by omega) (by simp) hY
end Go.Proofs.YtmcjclfgedjgaaaGreat.E.TD
