/- What the pure statement needs (3). No condition. -/
import Derived.Test.YtacknlgegbagfaaGreatM1
import Derived.Test.YtacknlgegbagfaaGreatTNe1
import Derived.Test.YtacknlgegbagfaaGreatTNe2
import Derived.Test.YtacknlgegbagfaaGreatTNe3
import Derived.Test.YtacknlgegbagfaaGreatM2
import Derived.KernelRfl
namespace Go.Proofs.YtacknlgegbagfaaGreat.E.TN
open Go.Proofs.YtacknlgegbagfaaGreat.E
set_option linter.unusedVariables false
theorem iV(a b c:Int):fE a b c=some (decide (b≤a∧a≤c),()):=by
 rw[Dz]
 by_cases h:a≥b
 ·rw[bm (by simp[h])];simp[show b≤a from h]
 ·rw[bn (by simp[h])];simp[show ¬ b≤a from h]
def isD(x:Int):Bool:=decide (48≤x)&&decide (x≤57)
def AllD(l:List Int):Prop:=∀ x∈l,48≤x∧x≤57
theorem AllD.tail{c:Int}{l:List Int}(h:AllD (c::l)):AllD l:=fun x hx=>h x (aF _ hx)
theorem AllD.head{c:Int}{l:List Int}(h:AllD (c::l)):48≤c∧c≤57:=h c (aE ..)
def dv(a:Int)(l:List Int):Int:=l.foldl (fun n c=>10*n+(c-48)) a
theorem ky(a c:Int)(l:List Int):dv a (c::l)=dv (10*a+(c-48)) l:=rfl
theorem Cz(a:Int)(l m:List Int):dv a (l++m)=dv (dv a l) m:=List.foldl_append ..
theorem pP:∀ (l:List Int) (a:Int),dv a l=a*10 ^ l.length+dv 0 l
 | [],a=>by simp[dv]
 | c::l,a=>by
  rw[ky,ky,pP l (10*a+(c-48)),pP l (10*0+(c-48)),aS,Int.pow_succ,Int.add_mul,Int.mul_zero,Int.zero_add,← Int.add_assoc]
  congr 2
  rw[Int.mul_comm 10 a,Int.mul_assoc,Int.mul_comm 10]
theorem w9:∀ (l:List Int) (a:Int),AllD l→0≤a→0≤dv a l
 | [],a,_,h=>h
 | c::l,a,hd,h=>w9 l (10*a+(c-48)) hd.tail (by have:=hd.head;omega)
theorem w7:∀ (l:List Int),AllD l→dv 0 l<10 ^ l.length
 | [],_=>by simp[dv]
 | c::l,hd=>by
  have h1:=w7 l hd.tail
  have h2:=hd.head
  rw[ky,pP,aS,Int.pow_succ]
  have:(10*0+(c-48))*10 ^ l.length≤9*10 ^ l.length:=Int.mul_le_mul_of_nonneg_right (by omega) (Int.le_of_lt (Int.pow_pos (by omega)))
  omega
def fr:List Int→Int→Int
 | [],_=>0
 | c::l,u=>(c-48)*u+fr l (u/10)
theorem xa:∀ k:Nat,dv 0 (List.replicate k 48)=0
 | 0=>rfl
 | k+1=>by rw[List.replicate_succ,ky];exact xa k
def Bt(b:List Int):Prop:=∀ x∈b,0≤x∧x≤255
theorem tv(x:Int):s_l2Digit x=some (isD x,()):=by
 rw[Ld]
 unfold isD
 by_cases h:x≥48
 ·rw[ak h,show decide (48≤x)=true from ac h,Bool.true_and]
 ·rw[aj h,show decide (48≤x)=false from ae h,Bool.false_and]
def fin(p:Int)(b:Bool)(n m:Int):Option (Int×Int×Unit):=if m=0 then some (0,0,())else if n>9000000000000 then some (0,0,())else some (if b=true then 0-n else n,p,())
set_option linter.defProp false
def bj:=@List.length_singleton
def dV(n:Nat):List Int:=(Lib.decDigits n).map fun b=>(b.toNat:Int)
theorem pO{n:Nat}(h:n<10):dV n=[48+(n:Int)]:=by
 unfold dV
 rw[Lib.decDigits,dif_pos h]
 have:(UInt8.ofNat (48+n)).toNat=48+n:=by rw[UInt8.toNat_ofNat'];omega
 simp only[bc,List.map_nil,this]
 congr 1
theorem sM{n:Nat}(h:¬ n<10):dV n=dV (n/10)++[48+((n%10:Nat):Int)]:=by
 unfold dV
 rw[Lib.decDigits,dif_neg h]
 have:(UInt8.ofNat (48+n%10)).toNat=48+n%10:=by rw[UInt8.toNat_ofNat'];omega
 simp only[List.map_append,bc,List.map_nil,this]
 congr 2
theorem AllD.app{l m:List Int}(h:AllD l)(g:AllD m):AllD (l++m):=fun x hx=>(aB.1 hx).elim (h x) (g x)
theorem wY(n:Nat):AllD (dV n)∧dv 0 (dV n)=n∧dV n≠[]∧(0<n→∃ c r,dV n=c::r∧49≤c):=by
 induction n using Nat.strongRecOn with
 | ind n ih =>
  by_cases h:n<10
  ·rw[pO h]
   refine⟨fun x hx=>?_,?_,by simp,fun h0=>⟨_,_,rfl,by omega⟩⟩
   ·rw[aK.1 hx];omega
   ·simp only[dv,List.foldl_cons,List.foldl_nil];omega
  ·obtain⟨h1,h2,h3,h4⟩:=ih (n/10) (by omega)
   rw[sM h]
   refine⟨h1.app fun x hx=>?_,?_,by simp,fun _=>?_⟩
   ·rw[aK.1 hx];omega
   ·rw[Cz,h2];simp only[dv,List.foldl_cons,List.foldl_nil];omega
   ·obtain⟨c,r,e,hc⟩:=h4 (by omega)
    rw[e]
    exact⟨c,r++_,rfl,hc⟩
theorem sN{n k:Nat}(h:n<10 ^ k)(hk:0<k):(dV n).length≤k:=by
 induction k generalizing n with
 | zero=>omega
 | succ k ih =>
  by_cases h9:n<10
  ·rw[pO h9];simp
  ·rw[sM h9,ag,bj]
   have hk0:0<k:=by
    rcases Nat.eq_zero_or_pos k with h0 | h0
    ·subst h0;omega
    ·exact h0
   have:=ih (n:=n/10) (by rw[Nat.pow_succ]at h;omega) hk0
   omega
theorem wX{r:Nat}(h:r<1000000):∃ l,dV (1000000+r)=49::l∧l.length=6∧AllD l∧dv 0 l=r:=by
 obtain⟨h1,h2,h3,h4⟩:=wY (1000000+r)
 obtain⟨c,l,e,hc⟩:=h4 (by omega)
 have hlen:=sN (n:=1000000+r) (k:=7) (by omega) (by omega)
 rw[e]at h1 h2 hlen
 have hl:=w7 l h1.tail
 have hn:=w9 l 0 h1.tail (Int.le_refl 0)
 have hc9:=h1.head
 rw[ky,pP]at h2
 simp only[aS]at hlen
 have h6:l.length=6:=by
  by_cases h6:l.length=6
  ·exact h6
  ·exfalso
   have h5:(10:Int) ^ l.length≤10 ^ 5:=by
    have:(10:Nat) ^ l.length≤10 ^ 5:=Nat.pow_le_pow_right (by omega) (by omega)
    exact_mod_cast this
   have:(10*0+(c-48))*10 ^ l.length≤9*10 ^ 5:=Int.mul_le_mul (by omega) h5 (Int.le_of_lt (Int.pow_pos (by omega))) (by omega)
   omega
 rw[h6]at h2 hl
 have hc1:c=49:=by omega
 subst hc1
 exact⟨l,e,h6,h1.tail,by omega⟩
theorem D5(n:Nat):∀ acc:List Int,acc.length+n≤9223372036854775807→rC (n:Int) acc=some ((if n=0 then []else dV n)++acc,()):=by
 induction n using Nat.strongRecOn with
 | ind n ih =>
  intro acc hb
  rw[Le]
  by_cases h0:n=0
  ·rw[aq,bm h0];rfl
  ·have e1:Int.tdiv (n:Int) 10=((n/10:Nat):Int):=rfl
   have e2:Int.tmod (n:Int) 10=((n%10:Nat):Int):=rfl
   have e3:w8 (w64 (48+((n%10:Nat):Int)))=48+((n%10:Nat):Int):=by rw[ar,vM (by omega) (by omega)]
   rw[ap,e1,e2,e3,bm (by rw[bj];omega),ar,bn h0,ih (n/10) (by omega) _ (by rw[ag,bj];omega)]
   by_cases h9:n<10
   ·rw[al,pO h9,Nat.mod_eq_of_lt h9];rfl
   ·rw[am,sM h9,ah]
theorem x8(n:Nat)(h:n≤9223372036854775807):rB (n:Int)=some (dV n,()):=by
 rw[Lf]
 by_cases h0:n=0
 ·subst h0
  rw[ap,pO (by omega)];rfl
 ·rw[aq,D5 n [] (by simpa using h),bn h0,aI]
def eA(c:Int)(l:List Int):List Int:=(l.reverse.dropWhile (fun x=>decide (x=c))).reverse
theorem AQ(c:Int)(l:List Int):eA c (l++[c])=eA c l:=by
 unfold eA
 rw[List.reverse_append,List.reverse_singleton,List.singleton_append,List.dropWhile_cons_of_pos (by simp)]
theorem AP{c x:Int}(h:x≠c)(l:List Int):eA c (l++[x])=l++[x]:=by
 unfold eA
 rw[List.reverse_append,List.reverse_singleton,List.singleton_append,List.dropWhile_cons_of_neg (by simpa using h),List.reverse_cons,List.reverse_reverse]
theorem vC{l:List Int}{n:Nat}(h:l.length=n+1):l=l.take (l.length-1)++[l[l.length-1]]:=by
 have h1:=List.take_append_drop (l.length-1) l
 have h2:l.drop (l.length-1)=[l[l.length-1]]:=by
  rw[ai (by omega),aX (by omega)]
 rw[h2]at h1
 exact h1.symm
theorem AN(c:Int):∀ (n:Nat) (l:List Int),l.length=n→∃ k,l=eA c l++List.replicate k c∧((∃ x∈l,x≠c)→eA c l≠[])
 | 0,l,h=>by
  have:l=[]:=List.eq_nil_of_length_eq_zero h
  subst this
  exact⟨0,rfl,fun⟨x,hx,_⟩=>by cases hx⟩
 | n+1,l,h=>by
  have hs:=vC h
  generalize hA:l.take (l.length-1)=A at hs
  generalize l[l.length-1]=x at hs
  have hAl:A.length=n:=by rw[← hA,aQ];omega
  subst hs
  by_cases hx:x=c
  ·subst hx
   obtain⟨k,e,g⟩:=AN x n A hAl
   rw[AQ]
   refine⟨k+1,?_,fun⟨y,hy,hne⟩=>g ⟨y,?_,hne⟩⟩
   ·rw[List.replicate_succ',← ah,← e]
   ·rcases aB.1 hy with hy | hy
    ·exact hy
    ·exact absurd (aK.1 hy) hne
  ·rw[AP hx]
   exact⟨0,by simp,fun _=>by simp⟩
theorem AO(c:Int)(l:List Int):(eA c l).length≤l.length:=by
 obtain⟨k,e,_⟩:=AN c l.length l rfl
 have:=congrArg List.length e
 rw[ag]at this
 omega
theorem Ak(t0:Int)(t4:List Int)(h4:t4.length≤1000):∀ (n:Nat) (l:List Int),l.length=n→l.length≤1000→(∃ x∈l,x≠48)→qM t0 t4 l=ll t0 (t4++[46]++eA 48 l)
 | 0,l,hl,_,⟨x,hx,_⟩=>by
  have:l=[]:=List.eq_nil_of_length_eq_zero hl
  subst this
  cases hx
 | n+1,l,hl,h,hne=>by
  rw[Jx,ar,al,show((l.length:Int)-1).toNat=l.length-1 by omega,dC (by omega)]
  have hs:=vC hl
  have e:List.take (l.length-1-0) (List.drop 0 l)=l.take (l.length-1):=rfl
  by_cases hx:l[l.length-1]=48
  ·rw[ak hx,al,e]
   rw[hx]at hs
   obtain⟨x,hx1,hx2⟩:=hne
   have hx3:x∈l.take (l.length-1):=by
    rw[hs]at hx1
    rcases aB.1 hx1 with h1 | h1
    ·exact h1
    ·exact absurd (aK.1 h1) hx2
   rw[Ak t0 t4 h4 n _ (by rw[aQ];omega) (by rw[aQ];omega) ⟨x,hx3,hx2⟩]
   have:eA 48 l=eA 48 (l.take (l.length-1)):=by
    generalize l.take (l.length-1)=A at *
    rw[hs];exact AQ 48 A
   rw[this]
  ·rw[aj hx,bm (by simp only[bj];omega),bm (by rw[ag];simp only[bj];omega)]
   have:eA 48 l=l:=by
    generalize hA:l.take (l.length-1)=A at hs
    generalize l[l.length-1]=x at hs hx
    rw[hs];exact AP hx _
   rw[this]
def kG(r:Nat):List Int:=if 0<r then 46::eA 48 ((dV (1000000+r)).drop 1)else []
def kx(n:Nat):List Int:=dV (n/1000000)++kG (n%1000000)
def iL(n:Int):List Int:=if -9000000000000≤n∧n≤9000000000000 then(if n<0 then [45]else [])++kx n.natAbs else []
theorem CZ{r:Nat}(h:r<1000000):(kG r).length≤7:=by
 unfold kG
 obtain⟨l,e,h6,_⟩:=wX h
 split
 ·rw[e,List.drop_one,List.tail_cons,aS]
  have:=AO 48 l
  omega
 ·simp
theorem Cp{n:Nat}(h:n≤9000000000000):(kx n).length≤14:=by
 unfold kx
 have h1:=sN (n:=n/1000000) (k:=7) (by omega) (by omega)
 have h2:=CZ (r:=n%1000000) (by omega)
 rw[ag];omega
theorem Cr(n:Int):(iL n).length≤15:=by
 unfold iL
 split
 ·rename_i h
  have:=Cp (n:=n.natAbs) (by omega)
  rw[ag]
  split
  ·simp only[bj];omega
  ·simp only[List.length_nil];omega
 ·simp
theorem zC(n:Int)(t:List Int)(h:t.length≤1000):ll n t=some ((if n<0 then [45]else [])++t,()):=by
 rw[Jy]
 by_cases h0:n<0
 ·rw[ak h0,bm h0,bm (by rw[bj];omega)]
 ·rw[aj h0,bn h0];rfl
theorem zB(n:Int):s_DecOk n=some (decide (-9000000000000≤n∧n≤9000000000000),()):=by
 rw[Jv,Ab]
 by_cases h:n ≥ -9000000000000
 ·rw[ak h]
  simp[show -9000000000000≤n from h]
 ·rw[aj h]
  simp[show ¬ -9000000000000≤n from h]
theorem JA(n:Int):uy n=some (iL n,()):=by
 rw[Jz,zB,aa]
 dsimp only
 unfold iL
 by_cases h:-9000000000000≤n∧n≤9000000000000
 ·rw[ac h,bn (by decide),bm h]
  have ea:jY n=some (((n.natAbs:Nat):Int),()):=by
   rw[Aa]
   by_cases h0:n<0
   ·rw[ak h0,ar,show(0:Int)-n=((n.natAbs:Nat):Int) by omega]
   ·rw[aj h0,show((n.natAbs:Nat):Int)=n by omega]
  rw[ea,aa]
  dsimp only
  generalize hm:n.natAbs=m
  have e1:Int.tdiv (m:Int) 1000000=((m/1000000:Nat):Int):=rfl
  have e2:Int.tmod (m:Int) 1000000=((m%1000000:Nat):Int):=rfl
  have h1:=sN (n:=m/1000000) (k:=7) (by omega) (by omega)
  rw[e1,e2,ar,x8 _ (by omega),aa]
  dsimp only
  unfold kx kG
  by_cases h0:0<m%1000000
  ·have e3:w64 (1000000+((m%1000000:Nat):Int))=((1000000+m%1000000:Nat):Int):=by rw[ar];omega
   obtain⟨l,e,h6,hd,hv⟩:=wX (r:=m%1000000) (by omega)
   have e4:List.take ((49::l).length-1) (List.drop 1 (49::l))=l:=by simp
   have h7:=AO 48 l
   have hne:∃ x∈l,x≠48:=by
    by_cases hh:∃ x∈l,x≠48
    ·exact hh
    ·exfalso
     have hall:∀ x∈l,x=48:=fun x hx=>by
      by_cases hx48:x=48
      ·exact hx48
      ·exact absurd ⟨x,hx,hx48⟩ hh
     rw[List.eq_replicate_of_mem hall,xa]at hv
     omega
   rw[ap,e3,x8 _ (by omega),aa,bm h0]
   dsimp only
   rw[e,e4,bm (by rw[aS];omega),Ak n _ (by omega) _ l rfl (by omega) hne,zC _ _ (by simp only[ag,bj];omega),List.drop_one,List.tail_cons,ah (dV _)]
   rfl
  ·rw[aq,bn h0,aI,zC _ _ (by omega)]
 ·rw[ae h,bm (by decide),bn h]
def Bm(v:bG):Prop:=v.S.length≤100000∧Bt v.S
def rN(v:bG):List Int:=if v.Kind=1 then iL v.N else v.S
theorem J1(v:bG):dJ v=some (rN v,()):=by
 rw[J0]
 unfold rN
 by_cases h:v.Kind=1
 ·rw[ak h,bm h,JA];rfl
 ·rw[aj h,bn h]
theorem wu(b:Bool):s_l1Bit b=some (if b=true then 1 else 0,()):=by rw[K6];cases b <;> rfl
end Go.Proofs.YtacknlgegbagfaaGreat.E.TN
namespace Go.Proofs.YtacknlgegbagfaaGreat.E
set_option linter.unusedVariables false
set_option linter.defProp false
def aW:=@List.getElem_mem
def gR(p:Nat→Bool)(n:Nat):Bool:=(List.range n).any p
theorem anyB_iff{p:Nat→Bool}{n:Nat}:gR p n=true ↔ ∃ i,i<n∧p i=true:=by
 unfold gR
 rw[List.any_eq_true]
 constructor
 ·rintro ⟨i,h,e⟩;exact⟨i,List.mem_range.1 h,e⟩
 ·rintro ⟨i,h,e⟩;exact⟨i,List.mem_range.2 h,e⟩
theorem anyB_false{p:Nat→Bool}{n:Nat}:gR p n=false ↔ ∀ i,i<n→p i=false:=by
 rw[← aU,anyB_iff]
 constructor
 ·intro h i hi
  cases e:p i with
  | false=>rfl
  | true=>exact absurd ⟨i,hi,e⟩ h
 ·rintro h ⟨i,hi,e⟩
  rw[h i hi]at e;cases e
theorem CP{ρ:Type}(F:Int→Option ρ)(n:Nat)(p:Nat→Bool)(x y:Option ρ)
  (step:∀ i:Nat,i<n→F i=if p i=true then x else F ((i+1:Nat):Int)) (stop:F (n:Int)=y):F 0=if gR p n=true then x else y:=by
 have key:∀ (d i:Nat),i+d=n→(∀ j,j<i→p j=false)→F (i:Int)=if gR p n=true then x else y:=by
  intro d
  induction d with
  | zero =>
   intro i hd hj
   have hi:i=n:=by omega
   subst hi
   rw[stop,anyB_false.2 hj];rfl
  | succ d ih =>
   intro i hd hj
   rw[step i (by omega)]
   cases e:p i with
   | true=>rw[bm rfl,anyB_iff.2 ⟨i,by omega,e⟩,bm rfl]
   | false =>
    rw[bn (by simp)]
    refine ih (i+1) (by omega) fun j h=>?_
    by_cases h':j=i
    ·subst h';exact e
    ·exact hj j (by omega)
 exact key n 0 (by omega) (fun j h=>absurd h (by omega))
theorem DL{σ:Type}(F:Int→Option (Int×σ))(s:σ)(n:Nat)(p:Nat→Bool)
  (step:∀ i:Nat,i<n→F i=if p i=true then some ((i:Int),s)else F ((i+1:Nat):Int)) (stop:F (n:Int)=some (-1,s)) :
  ∃ k:Int,F 0=some (k,s)∧decide (k≥0)=gR p n∧k<n∧(0≤k→p k.toNat=true∧∀ j:Nat,(j:Int)<k→p j=false)∧(k<0→k = -1):=by
 have key:∀ (d i:Nat),i+d=n→(∀ j,j<i→p j=false)→∃ k:Int,F (i:Int)=some (k,s)∧decide (k≥0)=gR p n∧k<n∧(0≤k→p k.toNat=true∧∀ j:Nat,(j:Int)<k→p j=false)∧(k<0→k = -1):=by
  intro d
  induction d with
  | zero =>
   intro i hd hj
   have hi:i=n:=by omega
   subst hi
   exact⟨-1,stop,by rw[anyB_false.2 hj];rfl,by omega,fun h=>by omega,fun _=>rfl⟩
  | succ d ih =>
   intro i hd hj
   rw[step i (by omega)]
   cases e:p i with
   | true=>rw[bm rfl];exact⟨i,rfl,by rw[anyB_iff.2 ⟨i,by omega,e⟩];exact ac (by omega),by omega,fun _=>⟨by rw[af];exact e,fun j h=>hj j (by omega)⟩,fun h=>by omega⟩
   | false =>
    rw[bn (by simp)]
    refine ih (i+1) (by omega) fun j h=>?_
    by_cases h':j=i
    ·subst h';exact e
    ·exact hj j (by omega)
 exact key n 0 (by omega) (fun j h=>absurd h (by omega))
theorem wb{α:Type}(l:List α)(z:α)(p:α→Bool):gR (fun i=>p (l.getD i z)) l.length=l.any p:=by
 cases h:l.any p with
 | true =>
  obtain⟨x,hx,e⟩:=List.any_eq_true.1 h
  obtain⟨i,hi,rfl⟩:=bk.1 hx
  exact anyB_iff.2 ⟨i,hi,by rw[dC hi];exact e⟩
 | false =>
  rw[anyB_false]
  intro i hi
  rw[dC hi]
  cases e:p l[i] with
  | false=>rfl
  | true =>
   have:l.any p=true:=List.any_eq_true.2 ⟨l[i],aW hi,e⟩
   rw[h]at this;cases this
end Go.Proofs.YtacknlgegbagfaaGreat.E
namespace Go.Proofs.YtacknlgegbagfaaGreat.E.TN
open Go.Proofs.YtacknlgegbagfaaGreat.E
set_option linter.unusedVariables false
def spl:List Int→List (List Int)
 | []=>[[]]
 | c::l=>if c=32 then []::spl l else((c::(spl l).getD 0 [])::(spl l).drop 1)
def pre(w:List Int):List (List Int)→List (List Int)
 | []=>[w]
 | x::xs=>(w++x)::xs
def ne(w:List Int):Bool:=!decide (w=[])
def kB(l:List Int):List (List Int):=(spl l).filter ne
theorem rJ(l:List Int):∃ x xs,spl l=x::xs:=by
 cases l with
 | nil=>exact⟨_,_,rfl⟩
 | cons c l=>rw[spl];split <;> exact⟨_,_,rfl⟩
theorem vE{c:Int}(h:c≠32)(l:List Int):spl (c::l)=pre [c] (spl l):=by
 obtain⟨x,xs,e⟩:=rJ l
 rw[spl,bn h,e];rfl
theorem Ir(a b:List Int)(l:List (List Int)):pre a (pre b l)=pre (a++b) l:=by
 cases l with
 | nil=>rfl
 | cons x xs=>show(a++(b++x))::xs=_;rw[← ah];rfl
theorem yN(l:List Int):pre [] (spl l)=spl l:=by
 obtain⟨x,xs,e⟩:=rJ l
 rw[e];rfl
theorem vD:∀ l:List Int,(spl l).length=l.count 32+1
 | []=>rfl
 | c::l=>by
  by_cases h:c=32
  ·subst h;rw[spl,bm rfl,aS,vD l,List.count_cons_self]
  ·obtain⟨x,xs,e⟩:=rJ l
   rw[vE h,List.count_cons_of_ne h,← vD l,e];rfl
theorem yp{w:List Int}(h:w≠[]):ne w=true:=by unfold ne;rw[ae h];rfl
theorem J7(t:List Int)(ht:t.length≤4294967290):∀ (d i f:Nat) (acc:List (List Int)),i+d=t.length→f≤i→acc.length≤i→fW t acc (f:Int) (i:Int)=some (acc++(pre ((t.drop f).take (i-f)) (spl (t.drop i))).filter ne,()):=by
 have fin:∀ (acc:List (List Int)) (a:Int) (b:Nat),t.length<b→fW t acc a (b:Int)=some (acc,()):=fun acc a b hb=>by rw[uB,aq]
 intro d
 induction d with
 | zero =>
  intro i f acc hi hf ha
  have hw:w64 ((i:Int)+1)=((i+1:Nat):Int):=by rw[ar];omega
  rw[uB,ap,aq,hw,aX (i:=i) (by omega)]
  show _=some (acc++List.filter ne [(t.drop f).take (i-f)++[]],())
  rw[aI]
  by_cases c:f<i
  ·have hne:(t.drop f).take (i-f)≠[]:=fun e=>by
    have:=congrArg List.length e
    rw[aQ,aR]at this
    simp only[List.length_nil]at this
    omega
   rw[ap,al,bm (by rw[b6];omega),fin _ _ _ (by omega),List.filter_cons_of_pos (yp hne),af,af]
   rfl
  ·rw[aq,fin _ _ _ (by omega),show i-f=0 by omega,List.take_zero,List.filter_cons_of_neg (by decide)]
   rw[List.filter_nil,aI]
 | succ d ih =>
  intro i f acc hi hf ha
  have hi':i<t.length:=by omega
  have hw:w64 ((i:Int)+1)=((i+1:Nat):Int):=cM hi' (by omega)
  rw[uB,ap,ap,al,df hi',hw,ai hi']
  have hstep:(t.drop f).take (i+1-f)=(t.drop f).take (i-f)++[t[i]]:=by
   rw[show i+1-f=(i-f)+1 by omega,List.take_add_one,List.getElem?_drop,show f+(i-f)=i by omega,List.getElem?_eq_getElem hi'];rfl
  by_cases c:t[i]=32
  ·rw[bn (by rw[c];decide),c,spl,bm rfl]
   show _=some (acc++List.filter ne (((t.drop f).take (i-f)++[])::spl (t.drop (i+1))),())
   rw[aI]
   have hrec:∀ acc:List (List Int),acc.length≤i+1→fW t acc ((i+1:Nat):Int) ((i+1:Nat):Int)=some (acc++(spl (t.drop (i+1))).filter ne,()):=fun acc ha=>by
    have:=ih (i+1) (i+1) acc (by omega) (aH _) ha
    rwa [Nat.sub_self,List.take_zero,yN]at this
   by_cases c2:f<i
   ·have hne:(t.drop f).take (i-f)≠[]:=fun e=>by
     have:=congrArg List.length e
     rw[aQ,aR]at this
     simp only[List.length_nil]at this
     omega
    rw[ap,al,bm (by rw[b6];omega),List.filter_cons_of_pos (yp hne),af,af]
    have:=hrec (acc++[(t.drop f).take (i-f)]) (by simp;omega)
    rw[ah]at this
    exact this
   ·rw[aq,show i-f=0 by omega,List.take_zero,List.filter_cons_of_neg (by decide)]
    exact hrec acc (by omega)
  ·rw[bm (by simp[c]),vE c,Ir,← hstep]
   exact ih (i+1) f acc (by omega) (by omega) (by omega)
theorem J8(t:List Int)(ht:t.length≤4294967290):uA t=some (kB t,()):=by
 rw[JC]
 have:=J7 t ht t.length 0 0 [] (by omega) (aH _) (aH _)
 rw[aN,Nat.sub_zero,List.take_zero,yN,bg]at this
 exact this
theorem CM(t:List Int):(kB t).length≤t.length+1:=by
 have hc:=List.count_le_length (a:=(32:Int)) (l:=t)
 have:=vD t
 have:=List.length_filter_le ne (spl t)
 unfold kB
 omega
theorem AA:∀ (l:List Int) (P:Int→Prop),(∀ x∈l,P x)→∀ w∈spl l,(∀ x∈w,P x)∧w.length≤l.length
 | [],P,h,w,hw=>by rw[aK.1 hw];exact⟨fun x hx=>(by cases hx),aH _⟩
 | c::l,P,h,w,hw=>by
  have ih:=AA l P fun x hx=>h x (aF _ hx)
  by_cases hc:c=32
  ·rw[spl,bm hc]at hw
   rcases aL.1 hw with rfl | hw
   ·exact⟨fun x hx=>(by cases hx),Nat.zero_le _⟩
   ·exact⟨(ih w hw).1,by have:=(ih w hw).2;rw[aS];omega⟩
  ·obtain⟨x,xs,e⟩:=rJ l
   rw[vE hc,e]at hw
   rcases aL.1 (show w∈([c]++x)::xs from hw)with rfl | hw
   ·obtain⟨g1,g2⟩:=ih x (by rw[e];exact aE ..)
    refine⟨fun y hy=>?_,by simp;omega⟩
    rcases aL.1 (show y∈c::x from hy)with rfl | hy
    ·exact h _ (aE ..)
    ·exact g1 y hy
   ·obtain⟨g1,g2⟩:=ih w (by rw[e];exact aF _ hw)
    exact⟨g1,by rw[aS];omega⟩
theorem CN{l:List Int}{P:Int→Prop}(h:∀ x∈l,P x){w:List Int}(hw:w∈kB l):(∀ x∈w,P x)∧w.length≤l.length:=AA l P h w (List.mem_filter.1 hw).1
theorem fZ(a b c:Int):s_l1In a b c=some (decide (b≤a∧a≤c),()):=by
 rw[Ab]
 by_cases h:b≤a
 ·rw[bm (by simp[h])];simp[h]
 ·rw[bn (by simp[h])];simp[h]
inductive Small:bC→Prop
 | mk (x:bC):x.Kids.length≤100→(∀ k∈x.Kids,Small k)→Small x
def n93(x:Int):Bool:=!decide (x=93)
def pz(l:List Int):List Int:=l.takeWhile n93
noncomputable def yl(s:List Int):Int×Bool:=match qK s with
 | some (v,ok,_)=>(v,ok)
 | none=>(0,false)
noncomputable def AV(v:bG):Bool:=(decide (-9000000000000≤v.N∧v.N≤9000000000000) && !decide ((v.S.length:Int)>300)) &&
 (if v.Kind=0 then decide (v.N=0)&&decide (v.S=[])else if v.Kind=1 then decide (v.S=[])else if v.Kind=2 then decide (v.N=0)else if v.Kind=3 then(yl v.S).2&&decide ((yl v.S).1=v.N)else false)
def pE(a b:bo):Bool:=decide (a.Name<b.Name)||(decide (a.Name=b.Name)&&ltS a.Key b.Key)
theorem Ke(a:bo)(n:Int)(k:List Int):uM a n k=some (decide (a.Name<n)||(decide (a.Name=n)&&ltS a.Key k),()):=by
 rw[Kd]
 cases decide (a.Name<n) <;> cases decide (a.Name=n) <;> rfl
def Dc(n:Int):Prop:=-9000000000000≤n∧n≤9000000000000
def VG(v:bG):Prop:=AV v=true∧Bt v.S
theorem VG.bd{v:bG}(h:VG v):Dc v.N∧v.S.length≤300:=by
 have h1:=h.1
 unfold AV at h1
 rw[aA,aA,ab,Bool.not_eq_true',decide_eq_false_iff_not]at h1
 exact⟨h1.1.1,by have:=h1.1.2;omega⟩
theorem VG.drawn{v:bG}(h:VG v):Bm v:=⟨by have:=h.bd.2;omega,h.2⟩
theorem wW(n:Nat):Bt (dV n):=fun x hx=>by have:=(wY n).1 x hx;omega
theorem LT(c:Int)(l:List Int):∀ x∈eA c l,x∈l:=fun x hx=>by
 unfold eA at hx
 rw[List.mem_reverse]at hx
 have:=(List.dropWhile_sublist _).subset hx
 rwa [List.mem_reverse]at this
theorem Cq(n:Int):Bt (iL n):=by
 intro x hx
 unfold iL at hx
 split at hx
 ·rcases aB.1 hx with hx | hx
  ·split at hx
   ·rw[aK.1 hx];omega
   ·cases hx
  ·unfold kx at hx
   rcases aB.1 hx with hx | hx
   ·exact wW _ x hx
   ·unfold kG at hx
    split at hx
    ·rcases aL.1 hx with rfl | hx
     ·omega
     ·exact wW _ x (List.mem_of_mem_drop (LT _ _ x hx))
    ·cases hx
 ·cases hx
def atP(n:Int)(k:List Int)(c:bo):Bool:=decide (c.Name=n)&&decide (c.Key=k)
theorem atP_iff{n:Int}{k:List Int}{c:bo}:atP n k c=true↔c.Name=n∧c.Key=k:=by
 unfold atP;rw[aA,ab,ab]
def atV(l:List bo)(n:Int)(k:List Int):Int:=if l.any (atP n k)=true then(l.findIdx (atP n k):Int)else -1
theorem CO{α:Type}{l:List α}{p:α→Bool}{z:α}{k:Int}(h0:0≤k)(hl:k<(l.length:Int))(h1:p (l.getD k.toNat z)=true)(h2:∀ j:Nat,(j:Int)<k→p (l.getD j z)=false):(l.findIdx p:Int)=k:=by
 have hk:k.toNat<l.length:=by omega
 have h3:l.findIdx p=k.toNat:=by
  rw[List.findIdx_eq hk]
  refine⟨by rw[← dC hk z];exact h1,fun j hj=>?_⟩
  rw[← dC (by omega) z]
  exact h2 j (by omega)
 rw[h3];omega
theorem J4(s:bE)(n:Int)(k:List Int)(hl:s.Cells.length≤100000):jP s n k=some (atV s.Cells n k,()):=by
 obtain⟨v,e1,e2,e3,e4,e5⟩:=DL (fun i=>gA n k i s) () s.Cells.length (fun i=>atP n k (s.Cells.getD i em))
  (fun i hi=>by
   show gA n k _ s=_
   rw[q8,ap,al,df hi,dC hi,cM hi (by omega)]
   unfold atP
   by_cases c:s.Cells[i].Name=n
   ·rw[ac c,bm rfl,al,Bool.true_and]
   ·rw[ae c,bn (by decide),Bool.false_and,bn (by decide)])
  (by show gA n k _ s=_;rw[q8,bn (by simp)])
 have e1':gA n k 0 s=some (v,()):=e1
 rw[zO,e1']
 congr 2
 unfold atV
 rw[wb s.Cells em (atP n k)]at e2
 by_cases c:0≤v
 ·rw[← e2,ak c]
  exact(CO c e3 (e4 c).1 (e4 c).2).symm
 ·rw[← e2,aj c]
  exact e5 (by omega)
theorem BB(l:List bo)(n:Int)(k:List Int):(atV l n k = -1∧∀ c∈l,¬ (c.Name=n∧c.Key=k))∨(0≤atV l n k∧atV l n k<(l.length:Int)):=by
 unfold atV
 by_cases c:l.any (atP n k)=true
 ·rw[bm c]
  have:=List.findIdx_lt_length_of_exists (xs:=l) (p:=atP n k) (by obtain⟨x,hx,e⟩:=List.any_eq_true.1 c;exact⟨x,hx,e⟩)
  exact .inr (by omega)
 ·rw[bn c]
  refine .inl ⟨rfl,fun x hx h=>c (List.any_eq_true.2 ⟨x,hx,atP_iff.2 h⟩)⟩
def jL(l:List bo)(c:bo):Nat:=l.findIdx fun x=>!pE x c
def kX(l:List bo)(n:Int)(k:List Int)(v:bG):Option (List bo) :=
 if 0≤atV l n k then some (l.set (atV l n k).toNat ⟨(l.getD (atV l n k).toNat em).Name,(l.getD (atV l n k).toNat em).Key,v⟩)
 else if 40≤l.length then none else some (iY l (jL l ⟨n,k,v⟩) [⟨n,k,v⟩])
theorem wP{s:bE}(hv:s.Vars.length≤100000)(hc:s.Cells.length≤100000):gB s=some (s,()):=by
 rw[Kb,bm (by rw[b6];omega),bm (by rw[b6];omega)];rfl
theorem IC(s:bE)(n:Int)(k:List Int)(v:bG)(hv:s.Vars.length≤100000)(hl:s.Cells.length≤100000) :
  qG s n k v=some (match kX s.Cells n k v with | some C=>(⟨s.Vars,C,s.Nr,s.Err⟩,true,()) | none=>(s,false,())):=by
 rw[Ji,wP hv hl,J4 s n k hl,aa,aa]
 dsimp only
 unfold kX
 rcases BB s.Cells n k with ⟨h,hno⟩ | h
 ·rw[aq,bn (c:=0≤atV s.Cells n k) (by omega)]
  by_cases c:40≤s.Cells.length
  ·rw[ap,bm c]
  ·rw[aq,bn c]
   have fin:∀ i:Nat,i≤s.Cells.length→(List.append (List.append (List.append [] (List.take ((i:Int).toNat-0) (List.drop 0 s.Cells))) [(bo.mk n k v)]) (List.take ((List.length s.Cells)-(i:Int).toNat) (List.drop (i:Int).toNat s.Cells)))=iY s.Cells i [⟨n,k,v⟩]:=fun i hi=>by
    unfold iY
    simp only[af,Nat.sub_zero,aN]
    rw[a9 (i:=s.Cells.length-i) (by rw[aR];omega)]
    show([]++s.Cells.take i)++[(⟨n,k,v⟩:bo)]++s.Cells.drop i=_
    simp
   have key:∀ (d i:Nat),i+d=s.Cells.length→(∀ j,j<i→pE (s.Cells.getD j em) ⟨n,k,v⟩=true)→qH n k (i:Int) s v f7 s=some (⟨s.Vars,iY s.Cells (jL s.Cells ⟨n,k,v⟩) [⟨n,k,v⟩],s.Nr,s.Err⟩,true,()):=by
    intro d
    induction d with
    | zero =>
     intro i hi hj
     have hp:jL s.Cells ⟨n,k,v⟩=i:=by
      rw[show i=s.Cells.length by omega]
      unfold jL
      rw[List.findIdx_eq_length]
      intro x hx
      obtain⟨j,hj',rfl⟩:=bk.1 hx
      have:=hj j (by omega)
      rw[dC hj']at this
      rw[this];rfl
     rw[zt,aq,al,bm (by rw[b6];simp;omega),bm (by rw[b6];simp;omega),al,bm (by rw[b6];simp;omega),fin i (by omega),hp]
    | succ d ih =>
     intro i hi hj
     have hi':i<s.Cells.length:=by omega
     rw[zt,ap,al,df hi',Ke,aa]
     dsimp only
     rw[show(decide (s.Cells[i].Name<n)||(decide (s.Cells[i].Name=n)&&ltS s.Cells[i].Key k))=pE s.Cells[i] ⟨n,k,v⟩from rfl]
     cases c3:pE s.Cells[i] ⟨n,k,v⟩ with
     | true =>
      rw[bm rfl,cM hi' (by omega)]
      refine ih (i+1) (by omega) fun j hji=>?_
      by_cases e:j=i
      ·subst e;rw[dC hi'];exact c3
      ·exact hj j (by omega)
     | false =>
      have hp:jL s.Cells ⟨n,k,v⟩=i:=by
       unfold jL
       rw[List.findIdx_eq hi']
       refine⟨by rw[c3];rfl,fun j hji=>?_⟩
       have:=hj j hji
       rw[dC (by omega)]at this
       rw[this];rfl
      rw[bn (by decide),al,bm (by rw[b6];simp;omega),bm (by rw[b6];simp;omega),al,bm (by rw[b6];simp;omega),fin i (by omega),hp]
   exact key s.Cells.length 0 (by omega) fun j hj=>absurd hj (by omega)
 ·rw[ap,bm h,bm h.1]
mutual
def yv:bC→Nat
 | ⟨_,_,_,_,ks⟩=>1+yw ks
def yw:List bC→Nat
 | []=>0
 | k::ks=>yv k+yw ks
end
def eo(f:List Bool)(j n:Nat):List Int:=((List.range' j n).filter fun i=>f.getD i false).map Int.ofNat
theorem marks_mem{f:List Bool}{j n:Nat}{x:Int}:x∈eo f j n ↔ ∃ i:Nat,x=i∧j≤i∧i<j+n∧f.getD i false=true:=by
 unfold eo
 rw[List.mem_map]
 constructor
 ·rintro ⟨i,hi,rfl⟩
  rw[List.mem_filter,List.mem_range'_1]at hi
  exact⟨i,rfl,hi.1.1,hi.1.2,hi.2⟩
 ·rintro ⟨i,rfl,h1,h2,h3⟩
  exact⟨i,List.mem_filter.2 ⟨List.mem_range'_1.2 ⟨h1,h2⟩,h3⟩,rfl⟩
theorem HO(f:List Bool)(j n:Nat):(eo f j n).length≤n:=by
 unfold eo
 rw[bh]
 exact Nat.le_trans (List.length_filter_le ..) (by rw[List.length_range'];exact aH _)
theorem HP(f:List Bool)(j n m:Nat):eo f j (n+m)=eo f j n++eo f (j+n) m:=by
 unfold eo
 rw[← List.range'_append_1,List.filter_append,List.map_append]
theorem xW(t:List Int):∀ l:List Int,0≤dj l t↔t <:+: l
 | []=>by
  unfold dj
  cases t with
  | nil=>simp
  | cons a t=>simp
 | b::l=>by
  have ih:=xW t l
  have hb:=qg l t
  unfold dj
  rw[List.infix_cons_iff]
  by_cases c:t.isPrefixOf (b::l)=true
  ·rw[bm c];exact⟨fun _=>.inl (List.isPrefixOf_iff_prefix.1 c),fun _=>Int.le_refl _⟩
  ·rw[bn c]
   have c':¬ t <+: b::l:=fun h=>c (List.isPrefixOf_iff_prefix.2 h)
   by_cases d:dj l t = -1
   ·rw[bm d]
    exact⟨fun h=>by omega,fun h=>by rcases h with h | h;exact absurd h c';exact absurd (ih.2 h) (by omega)⟩
   ·rw[bn d]
    exact⟨fun h=>.inr (ih.1 (by omega)),fun h=>by rcases h with h | h;exact absurd h c';have:=ih.2 h;omega⟩
theorem DI{l t:List Int}(h:l.length<t.length):dj l t = -1:=by
 have hb:=qg l t
 have:=(xW t l).1
 by_cases c:0≤dj l t
 ·have:=(this c).length_le;omega
 ·omega
theorem J9(s t:List Int)(hs:s.length≤300)(ht:t.length≤300):∀ (d i:Nat),i+d=s.length→rg s t (i:Int)=some (if dj (s.drop i) t = -1 then 0 else(i:Int)+dj (s.drop i) t+1,()):=by
 intro d
 induction d with
 | zero =>
  intro i hi
  have hw:w64 ((i:Int)+(t.length:Int))=((i+t.length:Nat):Int):=by rw[ar];omega
  have hd:s.drop i=[]:=aX (by omega)
  rw[zR,hw,hd]
  cases t with
  | nil =>
   rw[ak (by simp;omega),bm (by simp;omega)]
   rw[bm (by simp[hd]),ar]
   simp[dj]
  | cons c t =>
   rw[bn (by rw[ab,aS];omega)]
   simp[dj]
 | succ d ih =>
  intro i hi
  have hi':i<s.length:=by omega
  have hw:w64 ((i:Int)+(t.length:Int))=((i+t.length:Nat):Int):=by rw[ar];omega
  rw[zR,hw]
  by_cases c:i+t.length≤s.length
  ·have hpre:(t.isPrefixOf (s.drop i)=true)↔(s.drop i).take t.length=t:=by
    rw[List.isPrefixOf_iff_prefix,List.prefix_iff_eq_take];exact eq_comm
   have hcons:=ai hi'
   rw[ap,al,af,af,show i+t.length-i=t.length by omega,cM hi' (by omega)]
   by_cases c2:(s.drop i).take t.length=t
   ·have e:dj (s.drop i) t=0:=by rw[hcons]at hpre c2 ⊢;unfold dj;rw[bm (hpre.2 c2)]
    rw[ak c2,e,bn (by decide)]
    congr 2
   ·have hn:¬ t.isPrefixOf (s.drop i)=true:=fun h=>c2 (hpre.1 h)
    have e:dj (s.drop i) t=if dj (s.drop (i+1)) t = -1 then -1 else dj (s.drop (i+1)) t+1:=by rw[hcons]at hn ⊢;exact(by rw[dj,bn hn])
    have hb:=qg (s.drop (i+1)) t
    rw[aj c2,ih (i+1) (by omega),e]
    by_cases c3:dj (s.drop (i+1)) t = -1
    ·rw[bm c3,bm c3,bm rfl]
    ·rw[bn c3,bn c3,am]
     congr 2;omega
  ·rw[aq,bm (DI (by rw[aR];omega))]
theorem Ka(s t:List Int)(hs:s.length≤300)(ht:t.length≤300):uP s t=some (dj s t+1,()):=by
 rw[Kn]
 have:=J9 s t hs ht s.length 0 (by omega)
 rw[aN]at this
 rw[show(0:Int)=((0:Nat):Int)from rfl,this]
 have hb:=qg s t
 congr 2
 split <;> omega
def Tot{α:Type}(x:Option α)(P:α→Prop):Prop:=∃ y,x=some y∧P y
theorem tb{α β:Type}{x:Option α}{P:α→Prop}{f:α→Option β}{Q:β→Prop}(h:Tot x P)(k:∀ y,P y→Tot (f y) Q):Tot (x.bind f) Q:=by
 obtain⟨y,rfl,hy⟩:=h;exact k y hy
theorem ts{α:Type}{y:α}{Q:α→Prop}(h:Q y):Tot (some y) Q:=⟨y,rfl,h⟩
theorem ti{α:Type}{c:Prop}[Decidable c]{a b:Option α}{Q:α→Prop}(h:c→Tot a Q)(k:¬ c→Tot b Q):Tot (if c then a else b) Q:=by
 by_cases hc:c
 ·rw[bm hc];exact h hc
 ·rw[bn hc];exact k hc
theorem tc{α:Type}{c:Prop}[Decidable c]{a b:Option α}{Q:α→Prop}(hc:c)(h:Tot a Q):Tot (if c then a else b) Q:=by rw[bm hc];exact h
theorem tn{α:Type}{c:Prop}[Decidable c]{a b:Option α}{Q:α→Prop}(hc:¬ c)(h:Tot b Q):Tot (if c then a else b) Q:=by rw[bn hc];exact h
theorem te{α:Type}{x:Option α}{y:α}{P:α→Prop}(h:x=some y)(hp:P y):Tot x P:=⟨y,h,hp⟩
def TW(t:List Int):Prop:=t.length≤300∧Bt t
def VW(v:bG):Prop:=TW v.S
theorem pb:TW []:=⟨by simp,fun x hx=>by cases hx⟩
theorem j3(k n:Int):VW ⟨k,n,[]⟩:=pb
theorem AX:VW cl:=pb
theorem LV{v:bG}(h:VW v):TW (rN v):=by
 unfold rN
 split
 ·have:=Cr v.N;exact⟨by omega,Cq _⟩
 ·exact h
theorem ek{v:bG}(h:VW v):Tot (dJ v) (fun y=>TW y.1):=te (J1 v) (LV h)
theorem cP{l:List bG}(h:∀ v∈l,VW v)(n:Nat):VW (l.getD n cl):=by
 by_cases c:n<l.length
 ·rw[dC c];exact h _ (aW c)
 ·rw[List.getD_eq_getElem?_getD,List.getElem?_eq_none (by omega)];exact AX
theorem jz(p:Int)(b:Bool)(n m:Int)(N:Int)(h0:0≤p)(h1:p≤N):Tot (s_DecFront_L5 p b n m) (fun y=>0≤y.2.1∧y.2.1≤N):=by
 rw[Jp]
 refine ti (fun _=>ts ⟨Int.le_refl _,?_⟩) (fun _=>ti (fun _=>ts ⟨Int.le_refl _,?_⟩) (fun _=>ti (fun _=>ts ⟨h0,h1⟩) (fun _=>ts ⟨h0,h1⟩))) <;> exact Int.le_trans h0 h1
theorem C2(s:List Int)(hs:s.length≤1000)(b:Bool):∀ (d i:Nat) (n m u:Int),i+d=s.length→Tot (s_DecFront_L4 s (i:Int) b n m u) (fun y=>0≤y.2.1∧y.2.1≤(s.length:Int)):=by
 intro d
 induction d with
 | zero =>
  intro i n m u hd
  rw[zy,aq]
  exact jz _ _ _ _ _ (by omega) (by omega)
 | succ d ih =>
  intro i n m u hd
  have hi:i<s.length:=by omega
  rw[zy,ap,al,df hi,tv,aa,cM hi (by omega)]
  exact ti (fun _=>tc (by omega) (ih (i+1) _ _ _ (by omega))) (fun _=>jz _ _ _ _ _ (by omega) (by omega))
theorem C1(s:List Int)(hs:s.length≤1000)(b:Bool):∀ (d i:Nat) (n m:Int),i+d=s.length→Tot (s_DecFront_L3 s (i:Int) b n m) (fun y=>0≤y.2.1∧y.2.1≤(s.length:Int)):=by
 intro d
 induction d with
 | zero =>
  intro i n m hd
  rw[zx,aq,ar (n:=(i:Int)+1),aq]
  exact jz _ _ _ _ _ (by omega) (by omega)
 | succ d ih =>
  intro i n m hd
  have hi:i<s.length:=by omega
  rw[zx,ap,al,df hi,tv,aa,cM hi (by omega)]
  refine ti (fun _=>ti (fun _=>tc (by omega) (ih (i+1) _ _ (by omega))) (fun _=>ih (i+1) _ _ (by omega))) (fun _=>ti (fun h=>?_) (fun _=>jz _ _ _ _ _ (by omega) (by omega)))
  rw[ab]at h
  refine tc (by omega) (ti (fun _=>tc (by omega) ?_) (fun _=>jz _ _ _ _ _ (by omega) (by omega)))
  rw[tv,aa]
  exact ti (fun _=>C2 s hs b _ (i+1) _ _ _ (show i+1+(s.length-(i+1))=s.length by omega)) (fun _=>jz _ _ _ _ _ (by omega) (by omega))
theorem pV(s:List Int)(hs:s.length≤1000)(b:Bool)(i:Nat)(hi:i≤s.length):Tot (s_DecFront_L2 s (i:Int) b) (fun y=>0≤y.2.1∧y.2.1≤(s.length:Int)):=by
 rw[Jo];exact C1 s hs b (s.length-i) i 0 0 (by omega)
theorem C0(s:List Int)(hs:s.length≤1000):∀ (d i:Nat),i+d=s.length→Tot (s_DecFront_L1 s (i:Int)) (fun y=>0≤y.2.1∧y.2.1≤(s.length:Int)):=by
 intro d
 induction d with
 | zero =>
  intro i hd
  have e:¬ (i:Int)<(s.length:Int):=by omega
  rw[zv]
  simp only[ab,bn e]
  exact pV s hs _ i (by omega)
 | succ d ih =>
  intro i hd
  have hi:i<s.length:=by omega
  have e:(i:Int)<(s.length:Int):=by omega
  have e2:(0:Int)≤(i:Int)∧(i:Int)<(s.length:Int):=by omega
  rw[zv,cM hi (by omega)]
  simp only[ab,bm e,bm e2]
  refine ti (fun _=>ih (i+1) (by omega)) (fun _=>ti (fun _=>pV s hs _ (i+1) (by omega)) (fun _=>ti (fun _=>pV s hs _ (i+1) (by omega)) (fun _=>pV s hs _ i (by omega))))
theorem xz(s:List Int)(hs:s.length≤1000):Tot (s_DecFront s) (fun y=>0≤y.2.1∧y.2.1≤(s.length:Int)):=by
 rw[Jq];exact C0 s hs s.length 0 (by omega)
theorem ew{v:bG}(h:VW v):Tot (d9 v) (fun _=>True):=by
 have key:∀ b:Bool,Tot (qY v.Kind b v) (fun _=>True):=fun b=>by
  rw[JY]
  exact ti (fun _=>ts trivial) (fun _=>ti (fun _=>tb (xz v.S (by have:=h.1;omega)) (fun _ _=>ts trivial)) (fun _=>ts trivial))
 rw[JZ]
 exact ti (fun _=>key _) (fun _=>key _)
theorem HH(s:List Int)(hs:s.length≤1000):Tot (qK s) (fun _=>True):=by
 have key:∀ (d i:Nat) (n:Int),i+d=s.length→Tot (qL s n (i:Int)) (fun _=>True):=by
  intro d
  induction d with
  | zero =>
   intro i n hd
   rw[zA,aq];exact ts trivial
  | succ d ih =>
   intro i n hd
   have hi:i<s.length:=by omega
   rw[zA,ap,al,cM hi (by omega)]
   exact ti (fun _=>ts trivial) (fun _=>ih (i+1) n (by omega))
 rw[Jt]
 refine tb (xz s hs) (fun y hy=>ti (fun _=>ts trivial) (fun _=>?_))
 obtain⟨k,hk⟩:=Int.eq_ofNat_of_zero_le hy.1
 rw[hk]
 exact key (s.length-k) k _ (by have:=hy.2;omega)
theorem ub{s:List Int}(hs:s.length≤1000)(hb:Bt s):Tot (lt s) (fun y=>VW y.1):=by
 have key:∀ (t:List Int),TW t→Tot (qU t cl) (fun y=>VW y.1):=fun t ht=>by
  rw[JQ]
  exact tb (HH t (by have:=ht.1;omega)) (fun y _=>ti (fun _=>ts ht) (fun _=>ts ht))
 rw[JR]
 refine ti (fun h=>?_) (fun h=>key s ?_)
 ·rw[ab]at h
  refine tc (by omega) (key _ ⟨by rw[aQ];omega,fun x hx=>?_⟩)
  rw[aN]at hx
  exact hb x (List.mem_of_mem_take hx)
 ·rw[ab]at h
  exact⟨by omega,hb⟩
theorem gy(n:Int):Tot (s_DecOk n) (fun _=>True):=te (zB n) trivial
theorem jb(n:Int):Tot (gE n) (fun _=>True):=by
 rw[Lc]
 exact tb (gy _) (fun _ _=>ti (fun _=>ts trivial) (fun _=>ts trivial))
theorem Bo(a b:Int):Tot (uu a b) (fun _=>True):=by
 rw[Jm]
 exact tb (gy _) (fun _ _=>ti (fun _=>ts trivial) (fun _=>tb (gy _) (fun _ _=>ti (fun _=>ts trivial) (fun _=>tb (jb _) (fun _ _=>ts trivial)))))
theorem LM(a b:Int):Tot (ux a b) (fun _=>True):=by
 rw[Jw]
 exact tb (gy _) (fun _ _=>ti (fun _=>ts trivial) (fun _=>tb (gy _) (fun _ _=>ti (fun _=>ts trivial) (fun _=>tb (jb _) (fun _ _=>ts trivial)))))
theorem vZ(a:Int):Tot (jY a) (fun _=>True):=by
 rw[Aa];exact ti (fun _=>ts trivial) (fun _=>ts trivial)
theorem HS(a b:Int):Tot (uw a b) (fun _=>True):=by
 rw[Ju]
 refine tb (gy _) (fun _ _=>ti (fun _=>ts trivial) (fun _=>tb (gy _) (fun _ _=>ti (fun _=>ts trivial) (fun _=>tb (vZ _) (fun _ _=>tb (vZ _) (fun y _=>ti (fun h=>tc ?_ (ti (fun _=>ts trivial) (fun _=>?_))) (fun _=>?_)))))))
 ·rw[ab]at h;omega
 ·exact ti (fun _=>tb (jb _) (fun _ _=>ts trivial)) (fun _=>tb (jb _) (fun _ _=>ts trivial))
 ·exact ti (fun _=>tb (jb _) (fun _ _=>ts trivial)) (fun _=>tb (jb _) (fun _ _=>ts trivial))
theorem Ct(a b:Int):Tot (uv a b) (fun _=>True):=by
 rw[Jn]
 refine tb (gy _) (fun _ _=>ti (fun _=>ts trivial) (fun _=>tb (gy _) (fun _ _=>ti (fun _=>ts trivial) (fun _=>ti (fun _=>ts trivial) (fun h=>tc ?_ (tb (jb _) (fun _ _=>ts trivial)))))))
 rw[ab]at h;exact h
theorem vK(v:bG):Tot (lv v) (fun _=>True):=by
 have key:∀ b:Bool,Tot (qZ v.Kind b v) (fun _=>True):=fun b=>by
  rw[J2]
  exact ti (fun _=>ts trivial) (fun _=>ti (fun _=>ts trivial) (fun _=>ts trivial))
 rw[J3]
 exact ti (fun _=>key _) (fun _=>key _)
theorem rQ(b:Bool):Tot (jQ b) (fun y=>VW y.1):=by
 rw[Kf,wu,aa,zS,aa];exact ts (j3 _ _)
theorem gI(n:Int):Tot (fh n) (fun y=>VW y.1):=by rw[zS];exact ts (j3 _ _)
theorem sB(b:Bool):Tot (s_l1Bit b) (fun _=>True):=te (wu b) trivial
theorem Ci{a b:bG}(ha:VW a)(hb:VW b):Tot (ut a b) (fun _=>True):=by
 rw[Jl]
 refine tb (ek ha) (fun _ _=>tb (ek hb) (fun _ _=>tb (ek ha) (fun _ _=>tb (ek hb) (fun _ _=>ti (fun _=>ti (fun _=>tb (ew ha) (fun _ _=>tb (ew hb) (fun _ _=>tb (ew ha) (fun _ _=>tb (ew hb) (fun _ _=>ti (fun _=>ts trivial) (fun _=>tb (sB _) (fun _ _=>ts trivial))))))) (fun _=>?_)) (fun _=>?_)))))
 ·exact ti (fun _=>ts trivial) (fun _=>tb (sB _) (fun _ _=>ts trivial))
 ·exact ti (fun _=>ts trivial) (fun _=>tb (sB _) (fun _ _=>ts trivial))
theorem Ie{op:Int}(h0:0≤op∧op<6){a b:bG}(ha:VW a)(hb:VW b):Tot (uQ op a b) (fun y=>VW y.1):=by
 rw[Kr]
 exact tb (Ci ha hb) (fun _ _=>tc h0 (tb (rQ _) (fun _ h=>ts h)))
theorem qk{v:bG}(h:VW v):Tot (jT v) (fun y=>TW y.1):=by
 rw[Ko]
 refine tb (ek h) (fun y hy=>ti (fun c=>?_) (fun _=>ts hy))
 rw[ab]at c
 have:=hy.1
 omega
theorem Ih{l:List bG}(h:∀ v∈l,VW v)(h2:2≤l.length):Tot (uR l) (fun y=>TW y.1):=by
 have key:∀ (t:List Int) (f u:Int),TW t→u≤t.length→Tot (rh t f u) (fun y=>TW y.1):=fun t f u ht hu=>by
  rw[Ks]
  have hm:Tot (s_l1Max f 1) (fun y=>1≤y.1):=by
   rw[Ac]
   exact ti (fun c=>ts (by rw[ab]at c;show 1≤f;omega)) (fun _=>ts (Int.le_refl 1))
  refine tb hm (fun y hy=>ti (fun _=>ts pb) (fun c=>?_))
  rw[ab]at c
  have hl:=ht.1
  have e:w64 (y.1-1)=y.1-1:=ar
  rw[e]
  refine tc (by omega) (ts ⟨?_,fun x hx=>ht.2 x (List.mem_of_mem_drop (List.mem_of_mem_take hx))⟩)
  rw[aQ,aR];omega
 rw[Kt]
 refine tc (by omega) (tb (ek (cP h _)) (fun y hy=>tc (by omega) (tb (ew (cP h _)) (fun n _=>ti (fun c=>?_) (fun _=>key _ _ _ hy (by omega))))))
 rw[ab]at c
 refine tc (by omega) (tb (ew (cP h _)) (fun m _=>tb (P:=fun z=>z.1≤(y.1.length:Int)) ?_ (fun z hz=>key _ _ _ hy hz)))
 rw[Ad]
 exact ti (fun c=>ts (Int.le_refl _)) (fun c=>ts (by rw[ab]at c;show _≤_;omega))
theorem wG(a b:Int)(t:List Int)(ht:TW t):Tot (rc t a b) (fun y=>TW y.1):=by
 have key:∀ (d i:Nat) (t:List Int),TW t→i+d=t.length→Tot (jS a b t (i:Int)) (fun y=>TW y.1):=by
  intro d
  induction d with
  | zero =>
   intro i t ht hd
   rw[zQ,aq];exact ts ht
  | succ d ih =>
   intro i t ht hd
   have hi:i<t.length:=by omega
   have hl:=ht.1
   rw[zQ,ap,al,cM hi (by omega)]
   refine ti (fun _=>tc (by omega) (ti (fun _=>tc (by omega) (tc (by omega) (ih (i+1) _ ⟨by rw[aY];omega,fun x hx=>?_⟩ (by rw[aY];omega)))) (fun _=>ih (i+1) t ht (by omega)))) (fun _=>ih (i+1) t ht (by omega))
   rcases List.mem_or_eq_of_mem_set hx with hx | rfl
   ·exact ht.2 x hx
   ·exact gJ _
 rw[Kh]
 exact tc (by have:=ht.1;rw[b6];omega) (key t.length 0 t ht (by omega))
theorem pC{l:List bG}(h:∀ v∈l,VW v)(h2:1≤l.length)(nm:List Int)(hn:nm=[105,110,100,101,120]∨nm=[115,117,98,115,116,114]→2≤l.length)(hk:nm∈[[108,101,110,103,116,104],[105,110,116],[105,110,100,101,120],[117,112,112,101,114],[108,111,119,101,114],[115,117,98,115,116,114]]):Tot (jR nm l) (fun y=>VW y.1):=by
 rw[Kg]
 refine ti (fun _=>tc (by omega) (tb (ek (cP h _)) (fun _ _=>tb (gI _) (fun _ q=>ts q)))) (fun n1=>ti (fun _=>tc (by omega) (tb (ew (cP h _)) (fun y _=>?_))) (fun n2=>ti (fun c=>?_) (fun n3=>ti (fun _=>tc (by omega) (tb (ek (cP h _)) (fun y hy=>tb (wG _ _ _ hy) (fun _ q=>ts q)))) (fun n4=>ti (fun _=>tc (by omega) (tb (ek (cP h _)) (fun y hy=>tb (wG _ _ _ hy) (fun _ q=>ts q)))) (fun n5=>?_)))))
 ·rw[Jr,aa];exact tb (gI _) (fun _ q=>ts q)
 ·rw[ab]at c
  have:=hn (.inl c)
  refine tc (by omega) (tb (ek (cP h _)) (fun y hy=>tc (by omega) (tb (ek (cP h _)) (fun z hz=>?_))))
  rw[Ka _ _ hy.1 hz.1,aa]
  exact tb (gI _) (fun _ q=>ts q)
 ·rw[ab]at n1 n2 n3 n4 n5
  have:nm=[115,117,98,115,116,114]:=by simpa [n1,n2,n3,n4,n5]using hk
  exact tb (Ih h (hn (.inr this))) (fun _ q=>ts q)
theorem B3{l:List bG}(h:∀ v∈l,VW v)(h2:1≤l.length)(h3:l.length≤100)(nm:List Int)(hk:nm∈[[108,101,110,103,116,104],[105,110,116],[105,110,100,101,120],[117,112,112,101,114],[108,111,119,101,114],[115,117,98,115,116,114]]):Tot (uT nm l) (fun y=>VW y.1):=by
 have hv:∀ v∈List.append (List.append [] l) [bG.mk 0 0 []],VW v:=fun v hv=>by
  rcases aB.1 (show v∈l++[bG.mk 0 0 []]from hv)with hv | hv
  ·exact h v hv
  ·rw[aK.1 hv];exact j3 _ _
 have hl:(List.append (List.append [] l) [bG.mk 0 0 []]).length=l.length+1:=by show(l++[bG.mk 0 0 []]).length=_;simp
 have hl0:(List.append [] l).length=l.length:=rfl
 rw[Kw]
 refine ti (fun c=>ti (fun _=>tc (by rw[b6];omega) (tc (by rw[b6,hl0];omega) (tb (pC hv (by omega) nm (fun _=>by omega) hk) (fun _ q=>ts q)))) (fun n1=>ti (fun _=>tc (by rw[b6];omega) (tc (by rw[b6,hl0];omega) (tb (pC hv (by omega) nm (fun _=>by omega) hk) (fun _ q=>ts q)))) (fun n2=>tb (pC h h2 nm (fun e=>?_) hk) (fun _ q=>ts q)))) (fun c=>tb (pC h h2 nm (fun _=>?_) hk) (fun _ q=>ts q))
 ·rw[ab]at n1 n2;exact(e.elim n1 n2).elim
 ·rw[ab]at c;omega
set_option linter.defProp false
def a7:=@List.length_eq_zero_iff
def adj(l:List bz)(b e:Bool)(k:Nat):List Int :=
 if(l.getD k ci).Op=6 then [(l.getD k ci).A]else if(l.getD k ci).Op=7 then [(l.getD k ci).A,(l.getD k ci).B]
 else if(l.getD k ci).Op=4 then(if b=true then [(k:Int)+1]else [])else if(l.getD k ci).Op=5 then(if e=true then [(k:Int)+1]else [])else []
theorem Bp(l:List bz)(b e:Bool)(k:Nat):(adj l b e k).length≤2:=by
 unfold adj
 split
 ·simp
 ·split
  ·simp
  ·split
   ·split <;> simp
   ·split
    ·split <;> simp
    ·simp
inductive Rch (l:List bz) (at_:List Int) (b e:Bool):Int→Prop
 | base {i:Int}:i∈at_→0≤i→i<(l.length:Int)→Rch l at_ b e i
 | step {k j:Int}:Rch l at_ b e k→j∈adj l b e k.toNat→0≤j→j<(l.length:Int)→Rch l at_ b e j
theorem Rch.bd{l:List bz}{at_:List Int}{b e:Bool}{i:Int}(h:Rch l at_ b e i):0≤i∧i<(l.length:Int):=by
 cases h with
 | base _ h1 h2=>exact⟨h1,h2⟩
 | step _ _ h1 h2=>exact⟨h1,h2⟩
def St(l:List bz)(seen:List Bool)(out:List Int):Prop:=seen.length=l.length∧(∀ i:Nat,i<l.length→seen.getD i false=decide ((i:Int)∈out))∧(∀ x∈out,0≤x∧x<(l.length:Int))∧out.Nodup
theorem wQ:∀ (f:List Bool) (k:Nat),k<f.length→f.getD k false=false→(f.set k true).count false+1=f.count false
 | [],k,h,_=>absurd h (by simp)
 | a::f,0,h,e=>by
  have:a=false:=e
  subst this
  rw[List.set_cons_zero,List.count_cons,List.count_cons];simp
 | a::f,k+1,h,e=>by
  have:=wQ f k (by simpa using h) e
  rw[List.set_cons_succ,List.count_cons,List.count_cons];omega
def Mk(l:List bz)(at_:List Int)(b e:Bool)(f:List Bool)(todo:List Int):Prop:=f.length=l.length∧(∀ k:Nat,f.getD k false=true→Rch l at_ b e k)∧(∀ y∈todo,0≤y→y<(l.length:Int)→Rch l at_ b e y) ∧
 ∀ k:Nat,f.getD k false=true→∀ y∈adj l b e k,0≤y→y<(l.length:Int)→f.getD y.toNat false=true∨y∈todo
theorem J5{l:List bz}(hl:l.length≤1000)(at_:List Int)(b e:Bool):∀ (d:Nat) (f:List Bool) (todo:List Int),3*f.count false+todo.length≤d→d≤100000→Mk l at_ b e f todo →
  ∃ f',ez l f b e todo=some (f',())∧Mk l at_ b e f' []∧(∀ k:Nat,f.getD k false=true→f'.getD k false=true)∧∀ y∈todo,0≤y→y<(l.length:Int)→f'.getD y.toNat false=true:=by
 intro d
 induction d with
 | zero =>
  intro f todo hd hd2 h
  have ht:todo=[]:=a7.1 (by omega)
  subst ht
  rw[vn,bn (by simp)]
  exact⟨f,rfl,h,fun k hk=>hk,fun y hy=>by cases hy⟩
 | succ d ih =>
  intro f todo hd hd2 h
  obtain⟨h1,h2,h3,h4⟩:=h
  by_cases ht:todo.length=0
  ·have ht:todo=[]:=a7.1 ht
   subst ht
   rw[vn,bn (by simp)]
   exact⟨f,rfl,⟨h1,h2,h3,h4⟩,fun k hk=>hk,fun y hy=>by cases hy⟩
  ·have w:w64 ((todo.length:Int)-1)=((todo.length-1:Nat):Int):=by rw[ar];omega
   have hlt:todo.length-1<todo.length:=by omega
   rw[vn,ap,w,al,al,df hlt,af]
   have hsplit:todo=todo.take (todo.length-1)++[todo[todo.length-1]]:=vC (n:=todo.length-1) (by omega)
   have hrl:(todo.take (todo.length-1)).length=todo.length-1:=by rw[aQ];omega
   generalize todo.take (todo.length-1)=rest at hsplit hrl
   generalize todo[todo.length-1]=v at hsplit
   have hmem:∀ y,y∈todo↔y∈rest∨y=v:=fun y=>by rw[hsplit,aB,aK]
   have skip:(0≤v→v<(l.length:Int)→f.getD v.toNat false=true)→∃ f',ez l f b e rest=some (f',())∧Mk l at_ b e f' []∧(∀ k:Nat,f.getD k false=true→f'.getD k false=true)∧∀ y∈todo,0≤y→y<(l.length:Int)→f'.getD y.toNat false=true:=fun hv=>by
    obtain⟨f',e1,e2,e3,e4⟩:=ih f rest (by omega) (by omega) ⟨h1,h2,fun y hy=>h3 y ((hmem y).2 (.inl hy)),fun k hk y hy y0 y1=>by
     rcases h4 k hk y hy y0 y1 with h | h
     ·exact .inl h
     ·rcases(hmem y).1 h with h | h
      ·exact .inr h
      ·subst h;exact .inl (hv y0 y1)⟩
    refine⟨f',e1,e2,e3,fun y hy y0 y1=>?_⟩
    rcases(hmem y).1 hy with h | h
    ·exact e4 y h y0 y1
    ·subst h;exact e3 _ (hv y0 y1)
   by_cases c1:v≥(l.length:Int)
   ·rw[ak c1];exact skip fun _ h=>absurd h (by omega)
   rw[aj c1]
   by_cases c2:v<0
   ·rw[ak c2];exact skip fun h=>absurd h (by omega)
   rw[aj c2,al]
   by_cases c3:f.getD v.toNat false=true
   ·rw[bm c3];exact skip fun _ _=>c3
   rw[bn c3,al,al]
   have hvn:v.toNat<f.length:=by omega
   have hvr:Rch l at_ b e v:=h3 v ((hmem v).2 (.inr rfl)) (by omega) (by omega)
   have hcount:=wQ f v.toNat hvn (by simpa using c3)
   have hw:w64 (v+1)=((v.toNat:Nat):Int)+1:=by rw[ar];omega
   have go:∃ f',ez l (f.set v.toNat true) b e (rest++adj l b e v.toNat)=some (f',())∧Mk l at_ b e f' []∧(∀ k:Nat,f.getD k false=true→f'.getD k false=true)∧∀ y∈todo,0≤y→y<(l.length:Int)→f'.getD y.toNat false=true:=by
    have hal:=Bp l b e v.toNat
    have hget:∀ k:Nat,(f.set v.toNat true).getD k false=true↔f.getD k false=true∨k=v.toNat:=fun k=>by
     by_cases hk:v.toNat=k
     ·subst hk;rw[C4 hvn];simp
     ·rw[List.getD_eq_getElem?_getD,List.getElem?_set_ne hk,← List.getD_eq_getElem?_getD]
      exact⟨.inl,fun h=>h.elim id fun h=>absurd h.symm hk⟩
    obtain⟨f',e1,e2,e3,e4⟩:=ih (f.set v.toNat true) (rest++adj l b e v.toNat) (by rw[ag];omega) (by omega) ⟨by rw[aY];exact h1,fun k hk=>by
      rcases(hget k).1 hk with h | h
      ·exact h2 k h
      ·subst h;rw[Int.toNat_of_nonneg (by omega)];exact hvr,
     fun y hy y0 y1=>by
      rcases aB.1 hy with hy | hy
      ·exact h3 y ((hmem y).2 (.inl hy)) y0 y1
      ·exact .step hvr hy y0 y1,
     fun k hk y hy y0 y1=>by
      rcases(hget k).1 hk with h | h
      ·rcases h4 k h y hy y0 y1 with h | h
       ·exact .inl ((hget _).2 (.inl h))
       ·rcases(hmem y).1 h with h | h
        ·exact .inr (au _ h)
        ·exact .inl ((hget _).2 (.inr (by rw[h])))
      ·subst h;exact .inr (av _ hy)⟩
    refine⟨f',e1,e2,fun k hk=>e3 k ((hget k).2 (.inl hk)),fun y hy y0 y1=>?_⟩
    rcases(hmem y).1 hy with h | h
    ·exact e4 y (au _ h) y0 y1
    ·exact e3 _ ((hget _).2 (.inr (by rw[h])))
   have hnil:rest++[]=rest:=aI _
   unfold adj at go
   revert go
   generalize l.getD v.toNat ci=p
   intro go
   by_cases c6:p.Op=6
   ·rw[bm c6]at go
    rw[ak c6,bm (by rw[b6];omega)]
    exact go
   rw[bn c6]at go
   rw[aj c6]
   by_cases c7:p.Op=7
   ·rw[bm c7]at go
    rw[ak c7,bm (by rw[b6];omega)]
    exact go
   rw[bn c7]at go
   rw[aj c7]
   by_cases c4:p.Op=4
   ·rw[bm c4]at go
    rw[ak c4]
    cases b with
    | true =>
     rw[bm rfl]at go
     rw[bm rfl,bm (by rw[b6];omega),hw]
     exact go
    | false =>
     rw[bn (by decide),hnil]at go
     rw[bn (by decide)]
     exact go
   rw[bn c4]at go
   rw[aj c4]
   by_cases c5:p.Op=5
   ·rw[bm c5]at go
    rw[ak c5]
    cases e with
    | true =>
     rw[bm rfl]at go
     rw[bm rfl,bm (by rw[b6];omega),hw]
     exact go
    | false =>
     rw[bn (by decide),hnil]at go
     rw[bn (by decide)]
     exact go
   rw[bn c5,hnil]at go
   rw[aj c5]
   exact go
theorem Ly(f:List Bool)(hf:f.length≤1000):vo f=some (eo f 0 f.length,()):=by
 have key:∀ (d i:Nat) (t:List Int),i+d=f.length→t.length≤i→lz f t (i:Int)=some (t++eo f i d,()):=by
  intro d
  induction d with
  | zero =>
   intro i t hi ht
   rw[Ag,aq]
   show _=some (t++[],())
   rw[aI]
  | succ d ih =>
   intro i t hi ht
   have hi':i<f.length:=by omega
   rw[Ag,ap,al,cM hi' (by omega),af,show d+1=1+d by omega,HP]
   have hm:eo f i 1=if f.getD i false=true then [(i:Int)]else []:=by
    unfold eo
    rw[show List.range' i 1=[i]from rfl,List.filter_cons]
    split <;> rfl
   rw[hm]
   by_cases c:f.getD i false=true
   ·rw[bm c,bm c,bm (by rw[b6];omega)]
    have:=ih (i+1) (t++[(i:Int)]) (by omega) (by simp;omega)
    rw[ah]at this
    exact this
   ·rw[bn c,bn c,bg]
    exact ih (i+1) t (by omega) (by omega)
 rw[Lh]
 have:=key f.length 0 [] (by omega) (aH _)
 rwa [bg]at this
theorem J6{l:List bz}(hl:l.length≤1000)(at_:List Int)(hat:at_.length≤1000000)(b e:Bool):∃ f:List Bool,lk l at_ b e=some (eo f 0 l.length,())∧∀ k:Nat,k<l.length→(f.getD k false=true↔Rch l at_ b e k):=by
 have key:∀ (d i:Nat) (f:List Bool),i+d=at_.length→Mk l at_ b e f []→(∀ (j:Nat) (hj:j<at_.length),j<i→0≤at_[j]→at_[j]<(l.length:Int)→f.getD at_[j].toNat false=true) →
   ∃ g:List Bool,qI l at_ b e f (i:Int)=some (eo g 0 l.length,())∧∀ k:Nat,k<l.length→(g.getD k false=true↔Rch l at_ b e k):=by
  intro d
  induction d with
  | zero =>
   intro i f hi h ha
   obtain⟨h1,h2,h3,h4⟩:=h
   rw[zu,aq,Ly f (by omega),aa,h1]
   refine⟨f,rfl,fun k hk=>⟨h2 k,fun hx=>?_⟩⟩
   have all:∀ y:Int,Rch l at_ b e y→f.getD y.toNat false=true:=fun y hy=>by
    induction hy with
    | base g1 g2 g3 =>
     obtain⟨j,hj,rfl⟩:=bk.1 g1
     exact ha j hj (by omega) g2 g3
    | step g0 g1 g2 g3 ih =>
     rcases h4 _ ih _ g1 g2 g3 with h | h
     ·exact h
     ·cases h
   have:=all k hx
   rwa [af]at this
  | succ d ih =>
   intro i f hi h ha
   have hi':i<at_.length:=by omega
   obtain⟨h1,h2,h3,h4⟩:=h
   rw[zu,ap,al,df hi',Lg]
   have hc:=List.count_le_length (a:=false) (l:=f)
   obtain⟨f',e1,e2,e3,e4⟩:=J5 hl at_ b e (3*f.count false+1) f [at_[i]] (by simp) (by omega) ⟨h1,h2,fun y hy y0 y1=>.base (by rw[aK.1 hy];exact aW hi') y0 y1,fun k hk y hy y0 y1=>(h4 k hk y hy y0 y1).imp id fun h=>by cases h⟩
   rw[e1,aa]
   dsimp only
   rw[cM hi' (by omega)]
   refine ih (i+1) f' (by omega) e2 fun j hj hji x0 x1=>?_
   by_cases hj':j=i
   ·subst hj';exact e4 _ (aK.2 rfl) x0 x1
   ·exact e3 _ (ha j hj (by omega) x0 x1)
 rw[Jj,bm ⟨by omega,by omega,by rw[b6];omega⟩,af]
 have hno:∀ k:Nat,(List.replicate l.length false).getD k false=false:=fun k=>by
  rw[List.getD_eq_getElem?_getD,List.getElem?_replicate];split <;> rfl
 exact key at_.length 0 _ (by omega) ⟨a8,fun k hk=>(by rw[hno]at hk;cases hk),fun y hy=>(by cases hy),fun k hk=>(by rw[hno]at hk;cases hk)⟩ (fun j hj h=>absurd h (by omega))
def plB(p:bz)(n:Int):Bool :=
 if p.Op=1 then decide (0≤p.C∧p.C≤255)&&((decide (p.Set=[]) && !p.Not)&&(decide (p.A=0)&&decide (p.B=0)))
 else if p.Op=3 then decide (p.C=0)&&(decide (p.A=0)&&decide (p.B=0))
 else if p.Op=6 then decide (p.C=0)&&((decide (p.Set=[]) && !p.Not)&&(decide (0≤p.A∧p.A≤w64 (n-1))&&decide (p.B=0)))
 else if p.Op=7 then decide (p.C=0)&&((decide (p.Set=[]) && !p.Not)&&(decide (0≤p.A∧p.A≤w64 (n-1))&&decide (0≤p.B∧p.B≤w64 (n-1))))
 else if p.Op=2∨p.Op=4∨p.Op=5∨p.Op=8 then decide (p.C=0)&&((decide (p.Set=[]) && !p.Not)&&(decide (p.A=0)&&decide (p.B=0)))
 else false
theorem Lz(p:bz)(n:Int):vt p n=some (plB p n,()):=by
 rw[Lp]
 simp only[Li,Lj,Lk,Ll,Lm,fZ,aa]
 unfold plB
 generalize w64 (n-1)=m
 by_cases c1:p.Op=1
 ·by_cases hC:0≤p.C∧p.C≤255
  ·by_cases hs:p.Set=[] <;> by_cases hn:p.Not <;> by_cases hA:p.A=0 <;> by_cases hB:p.B=0 <;> simp[c1,hC,hs,hn,hA,hB]
  ·have hC':p.C≠0:=fun h=>hC (by omega)
   by_cases hs:p.Set=[] <;> by_cases hn:p.Not <;> by_cases hA:p.A=0 <;> by_cases hB:p.B=0 <;> simp[c1,hC,hC',hs,hn,hA,hB]
 by_cases hC:p.C=0
 ·by_cases c3:p.Op=3
  ·by_cases hA:p.A=0 <;> by_cases hB:p.B=0 <;> simp[c3,hC,hA,hB]
  by_cases c6:p.Op=6
  ·by_cases hs:p.Set=[] <;> by_cases hn:p.Not <;> by_cases hA:0≤p.A∧p.A≤m <;> by_cases hB:p.B=0 <;> simp[c6,hC,hs,hn,hA,hB]
  by_cases c7:p.Op=7
  ·by_cases hs:p.Set=[] <;> by_cases hn:p.Not <;> by_cases hA:0≤p.A∧p.A≤m <;> by_cases hB:0≤p.B∧p.B≤m <;> simp[c7,hC,hs,hn,hA,hB]
  by_cases c2:p.Op=2
  ·by_cases hs:p.Set=[] <;> by_cases hn:p.Not <;> by_cases hA:p.A=0 <;> by_cases hB:p.B=0 <;> simp[c2,hC,hs,hn,hA,hB]
  by_cases c4:p.Op=4
  ·by_cases hs:p.Set=[] <;> by_cases hn:p.Not <;> by_cases hA:p.A=0 <;> by_cases hB:p.B=0 <;> simp[c4,hC,hs,hn,hA,hB]
  by_cases c5:p.Op=5
  ·by_cases hs:p.Set=[] <;> by_cases hn:p.Not <;> by_cases hA:p.A=0 <;> by_cases hB:p.B=0 <;> simp[c5,hC,hs,hn,hA,hB]
  by_cases c8:p.Op=8
  ·by_cases hs:p.Set=[] <;> by_cases hn:p.Not <;> by_cases hA:p.A=0 <;> by_cases hB:p.B=0 <;> simp[c8,hC,hs,hn,hA,hB]
  have hno:¬ (1≤p.Op∧p.Op≤8):=by omega
  simp[c1,c2,c3,c4,c5,c6,c7,c8,hno]
 ·have e5:(decide (p.C=0))=false:=ae hC
  by_cases c3:p.Op=3
  ·simp[c3,hC]
  by_cases c6:p.Op=6
  ·simp[c6,hC]
  by_cases c7:p.Op=7
  ·simp[c7,hC]
  simp[c1,c3,c6,c7,hC]
theorem Bv(l:List Int)(c:Int):(l.any fun x=>decide (x=c))=decide (c∈l):=by
 cases h:decide (c∈l) with
 | true=>exact List.any_eq_true.2 ⟨c,of_decide_eq_true h,by simp⟩
 | false =>
  have h:=of_decide_eq_false h
  rw[← aU]
  intro e
  obtain⟨x,hx,e⟩:=List.any_eq_true.1 e
  exact h (by rw[← of_decide_eq_true e];exact hx)
theorem Lr(l:List Int)(c:Int)(hl:l.length≤4294967296):vu l c=some (decide (c∈l),()):=by
 rw[Lq]
 have h:=CP (fun i=>jg l c i) l.length (fun i=>decide (l.getD i 0=c)) (some (true,())) (some (false,()))
  (fun i hi=>by show jg l c _=_;rw[Ah,ap,al,df hi,dC hi,cM hi (by omega)])
  (by show jg l c _=_;rw[Ah,bn (by simp)])
 have h':jg l c 0=_:=h
 rw[h',wb l 0 (fun x=>decide (x=c)),Bv]
 by_cases d:c∈l
 ·rw[ac d,bm rfl]
 ·rw[ae d,bn (by decide)]
inductive R
 | err (e:Int)
 | stop
 | go (a:Int) (V:List bG) (C:List bo) (out:List Int) (st:List bG)
def cD(o:bw):Int :=
 if o.Code=4∨o.Code=5∨o.Code=6∨o.Code=9∨o.Code=24∨o.Code=26∨o.Code=27∨o.Code=28∨o.Code=31∨o.Code=32∨o.Code=33∨o.Code=35 then 1
 else if o.Code=7∨o.Code=8 then 2 else if o.Code=29 then o.N else if 12≤o.Code∧o.Code≤23 then 2 else 0
abbrev WTy:=bE×(List (List Int)×(List (List Int)×(List Int×(List (List Int)×(List Int×(Int×(Bool×Unit)))))))
def ClW(c:bo):Prop:=TW c.Key∧VW c.Val
def SW(nv:Nat)(s:bE):Prop:=(s.Vars.length=nv∧∀ v∈s.Vars,VW v)∧(s.Cells.length≤40∧∀ c∈s.Cells,ClW c)
def FW(line:List Int)(fs:List (List Int)):Prop:=(line.length≤1000∧Bt line)∧(fs.length≤2000∧∀ f∈fs,f.length≤1000∧Bt f)
def OW(o:List Int):Prop:=o.length≤600∧Bt o
def WW(nv:Nat)(x:WTy):Prop:=SW nv x.1∧FW x.2.2.2.1 x.2.2.2.2.1∧OW x.2.2.2.2.2.1
def StW(st:List bG):Prop:=st.length≤64∧∀ v∈st,VW v
theorem fP{nv:Nat}{s:bE}{vs:List (List Int)}{cs:List (List Int)}{line:List Int}{fs:List (List Int)}{out:List Int}{fuel:Int}{done:Bool}(hs:SW nv s)(hf:FW line fs)(ho:OW out)(e:Int):Tot (fg s vs cs line fs out fuel done e) (fun y=>WW nv y.1):=by
 rw[Kk]
 exact ti (fun _=>ts ⟨hs,hf,ho⟩) (fun _=>ts ⟨hs,hf,ho⟩)
theorem rH{nv:Nat}{s:bE}{vs:List (List Int)}{cs:List (List Int)}{line:List Int}{fs:List (List Int)}{out:List Int}{fuel:Int}{done:Bool}(hs:SW nv s)(hf:FW line fs)(ho:OW out)(t:List Int)(ht:TW t):Tot (jU s vs cs line fs out fuel done t) (fun y=>WW nv y.1):=by
 rw[Ku]
 have h1:=ho.1
 have h2:=ht.1
 rw[ar]
 refine ti (fun _=>tb (fP hs hf ho _) (fun _ h=>ts h)) (fun c=>tc (by omega) (ts ⟨hs,hf,?_,fun x hx=>?_⟩))
 ·rw[ab]at c
  show(out++t).length≤600
  rw[ag];omega
 ·rcases aB.1 hx with hx | hx
  ·exact ho.2 x hx
  ·exact ht.2 x hx
theorem jK{nv:Nat}{s:bE}{vs:List (List Int)}{cs:List (List Int)}{line:List Int}{fs:List (List Int)}{out:List Int}{fuel:Int}{done:Bool}(hs:SW nv s)(hf:FW line fs)(ho:OW out){st:List bG}(hst:StW st){v:bG}(hv:VW v):Tot (im ⟨(),st⟩ s vs cs line fs out fuel done v) (fun y=>StW y.1.stack∧WW nv y.2.1):=by
 rw[Kz]
 refine ti (fun _=>tb (fP hs hf ho _) (fun _ h=>ts ⟨hst,h⟩)) (fun c=>tc (by have:=hst.1;rw[b6];show st.length+1≤_;omega) (ts ⟨⟨?_,fun x hx=>?_⟩,hs,hf,ho⟩))
 ·rw[ab]at c
  have c':¬ (st.length:Int)=64:=c
  have:=hst.1
  show(st++[v]).length≤64
  rw[ag,bj];omega
 ·rcases aB.1 (show x∈st++[v]from hx)with hx | hx
  ·exact hst.2 x hx
  ·rw[aK.1 hx];exact hv
theorem tJ{nv:Nat}{s:bE}{vs:List (List Int)}{cs:List (List Int)}{line:List Int}{fs:List (List Int)}{out:List Int}{fuel:Int}{done:Bool}(hs:SW nv s)(hf:FW line fs)(ho:OW out)(op a b:Int):Tot (lw s vs cs line fs out fuel done op a b) (fun y=>VW y.1∧WW nv y.2.1):=by
 have L1:∀ (n:Int) (ok:Bool),Tot (je n ok (bI.mk s vs cs line fs out fuel done) cl) (fun y=>VW y.1∧WW nv y.2.1):=fun n ok=>by
  rw[Kp]
  exact ti (fun _=>tb (fP hs hf ho _) (fun _ h=>tb (gI _) (fun _ q=>ts ⟨q,h⟩))) (fun _=>tb (gI _) (fun _ q=>ts ⟨q,hs,hf,ho⟩))
 rw[Kq]
 refine ti (fun _=>tb (Bo _ _) (fun _ _=>L1 _ _)) (fun _=>ti (fun _=>tb (LM _ _) (fun _ _=>L1 _ _)) (fun _=>ti (fun _=>tb (HS _ _) (fun _ _=>L1 _ _)) (fun _=>ti (fun _=>tb (fP hs hf ho _) (fun _ h=>ts ⟨j3 _ _,h⟩)) (fun c=>tb (Ct _ _) (fun _ _=>ti (fun _=>tc ?_ (L1 _ _)) (fun _=>L1 _ _))))))
 rw[ab]at c;exact c
theorem CL{nv:Nat}{s:bE}{vs:List (List Int)}{cs:List (List Int)}{line:List Int}{fs:List (List Int)}{out:List Int}{fuel:Int}{done:Bool}(hs:SW nv s)(hf:FW line fs)(ho:OW out){v:bG}(hv:VW v):Tot (uO s vs cs line fs out fuel done v) (fun y=>VW y.1∧WW nv y.2.1):=by
 rw[Kl]
 refine tb (ew hv) (fun n _=>ti (fun _=>tb (ub hf.1.1 hf.1.2) (fun _ h=>ts ⟨h,hs,hf,ho⟩)) (fun c=>?_))
 rw[fZ,aa]
 refine ti (fun _=>tb (ub (s:=[]) (by simp) (fun x hx=>by cases hx)) (fun _ h=>ts ⟨h,hs,hf,ho⟩)) (fun d=>?_)
 have d':1≤w64 (Int.tdiv n.1 1000000)∧w64 (Int.tdiv n.1 1000000)≤(fs.length:Int):=by simpa using d
 have hl:=hf.2.1
 rw[ar (n:=w64 (Int.tdiv n.1 1000000)-1)]
 have hi:(w64 (Int.tdiv n.1 1000000)-1).toNat<fs.length:=by omega
 refine tc (by omega) (tb (P:=fun y=>VW y.1) ?_ (fun _ h=>ts ⟨h,hs,hf,ho⟩))
 rw[dC hi]
 have:=hf.2.2 _ (aW hi)
 exact ub this.1 this.2
theorem B5{nv:Nat}{s:bE}{vs:List (List Int)}{cs:List (List Int)}{line:List Int}{fs:List (List Int)}{out:List Int}{fuel:Int}{done:Bool}(hs:SW nv s)(hf:FW line fs)(ho:OW out){a b:bG}(ha:VW a)(hb:VW b):Tot (uN s vs cs line fs out fuel done a b) (fun y=>VW y.1∧WW nv y.2.1):=by
 rw[Ki]
 refine tb (ek ha) (fun x hx=>tb (ek hb) (fun y hy=>tc (by have:=hx.1;have:=hy.1;omega) (ti (fun _=>tb (fP hs hf ho _) (fun _ h=>ts ⟨j3 _ _,h⟩)) (fun c=>ts ⟨⟨?_,fun z hz=>?_⟩,hs,hf,ho⟩))))
 ·rw[ab]at c
  show(x.1++y.1).length≤300
  omega
 ·rcases aB.1 (show z∈x.1++y.1 from hz)with hz | hz
  ·exact hx.2 z hz
  ·exact hy.2 z hz
theorem wi{nv:Nat}{s:bE}(hs:SW nv s)(n:Int)(k:List Int):Tot (jP s n k) (fun y=>y.1<(s.Cells.length:Int)):=by
 have key:∀ (d i:Nat),i+d=s.Cells.length→Tot (gA n k (i:Int) s) (fun y=>y.1<(s.Cells.length:Int)):=by
  intro d
  have hl:=hs.2.1
  induction d with
  | zero =>
   intro i hd
   rw[q8,aq];exact ts (show(-1:Int)<_ by omega)
  | succ d ih =>
   intro i hd
   have hi:i<s.Cells.length:=by omega
   rw[q8,ap,al,cM hi (by omega)]
   exact ti (fun _=>tc (by omega) (ti (fun _=>ts (show(i:Int)<_ by omega)) (fun _=>ih (i+1) (by omega)))) (fun _=>ih (i+1) (by omega))
 rw[zO];exact key s.Cells.length 0 (by omega)
theorem kv{nv:Nat}{s:bE}(hs:SW nv s)(hn:nv≤100):gB s=some (s,()):=wP (by have:=hs.1.1;omega) (by have:=hs.2.1;omega)
theorem wU{nv:Nat}{s:bE}(hs:SW nv s)(i:Nat):ClW (s.Cells.getD i em):=by
 by_cases c:i<s.Cells.length
 ·rw[dC c];exact hs.2.2 _ (aW c)
 ·rw[List.getD_eq_getElem?_getD,List.getElem?_eq_none (by omega)];exact⟨pb,pb⟩
theorem xC{nv:Nat}{s:bE}(hs:SW nv s)(n:Int)(k:List Int):Tot (qF s n k) (fun y=>VW y.1):=by
 rw[Jh]
 refine tb (wi hs n k) (fun y hy=>ti (fun _=>ts (j3 _ _)) (fun c=>?_))
 rw[ab]at c
 exact tc (by omega) (ts (wU hs _).2)
theorem ID{nv:Nat}{s:bE}(hs:SW nv s)(hn:nv≤100)(n:Int){k:List Int}(hk:TW k){v:bG}(hv:VW v):Tot (qG s n k v) (fun y=>SW nv y.1):=by
 have hv1:=hs.1.1
 have hl:=hs.2.1
 rw[IC s n k v (by omega) (by omega)]
 have hp:∀ C,kX s.Cells n k v=some C→C.length≤40∧∀ c∈C,ClW c:=by
  intro C hC
  unfold kX at hC
  split at hC
  ·cases hC
   refine⟨by rw[aY];exact hl,fun c hc=>?_⟩
   rcases List.mem_or_eq_of_mem_set hc with hc | rfl
   ·exact hs.2.2 c hc
   ·exact⟨(wU hs _).1,hv⟩
  ·split at hC
   ·cases hC
   ·cases hC
    have ins:∀ (p:Nat) (x:bo),ClW x→(iY s.Cells p [x]).length≤40∧∀ c∈iY s.Cells p [x],ClW c:=by
     intro p x hx
     unfold iY
     refine⟨?_,fun c hc=>?_⟩
     ·simp only[ag,aQ,aR,bj];omega
     ·rcases aB.1 hc with hc | hc
      ·exact hs.2.2 c (List.mem_of_mem_take hc)
      ·rcases aB.1 hc with hc | hc
       ·rw[aK.1 hc];exact hx
       ·exact hs.2.2 c (List.mem_of_mem_drop hc)
    exact ins _ _ ⟨hk,hv⟩
 cases e:kX s.Cells n k v with
 | none=>exact ts hs
 | some C=>exact ts ⟨hs.1,hp C e⟩
theorem Cy{nv:Nat}{s:bE}(hs:SW nv s)(hn:nv≤100)(n:Int)(k:List Int):Tot (uq s n k) (fun y=>SW nv y.1):=by
 have hl:=hs.2.1
 rw[Jg,kv hs hn,aa]
 refine tb (wi hs n k) (fun y hy=>ti (fun c=>?_) (fun _=>ts hs))
 rw[ab]at c
 rw[ar (n:=y.1+1)]
 refine tc (by omega) (tc (by rw[b6,aQ];omega) (tc (by omega) (tc ?_ (ts ⟨hs.1,?_,fun c hc=>?_⟩))))
 ·show(List.take _ (List.drop 0 s.Cells)).length+_≤_
  rw[b6,aQ,aQ,aR,aR];omega
 ·show(List.take (y.1.toNat-0) (List.drop 0 s.Cells)++List.take _ (List.drop _ s.Cells)).length≤40
  rw[ag,aQ,aQ,aR,aR];omega
 ·rcases aB.1 (show c∈List.take (y.1.toNat-0) (List.drop 0 s.Cells)++List.take _ (List.drop _ s.Cells)from hc)with hc | hc
  ·exact hs.2.2 c (List.mem_of_mem_drop (List.mem_of_mem_take hc))
  ·exact hs.2.2 c (List.mem_of_mem_drop (List.mem_of_mem_take hc))
theorem wH{nv:Nat}{s:bE}{vs:List (List Int)}{cs:List (List Int)}{line:List Int}{fs:List (List Int)}{out:List Int}{fuel:Int}{done:Bool}(hs:SW nv s)(hn:nv≤100)(hf:FW line fs)(ho:OW out){st:List bG}(hst:StW st)(n:Int){k:List Int}(hk:TW k){v:bG}(hv:VW v):Tot (ri ⟨(),st⟩ s vs cs line fs out fuel done n k v) (fun y=>StW y.1.stack∧WW nv y.2.1):=by
 rw[Kx]
 exact tb (ID hs hn n hk hv) (fun y hy=>ti (fun _=>tb (fP hs hf ho _) (fun _ h=>ts ⟨hst,h⟩)) (fun _=>tb (jK hy hf ho hst hv) (fun _ h=>ts h)))
theorem HT{nv:Nat}{s:bE}{vs:List (List Int)}{cs:List (List Int)}{line:List Int}{fs:List (List Int)}{out:List Int}{fuel:Int}{done:Bool}(hs:SW nv s)(hn:nv≤100)(hf:FW line fs)(ho:OW out){st l:List bG}(hst:StW st)(hl:∀ v∈l,VW v){o:bw}(hN:(o.Code=3∨o.Code=4∨o.Code=5)→0≤o.N∧o.N<nv)
  (h1:(o.Code=4∨o.Code=5∨o.Code=6∨o.Code=35)→1≤l.length) (h2:(o.Code=7∨o.Code=8)→2≤l.length):Tot (uV ⟨(),st⟩ s vs cs line fs out fuel done o l) (fun y=>StW y.1.stack∧WW nv y.2.1):=by
 have hv1:=hs.1.1
 have setW:∀ {s':bE} (hs':SW nv s') (i:Nat) {v:bG},VW v→∀ (n e:Int),SW nv ⟨List.set s'.Vars i v,s'.Cells,n,e⟩:=fun {s'} hs' i {v} hv n e=>⟨⟨by rw[← hs'.1.1];exact aY,fun x hx=>by
  rcases List.mem_or_eq_of_mem_set hx with hx | rfl
  ·exact hs'.1.2 x hx
  ·exact hv⟩,hs'.2⟩
 rw[Ky]
 refine ti (fun c=>?_) (fun c3=>ti (fun c=>?_) (fun c4=>ti (fun c=>?_) (fun c5=>ti (fun c=>?_) (fun c6=>ti (fun c=>?_) (fun c7=>ti (fun c=>?_) (fun c8=>ti (fun c=>?_) (fun _=>ts ⟨hst,hs,hf,ho⟩)))))))
 ·rw[ab]at c
  have:=hN (.inl c)
  exact tc (by omega) (tb (jK hs hf ho hst (cP hs.1.2 _)) (fun _ h=>ts h))
 ·rw[ab]at c
  have:=hN (.inr (.inl c))
  have:=h1 (.inl c)
  exact tc (by omega) (tc (by omega) (tc (by omega) (tb (jK (setW hs _ (cP hl _) _ _) hf ho hst (cP hl _)) (fun _ h=>ts h))))
 ·rw[ab]at c
  have:=hN (.inr (.inr c))
  have:=h1 (.inr (.inl c))
  refine tc (by omega) (tb (ew (cP hs.1.2 _)) (fun _ _=>tc (by omega) (tb (ew (cP hl _)) (fun _ _=>tb (tJ hs hf ho _ _ _) (fun y hy=>ti (fun _=>tc ?_ (tb (jK (setW hy.2.1 _ hy.1 _ _) hy.2.2.1 hy.2.2.2 hst hy.1) (fun _ h=>ts h))) (fun _=>ts ⟨hst,hy.2⟩))))))
  have:=hy.2.1.1.1
  omega
 ·rw[ab]at c
  have:=h1 (.inr (.inr (.inl c)))
  exact tc (by omega) (tb (qk (cP hl _)) (fun k hk=>tb (xC hs _ _) (fun v hv=>tb (jK hs hf ho hst hv) (fun _ h=>ts h))))
 ·rw[ab]at c
  have:=h2 (.inl c)
  exact tc (by omega) (tb (qk (cP hl _)) (fun k hk=>tc (by omega) (tb (wH hs hn hf ho hst _ hk (cP hl _)) (fun _ h=>ts h))))
 ·rw[ab]at c
  have:=h2 (.inr c)
  exact tc (by omega) (tb (qk (cP hl _)) (fun k hk=>tb (xC hs _ _) (fun v hv=>tb (ew hv) (fun _ _=>tc (by omega) (tb (ew (cP hl _)) (fun _ _=>tb (tJ hs hf ho _ _ _) (fun y hy=>ti (fun _=>tb (wH hy.2.1 hn hy.2.2.1 hy.2.2.2 hst _ hk hy.1) (fun _ h=>ts h)) (fun _=>ts ⟨hst,hy.2⟩))))))))
 ·rw[ab]at c
  have:=h1 (.inr (.inr (.inr c)))
  exact tc (by omega) (tb (qk (cP hl _)) (fun k hk=>tb (Cy hs hn _ _) (fun v hv=>ts ⟨hst,hv,hf,ho⟩)))
theorem DH(l:List Int)(c:Int):0≤cY l c↔c∈l:=by
 induction l with
 | nil=>simp[cY]
 | cons b l ih =>
  have:=xT l c
  unfold cY
  rw[aL]
  by_cases hb:b=c
  ·rw[bm hb];simp[hb]
  ·rw[bn hb]
   have hb':¬ c=b:=fun h=>hb h.symm
   by_cases hi:cY l c = -1
   ·rw[bm hi]
    constructor
    ·intro h;omega
    ·rintro (h | h)
     ·exact absurd h hb'
     ·have:=ih.2 h;omega
   ·rw[bn hi]
    constructor
    ·intro h;exact .inr (ih.1 (by omega))
    ·rintro (h | h)
     ·exact absurd h hb'
     ·have:=ih.2 h;omega
theorem Ck(l:List Int)(c:Int):vQ l [c]=some (decide (c∈l),()):=by
 rw[Mf,Mg,Mb]
 rw[bn (by simp)]
 by_cases h:[c]=l
 ·rw[ak h]
  subst h
  simp
 ·rw[aj h,bm (by simp),bm (by simp),Ma,L9]
  simp only[aa,List.getD_cons_zero,ge_iff_le,DH]
theorem Lw(l:List Int)(hl:l.length≤9223372036854775807):s_l9Line l=some (!decide ((10:Int)∈l),()):=by
 rw[Lv]
 have key:∀ (d i:Nat),i+d=l.length→s_l9Line_L1 l i=some (!decide ((10:Int)∈l.drop i),()):=by
  intro d
  induction d with
  | zero =>
   intro i hd
   rw[Aj,aq,aX (by omega)];simp
  | succ d ih =>
   intro i hd
   have hi:i<l.length:=by omega
   rw[Aj,ap,al,df hi,cM hi hl,ih (i+1) (by omega),ai hi]
   by_cases h:l[i]=10
   ·rw[ak h,h];simp
   ·rw[aj h]
    have h':¬ (10:Int)=l[i]:=fun e=>h e.symm
    simp only[aL,h',false_or]
 have:=key l.length 0 (by omega)
 simpa using this
def fa(c:bp):Bool :=
 if c.Who = -1 then decide (c.Seq=0)&&decide (c.Line=[])
 else decide (0≤c.Who∧c.Who≤2)&&(decide (1≤c.Seq∧c.Seq≤100000)&&(decide ((c.Line.length:Int)≤60) && !decide ((10:Int)∈c.Line)))
theorem DE(l:List Int):th l=some (decide ((l.length:Int)≤60) && !decide ((10:Int)∈l),()):=by
 rw[DD]
 by_cases h:(l.length:Int)≤60
 ·rw[ak h,Ck,aa,ac h];rfl
 ·rw[aj h,ae h];rfl
theorem Dg(c:bp):s6 c=some (fa c,()):=by
 rw[Df]
 unfold fa
 simp only[iV,DE,aa,ab]
 by_cases h1:c.Who = -1
 ·simp only[bm h1]
  by_cases h2:c.Seq=0
  ·simp only[bm h2,ac h2,Bool.true_and]
  ·simp only[bn h2,ae h2,Bool.false_and]
 ·simp only[bn h1]
  by_cases h2:0≤c.Who∧c.Who≤2
  ·simp only[bm h2,ac h2,Bool.true_and]
   by_cases h3:1≤c.Seq∧c.Seq≤100000
   ·simp only[bm h3,ac h3,Bool.true_and]
   ·simp only[bn h3,ae h3,Bool.false_and]
  ·simp only[bn h2,ae h2,Bool.false_and]
theorem ur(c:bp)(hl:c.Line.length≤9223372036854775807):qJ c=some (fa c,()):=by
 rw[Jk]
 unfold fa
 simp only[fZ,Lw _ hl,aa,ab]
 by_cases h1:c.Who = -1
 ·simp only[bm h1]
  by_cases h2:c.Seq=0
  ·simp only[bm h2,ac h2,Bool.true_and]
  ·simp only[bn h2,ae h2,Bool.false_and]
 ·simp only[bn h1]
  by_cases h2:0≤c.Who∧c.Who≤2
  ·simp only[bm h2,ac h2,Bool.true_and]
   by_cases h3:1≤c.Seq∧c.Seq≤100000
   ·simp only[bm h3,ac h3,Bool.true_and]
    by_cases h4:(c.Line.length:Int)≤60
    ·simp only[bm h4,ac h4,Bool.true_and]
    ·simp only[bn h4,ae h4,Bool.false_and]
   ·simp only[bn h3,ae h3,Bool.false_and]
  ·simp only[bn h2,ae h2,Bool.false_and]
theorem DS(n:Int):qd n=some (decide (0≤n∧n≤300),()):=by rw[DA,iV];rfl
def gN(l:List bq):Prop:=∀ e∈l,e.C.Line.length≤9223372036854775807
def gj(m:Int)(e:bq):Bool:=decide (0≤e.Term∧e.Term≤m)&&fa e.C
def gk(l:List bq)(m:Int):Bool:=decide ((l.length:Int)≤40)&&l.all (gj m)
theorem K2(l:List bq)(m:Int)(hl:l.length≤4294967296)(hw:gN l):vk l m=some (gk l m,()):=by
 rw[K1]
 have key:∀ (d i:Nat),i+d=l.length→ru l m i=some ((l.drop i).all (gj m)&&decide ((l.length:Int)≤40),()):=by
  intro d
  induction d with
  | zero =>
   intro i hd
   rw[z7,aq,aX (by omega)];rfl
  | succ d ih =>
   intro i hd
   have hi:i<l.length:=by omega
   have c:(0:Int)≤(i:Int)∧(i:Int)<(l.length:Int):=by omega
   rw[z7,ak c.2,df hi,cM hi (by omega),ai hi]
   simp only[bm c,fZ,ur _ (hw _ (aW hi)),aa]
   rw[ih (i+1) (by omega),List.all_cons]
   unfold gj
   cases decide (0≤l[i].Term∧l[i].Term≤m) with
   | false=>rfl
   | true=>cases fa l[i].C <;> rfl
 have:=key l.length 0 (by omega)
 unfold gk
 rw[Bool.and_comm]
 simpa using this
theorem Dw(e:bq)(m:Int):td e m=some (!gj m e,m,()):=by
 rw[Dv,iV,Dg]
 unfold gj
 simp only[aa]
 cases decide (0≤e.Term∧e.Term≤m) <;> rfl
theorem Dy(l:List bq)(m:Int)(hl:l.length≤4294967296):ta l m=some (gk l m,()):=by
 have key:∀ (d i:Nat),i+d=l.length→∃ r,pe l (l.length:Int) i m=some (r,m,())∧(r≥0↔(l.drop i).all (gj m)=false):=by
  intro d
  induction d with
  | zero =>
   intro i hd
   rw[Ba,aq,aX (by omega)]
   exact⟨-1,rfl,by simp⟩
  | succ d ih =>
   intro i hd
   have hi:i<l.length:=by omega
   have c:(0:Int)≤(i:Int)∧(i:Int)<(l.length:Int):=by omega
   rw[Ba,ak c.2,df hi,cM hi (by omega),ai hi]
   simp only[bm c,Dw,aa,List.all_cons]
   cases gj m l[i] with
   | false=>exact⟨_,rfl,by simp⟩
   | true =>
    obtain⟨r,e1,e2⟩:=ih (i+1) (by omega)
    exact⟨r,by simpa using e1,by simpa using e2⟩
 obtain⟨r,e1,e2⟩:=key l.length 0 (by omega)
 rw[Dx]
 unfold gk
 by_cases h:(l.length:Int)≤40
 ·have e1':pe l (l.length:Int) 0 m=some (r,m,()):=e1
  rw[ak h,ac h,Mc,Me,e1']
  simp only[aa,Bool.true_and]
  rw[aN]at e2
  cases hb:l.all (gj m) with
  | false=>rw[ac (e2.2 hb)];rfl
  | true=>rw[ae (fun h=>by rw[e2.1 h]at hb;cases hb)];rfl
 ·rw[aj h,ae h];rfl
set_option linter.defProp false
def ba:=@Int.tdiv_eq_ediv_of_nonneg
def cV:Nat→Int→List Int
 | 0,n=>[n%256]
 | d+1,n=>if n>127 then(n%128+128)::cV d (n/128)else [n%256]
theorem IB(d:Nat):∀ n:Int,(cV d n).length≤d+1:=by
 induction d with
 | zero=>intro n;simp[cV]
 | succ d ih =>
  intro n;unfold cV;split
  ·have:=ih (n/128);simp;omega
  ·simp
theorem rR(n:Int):w8 n=n%256:=IntKind.wrap_u8 n
theorem LD{n:Int}(h:0≤n):dz .i64 n 7=n/128:=by
 show n.fdiv (2 ^ 7)=n/128
 rw[Int.fdiv_eq_ediv_of_nonneg n (by decide)];rfl
theorem JN(d:Nat):∀ (n:Int) (out:List Int),0≤n→n<128 ^ (d+1)→n≤9223372036854775807→out.length+d≤1000→qT n out=some (out++cV d n,()):=by
 induction d with
 | zero =>
  intro n out h0 h1 h2 h3
  rw[zL,aj (by simp at h1;omega),bm (by rw[b6];omega),rR];rfl
 | succ d ih =>
  intro n out h0 h1 h2 h3
  rw[zL]
  unfold cV
  have c1:out.length+1≤room:=by rw[b6];omega
  by_cases h:n>127
  ·have e:=ih (n/128) (out++[n%128+128]) (by omega) (by rw[Int.pow_succ]at h1;omega) (by omega) (by simp;omega)
   rw[ah,List.singleton_append]at e
   rw[bm h,ak h,bm c1,ba h0,Int.tmod_eq_emod_of_nonneg h0,ar (n:=n/128),ar (n:=n%128+128),vM (n:=n%128+128) (by omega) (by omega)]
   exact e
  ·rw[bn h,aj h,bm c1,rR];rfl
theorem Dl(d:Nat):∀ (n:Int) (out:List Int),0≤n→n<128 ^ (d+1)→n≤9223372036854775807→out.length+d≤1000→pY n out=some (out++cV d n,()):=by
 induction d with
 | zero =>
  intro n out h0 h1 h2 h3
  rw[xI,aj (by simp at h1;omega),bm (by rw[b6];omega),rR];rfl
 | succ d ih =>
  intro n out h0 h1 h2 h3
  rw[xI]
  unfold cV
  have c1:out.length+1≤room:=by rw[b6];omega
  by_cases h:n>127
  ·have e:=ih (n/128) (out++[n%128+128]) (by omega) (by rw[Int.pow_succ]at h1;omega) (by omega) (by simp;omega)
   rw[ah,List.singleton_append]at e
   rw[bm h,ak h,bm c1,LD h0,wa h0 (by omega),Id (by omega) (by omega),vM (n:=n%128+128) (by omega) (by omega)]
   exact e
  ·rw[bn h,aj h,bm c1,rR];rfl
def bW(n:Int):List Int:=if 0≤n∧n≤4611686018427387903 then cV 8 n else []
theorem cB(n:Int):(bW n).length≤9:=by
 unfold bW;split
 ·exact IB 8 n
 ·simp
theorem eP(n:Int):dw n=some (bW n,()):=by
 rw[JO,fZ,aa]
 unfold bW
 by_cases h:0≤n∧n≤4611686018427387903
 ·rw[bm h,bn (by simp[h])]
  exact JN 8 n [] h.1 (by have:=h.2;omega) (by omega) (by simp)
 ·rw[bn h,bm (by simp[h])]
theorem fQ(n:Int):iT n=some (bW n,()):=by
 rw[Dm,iV,aa]
 unfold bW
 by_cases h:0≤n∧n≤4611686018427387903
 ·rw[bm h,bn (by simp[h])]
  exact Dl 8 n [] h.1 (by have:=h.2;omega) (by omega) (by simp)
 ·rw[bn h,bm (by simp[h])]
def dI(s:List Int):List Int:=bW s.length++s
theorem ff(s:List Int):(dI s).length≤9+s.length:=by
 unfold dI;rw[ag];have:=cB s.length;omega
theorem ls(s:List Int)(h:s.length≤4000000000):jd s=some (dI s,()):=by
 have:=cB s.length
 rw[JP,eP,aa]
 dsimp only
 rw[bm (by rw[b6];omega),bm (by rw[b6];omega)];rfl
theorem xJ(s:List Int)(h:s.length≤4000000000):pZ s=some (dI s,()):=by
 have:=cB s.length
 rw[Dn,fQ,aa]
 dsimp only
 rw[bm (by rw[b6];omega)];rfl
def du(b:List Int)(p:Int):Nat→Int→Int→Int×Int×Bool
 | 0,_,_=>(0,0,false)
 | d+1,n,k =>
  if p+k<(b.length:Int) then
   (let x:=b.getD (p+k).toNat 0
    let m:=bits .or .i64 n (dy .i64 (x%128) (7*k))
    if 127<x then du b p d m (k+1)
    else if(x=0∧0<k)∨¬ (0≤m∧m≤4611686018427387903) then(0,0,false)
    else(m,p+k+1,true))
  else(0,0,false)
def tr3(x:Int×Int×Bool):Int×Int×Bool×Unit:=(x.1,x.2.1,x.2.2,())
theorem sF{b:List Int}(hw:∀ x∈b,0≤x∧x≤255){p:Int}(h0:0≤p)(h:p<(b.length:Int)):0≤b.getD p.toNat 0∧b.getD p.toNat 0≤255:=by
 rw[dC (by omega)]
 exact hw _ (aW _)
theorem JD(b:List Int)(hb:b.length≤1048576)(hw:∀ x∈b,0≤x∧x≤255)(p:Int)(hp:0≤p)(hp2:p≤(b.length:Int))(d:Nat):∀ (n k:Int),0≤k→k+d=9→qN b p n k=some (tr3 (du b p d n k)):=by
 induction d with
 | zero =>
  intro n k h0 hd
  rw[uC,aq];rfl
 | succ d ih =>
  intro n k h0 hd
  have w1:w64 ((b.length:Int)-k)=(b.length:Int)-k:=ar
  have w2:w64 (p+k)=p+k:=ar
  have w3:w64 (7*k)=7*k:=ar
  have w4:w64 (k+1)=k+1:=ar
  have w5:w64 (p+k+1)=p+k+1:=ar
  rw[uC,ap,aq,w1,w2,w3,w4,w5]
  unfold du
  by_cases h:p+k<(b.length:Int)
  ·have hx:=sF hw (show 0≤p+k by omega) h
   have w6:w64 (b.getD (p+k).toNat 0)=b.getD (p+k).toNat 0:=ar
   have t1:Int.tmod (b.getD (p+k).toNat 0) 128=b.getD (p+k).toNat 0%128:=Int.tmod_eq_emod_of_nonneg hx.1
   rw[aq,al,al,bm h,w6,t1]
   dsimp only
   generalize hm:bits .or .i64 n (dy .i64 (b.getD (p+k).toNat 0%128) (7*k))=m
   by_cases h2:127<b.getD (p+k).toNat 0
   ·rw[bm h2,aq]
    exact ih m (k+1) (by omega) (by omega)
   ·rw[bn h2,ap]
    simp only[ab]
    split
    ·split
     ·rw[al];rfl
     ·split
      ·rw[al];rfl
      ·split
       ·rw[al];rfl
       ·rw[am];rfl
    ·split
     ·rw[al];rfl
     ·split
      ·rw[al];rfl
      ·rw[am];rfl
  ·rw[bn h,ap];rfl
theorem Dh(b:List Int)(hb:b.length≤1048576)(hw:∀ x∈b,0≤x∧x≤255)(p:Int)(hp:0≤p)(hp2:p≤(b.length:Int))(d:Nat):∀ (n k:Int),0≤k→k+d=9→pX b p n k=some (tr3 (du b p d n k)):=by
 induction d with
 | zero =>
  intro n k h0 hd
  rw[xH,aq];rfl
 | succ d ih =>
  intro n k h0 hd
  have w2:w64 (p+k)=p+k:=ar
  have w3:w64 (7*k)=7*k:=ar
  have w4:w64 (k+1)=k+1:=ar
  have w5:w64 (p+k+1)=p+k+1:=ar
  rw[xH,ap,w2,w3,w4,w5]
  unfold du
  by_cases h:p+k<(b.length:Int)
  ·have hx:=sF hw (show 0≤p+k by omega) h
   have w6:w64 (b.getD (p+k).toNat 0)=b.getD (p+k).toNat 0:=ar
   have t1:bits .and .i64 (b.getD (p+k).toNat 0) 127=b.getD (p+k).toNat 0%128:=wa hx.1 (by omega)
   rw[ak h,al,al,bm h,w6,t1]
   dsimp only
   generalize hm:bits .or .i64 n (dy .i64 (b.getD (p+k).toNat 0%128) (7*k))=m
   by_cases h2:127<b.getD (p+k).toNat 0
   ·rw[bm h2,ap]
    exact ih m (k+1) (by omega) (by omega)
   ·rw[bn h2,aq]
    simp only[ab,iV,aa,Bool.not_eq_true',decide_eq_false_iff_not]
    split
    ·split
     ·rw[al];rfl
     ·split
      ·rw[al];rfl
      ·rw[am];rfl
    ·split
     ·rw[al];rfl
     ·rw[am];rfl
  ·rw[bn h,aq];rfl
def cC(b:List Int)(p:Int):Int×Int×Bool:=if 0≤p∧p≤(b.length:Int)then du b p 9 0 0 else(0,0,false)
theorem jA(b:List Int)(hb:b.length≤1048576)(hw:∀ x∈b,0≤x∧x≤255)(p:Int):iS b p=some (tr3 (cC b p)):=by
 rw[Di,iV,aa]
 unfold cC
 by_cases h:0≤p∧p≤(b.length:Int)
 ·rw[bm h,bn (by simp[h])];exact Dh b hb hw p h.1 h.2 9 0 0 (by omega) (by omega)
 ·rw[bn h,bm (by simp[h])];rfl
theorem uD(b:List Int)(hb:b.length≤1048576)(hw:∀ x∈b,0≤x∧x≤255)(p:Int)(hp:-9223372036854775808≤p∧p≤9223372036854775807):lm b p=some (tr3 (cC b p)):=by
 rw[JE]
 unfold cC
 by_cases h:0≤p∧p≤(b.length:Int)
 ·rw[bm h];exact JD b hb hw p h.1 h.2 9 0 0 (by omega) (by omega)
 ·rw[bn h,uC,bm (by decide)]
  by_cases h1:p<0
  ·rw[bm (by simp[h1])];rfl
  ·rw[bn (by simp[h1]),ar,ap];rfl
theorem C5(b:List Int)(p:Int)(hp:0≤p)(hp2:p≤(b.length:Int))(d:Nat):∀ n k:Int,0≤k→k+d=9→0≤(du b p d n k).1∧(du b p d n k).1≤4611686018427387903∧0≤(du b p d n k).2.1∧(du b p d n k).2.1≤(b.length:Int):=by
 induction d with
 | zero=>intro n k h0 hd;simp[du]
 | succ d ih =>
  intro n k h0 hd
  unfold du
  split
  ·dsimp only;split
   ·exact ih _ _ (by omega) (by omega)
   ·split
    ·simp
    ·rename_i h1 _ h2
     dsimp only;omega
  ·simp
theorem gp(b:List Int)(p:Int):0≤(cC b p).1∧(cC b p).1≤4611686018427387903∧0≤(cC b p).2.1∧(cC b p).2.1≤(b.length:Int):=by
 unfold cC;split
 ·rename_i h;exact C5 b p h.1 h.2 9 0 0 (by omega) (by omega)
 ·simp
theorem qr{n y:Int}{k:Nat}(h0:0≤n)(h1:n<128 ^ k)(y0:0≤y)(y1:y<128)(hk:k≤8):bits .or .i64 n (dy .i64 y (7*(k:Int)))=n+y*128 ^ k:=by
 obtain⟨a,rfl⟩:=Int.eq_ofNat_of_zero_le h0
 obtain⟨c,rfl⟩:=Int.eq_ofNat_of_zero_le y0
 have e128:(128:Nat) ^ k=2 ^ (7*k):=by rw[Nat.pow_mul]
 have ha:a<2 ^ (7*k):=by rw[← e128];exact_mod_cast h1
 have hc:c<128:=by omega
 have hp:2 ^ (7*k)*c+a<2 ^ 63:=by
  have h1:2 ^ (7*k)*c+a<2 ^ (7*k)*128:=by
   have:2 ^ (7*k)*c+2 ^ (7*k)≤2 ^ (7*k)*128:=by
    rw[← Nat.mul_succ];exact Nat.mul_le_mul_left _ (by omega)
   omega
  have h2:2 ^ (7*k)*128=2 ^ (7*k+7):=by rw[Nat.pow_add]
  have h3:(2:Nat) ^ (7*k+7)≤2 ^ 63:=Nat.pow_le_pow_right (by omega) (by omega)
  omega
 have hcp:c*2 ^ (7*k)<2 ^ 63:=by rw[Nat.mul_comm];omega
 have hs:dy .i64 (c:Int) (7*(k:Int))=((c*2 ^ (7*k):Nat):Int):=by
  unfold dy
  have ht:(7*(k:Int)).toNat=7*k:=by omega
  have hm:min (7*(k:Int)).toNat IntKind.i64.bits=7*k:=by rw[ht];show min (7*k) 64=7*k;omega
  rw[hm]
  have e:(c:Int)*2 ^ (7*k)=((c*2 ^ (7*k):Nat):Int):=by rw[Int.natCast_mul,Int.natCast_pow];rfl
  rw[e]
  have e2:(2:Nat) ^ 63=9223372036854775808:=by decide
  exact bX (by omega) (by have:=hcp;omega)
 rw[hs]
 have hb:=(bits_nat .i64 63 (by decide) (vO 63 (by omega)) a (c*2 ^ (7*k)) (by omega) hcp).2
 rw[hb,Nat.or_comm,Nat.mul_comm,← Nat.two_pow_add_eq_or_of_lt ha c,Int.natCast_add,Int.natCast_mul,Int.natCast_pow,Int.add_comm,Int.mul_comm]
 congr 2
 rw[Int.pow_mul];rfl
theorem Cw{b:List Int}{p:Int}(h0:0≤p)(h:p<(b.length:Int)):b.drop p.toNat=b.getD p.toNat 0::b.drop (p+1).toNat:=by
 rw[ai (show p.toNat<b.length by omega),dC (by omega),show(p+1).toNat=p.toNat+1 by omega]
theorem qv(d:Nat){n:Int}(h:n>127):cV (d+1) n=(n%128+128)::cV d (n/128):=by show(if n>127 then _ else _)=_;rw[bm h]
theorem C6(b:List Int)(hw:∀ x∈b,0≤x∧x≤255)(p:Int)(hp:0≤p)(hp2:p≤(b.length:Int))(v q:Int):∀ (d k:Nat) (n:Int),k+d=9→0≤n→n<128 ^ k→du b p d n k=(v,q,true) →
  ∃ w,0≤w∧v=n+w*128 ^ k∧p+k<q∧q≤(b.length:Int)∧(b.drop (p+k).toNat).take (q-(p+k)).toNat=cV (d-1) w∧(0<k→0<w):=by
 intro d
 induction d with
 | zero=>intro k n hd h0 h1 h;simp[du]at h
 | succ d ih =>
  intro k n hd h0 h1 h
  unfold du at h
  by_cases hlt:p+k<(b.length:Int)
  ·rw[bm hlt]at h
   dsimp only at h
   have hx:=sF hw (show 0≤p+k by omega) hlt
   have hdr:=Cw (b:=b) (p:=p+k) (by omega) hlt
   generalize b.getD (p+k).toNat 0=x at h hx hdr
   rw[qr h0 h1 (by omega) (by omega) (by omega)]at h
   by_cases h2:127<x
   ·rw[bm h2]at h
    have hpow:(0:Int)<128 ^ k:=Int.pow_pos (by omega)
    have hps:(128:Int) ^ (k+1)=128 ^ k*128:=Int.pow_succ ..
    obtain⟨w,w0,e1,e2,e3,e4,e5⟩:=ih (k+1) (n+x%128*128 ^ k) (by omega) (Int.add_nonneg h0 (Int.mul_nonneg (by omega) (by omega))) (by
     have:x%128*128 ^ k≤127*128 ^ k:=Int.mul_le_mul_of_nonneg_right (by omega) (by omega)
     rw[hps];omega) (by rw[show((k+1:Nat):Int)=(k:Int)+1 by omega];exact h)
    have w5:=e5 (by omega)
    rw[show p+((k+1:Nat):Int)=p+k+1 by omega]at e2 e4
    refine⟨x%128+128*w,by omega,?_,by omega,e3,?_,fun _=>by omega⟩
    ·rw[e1,hps,Int.add_mul,Int.add_assoc,Int.mul_assoc 128 w,Int.mul_comm 128 (w*128 ^ k),Int.mul_assoc w]
    ·rw[hdr,show(q-(p+k)).toNat=(q-(p+k+1)).toNat+1 by omega,List.take_succ_cons,e4]
     cases d with
     | zero=>simp[du]at h
     | succ d =>
      show _=cV (d+1) _
      rw[qv _ (by omega),show(x%128+128*w)%128+128=x by omega,show(x%128+128*w)/128=w by omega]
      rfl
   ·rw[bn h2]at h
    by_cases h3:(x=0∧(0:Int)<k)∨¬ (0≤n+x%128*128 ^ k∧n+x%128*128 ^ k≤4611686018427387903)
    ·rw[bm h3]at h;simp at h
    ·rw[bn h3]at h
     simp only[Prod.mk.injEq,and_true]at h
     obtain⟨e1,e2⟩:=h
     have hxm:x%128=x:=by omega
     refine⟨x,hx.1,by rw[← e1,hxm],by omega,by omega,?_,fun hk=>by omega⟩
     rw[hdr,show(q-(p+k)).toNat=0+1 by omega,List.take_succ_cons,List.take_zero]
     cases d with
     | zero=>show _=[x%256];rw[show x%256=x by omega]
     | succ d =>
      show _=cV (d+1) x
      unfold cV
      rw[am,show x%256=x by omega]
  ·rw[bn hlt]at h;simp at h
theorem kS(b:List Int)(hw:∀ x∈b,0≤x∧x≤255)(p v q:Int)(h:cC b p=(v,q,true)):0≤p∧p<q∧q≤(b.length:Int)∧b.take q.toNat=b.take p.toNat++bW v∧0≤v∧v≤4611686018427387903:=by
 have hbd:=gp b p
 unfold cC at h hbd
 by_cases hc:0≤p∧p≤(b.length:Int)
 ·rw[bm hc]at h hbd
  rw[h]at hbd
  obtain⟨w,w0,e1,e2,e3,e4,_⟩:=C6 b hw p hc.1 hc.2 v q 9 0 0 rfl (by omega) (by simp) h
  have ev:v=w:=by rw[e1];simp
  have hv:0≤v∧v≤4611686018427387903:=⟨hbd.1,hbd.2.1⟩
  refine⟨hc.1,by omega,e3,?_,hv.1,hv.2⟩
  have e4':(b.drop p.toNat).take (q-p).toNat=cV 8 w:=by simpa using e4
  have ep:bW v=cV 8 w:=by unfold bW;rw[bm hv,ev]
  rw[ep,← e4',show q.toNat=p.toNat+(q-p).toNat by omega,List.take_add]
 ·rw[bn hc]at h;simp at h
def Bytes(b:List Int):Prop:=∀ x∈b,0≤x∧x≤255
def dX(b:List Int)(p:Int):List Int×Int×Bool :=
 if(cC b p).2.2=true∧(cC b p).1≤(b.length:Int)-(cC b p).2.1 then((b.drop (cC b p).2.1.toNat).take (cC b p).1.toNat,(cC b p).2.1+(cC b p).1,true) else([],0,false)
def trT(x:List Int×Int×Bool):List Int×Int×Bool×Unit:=(x.1,x.2.1,x.2.2,())
theorem AL(b:List Int)(g:Int×Int×Bool)(h1:0≤g.1)(h2:g.1≤4611686018427387903)(h3:0≤g.2.1)(h4:g.2.1≤(b.length:Int))(hb:b.length≤1048576) :
  (if(!g.2.2)=true then some (([]:List Int),(0:Int),false,())else if(decide (g.1>w64 ((b.length:Int)-g.2.1)))=true then some ([],0,false,()) else
   if(0:Int)≤g.2.1∧g.2.1≤w64 (g.2.1+g.1)∧w64 (g.2.1+g.1)≤(b.length:Int)then some (List.take ((w64 (g.2.1+g.1)).toNat-g.2.1.toNat) (List.drop g.2.1.toNat b),w64 (g.2.1+g.1),true,())else none) =
  some (trT (if g.2.2=true∧g.1≤(b.length:Int)-g.2.1 then((b.drop g.2.1.toNat).take g.1.toNat,g.2.1+g.1,true) else([],0,false))):=by
 obtain⟨n,q,ok⟩:=g
 dsimp only at *
 cases ok with
 | false=>simp[trT]
 | true =>
  rw[ar (n:=(b.length:Int)-q),ar (n:=q+n)]
  simp only[Bool.not_true,Bool.false_eq_true,if_false,true_and,ab]
  by_cases h:n>(b.length:Int)-q
  ·rw[bm h,am];rfl
  ·rw[bn h,al,al,show(q+n).toNat-q.toNat=n.toNat by omega];rfl
theorem JG(b:List Int)(hb:b.length≤1048576)(hw:Bytes b)(p:Int)(hp:-9223372036854775808≤p∧p≤9223372036854775807):uE b p=some (trT (dX b p)):=by
 obtain⟨h1,h2,h3,h4⟩:=gp b p
 rw[JF,uD b hb hw p hp,aa]
 exact AL b (cC b p) h1 h2 h3 h4 hb
theorem Dk(b:List Int)(hb:b.length≤1048576)(hw:Bytes b)(p:Int):s7 b p=some (trT (dX b p)):=by
 obtain⟨h1,h2,h3,h4⟩:=gp b p
 rw[Dj,jA b hb hw p,aa]
 exact AL b (cC b p) h1 h2 h3 h4 hb
theorem vJ(b:List Int)(hw:Bytes b)(p q:Int)(t:List Int)(h:dX b p=(t,q,true)):0≤p∧p<q∧q≤(b.length:Int)∧b.take q.toNat=b.take p.toNat++dI t∧t.length≤b.length:=by
 unfold dX at h
 have hbd:=gp b p
 cases hg:cC b p with | mk n mo =>
 obtain⟨m,ok⟩:=mo
 rw[hg]at h hbd
 dsimp only at h hbd
 by_cases hc:ok=true∧n≤(b.length:Int)-m
 ·obtain⟨rfl,hc2⟩:=hc
  rw[bm ⟨rfl,hc2⟩]at h
  simp only[Prod.mk.injEq,and_true]at h
  obtain⟨rfl,rfl⟩:=h
  obtain⟨c1,c2,c3,c4,c5,c6⟩:=kS b hw p n m hg
  have hl:((b.drop m.toNat).take n.toNat).length=n.toNat:=by rw[aQ,aR];omega
  refine⟨c1,by omega,by omega,?_,by rw[hl];omega⟩
  rw[show(m+n).toNat=m.toNat+n.toNat by omega,List.take_add,c4,ah]
  unfold dI
  rw[hl,show((n.toNat:Nat):Int)=n by omega]
 ·rw[bn hc]at h;simp at h
theorem sO{b r:List Int}{n:Nat}{x:Int}(h:b.drop n=x::r):n<b.length∧b.getD n 0=x∧b.drop (n+1)=r:=by
 have hl:n<b.length:=by
  have:=congrArg List.length h
  rw[aR]at this
  simp only[aS]at this
  omega
 rw[ai hl]at h
 simp only[List.cons.injEq]at h
 exact⟨hl,by rw[dC hl];exact h.1,h.2⟩
theorem C8(b:List Int)(p:Int)(hp:0≤p):∀ (d k:Nat) (acc w:Int) (rest:List Int),k+d=8→b.drop (p+k).toNat=cV d w++rest→0≤w→w<128 ^ (d+1)→0≤acc→acc<128 ^ k→(0<k→0<w)→acc+w*128 ^ k≤4611686018427387903 →
  du b p (d+1) acc k=(acc+w*128 ^ k,p+k+(cV d w).length,true):=by
 intro d
 induction d with
 | zero =>
  intro k acc w rest hd hb w0 w1 a0 a1 hk hm
  have w1':w<128:=by simpa using w1
  have hb':b.drop (p+k).toNat=(w%256)::rest:=hb
  obtain⟨g1,g2,g3⟩:=sO hb'
  rw[show w%256=w by omega]at g2
  unfold du
  have hpow:(0:Int)≤w*128 ^ k:=Int.mul_nonneg w0 (Int.le_of_lt (Int.pow_pos (by omega)))
  rw[al,g2]
  dsimp only
  rw[show w%128=w by omega,qr a0 a1 w0 w1' (by omega),am,bn (by rintro (h | h) <;> omega)]
  rfl
 | succ d ih =>
  intro k acc w rest hd hb w0 w1 a0 a1 hk hm
  by_cases h:w>127
  ·rw[qv d h]at hb
   obtain⟨g1,g2,g3⟩:=sO hb
   have hpow:(0:Int)<128 ^ k:=Int.pow_pos (by omega)
   have hps:(128:Int) ^ (k+1)=128 ^ k*128:=Int.pow_succ ..
   have hwd:w*128 ^ k=w%128*128 ^ k+w/128*(128 ^ k*128):=by
    have e:w=w%128+128*(w/128):=by omega
    have e2:w*128 ^ k=(w%128+128*(w/128))*128 ^ k:=by rw[← e]
    rw[e2,Int.add_mul,Int.mul_comm (128 ^ k) 128,← Int.mul_assoc,Int.mul_comm 128 (w/128)]
   have hmm:w%128*128 ^ k≤127*128 ^ k:=Int.mul_le_mul_of_nonneg_right (by omega) (by omega)
   have hnn:0≤w%128*128 ^ k:=Int.mul_nonneg (by omega) (by omega)
   have e:=ih (k+1) (acc+w%128*128 ^ k) (w/128) rest (by omega) (by rw[show(p+((k+1:Nat):Int)).toNat=(p+k).toNat+1 by omega];exact g3) (by omega) (by rw[Int.pow_succ]at w1;omega) (by omega) (by rw[hps];omega) (fun _=>by omega) (by rw[hps];omega)
   have hp2:cV (d+1) w=(w%128+128)::cV d (w/128):=qv d h
   rw[du,al,g2]
   dsimp only
   rw[show(w%128+128)%128=w%128 by omega,qr a0 a1 (by omega) (by omega) (by omega),al,show(k:Int)+1=((k+1:Nat):Int) by omega,e,hp2,hps,Int.add_assoc,← hwd]
   simp only[aS,Prod.mk.injEq,and_true,true_and]
   omega
  ·have hp2:cV (d+1) w=[w%256]:=by show(if w>127 then _ else _)=_;rw[bn h]
   rw[hp2]at hb
   obtain⟨g1,g2,g3⟩:=sO hb
   rw[show w%256=w by omega]at g2
   have hpow:(0:Int)≤w*128 ^ k:=Int.mul_nonneg w0 (Int.le_of_lt (Int.pow_pos (by omega)))
   rw[du,al,g2]
   dsimp only
   rw[show w%128=w by omega,qr a0 a1 w0 (by omega) (by omega),am,bn (by rintro (h | h) <;> omega),hp2]
   rfl
theorem IA(d:Nat):∀ n:Int,0≤n→∀ x∈cV d n,0≤x∧x≤255:=by
 induction d with
 | zero=>intro n h x hx;rw[aK.1 (show x∈[n%256]from hx)];omega
 | succ d ih =>
  intro n h x hx
  by_cases hb:n>127
  ·rw[qv d hb]at hx
   rcases aL.1 hx with rfl | hx
   ·omega
   ·exact ih _ (by omega) x hx
  ·have hp2:cV (d+1) n=[n%256]:=by show(if n>127 then _ else _)=_;rw[bn hb]
   rw[hp2]at hx
   rw[aK.1 hx];omega
theorem Iz(n:Int):Bytes (bW n):=by
 unfold bW
 split
 ·rename_i h;exact IA 8 n h.1
 ·intro x hx;cases hx
def zig(n:Int):Int:=if n<0 then -2*n-1 else 2*n
def InZ(n:Int):Prop:=-2305843009213693951≤n∧n≤2305843009213693951
instance (n:Int):Decidable (InZ n):=inferInstanceAs (Decidable (_∧_))
def ja(n:Int):List Int:=if InZ n then bW (zig n)else []
theorem JM(n:Int):uH n=some (ja n,()):=by
 rw[JL,fZ,aa]
 unfold ja
 by_cases h:InZ n
 ·have hh:=h
  unfold InZ at hh
  rw[bm h,bn (by simp[hh])]
  unfold zig
  by_cases h2:n<0
  ·rw[ak h2,bm h2,ar (n:=-2*n),ar,eP];rfl
  ·rw[aj h2,bn h2,ar,eP];rfl
 ·have hh:=h
  unfold InZ at hh
  rw[bn h,bm (by simp[hh])]
theorem sZ{α β ρ:Type}(F:β→Int→Option ρ)(g:β→α→β)(l:List α)(P:Nat→β→Prop)
  (step:∀ (i:Nat) (h:i<l.length) (acc:β),P i acc→F acc i=F (g acc l[i]) ((i+1:Nat):Int)∧P (i+1) (g acc l[i])) (acc:β) (h0:P 0 acc) :
  F acc 0=F (l.foldl g acc) (l.length:Int)∧P l.length (l.foldl g acc):=by
 have key:∀ (d i:Nat) (acc:β),i+d=l.length→P i acc→F acc i=F ((l.drop i).foldl g acc) (l.length:Int)∧P l.length ((l.drop i).foldl g acc):=by
  intro d
  induction d with
  | zero =>
   intro i acc hd hp
   have hi:i=l.length:=by omega
   subst hi
   rw[List.drop_length];exact⟨rfl,hp⟩
  | succ d ih =>
   intro i acc hd hp
   have hi:i<l.length:=by omega
   obtain⟨e1,e2⟩:=step i hi acc hp
   rw[e1,ai hi,List.foldl_cons]
   exact ih (i+1) _ (by omega) e2
 exact key l.length 0 acc (by omega) h0
theorem yR(n:Int):(ja n).length≤9:=by
 unfold ja
 split
 ·exact cB _
 ·simp
def iv(v:bG):List Int:=(bW v.Kind++ja v.N)++dI v.S
theorem rP(v:bG):(iv v).length≤27+v.S.length:=by
 unfold iv
 have h1:=cB v.Kind
 have h2:=yR v.N
 have h3:=ff v.S
 rw[ag,ag];omega
theorem g8{α:Type}(a b:List α):(List.append a b).length=a.length+b.length:=ag
theorem zZ(v:bG)(h:v.S.length≤2097152):ro v=some (iv v,()):=by
 have h1:=cB v.Kind
 have h2:=yR v.N
 have h3:=ff v.S
 rw[KV,eP,JM,ls _ (by omega),aa,aa]
 dsimp only
 rw[bm (by rw[b6];omega),aa,bm (by rw[b6,g8];dsimp only;omega)]
 rfl
def iG(a:List Int)(v:bG):List Int:=a++iv v
def iE(a:List Int)(c:bo):List Int:=((a++bW c.Name)++dI c.Key)++iv c.Val
def jt(a:List Int)(n:Int):List Int:=a++bW n
def gV(m:bt):List Int:=m.State.Vars.foldl iG (bW (m.State.Vars.length:Int))++bW (m.State.Cells.length:Int)
def gU(m:bt):List Int:=((m.State.Cells.foldl iE (gV m))++bW m.State.Nr)++bW m.State.Err
def jG(m:bt):List Int:=m.Done.foldl jt (gU m)++dI m.Out
def ke(m:bt):Prop :=
 m.State.Vars.length≤8∧(∀ v∈m.State.Vars,v.S.length≤300)∧m.State.Cells.length≤40∧(∀ c∈m.State.Cells,c.Key.length≤300∧c.Val.S.length≤300)∧m.Done.length=3∧m.Out.length≤1500
theorem CX(l:List bG)(h:∀ v∈l,v.S.length≤300):∀ acc:List Int,(l.foldl iG acc).length≤acc.length+327*l.length:=by
 induction l with
 | nil=>intro acc;simp
 | cons v l ih =>
  intro acc
  have h1:=ih (fun x hx=>h x (aF _ hx)) (iG acc v)
  have h2:=rP v
  have h3:=h v (aE ..)
  have h4:(iG acc v).length=acc.length+(iv v).length:=by unfold iG;rw[ag]
  rw[List.foldl_cons,aS];omega
theorem v6(a:List Int)(c:bo)(h:c.Key.length≤300∧c.Val.S.length≤300):(iE a c).length≤a.length+645:=by
 unfold iE
 have h1:=cB c.Name
 have h2:=ff c.Key
 have h3:=rP c.Val
 rw[ag,ag,ag];omega
theorem CW(l:List bo)(h:∀ c∈l,c.Key.length≤300∧c.Val.S.length≤300):∀ acc:List Int,(l.foldl iE acc).length≤acc.length+645*l.length:=by
 induction l with
 | nil=>intro acc;simp
 | cons v l ih =>
  intro acc
  have h1:=ih (fun x hx=>h x (aF _ hx)) (iE acc v)
  have h2:=v6 acc v (h v (aE ..))
  rw[List.foldl_cons,aS];omega
theorem xy(l:List Int):∀ acc:List Int,(l.foldl jt acc).length≤acc.length+9*l.length:=by
 induction l with
 | nil=>intro acc;simp
 | cons v l ih =>
  intro acc
  have h1:=ih (jt acc v)
  have h2:=cB v
  have h4:(jt acc v).length=acc.length+(bW v).length:=by unfold jt;rw[ag]
  rw[List.foldl_cons,aS];omega
theorem wB{m:bt}(h:ke m):(gV m).length≤2700:=by
 obtain⟨h1,h2,h3,h4,h5,h6⟩:=h
 unfold gV
 have a1:=CX _ h2 (bW (m.State.Vars.length:Int))
 have a2:=cB (m.State.Vars.length:Int)
 have a3:=cB (m.State.Cells.length:Int)
 rw[ag];omega
theorem wA{m:bt}(h:ke m):(gU m).length≤28600:=by
 have hv:=wB h
 obtain⟨h1,h2,h3,h4,h5,h6⟩:=h
 unfold gU
 have a1:=CW _ h4 (gV m)
 have a2:=cB m.State.Nr
 have a3:=cB m.State.Err
 rw[ag,ag];omega
theorem KR(m:bt)(h:ke m):ve m=some (jG m,()):=by
 have hv:=wB h
 have hc:=wA h
 obtain⟨h1,h2,h3,h4,h5,h6⟩:=h
 rw[KQ,eP,aa]
 dsimp only
 have a2:=cB (m.State.Vars.length:Int)
 obtain⟨f1,_⟩:=sZ (fun acc i=>jV acc i m m.State) iG m.State.Vars (fun i acc=>acc.length≤9+400*i) (fun i hi acc hp=>by
  have hS:=h2 _ (aW hi)
  have hv:=rP m.State.Vars[i]
  refine⟨?_,by show(acc++iv m.State.Vars[i]).length≤_;rw[ag];omega⟩
  show jV acc i m m.State=jV _ _ m m.State
  rw[zW,ap,al,df hi,zZ _ (by omega),aa,bm (by rw[b6];dsimp only;omega),cM hi (by omega)]
  rfl) (bW (m.State.Vars.length:Int)) (by omega)
 rw[f1,zW,bn (by simp),eP,aa]
 dsimp only
 have e1:List.append (m.State.Vars.foldl iG (bW (m.State.Vars.length:Int))) (bW (m.State.Cells.length:Int))=gV m:=rfl
 rw[bm (by have:=congrArg List.length e1;rw[g8]at this;rw[b6];omega),e1]
 obtain⟨f2,_⟩:=sZ (fun acc i=>jW acc i m m.State) iE m.State.Cells (fun i acc=>acc.length≤2700+700*i) (fun i hi acc hp=>by
  have hS:=h4 _ (aW hi)
  have hp':acc.length≤2700+700*i:=hp
  refine⟨?_,Nat.le_trans (v6 acc _ hS) (by omega)⟩
  show jW acc i m m.State=jW _ _ m m.State
  have q1:=cB m.State.Cells[i].Name
  have q2:=ff m.State.Cells[i].Key
  have q3:=rP m.State.Cells[i].Val
  have hb:(0:Int)≤(i:Int)∧(i:Int)<(m.State.Cells.length:Int):=by omega
  rw[zX,ap,df hi]
  simp only[bm hb]
  rw[eP,aa,bm (by rw[b6];dsimp only;omega),ls _ (by omega),aa,bm (by rw[b6,g8];dsimp only;omega),zZ _ (by omega),aa,bm (by rw[b6,g8,g8];dsimp only;omega),cM hi (by omega)]
  rfl) (gV m) (by omega)
 rw[f2,zX,bn (by simp),eP,aa]
 dsimp only
 have e2:List.append (List.append (m.State.Cells.foldl iE (gV m)) (bW m.State.Nr)) (bW m.State.Err)=gU m:=rfl
 have e2l:=congrArg List.length e2
 rw[g8,g8]at e2l
 rw[bm (by rw[b6];omega),eP,aa]
 dsimp only
 rw[bm (by rw[b6,g8];omega),e2]
 obtain⟨f3,_⟩:=sZ (fun acc i=>jX acc i m) jt m.Done (fun i acc=>acc.length≤28600+9*i) (fun i hi acc hp=>by
  have q1:=cB m.Done[i]
  refine⟨?_,by show(acc++bW m.Done[i]).length≤_;rw[ag];omega⟩
  show jX acc i m=jX _ _ m
  rw[zY,ap,al,df hi,eP,aa,bm (by rw[b6];dsimp only;omega),cM hi (by omega)]
  rfl) (gU m) (by omega)
 have q4:=ff m.Out
 have q5:=xy m.Done (gU m)
 rw[f3,zY,bn (by simp),ls _ (by omega),aa,bm (by rw[b6];dsimp only;omega)]
 rfl
theorem HL{m:bt}(h:ke m):(jG m).length≤30200:=by
 have hc:=wA h
 obtain⟨h1,h2,h3,h4,h5,h6⟩:=h
 unfold jG
 have q4:=ff m.Out
 have q5:=xy m.Done (gU m)
 rw[ag];omega
theorem wK{l:List bz}(hl:l.length≤1000)(at_:List Int)(hat:at_.length≤1000000)(b e:Bool):Tot (lk l at_ b e) (fun y=>y.1.length≤1000∧∀ x∈y.1,0≤x∧x<(l.length:Int)):=by
 obtain⟨f,e4,_⟩:=J6 hl at_ hat b e
 refine te e4 ⟨Nat.le_trans (HO _ _ _) hl,fun x hx=>?_⟩
 obtain⟨i,rfl,h1,h2,_⟩:=marks_mem.1 hx
 omega
theorem HV(l:List bz)(hl:l.length≤1000):Tot (uG l) (fun _=>True):=by
 have key:∀ (d i:Nat),i+d=l.length→Tot (qS l (l.length:Int) (i:Int)) (fun _=>True):=by
  intro d
  induction d with
  | zero =>
   intro i hd
   rw[zK,aq,fZ,aa];exact ts trivial
  | succ d ih =>
   intro i hd
   have hi:i<l.length:=by omega
   rw[zK,ap,al,Lz,aa,cM hi (by omega)]
   exact ti (fun _=>ts trivial) (fun _=>tc (by omega) (ti (fun _=>ts trivial) (fun _=>ih (i+1) (by omega))))
 rw[JK];exact key l.length 0 (by omega)
theorem LS(p:bz)(c:Int)(hl:p.Set.length≤1000):Tot (vv p c) (fun _=>True):=by
 rw[Ls]
 refine ti (fun _=>ts trivial) (fun _=>ti (fun _=>ts trivial) (fun _=>ti (fun _=>?_) (fun _=>ts trivial)))
 rw[Lr _ _ (by omega),aa];exact ts trivial
theorem HQ{l:List bz}(hl:l.length≤1000)(hS:∀ p∈l,p.Set.length≤1000){s:List Int}(hs:s.length≤1000000)(p:Nat)(hp:p≤s.length):Tot (uF l s (p:Int)) (fun _=>True):=by
 have L1:∀ (d p:Nat),p+d=s.length→∀ (m:List Int) (best:Int),m.length≤1000→(∀ x∈m,0≤x∧x<(l.length:Int))→Tot (qQ l s m best (p:Int)) (fun _=>True):=by
  intro d
  induction d with
  | zero =>
   intro p hd m best hm hb
   have L2:∀ best,Tot (lp l s m best (p:Int)) (fun _=>True):=fun best=>by
    rw[zG,ap];exact ts trivial
   rw[zF]
   refine ti (fun c=>?_) (fun _=>ts trivial)
   rw[ab]at c
   rw[ar (n:=(m.length:Int)-1)]
   exact tc (by omega) (ti (fun _=>L2 _) (fun _=>L2 _))
  | succ d ih =>
   intro p hd m best hm hb
   have hp:p<s.length:=by omega
   have L3:∀ (best:Int) (e i:Nat) (t:List Int),i+e=m.length→t.length≤i→Tot (lq l s m best (p:Int) t (i:Int)) (fun _=>True):=by
    intro best e
    induction e with
    | zero =>
     intro i t hi ht
     rw[zH,aq,cM hp (by omega)]
     exact tb (wK hl t (by omega) _ _) (fun y hy=>ih (p+1) (by omega) y.1 best hy.1 hy.2)
    | succ e ihe =>
     intro i t hi ht
     have hi':i<m.length:=by omega
     have hv:=hb _ (aW hi')
     have hvn:m[i].toNat<l.length:=by omega
     rw[zH,ap,al,df hi',al,al,dC hvn,cM hi' (by omega)]
     exact tb (LS _ _ (hS _ (aW hvn))) (fun y _=>ti (fun _=>tc (by omega) (tc (by rw[b6];omega) (ihe (i+1) _ (by omega) (by show(t++[_]).length≤_;rw[ag,bj];omega)))) (fun _=>ihe (i+1) t (by omega) (by omega)))
   have L2:∀ best,Tot (lp l s m best (p:Int)) (fun _=>True):=fun best=>by
    rw[zG,aq]
    exact L3 best m.length 0 [] (by omega) (by simp)
   rw[zF]
   refine ti (fun c=>?_) (fun _=>ts trivial)
   rw[ab]at c
   rw[ar (n:=(m.length:Int)-1)]
   exact tc (by omega) (ti (fun _=>L2 _) (fun _=>L2 _))
 rw[JH]
 refine tb (HV l hl) (fun _ _=>ti (fun _=>ts trivial) (fun _=>?_))
 rw[fZ,aa]
 exact ti (fun _=>ts trivial) (fun _=>tb (wK hl [0] (by simp) _ _) (fun y hy=>L1 (s.length-p) p (by omega) y.1 (-1) hy.1 hy.2))
def sq(pat:List Int):Prop:=∃ r ok l,s_RexParse pat=some (r,ok,())∧s_NfaOf r=some (l,())∧l.length≤1000∧∀ p∈l,p.Set.length≤1000
theorem xm{pat:List Int}(hp:sq pat)(s:List Int)(hs:s.length≤1000):Tot (rf pat s) (fun y=>VW y.1):=by
 obtain⟨r,ok,l,e1,e2,hl,hS⟩:=hp
 have key:∀ (d p:Nat),p+d=s.length+1→Tot (qR l s (p:Int)) (fun _=>True):=by
  intro d
  induction d with
  | zero =>
   intro p hd
   rw[zJ,aq];exact ts trivial
  | succ d ih =>
   intro p hd
   rw[zJ,ap,ar (n:=(p:Int)+1)]
   exact tb (HQ hl hS (by omega) p (by omega)) (fun _ _=>ti (fun _=>ts trivial) (fun _=>ih (p+1) (by omega)))
 rw[Km,e1,aa]
 dsimp only
 rw[JI,e2,aa]
 dsimp only
 rw[JJ]
 exact tb (P:=fun _=>True) (tb (key (s.length+1) 0 (by omega)) (fun _ _=>ts trivial)) (fun(y:Bool×Unit) _=>tb (rQ _) (fun _ h=>ts h))
structure OpW (nv len at_:Int) (o:bw):Prop where
 code:1≤o.Code∧o.Code≤36
 text:TW o.S
 var:(o.Code=3∨o.Code=4∨o.Code=5)→0≤o.N∧o.N<nv
 call:o.Code=29→(1≤o.N∧o.N≤3)∧o.S∈[[108,101,110,103,116,104],[105,110,116],[105,110,100,101,120],[117,112,112,101,114],[108,111,119,101,114],[115,117,98,115,116,114]]
 pat:(o.Code=24∨o.Code=25)→sq o.S
 jump:(o.Code=30∨o.Code=31)→0≤o.N∧o.N<len
 next:o.Code≠36→at_+1<len
theorem H2{o:bw}(h:1≤o.Code∧o.Code≤36):uZ o=some (cD o,()):=by
 rw[KH]
 simp only[KG,fZ,aa]
 unfold cD
 by_cases hr:12≤o.Code∧o.Code≤23
 ·have n:∀ k:Int,(k<12∨23<k)→¬ o.Code=k:=fun k h1 h2=>by omega
  simp[n,hr.1,hr.2]
 ·have ee:o.Code=1∨o.Code=2∨o.Code=3∨o.Code=4∨o.Code=5∨o.Code=6∨o.Code=7∨o.Code=8∨o.Code=9∨o.Code=10∨o.Code=11∨o.Code=24∨o.Code=25∨o.Code=26∨o.Code=27∨o.Code=28∨o.Code=29∨o.Code=30∨o.Code=31∨o.Code=32∨o.Code=33∨o.Code=34∨o.Code=35∨o.Code=36:=by omega
  rcases ee with e | e | e | e | e | e | e | e | e | e | e | e | e | e | e | e | e | e | e | e | e | e | e | e <;> simp[e]
theorem eB{nv:Nat}{s:bE}{vs:List (List Int)}{cs:List (List Int)}{line:List Int}{fs:List (List Int)}{out:List Int}{fuel:Int}{done:Bool}(hs:SW nv s)(hf:FW line fs)(ho:OW out){st:List bG}(hst:StW st){v:bG}(hv:VW v):Tot (eb ⟨(),st⟩ s vs cs line fs out fuel done v) (fun y=>StW y.1.stack∧WW nv y.2.1):=by
 rw[KI]
 exact ti (fun _=>tb (jK hs hf ho hst hv) (fun _ h=>ts h)) (fun _=>ts ⟨hst,hs,hf,ho⟩)
theorem LZ{nv:Nat}{s:bE}{vs:List (List Int)}{cs:List (List Int)}{line:List Int}{fs:List (List Int)}{out:List Int}{fuel:Int}{done:Bool}(hs:SW nv s)(hf:FW line fs)(ho:OW out){st l:List bG}(hst:StW st)(hl:∀ v∈l,VW v){o:bw}{len at_:Int}(hO:OpW nv len at_ o)(hlen:(l.length:Int)=cD o)(hc:o.Code≤29)
  (hn:¬ (o.Code=3∨o.Code=4∨o.Code=5∨o.Code=6∨o.Code=7∨o.Code=8)):Tot (u6 ⟨(),st⟩ s vs cs line fs out fuel done o l) (fun y=>StW y.1.stack∧WW nv y.2.1):=by
 have hcd:=hO.code
 rw[KJ]
 refine ti (fun c=>tb (gI _) (fun _ h=>eB hs hf ho hst h)) (fun c1=>ti (fun c=>ti (fun _=>tb (fP hs hf ho _) (fun _ h=>eB h.1 h.2.1 h.2.2 hst hO.text)) (fun _=>eB hs hf ho hst hO.text)) (fun c2=>ti (fun c=>?_) (fun c9=>ti (fun c=>tb (gI _) (fun _ h=>eB hs hf ho hst h)) (fun c10=>ti (fun c=>tb (gI _) (fun _ h=>eB hs hf ho hst h)) (fun c11=>ti (fun c=>?_) (fun c17=>ti (fun c=>?_) (fun c24=>ti (fun c=>?_) (fun c25=>ti (fun c=>?_) (fun c26=>ti (fun c=>?_) (fun c27=>ti (fun c=>?_) (fun c28=>ti (fun c=>?_) (fun c29=>?_))))))))))))
 ·rw[ab]at c
  have hk:cD o=1:=by unfold cD;simp[c]
  exact tc (by omega) (tb (CL hs hf ho (cP hl _)) (fun _ h=>eB h.2.1 h.2.2.1 h.2.2.2 hst h.1))
 ·rw[ab]at c
  have hk:cD o=2:=by unfold cD;simp[c]
  exact tc (by omega) (tc (by omega) (tb (B5 hs hf ho (cP hl _) (cP hl _)) (fun _ h=>eB h.2.1 h.2.2.1 h.2.2.2 hst h.1)))
 ·rw[ab]at c
  have hk:cD o=1:=by unfold cD;simp[c]
  exact tc (by omega) (tb (ek (cP hl _)) (fun y hy=>tb (xm (hO.pat (.inl c)) _ (by have:=hy.1;omega)) (fun _ h=>eB hs hf ho hst h)))
 ·rw[ab]at c
  exact tb (xm (hO.pat (.inr c)) _ hf.1.1) (fun _ h=>eB hs hf ho hst h)
 ·rw[ab]at c
  have hk:cD o=1:=by unfold cD;simp[c]
  exact tc (by omega) (tb (vK _) (fun _ _=>tb (rQ _) (fun _ h=>eB hs hf ho hst h)))
 ·rw[ab]at c
  have hk:cD o=1:=by unfold cD;simp[c]
  exact tc (by omega) (tb (ew (cP hl _)) (fun _ _=>tb (gI _) (fun _ h=>eB hs hf ho hst h)))
 ·rw[ab]at c
  have hk:cD o=1:=by unfold cD;simp[c]
  exact tc (by omega) (tb (vK _) (fun _ _=>tb (rQ _) (fun _ h=>eB hs hf ho hst h)))
 ·rw[ab]at c
  have hk:cD o=o.N:=by unfold cD;simp[c]
  obtain⟨q1,q2⟩:=hO.call c
  exact tb (B3 hl (by omega) (by omega) _ q2) (fun _ h=>eB hs hf ho hst h)
 ·rw[ab]at c1 c2 c9 c10 c11 c17 c24 c25 c26 c27 c28 c29
  have hk:cD o=2:=by
   have hr:12≤o.Code∧o.Code≤23:=by omega
   unfold cD
   rw[am,am,bn c29,bm hr]
  refine ti (fun c=>tc (by omega) (tb (ew (cP hl _)) (fun _ _=>tc (by omega) (tb (ew (cP hl _)) (fun _ _=>tb (tJ hs hf ho _ _ _) (fun _ h=>eB h.2.1 h.2.2.1 h.2.2.2 hst h.1)))))) (fun c=>?_)
  rw[ab]at c
  rw[ar (n:=o.Code-18)]
  exact tc (by omega) (tc (by omega) (tb (Ie (by omega) (cP hl _) (cP hl _)) (fun _ h=>eB hs hf ho hst h)))
theorem LK{nv:Nat}{s:bE}{vs:List (List Int)}{cs:List (List Int)}{line:List Int}{fs:List (List Int)}{out:List Int}{fuel:Int}{done:Bool}(hs:SW nv s)(hn:nv≤100)(hf:FW line fs)(ho:OW out){st:List bG}(hst:StW st){o:bw}{len at_:Int}(hO:OpW nv len at_ o)(ha:0≤at_)(hlen:len≤100000)(ha2:at_<len) :
  Tot (uY ⟨(),st⟩ s vs cs line fs out fuel done o at_) (fun y=>(y.2.1=true→0≤y.1∧y.1<len)∧StW y.2.2.1.stack∧WW nv y.2.2.2.1):=by
 have hcd:=hO.code
 have hst1:=hst.1
 have htk:0≤cD o∧cD o≤3:=by
  unfold cD
  split
  ·omega
  ·split
   ·omega
   ·split
    ·rename_i c
     have:=(hO.call c).1;omega
    ·split <;> omega
 have hw:w64 ((st.length:Int)-cD o)=(st.length:Int)-cD o:=ar
 rw[KF,H2 hcd,aa]
 dsimp only
 rw[hw]
 refine ti (fun _=>tb (fP hs hf ho _) (fun _ h=>ts ⟨(fun e=>by cases e),hst,h⟩)) (fun c=>?_)
 rw[ab]at c
 have hlist:∀ v∈List.append [] (List.take (st.length-((st.length:Int)-cD o).toNat) (List.drop ((st.length:Int)-cD o).toNat st)),VW v:=fun v hv=>hst.2 v (List.mem_of_mem_drop (List.mem_of_mem_take (show v∈List.take _ _ from hv)))
 have hll:((List.append [] (List.take (st.length-((st.length:Int)-cD o).toNat) (List.drop ((st.length:Int)-cD o).toNat st))).length:Int)=cD o:=by
  show((List.take _ (List.drop _ st)).length:Int)=_
  rw[aQ,aR];omega
 have hst':StW (List.take ((st.length:Int)-cD o).toNat st):=⟨by rw[aQ];omega,fun v hv=>hst.2 v (List.mem_of_mem_take hv)⟩
 generalize List.append [] (List.take (st.length-((st.length:Int)-cD o).toNat) (List.drop ((st.length:Int)-cD o).toNat st))=l at hlist hll ⊢
 generalize List.take ((st.length:Int)-cD o).toNat st=st' at hst' ⊢
 refine tc (by omega) (tc (by rw[b6,aQ,aR];omega) (tc (by omega) ?_))
 have L1:∀ {s':bE} {vs' cs':List (List Int)} {line':List Int} {fs':List (List Int)} {out':List Int} {fuel':Int} {done':Bool} {st2:List bG},o.Code≠36→SW nv s'→FW line' fs'→OW out'→StW st2→Tot (gC at_ () st2 s' vs' cs' line' fs' out' fuel' done') (fun y=>(y.2.1=true→0≤y.1∧y.1<len)∧StW y.2.2.1.stack∧WW nv y.2.2.2.1):=fun {s' vs' cs' line' fs' out' fuel' done' st2} h36 a1 a2 a3 a4=>by
  have:=hO.next h36
  rw[KD,ar (n:=at_+1)]
  exact ts ⟨fun _=>⟨by show 0≤at_+1;omega,this⟩,a4,a1,a2,a3⟩
 refine ti (fun c=>ts ⟨(fun e=>by cases e),hst',hs,hf,ho⟩) (fun c36=>ti (fun c=>?_) (fun c30=>ti (fun c=>?_) (fun c31=>ti (fun c=>L1 (by rw[ab]at c36;exact c36) hs hf ho hst') (fun c32=>ti (fun c=>?_) (fun c33=>ti (fun c=>tb (rH hs hf ho _ ?_) (fun _ h=>L1 (by rw[ab]at c36;exact c36) h.1 h.2.1 h.2.2 hst')) (fun c34=>?_))))))
 ·rw[ab]at c
  exact ts ⟨fun _=>hO.jump (.inl c),hst',hs,hf,ho⟩
 ·rw[ab]at c c36
  have hk:cD o=1:=by unfold cD;simp[c]
  exact tc (by omega) (tb (vK _) (fun _ _=>ti (fun _=>ts ⟨fun _=>hO.jump (.inr c),hst',hs,hf,ho⟩) (fun _=>L1 c36 hs hf ho hst')))
 ·rw[ab]at c c36
  have hk:cD o=1:=by unfold cD;simp[c]
  refine ti (fun _=>tb (rH hs hf ho _ ⟨by simp,fun x hx=>by rw[aK.1 hx];omega⟩) (fun _ h=>tc (by omega) (tb (ek (cP hlist _)) (fun t ht=>tb (rH h.1 h.2.1 h.2.2 _ ht) (fun _ q=>L1 c36 q.1 q.2.1 q.2.2 hst'))))) (fun _=>tc (by omega) (tb (ek (cP hlist _)) (fun t ht=>tb (rH hs hf ho _ ht) (fun _ q=>L1 c36 q.1 q.2.1 q.2.2 hst'))))
 ·exact⟨by simp,fun x hx=>by rw[aK.1 hx];omega⟩
 ·rw[ab]at c36 c30 c31 c32 c33 c34
  have N:∀ b:Bool,(o.Code=3∨o.Code=4∨o.Code=5∨o.Code=6∨o.Code=7∨o.Code=8∨o.Code=35↔b=true)→Tot (gD at_ l b (bK.mk () st') (bI.mk s vs cs line fs out fuel done) o) (fun y=>(y.2.1=true→0≤y.1∧y.1<len)∧StW y.2.2.1.stack∧WW nv y.2.2.2.1):=fun b hb=>by
   rw[KE]
   refine ti (fun e=>tb (HT hs hn hf ho hst' hlist hO.var (fun h=>?_) (fun h=>?_)) (fun _ h=>L1 c36 h.2.1 h.2.2.1 h.2.2.2 h.1)) (fun e=>tb (LZ hs hf ho hst' hlist hO hll ?_ ?_) (fun _ h=>L1 c36 h.2.1 h.2.2.1 h.2.2.2 h.1))
   ·have hk:cD o=1:=by unfold cD;rcases h with h | h | h | h <;> simp[h]
    omega
   ·have hk:cD o=2:=by unfold cD;rcases h with h | h <;> simp[h]
    omega
   ·exact Classical.byContradiction fun hh=>e (hb.1 (by omega))
   ·intro h;exact e (hb.1 (by omega))
  refine ti (fun c=>N _ ?_) (fun d3=>ti (fun c=>N _ ?_) (fun d4=>ti (fun c=>N _ ?_) (fun d5=>ti (fun c=>N _ ?_) (fun d6=>ti (fun c=>N _ ?_) (fun d7=>ti (fun c=>N _ ?_) (fun d8=>N _ ?_)))))) <;> (simp only[ab]at *;omega)
def sv(nv:Int)(l:List bw):Prop:=(0<l.length∧l.length≤100000)∧∀ (i:Nat) (h:i<l.length),OpW nv l.length i l[i]
theorem xE{nv:Nat}(hn:nv≤100){l:List bw}(hl:sv nv l):∀ (d n:Nat) (a:Int) (w:bI) (st:List bG),n+d=20000→0≤a→a<l.length→SW nv w.s→FW w.line w.fields→OW w.out→StW st →
  Tot (rj l a (n:Int) w (bK.mk () st)) (fun y=>WW nv y.1):=by
 intro d
 induction d with
 | zero =>
  intro n a w st hd h0 h1 hs hf ho hst
  rw[zT]
  exact ti (fun _=>tc (ac (by omega)) (tb (fP hs hf ho _) (fun _ h=>ts h))) (fun _=>ts ⟨hs,hf,ho⟩)
 | succ d ih =>
  intro n a w st hd h0 h1 hs hf ho hst
  have hi:a.toNat<l.length:=by omega
  have hO:=hl.2 a.toNat hi
  rw[Int.toNat_of_nonneg h0]at hO
  have hl2:=hl.1.2
  rw[zT,dC hi,ar (n:=(n:Int)+1)]
  refine ti (fun _=>tn (by rw[ab];omega) (tc (by omega) (tb (LK hs hn hf ho hst hO h0 (by omega) h1) (fun y hy=>ti (fun _=>ts hy.2.2) (fun c=>?_))))) (fun _=>ts ⟨hs,hf,ho⟩)
  have hon:=hy.1 (by simpa using c)
  exact ih (n+1) y.1 _ _ (by omega) hon.1 hon.2 hy.2.2.1 hy.2.2.2.1 hy.2.2.2.2 hy.2.1
theorem xd{nv:Nat}(hn:nv≤100){w:bI}{s:bE}(hw:SW nv w.s)(ho:OW w.out)(hs:SW nv s):Tot (re w s) (fun y=>SW nv y.1∧OW y.2.1):=by
 rw[Kj,kv hs hn,aa]
 exact ti (fun _=>ts ⟨hs,by simp,fun x hx=>by cases hx⟩) (fun _=>ts ⟨hw,ho⟩)
structure PrW (p:bA):Prop where
 names:p.Vars.length≤8
 start:sv (p.Vars.length:Int) p.Start
 main:sv (p.Vars.length:Int) p.Main
 right:∃ b,s_ProgOk p=some (b,())
theorem I8{p:bA}(hp:PrW p){s:bE}(hs:SW p.Vars.length s){line:List Int}(hl:line.length≤1000)(hb:Bt line):Tot (uW p s line) (fun y=>SW p.Vars.length y.1∧OW y.2.1):=by
 have hn:=hp.names
 have hf:FW line (kB line):=⟨⟨hl,hb⟩,by have:=CM line;omega,fun f h=>by
  have:=CN (P:=fun x=>0≤x∧x≤255) hb h
  exact⟨by omega,this.1⟩⟩
 have ho:OW []:=⟨by simp,fun x hx=>by cases hx⟩
 have L1:∀ (w:bI),SW p.Vars.length w.s→FW w.line w.fields→OW w.out→Tot (rl p s f7 w) (fun y=>SW p.Vars.length y.1∧OW y.2.1):=fun w a1 a2 a3=>by
  rw[KA,zU]
  exact tb (xE (by omega) hp.main 20000 0 0 _ [] (by omega) (by omega) (by have:=hp.main.1.1;omega) a1 a2 a3 ⟨by simp,fun x hx=>by cases hx⟩) (fun y hy=>tb (xd (by omega) hy.1 hy.2.2 hs) (fun _ h=>ts h))
 rw[KB,kv hs (by omega),aa,J8 _ (by omega),aa]
 dsimp only
 have hs2:SW p.Vars.length ⟨s.Vars,s.Cells,w64 (s.Nr+1),s.Err⟩:=hs
 exact ti (fun _=>tb (fP hs2 hf ho _) (fun y hy=>L1 _ hy.1 hy.2.1 hy.2.2)) (fun _=>L1 _ hs2 hf ho)
theorem AC(n:Nat)(hn:n≤8):Tot (qW (n:Int)) (fun y=>SW n y.1):=by
 have e1:rz (n:Int) 8=some ((n:Int),()):=by
  rw[Ad]
  by_cases c:(n:Int)<8
  ·rw[ak c]
  ·rw[aj c,show(8:Int)=(n:Int) by omega]
 have e2:s_l1Max 0 (n:Int)=some ((n:Int),()):=by
  rw[Ac]
  by_cases c:(0:Int)>n
  ·omega
  ·rw[aj c]
 rw[JW,e1,aa]
 dsimp only
 rw[e2,aa]
 dsimp only
 refine tc ⟨by omega,by omega,by rw[b6];omega⟩ (ts ⟨⟨?_,fun v hv=>?_⟩,by simp,fun c hc=>by cases hc⟩)
 ·show(List.replicate _ _).length=n
  rw[a8];omega
 ·rw[List.eq_of_mem_replicate hv];exact AX
theorem LJ{p:bA}(hp:PrW p):Tot (uX p) (fun y=>SW p.Vars.length y.1∧OW y.2.1):=by
 have hn:=hp.names
 have hf:FW [] []:=⟨⟨by simp,fun x hx=>by cases hx⟩,by simp,fun f h=>by cases h⟩
 have ho:OW []:=⟨by simp,fun x hx=>by cases hx⟩
 rw[KC]
 refine tb (AC _ hn) (fun r hr=>?_)
 rw[kv hr (by omega),aa,zU]
 exact tb (xE (by omega) hp.start 20000 0 0 _ [] (by omega) (by omega) (by have:=hp.start.1.1;omega) hr hf ho ⟨by simp,fun x hx=>by cases hx⟩) (fun y hy=>tb (xd (by omega) hy.1 hy.2.2 hr) (fun _ h=>ts h))
def McW(nv:Nat)(m:bt):Prop:=SW nv m.State∧m.Done.length=3∧(m.Out.length≤1500∧Bt m.Out)
theorem yr{p:bA}(hp:PrW p):Tot (vd p) (fun y=>McW p.Vars.length y.1):=by
 rw[KP]
 refine tb (LJ hp) (fun y hy=>ti (fun _=>tb (AC _ hp.names) (fun z hz=>ts ⟨hz,rfl,by simp,fun x hx=>by cases hx⟩)) (fun c=>ts ⟨hy.1,rfl,?_,hy.2.2⟩))
 have:=hy.2.1
 show y.2.1.length≤1500
 omega
theorem wZ{p:bA}(hp:PrW p){m:bt}(hm:McW p.Vars.length m){c:bp}(hc:c.Who<3)(hl:c.Line.length≤1000)(hb:Bt c.Line):Tot (u9 p m c) (fun y=>McW p.Vars.length y.1):=by
 have hn:=hp.names
 have hcp:u7 m=some (m,()):=by
  rw[KK,kv hm.1 (by omega),aa,bm (by have:=hm.2.1;rw[b6];omega)];rfl
 have h3:=hm.2.1
 have ho:=hm.2.2.1
 rw[KL,hcp,aa]
 refine ti (fun _=>ts hm) (fun c0=>?_)
 rw[ab]at c0
 have hset:∀ x:Int,(List.set m.Done c.Who.toNat x).length=3:=fun x=>by rw[aY];exact h3
 refine tc (by omega) (ti (fun _=>ts hm) (fun _=>tc (by dsimp only;omega) (ti (fun _=>ts ⟨hm.1,hset _,hm.2.2⟩) (fun _=>tb (I8 hp hm.1 hl hb) (fun y hy=>?_)))))
 have hy2:=hy.2.1
 rw[ar]
 refine ti (fun _=>ts ⟨hm.1,hset _,hm.2.2⟩) (fun d=>tc (by omega) (ts ⟨hy.1,hset _,?_,fun x hx=>?_⟩))
 ·rw[ab]at d
  show(m.Out++y.2.1).length≤1500
  rw[ag];omega
 ·rcases aB.1 hx with hx | hx
  ·exact hm.2.2.2 x hx
  ·exact hy.2.2 x hx
def yx:bt:=⟨f7,[],[]⟩
theorem HK{p:bA}(hp:PrW p){cs:List bp}(hl:cs.length≤1000)(hc:∀ c∈cs,c.Line.length≤1000∧Bt c.Line):Tot (qO p cs) (fun y=>y.1=yx∨McW p.Vars.length y.1):=by
 have key:∀ (d i:Nat) (m:bt),i+d=cs.length→McW p.Vars.length m→Tot (jO cs (i:Int) p sc m) (fun y=>y.1=yx∨McW p.Vars.length y.1):=by
  intro d
  induction d with
  | zero =>
   intro i m hd hm
   rw[qP,aq];exact ts (.inr hm)
  | succ d ih =>
   intro i m hd hm
   have hi:i<cs.length:=by omega
   obtain⟨h1,h2⟩:=hc _ (aW hi)
   rw[qP,ap,al,df hi,ur _ (by omega),aa,cM hi (by omega)]
   refine ti (fun c=>tc (by omega) (tb (wZ hp hm ?_ h1 h2) (fun y hy=>ih (i+1) _ (by omega) hy))) (fun _=>ih (i+1) m (by omega) hm)
   have c':fa cs[i]=true:=c
   unfold fa at c'
   by_cases e:(cs[i].Who) = -1
   ·omega
   ·simp[e]at c';omega
 obtain⟨b,hb⟩:=hp.right
 rw[zD,hb,aa]
 exact ti (fun _=>ts (.inl rfl)) (fun _=>tb (yr hp) (fun y hy=>key cs.length 0 _ (by omega) hy))
theorem HR{nv:Nat}(hn:nv≤8){m:bt}(h:McW nv m):ke m:=⟨by have:=h.1.1.1;omega,fun v hv=>(h.1.1.2 v hv).1,h.1.2.1,fun c hc=>⟨(h.1.2.2 c hc).1.1,(h.1.2.2 c hc).2.1⟩,h.2.1,h.2.2.1⟩
theorem pw(y:Int)(m:Nat)(hm:m<9223372036854775808):0≤Go.bits .and .i64 y m∧Go.bits .and .i64 y m≤m:=by
 have h:Go.bits .and .i64 y m=IntKind.i64.wrap (((BitVec.ofInt 64 y).toNat &&& m:Nat):Int):=by
  simp only[Go.bits,BitVec.toNat_and,BitVec.ofInt_natCast]
  congr 3
  exact Nat.mod_eq_of_lt (by show m<2 ^ 64;omega)
 have h2:(BitVec.ofInt 64 y).toNat &&& m≤m:=Nat.and_le_right
 rw[h,IntKind.wrap_i64]
 omega
def cr(c:bM):Prop:=0≤c.i∧c.b.length≤1048576
theorem kq{c:bM}(h:cr c):∃ x c',jf c=some (x,c',())∧cr c'∧0≤x∧x≤255:=by
 obtain⟨h1,h2⟩:=h
 rw[K7]
 by_cases hi:c.i<(c.b.length:Int)
 ·rw[ak hi,bm ⟨h1,hi⟩]
  refine⟨_,_,rfl,⟨?_,h2⟩,(pw _ 255 (by decide)).1,(pw _ 255 (by decide)).2⟩
  show 0≤w64 (c.i+1)
  rw[ar];omega
 ·rw[aj hi]
  exact⟨_,_,rfl,⟨h1,h2⟩,(pw _ 255 (by decide)).1,(pw _ 255 (by decide)).2⟩
theorem py{c:bM}(h:cr c)(n:Int):∃ x c',dq c n=some (x,c',())∧cr c'∧0≤x∧(0<n→x<n)∧(n≤0→x=0):=by
 rw[K5]
 by_cases h0:n≤0
 ·rw[ak h0]
  exact⟨0,c,rfl,h,by omega,fun h=>by omega,fun _=>rfl⟩
 ·rw[aj h0]
  have hn:0<n:=by omega
  by_cases h1:n≤256
  ·rw[ak h1]
   obtain⟨x,c',e,k1,k2,k3⟩:=kq h
   simp only[e,aa]
   rw[al]
   exact⟨_,_,rfl,k1,Int.tmod_nonneg _ k2,fun _=>Int.tmod_lt_of_pos _ hn,fun h=>by omega⟩
  ·rw[aj h1]
   obtain⟨x1,c1,e1,k1,a1,b1⟩:=kq h
   obtain⟨x2,c2,e2,k2,a2,b2⟩:=kq k1
   obtain⟨x3,c3,e3,k3,a3,b3⟩:=kq k2
   obtain⟨x4,c4,e4,k4,a4,b4⟩:=kq k3
   simp only[e1,e2,e3,e4,aa]
   rw[al]
   refine⟨_,_,rfl,k4,Int.tmod_nonneg _ ?_,fun _=>Int.tmod_lt_of_pos _ hn,fun h=>by omega⟩
   rw[ar (n:=x1*16777216),ar (n:=x2*65536),ar (n:=x3*256)]
   rw[ar (n:=x1*16777216+x2*65536),ar (n:=x1*16777216+x2*65536+x3*256)]
   rw[ar];omega
theorem Ik{c:bM}(h:cr c)(l:List Int)(hl:l≠[]):∃ x c',ly c l=some (x,c',())∧cr c'∧x∈l:=by
 have hp:0<l.length:=List.length_pos_iff.2 hl
 rw[La]
 obtain⟨x,c',e,k1,k2,k3,_⟩:=py h (l.length:Int)
 have k3:=k3 (by omega)
 simp only[e,aa]
 rw[bm ⟨k2,k3⟩]
 obtain⟨i,rfl⟩:=Int.eq_ofNat_of_zero_le k2
 have hi:i<l.length:=by omega
 exact⟨_,_,rfl,k1,by rw[df hi];exact aW hi⟩
theorem yI{c:bM}(h:cr c)(l:List (List Int))(hl:l≠[]):∃ x c',jZ c l=some (x,c',())∧cr c'∧x∈l:=by
 have hp:0<l.length:=List.length_pos_iff.2 hl
 rw[Lb]
 obtain⟨x,c',e,k1,k2,k3,_⟩:=py h (l.length:Int)
 have k3:=k3 (by omega)
 simp only[e,aa]
 rw[bm ⟨k2,k3⟩]
 obtain⟨i,rfl⟩:=Int.eq_ofNat_of_zero_le k2
 have hi:i<l.length:=by omega
 exact⟨_,_,rfl,k1,by rw[df hi];exact aW hi⟩
theorem HU(b:List Int)(h:b.length≤1048576):∃ c,vl b=some (((),c),())∧cr c:=by
 rw[K8]
 have key:∀ (d i:Nat) (k:Int),i+d=b.length→∃ c,rA b k (i:Int)=some (((),c),())∧cr c:=by
  intro d
  induction d with
  | zero =>
   intro i k hd
   rw[Ae,aq]
   exact⟨_,rfl,Int.le_refl 0,h⟩
  | succ d ih =>
   intro i k hd
   rw[Ae,ap]
   by_cases h4:(i:Int)<4000
   ·rw[ak h4,al,cM (n:=b.length) (by omega) (by omega)]
    exact ih (i+1) _ (by omega)
   ·rw[aj h4]
    exact⟨_,rfl,Int.le_refl 0,h⟩
 exact key b.length 0 _ (by omega)
theorem BF(b:List Int):tz b=some (decide ((b.length:Int)>1048576),()):=D8 b
set_option maxRecDepth 1000000
def twC(t:List Int):Bool:=decide (t.length≤300)&&t.all fun x=>decide (0≤x∧x≤255)
theorem LU{t:List Int}(h:twC t=true):TW t:=by
 unfold twC at h
 rw[aA,ab]at h
 exact⟨h.1,fun x hx=>of_decide_eq_true (List.all_eq_true.1 h.2 x hx)⟩
def tN(t:List Int):Bool:=match (kA 300).s_RexParse t with
 | some (r,_,_)=>(match (kA 300).s_NfaOf r with
  | some (l,_)=>decide (l.length≤1000)&&l.all fun p=>decide (p.Set.length≤1000)
  | none=>false)
 | none=>false
theorem Ij{t:List Int}(h:tN t=true):sq t:=by
 unfold tN at h
 split at h
 ·rename_i r ok u e
  split at h
  ·rename_i l u2 e2
   rw[aA,ab]at h
   exact⟨r,ok,l,(bT 300).s_RexParse _ _ e,(bT 300).s_NfaOf _ _ e2,h.1,fun p hp=>of_decide_eq_true (List.all_eq_true.1 h.2 p hp)⟩
  ·cases h
 ·cases h
def opC(nv len at_:Int)(o:bw):Bool :=
 (decide (1≤o.Code∧o.Code≤36)&&twC o.S)&&((decide ((o.Code=3∨o.Code=4∨o.Code=5)→0≤o.N∧o.N<nv)&&decide (o.Code=29→(1≤o.N∧o.N≤3)∧o.S∈[[108,101,110,103,116,104],[105,110,116],[105,110,100,101,120],[117,112,112,101,114],[108,111,119,101,114],[115,117,98,115,116,114]])) &&
  ((if o.Code=24∨o.Code=25 then tN o.S else true)&&(decide ((o.Code=30∨o.Code=31)→0≤o.N∧o.N<len)&&decide (o.Code≠36→at_+1<len))))
theorem H5{nv len at_:Int}{o:bw}(h:opC nv len at_ o=true):OpW nv len at_ o:=by
 unfold opC at h
 simp only[aA]at h
 obtain⟨⟨h1,h2⟩,⟨h3,h4⟩,h5,h6,h7⟩:=h
 exact⟨of_decide_eq_true h1,LU h2,of_decide_eq_true h3,of_decide_eq_true h4,fun c=>by rw[bm c]at h5;exact Ij h5,of_decide_eq_true h6,of_decide_eq_true h7⟩
def lg(nv len:Int):Int→List bw→Bool
 | _,[]=>true
 | i,o::l=>opC nv len i o&&lg nv len (i+1) l
theorem ul{nv len:Int}:∀ (l:List bw) (i:Int),lg nv len i l=true→∀ (j:Nat) (h:j<l.length),OpW nv len (i+j) l[j]
 | [],_,_,j,hj=>by cases hj
 | o::l,i,h,j,hj=>by
  unfold lg at h
  rw[aA]at h
  cases j with
  | zero=>rw[show i+((0:Nat):Int)=i by omega];exact H5 h.1
  | succ j =>
   have:=ul l (i+1) h.2 j (by simpa using hj)
   rw[show i+((j+1:Nat):Int)=i+1+j by omega]
   exact this
def tR(p:bA):Bool:=(decide (p.Vars.length≤8)&&decide (0<p.Start.length∧p.Start.length≤100000))&&((lg p.Vars.length p.Start.length 0 p.Start&&(decide (0<p.Main.length∧p.Main.length≤100000)&&lg p.Vars.length p.Main.length 0 p.Main))&&(match (kA 300).s_ProgOk p with
  | some (true,_)=>true
  | _=>false))
theorem It{p:bA}(h:tR p=true):PrW p∧s_ProgOk p=some (true,()):=by
 unfold tR at h
 simp only[aA]at h
 obtain⟨⟨h1,h2⟩,⟨h3,h4,h5⟩,h6⟩:=h
 have hr:s_ProgOk p=some (true,()):=by
  split at h6
  ·rename_i u e;exact(bT 300).s_ProgOk _ _ e
  ·cases h6
 refine⟨⟨of_decide_eq_true h1,⟨of_decide_eq_true h2,fun i hi=>?_⟩,⟨of_decide_eq_true h4,fun i hi=>?_⟩,⟨_,hr⟩⟩,hr⟩
 ·have:=ul _ 0 h3 i hi
  rwa [Int.zero_add]at this
 ·have:=ul _ 0 h5 i hi
  rwa [Int.zero_add]at this
def vF(s:List Int):Bool:=match (kA 300).s_Build s with
 | some (p,_,_)=>tR p
 | none=>false
theorem LG{s:List Int}(h:vF s=true):Tot (s_Build s) (fun y=>PrW y.1∧s_ProgOk y.1=some (true,())):=by
 unfold vF at h
 split at h
 ·rename_i p c u e
  exact te ((bT 300).s_Build _ _ e) (It h)
 ·cases h
def srcs:List (List Int):=[[123,32,110,32,43,61,32,49,59,32,115,91,36,49,93,32,43,61,32,36,50,59,32,112,114,105,110,116,32,110,44,32,36,49,44,32,115,91,36,49,93,59,32,125,10],[66,69,71,73,78,32,123,32,112,114,105,110,116,32,34,115,116,97,114,116,34,59,32,125,10,47,94,97,47,32,123,32,97,32,43,61,32,49,59,32,112,114,105,110,116,32,34,97,34,44,32,97,59,32,110,101,120,116,59,32,125,10,36,49,32,62,32,53,32,123,32,112,114,105,110,116,32,36,49,32,42,32,50,32,47,32,51,59,32,125,10,78,82,32,60,32,51,32,123,32,112,114,105,110,116,32,78,70,32,34,58,34,32,36,48,59,32,125,10],[123,32,105,32,61,32,49,59,32,119,104,105,108,101,32,40,105,32,60,61,32,78,70,41,32,123,32,119,91,36,105,93,32,43,61,32,49,59,32,112,114,105,110,116,32,36,105,32,34,61,34,32,119,91,36,105,93,59,32,105,32,43,61,32,49,59,32,125,32,125,10],[108,101,110,103,116,104,40,36,48,41,32,62,32,51,32,38,38,32,33,40,36,49,32,126,32,47,98,43,99,47,41,32,123,32,112,114,105,110,116,32,115,117,98,115,116,114,40,36,48,44,32,50,44,32,51,41,44,32,117,112,112,101,114,40,36,49,41,44,32,105,110,100,101,120,40,36,48,44,32,34,97,34,41,59,32,125,10,123,32,105,102,32,40,36,49,32,61,61,32,34,120,34,41,32,123,32,100,101,108,101,116,101,32,107,91,36,50,93,59,32,125,32,101,108,115,101,32,123,32,107,91,36,50,93,32,61,32,107,91,36,50,93,32,43,32,49,59,32,125,32,112,114,105,110,116,32,107,91,36,50,93,32,43,32,48,59,32,125,10],[123,32,116,32,61,32,116,32,36,49,32,34,46,34,59,32,112,114,105,110,116,32,116,44,32,45,36,49,32,37,32,51,44,32,105,110,116,40,36,49,32,47,32,50,41,59,32,105,102,32,40,108,101,110,103,116,104,40,116,41,32,62,32,49,50,41,32,123,32,116,32,61,32,34,34,59,32,125,32,125,10],[36,49,32,123,32,112,114,105,110,116,32,49,32,47,32,40,36,49,32,45,32,52,41,59,32,125,10,123,32,119,104,105,108,101,32,40,49,41,32,123,32,105,32,43,61,32,49,59,32,125,32,125,10],[78,82,32,61,61,32,49,123,32,112,114,105,110,116,32,34,102,105,114,115,116,34,59,32,125,10]]
theorem LI:(srcs.all vF)=true:=by kernel_rfl
theorem BS{s:List Int}(h:s∈srcs):Tot (s_Build s) (fun y=>PrW y.1∧s_ProgOk y.1=some (true,())):=LG (List.all_eq_true.1 LI s h)
theorem LH:vw=some (srcs,()):=Lu
theorem Cu{c:bM}(h:cr c):Tot (uS c) (fun y=>(PrW y.1∧s_ProgOk y.1=some (true,()))∧cr y.2.1):=by
 rw[Kv,Lt,LH,aa]
 dsimp only
 obtain⟨x,c',e,k,m⟩:=yI h srcs (by simp[srcs])
 rw[e,aa,aa]
 exact tb (BS m) (fun y hy=>ts ⟨hy,k⟩)
def eO(r:bB):Bool :=
 if decide (0≤r.Term∧r.Term≤300)&&(decide (0≤r.Prev∧r.Prev≤300)&&(gk r.List 300 && !decide ((r.Snap.length:Int)>30000))) then
  if r.Kind=1 then decide (-1≤r.Vote∧r.Vote≤4)&&(decide (r.Prev=0)&&(decide ((r.List.length:Int)=0)&&decide (r.Snap=[])))
  else if r.Kind=2 then decide (r.Vote=0)&&decide (r.Snap=[])
  else if r.Kind=3 then decide (r.Vote=0)&&decide ((r.List.length:Int)=0)
  else false
 else false
theorem DC(n:Int):tg n=some (decide (-1≤n∧n≤4),()):=by rw[DB,iV];rfl
theorem zc{k v p:Int}{a b c:Bool}:(if k=1 then
   if a=true then if p=0 then if b=true then some (c,())else some (false,())else some (false,())else some (false,())
  else if k=2 then if v=0 then some (c,())else some (false,())
  else if k=3 then if v=0 then some (b,())else some (false,())else some (false,())) =
  some (if k=1 then a&&(decide (p=0)&&(b&&c))else if k=2 then decide (v=0)&&c else if k=3 then decide (v=0)&&b else false,()):=by
 by_cases h1:k=1
 ·simp only[bm h1]
  cases a
  ·rfl
  ·by_cases h2:p=0
   ·simp only[h2];cases b <;> simp
   ·simp[h2]
 ·simp only[bn h1]
  by_cases h2:k=2
  ·simp only[bm h2]
   by_cases h3:v=0 <;> simp[h3]
  ·simp only[bn h2]
   by_cases h3:k=3
   ·simp only[bm h3]
    by_cases h4:v=0 <;> simp[h4]
   ·simp only[bn h3]
theorem uJ(r:bB)(hl:r.List.length≤4294967296)(hw:gN r.List):qV r=some (eO r,()):=by
 rw[JV]
 unfold eO
 simp only[fZ,K2 _ _ hl hw,aa]
 cases decide (0≤r.Term∧r.Term≤300) with
 | false=>rfl
 | true =>
 cases decide (0≤r.Prev∧r.Prev≤300) with
 | false=>rfl
 | true =>
 cases gk r.List 300 with
 | false=>rfl
 | true =>
 cases decide ((r.Snap.length:Int)>30000) with
 | true=>rfl
 | false =>
  have:=zc (k:=r.Kind) (v:=r.Vote) (p:=r.Prev) (a:=decide (-1≤r.Vote∧r.Vote≤4)) (b:=decide ((r.List.length:Int)=0)) (c:=decide (r.Snap=[]))
  simpa only[ab,Bool.not_true,Bool.not_false,Bool.false_eq_true,if_false,Bool.true_and,if_true]using this
theorem Ds(r:bB)(hl:r.List.length≤4294967296):s9 r=some (eO r,()):=by
 rw[Dr]
 unfold eO
 simp only[DS,DC,Dy _ _ hl,aa]
 cases decide (0≤r.Term∧r.Term≤300) with
 | false=>rfl
 | true =>
 cases decide (0≤r.Prev∧r.Prev≤300) with
 | false=>rfl
 | true =>
 cases gk r.List 300 with
 | false=>rfl
 | true =>
 cases decide ((r.Snap.length:Int)>30000) with
 | true=>rfl
 | false =>
  have:=zc (k:=r.Kind) (v:=r.Vote) (p:=r.Prev) (a:=decide (-1≤r.Vote∧r.Vote≤4)) (b:=decide ((r.List.length:Int)=0)) (c:=decide (r.Snap=[]))
  simpa only[ab,Bool.not_true,Bool.not_false,Bool.false_eq_true,if_false,Bool.true_and,if_true]using this
def rL:List Int→Int→Int→Int
 | [],a,b=>w64 (w64 (b*65536)+a)
 | x::l,a,b=>rL l (Int.tmod (w64 (a+w64 x)) 65521) (Int.tmod (w64 (b+Int.tmod (w64 (a+w64 x)) 65521)) 65521)
def iq(l:List Int):Int:=rL l 1 0
theorem zN(l:List Int)(hl:l.length≤4294967296):uK l=some (iq l,()):=by
 rw[JX]
 have key:∀ (d i:Nat) (a b:Int),i+d=l.length→qX l a b i=some (rL (l.drop i) a b,()):=by
  intro d
  induction d with
  | zero =>
   intro i a b hd
   rw[zM,aq,aX (by omega)];rfl
  | succ d ih =>
   intro i a b hd
   have hi:i<l.length:=by omega
   rw[zM,ap,al,df hi,cM hi (by omega),ih (i+1) _ _ (by omega),ai hi];rfl
 have:=key l.length 0 1 0 (by omega)
 simpa [iq]using this
theorem Du(l:List Int)(hl:l.length≤4294967296):qb l=some (iq l,()):=by
 rw[Dt]
 have key:∀ (d i:Nat) (a b:Int),i+d=l.length→qc a b l (l.length:Int) i=some (rL (l.drop i) a b,()):=by
  intro d
  induction d with
  | zero =>
   intro i a b hd
   rw[xL,aq,aX (by omega)];rfl
  | succ d ih =>
   intro i a b hd
   have hi:i<l.length:=by omega
   rw[xL,ap,al,df hi,cM hi (by omega),ih (i+1) _ _ (by omega),ai hi];rfl
 have:=key l.length 0 1 0 (by omega)
 simpa [iq]using this
def fB(acc:List Int)(e:bq):List Int:=(((acc++bW e.Term)++bW (w64 (e.C.Who+1)))++bW e.C.Seq)++dI e.C.Line
def eY:List bq→List Int→List Int
 | [],acc=>acc
 | e::l,acc=>eY l (fB acc e)
theorem sP(acc:List Int)(e:bq)(h:e.C.Line.length≤60):(fB acc e).length≤acc.length+96:=by
 unfold fB
 simp only[ag]
 have a:=cB e.Term
 have b:=cB (w64 (e.C.Who+1))
 have c:=cB e.C.Seq
 have d:=ff e.C.Line
 omega
theorem wv:∀ (l:List bq) (acc:List Int),(∀ e∈l,e.C.Line.length≤60)→(eY l acc).length≤acc.length+96*l.length
 | [],acc,_=>by simp[eY]
 | e::l,acc,h=>by
  have h1:=sP acc e (h e (aE ..))
  have h2:=wv l (fB acc e) fun x hx=>h x (aF _ hx)
  show(eY l (fB acc e)).length≤_
  rw[aS];omega
theorem B9{c:bp}(h:fa c=true):c.Line.length≤60:=by
 unfold fa at h
 split at h
 ·simp only[aA,ab]at h;rw[h.2];exact Nat.zero_le _
 ·simp only[aA,ab]at h;omega
theorem CE{l:List bq}{m:Int}(h:gk l m=true):l.length≤40∧∀ e∈l,e.C.Line.length≤60:=by
 unfold gk at h
 simp only[aA,ab,List.all_eq_true]at h
 refine⟨by omega,fun e he=>?_⟩
 have:=h.2 e he
 unfold gj at this
 simp only[aA]at this
 exact B9 this.2
theorem kZ{r:bB}(h:eO r=true):r.List.length≤40∧(∀ e∈r.List,e.C.Line.length≤60)∧r.Snap.length≤30000:=by
 unfold eO at h
 split at h
 ·rename_i hc
  simp only[aA,Bool.not_eq_true',decide_eq_false_iff_not]at hc
  have:=CE hc.2.2.1
  exact⟨this.1,this.2,by omega⟩
 ·cases h
theorem KX(r:bB)(hl:r.List.length≤40)(hw:∀ e∈r.List,e.C.Line.length≤60)(hs:r.Snap.length≤30000):∀ (d i:Nat) (acc:List Int),i+d=r.List.length→acc.length≤100+96*i→rq acc i r=some (eY (r.List.drop i) acc++dI r.Snap,()):=by
 intro d
 induction d with
 | zero =>
  intro i acc hd ha
  have a:=ff r.Snap
  rw[z5,aq,ls _ (by omega),aa]
  dsimp only
  rw[bm (by rw[b6];omega),aX (by omega)];rfl
 | succ d ih =>
  intro i acc hd ha
  have hi:i<r.List.length:=by omega
  have he:=hw _ (aW hi)
  have a:=cB (r.List[i]).Term
  have b:=cB (w64 ((r.List[i]).C.Who+1))
  have c:=cB (r.List[i]).C.Seq
  have t:=ff (r.List[i]).C.Line
  have el:=sP acc _ he
  have c1:acc.length+(bW (r.List[i]).Term).length≤room:=by rw[b6];omega
  have c2:(acc++bW (r.List[i]).Term).length+(bW (w64 ((r.List[i]).C.Who+1))).length≤room:=by rw[b6,ag];omega
  have c3:((acc++bW (r.List[i]).Term)++bW (w64 ((r.List[i]).C.Who+1))).length+(bW (r.List[i]).C.Seq).length≤room:=by rw[b6];simp only[ag];omega
  have c4:(((acc++bW (r.List[i]).Term)++bW (w64 ((r.List[i]).C.Who+1)))++bW (r.List[i]).C.Seq).length+(dI (r.List[i]).C.Line).length≤room:=by rw[b6];simp only[ag];omega
  rw[z5,ap,al,df hi,cM hi (by omega)]
  simp only[eP,ls _ (show(r.List[i]).C.Line.length≤4000000000 by omega),aa,List.append_eq,bm c1,bm c2,bm c3,bm c4]
  rw[ai hi]
  exact ih (i+1) (fB acc r.List[i]) (by omega) (by omega)
theorem Dp(r:bB)(hl:r.List.length≤40)(hw:∀ e∈r.List,e.C.Line.length≤60):∀ (d i:Nat) (acc:List Int),i+d=r.List.length→acc.length≤100+96*i→iU acc r.List (r.List.length:Int) i r=iU (eY (r.List.drop i) acc) r.List (r.List.length:Int) (r.List.length:Int) r:=by
 intro d
 induction d with
 | zero =>
  intro i acc hd ha
  rw[aX (by omega),show i=r.List.length by omega];rfl
 | succ d ih =>
  intro i acc hd ha
  have hi:i<r.List.length:=by omega
  have he:=hw _ (aW hi)
  have a:=cB (r.List[i]).Term
  have b:=cB (w64 ((r.List[i]).C.Who+1))
  have c:=cB (r.List[i]).C.Seq
  have t:=ff (r.List[i]).C.Line
  have el:=sP acc _ he
  have c1:acc.length+(bW (r.List[i]).Term).length≤room:=by rw[b6];omega
  have c2:(acc++bW (r.List[i]).Term).length+(bW (w64 ((r.List[i]).C.Who+1))).length≤room:=by rw[b6,ag];omega
  have c3:((acc++bW (r.List[i]).Term)++bW (w64 ((r.List[i]).C.Who+1))).length+(bW (r.List[i]).C.Seq).length≤room:=by rw[b6];simp only[ag];omega
  have c4:(((acc++bW (r.List[i]).Term)++bW (w64 ((r.List[i]).C.Who+1)))++bW (r.List[i]).C.Seq).length+(dI (r.List[i]).C.Line).length≤room:=by rw[b6];simp only[ag];omega
  have step3:p7 acc r.List (r.List.length:Int) i [(r.List[i]).Term,w64 ((r.List[i]).C.Who+1),(r.List[i]).C.Seq] 3 0 r r.List[i]=iU (fB acc r.List[i]) r.List (r.List.length:Int) ((i+1:Nat):Int) r:=by
   have w1:w64 (0+1)=1:=ar
   have w2:w64 (1+1)=2:=ar
   have w3:w64 (2+1)=3:=ar
   rw[p8,bm (by decide),bm (by simp),fQ,aa]
   rw[bm (by exact c1),w1,p8,bm (by decide),bm (by simp),fQ,aa]
   rw[bm (by exact c2),w2,p8,bm (by decide),bm (by simp),fQ,aa]
   rw[bm (by exact c3),w3,p8,bn (by decide),xJ _ (by omega),aa,bm (by exact c4),cM hi (by omega)]
   rfl
  rw[xK,ap,al,df hi,step3,ai hi]
  exact ih (i+1) (fB acc r.List[i]) (by omega) (by omega)
def fJ(r:bB):List Int:=(((bW r.Kind++bW r.Term)++bW (w64 (r.Vote+1)))++bW r.Prev)++bW (r.List.length:Int)
def dP(r:bB):List Int:=eY r.List (fJ r)++dI r.Snap
def gG(b:List Int):List Int:=[w8 (iq b),w8 (dz .i64 (iq b) 8),w8 (dz .i64 (iq b) 16),w8 (dz .i64 (iq b) 24)]
def dQ(r:bB):List Int:=if eO r then(bW ((dP r).length:Int)++dP r)++gG (dP r)else []
theorem ue(r:bB):(fJ r).length≤45:=by
 unfold fJ
 simp only[ag]
 have a:=cB r.Kind
 have b:=cB r.Term
 have c:=cB (w64 (r.Vote+1))
 have d:=cB r.Prev
 have e:=cB (r.List.length:Int)
 omega
theorem ud{r:bB}(h:eO r=true):(dP r).length≤40000:=by
 obtain⟨h1,h2,h3⟩:=kZ h
 unfold dP
 rw[ag]
 have a:=wv r.List (fJ r) h2
 have b:=ff r.Snap
 have c:=ue r
 omega
theorem qy(r:bB):(dQ r).length≤41000:=by
 unfold dQ
 split
 ·rename_i h
  have a:=ud h
  have b:=cB ((dP r).length:Int)
  simp only[ag,gG,aS,List.length_nil]
  omega
 ·simp
theorem JT(r:bB)(hl:r.List.length≤4294967296)(hw:gN r.List):lu r=some (dQ r,()):=by
 rw[JS,uJ r hl hw,aa]
 unfold dQ
 cases h:eO r with
 | false=>rfl
 | true =>
  obtain⟨h1,h2,h3⟩:=kZ h
  have hb:=ud h
  have a:=cB r.Kind
  have b:=cB r.Term
  have c:=cB (w64 (r.Vote+1))
  have d:=cB r.Prev
  have e:=cB (r.List.length:Int)
  have f:=cB ((dP r).length:Int)
  have body:vi r=some (dP r,()):=by
   rw[KY]
   have c1:(bW r.Kind).length+(bW r.Term).length≤room:=by rw[b6];omega
   have c2:(bW r.Kind++bW r.Term).length+(bW (w64 (r.Vote+1))).length≤room:=by rw[b6];simp only[ag];omega
   have c3:((bW r.Kind++bW r.Term)++bW (w64 (r.Vote+1))).length+(bW r.Prev).length≤room:=by rw[b6];simp only[ag];omega
   have c4:(((bW r.Kind++bW r.Term)++bW (w64 (r.Vote+1)))++bW r.Prev).length+(bW (r.List.length:Int)).length≤room:=by rw[b6];simp only[ag];omega
   simp only[eP,aa,List.append_eq,bm c1,bm c2,bm c3,bm c4]
   exact KX r h1 h2 h3 r.List.length 0 (fJ r) (by omega) (by have:=ue r;omega)
  rw[bn (by simp),body,aa,eP,aa]
  dsimp only
  rw[bm (by rw[b6];omega),z9,zN _ (by omega)]
  simp only[aa,List.append_eq,if_true]
  rw[bm (by rw[b6];simp only[ag,aS,List.length_nil];omega)]
  rfl
theorem p9(r:bB)(hl:r.List.length≤4294967296):kH r=some (dQ r,()):=by
 rw[Dq,Ds r hl,aa]
 unfold dQ
 cases h:eO r with
 | false=>rfl
 | true =>
  obtain⟨h1,h2,h3⟩:=kZ h
  have hb:=ud h
  have a:=cB r.Kind
  have b:=cB r.Term
  have c:=cB (w64 (r.Vote+1))
  have d:=cB r.Prev
  have e:=cB (r.List.length:Int)
  have f:=cB ((dP r).length:Int)
  have g:=ff r.Snap
  have w1:w64 (0+1)=1:=ar
  have w2:w64 (1+1)=2:=ar
  have w3:w64 (2+1)=3:=ar
  have w4:w64 (3+1)=4:=ar
  have w5:w64 (4+1)=5:=ar
  rw[bn (by simp),jB,bm (by decide),bm (by simp),fQ,aa]
  rw[bm (by show 0+(bW r.Kind).length≤room;rw[b6];omega),w1,jB,bm (by decide),bm (by simp),fQ,aa]
  rw[bm (by show(bW r.Kind).length+(bW r.Term).length≤room;rw[b6];omega),w2,jB,bm (by decide),bm (by simp),fQ,aa]
  rw[bm (by show(bW r.Kind++bW r.Term).length+(bW (w64 (r.Vote+1))).length≤room;rw[b6];simp only[ag];omega),w3,jB,bm (by decide),bm (by simp),fQ,aa]
  rw[bm (by show((bW r.Kind++bW r.Term)++bW (w64 (r.Vote+1))).length+(bW r.Prev).length≤room;rw[b6];simp only[ag];omega),w4,jB,bm (by decide),bm (by simp),fQ,aa]
  rw[bm (by show(((bW r.Kind++bW r.Term)++bW (w64 (r.Vote+1)))++bW r.Prev).length+(bW (r.List.length:Int)).length≤room;rw[b6];simp only[ag];omega),w5,jB,bn (by decide)]
  have key:=Dp r h1 h2 r.List.length 0 (fJ r) (by omega) (by have:=ue r;omega)
  have key':iU (fJ r) r.List (r.List.length:Int) 0 r=_:=key
  refine Eq.trans key' ?_
  rw[aN,xK,bn (by simp),xJ _ (by omega),aa]
  have hb':(eY r.List (fJ r)++dI r.Snap).length≤40000:=hb
  have c1:(eY r.List (fJ r)).length+(dI r.Snap).length≤room:=by rw[ag]at hb';rw[b6];omega
  simp only[bm c1,List.append_eq]
  show((qb (dP r)).bind fun r1=>(iT ((dP r).length:Int)).bind fun r2=>if r2.1.length+(dP r).length≤room then if(r2.1++dP r).length+4≤room then some ((r2.1++dP r)++[w8 r1.1,w8 (dz .i64 r1.1 8),w8 (dz .i64 r1.1 16),w8 (dz .i64 r1.1 24)],())else none else none)=_
  rw[Du _ (by omega),fQ]
  simp only[aa]
  rw[bm (by rw[b6];omega),bm (by rw[b6,ag];omega)]
  rfl
theorem Bytes.app{a b:List Int}(ha:Bytes a)(hb:Bytes b):Bytes (a++b):=fun x hx=>(aB.1 hx).elim (ha x) (hb x)
theorem dM{c:bM}(h:cr c)(n:Int)(hn:0<n):Tot (dq c n) (fun y=>(0≤y.1∧y.1<n)∧cr y.2.1):=by
 obtain⟨x,c',e,k,a,b,_⟩:=py h n
 exact te e ⟨⟨a,b hn⟩,k⟩
theorem yJ{c:bM}(h:cr c)(l:List (List Int))(hl:l≠[]):Tot (jZ c l) (fun y=>y.1∈l∧cr y.2.1):=by
 obtain⟨x,c',e,k,m⟩:=yI h l hl
 exact te e ⟨m,k⟩
theorem yH{c:bM}(h:cr c)(l:List Int)(hl:l≠[]):Tot (ly c l) (fun y=>y.1∈l∧cr y.2.1):=by
 obtain⟨x,c',e,k,m⟩:=Ik h l hl
 exact te e ⟨m,k⟩
theorem H4{c:bM}(h:cr c)(n:Int):Tot (vm c n) (fun y=>cr y.2.1):=by
 obtain⟨x,c',e,k,_⟩:=py h n
 rw[K9,e]
 exact ts k
theorem ym{l:List (List Int)}{n:Nat}{x:List Int}(hl:(l.all fun t=>decide (t.length≤n)&&t.all fun b=>decide (0≤b∧b≤255))=true)(h:x∈l):x.length≤n∧Bt x:=by
 have:=List.all_eq_true.1 hl x h
 rw[aA,ab]at this
 exact⟨this.1,fun b hb=>of_decide_eq_true (List.all_eq_true.1 this.2 b hb)⟩
theorem cT{a b:List Int}(ha:Bt a)(hb:Bt b):Bt (a++b):=fun x hx=>(aB.1 hx).elim (ha x) (hb x)
theorem iI:Bt []:=fun x hx=>by cases hx
theorem HA{c:bM}(h:cr c):Tot (uL c) (fun y=>(y.1.length≤100∧Bt y.1)∧cr y.2.1):=by
 rw[Kc]
 have key:∀ (d i:Nat) (t:List Int) (c:bM),cr c→i+d=4→t.length≤5*i→Bt t→Tot (q9 t (i:Int) c) (fun y=>(y.1.length≤100∧Bt y.1)∧cr y.2.1):=by
  intro d
  induction d with
  | zero =>
   intro i t c h hd ht hb
   rw[zP]
   exact tb (dM h 5 (by omega)) (fun y hy=>tn (by rw[ab];omega) (ts ⟨⟨by show t.length≤_;omega,hb⟩,hy.2⟩))
  | succ d ih =>
   intro i t c h hd ht hb
   rw[zP,cM (n:=4) (by omega) (by omega)]
   refine tb (dM h 5 (by omega)) (fun y hy=>ti (fun _=>tb (yJ hy.2 _ (by simp)) (fun u hu=>?_)) (fun _=>ts ⟨⟨by show t.length≤_;omega,hb⟩,hy.2⟩))
   have l2:=ym (n:=3) (by decide) hu.1
   refine tc (by omega) (tb (yJ hu.2 _ (by simp)) (fun v hv=>?_))
   have l3:=ym (n:=2) (by decide) hv.1
   refine tc (by rw[ag];omega) (ih (i+1) _ _ hv.2 (by omega) (by rw[ag,ag];omega) (cT (cT hb l2.2) l3.2))
 exact key 4 0 [] c h (by omega) (by simp) iI
def CmW(c:bp):Prop:=c.Line.length≤100∧Bt c.Line
theorem wL{c:bM}(h:cr c):Tot (rm c) (fun y=>CmW y.1∧cr y.2.1):=by
 rw[KM]
 exact tb (H4 h 8) (fun y hy=>ti (fun _=>ts ⟨⟨by simp,iI⟩,hy⟩) (fun _=>tb (dM hy 3 (by omega)) (fun z hz=>tb (dM hz.2 5 (by omega)) (fun u hu=>tb (HA hu.2) (fun v hv=>ts ⟨hv.1,hv.2⟩)))))
theorem Ca{c:bM}(h:cr c)(n:Nat)(hn:n≤100):Tot (vb c (n:Int)) (fun y=>(y.1.length≤100∧∀ x∈y.1,CmW x)∧cr y.2.1):=by
 rw[KN,ar]
 refine tb (dM h _ (by omega)) (fun y hy=>?_)
 obtain⟨m,hm⟩:=Int.eq_ofNat_of_zero_le hy.1.1
 rw[hm]
 have key:∀ (d i:Nat) (l:List bp) (c:bM),cr c→i+d=m→l.length=i→(∀ x∈l,CmW x)→Tot (rn l (m:Int) (i:Int) c) (fun y=>(y.1.length≤100∧∀ x∈y.1,CmW x)∧cr y.2.1):=by
  intro d
  induction d with
  | zero =>
   intro i l c hc hd hl hw
   rw[zV,aq]
   exact ts ⟨⟨by show l.length≤_;omega,hw⟩,hc⟩
  | succ d ih =>
   intro i l c hc hd hl hw
   rw[zV,ap,ar (n:=(i:Int)+1)]
   refine tb (wL hc) (fun z hz=>tc (by rw[b6];omega) (ih (i+1) _ _ hz.2 (by omega) (by show(l++[_]).length=_;rw[ag,hl];rfl) (fun x hx=>?_)))
   rcases aB.1 (show x∈l++[_]from hx)with hx | hx
   ·exact hw x hx
   ·rw[aK.1 hx];exact hz.1
 exact key m 0 [] _ hy.2 (by omega) rfl (fun x hx=>by cases hx)
theorem HJ{p:bA}(hp:PrW p)(hr:s_ProgOk p=some (true,())){cs:List bp}(hl:cs.length≤1000)(hc:∀ c∈cs,CmW c):Tot (qO p cs) (fun y=>McW p.Vars.length y.1):=by
 obtain⟨y,e,hy⟩:=HK hp hl (fun c h=>⟨by have:=(hc c h).1;omega,(hc c h).2⟩)
 refine⟨y,e,hy.resolve_left fun hy=>?_⟩
 rw[zD,hr,aa,bn (by simp)]at e
 obtain⟨m,e2,hm⟩:=yr hp
 rw[e2,aa]at e
 have len:∀ (d i:Nat) (m:bt) (y:bt×Unit),i+d=cs.length→McW p.Vars.length m→jO cs (i:Int) p sc m=some y→McW p.Vars.length y.1:=by
  intro d
  induction d with
  | zero =>
   intro i m y hd hm e
   rw[qP,aq]at e
   cases e;exact hm
  | succ d ih =>
   intro i m y hd hm e
   have hi:i<cs.length:=by omega
   obtain⟨h1,h2⟩:=hc _ (aW hi)
   rw[qP,ap,al,df hi,ur _ (by omega),aa,cM hi (by omega)]at e
   dsimp only at e
   by_cases c:fa cs[i]=true
   ·rw[bm c,al]at e
    have cw:cs[i].Who<3:=by
     have c':=c
     unfold fa at c'
     by_cases e:(cs[i].Who) = -1
     ·omega
     ·simp[e]at c';omega
    obtain⟨z,e3,hz⟩:=wZ hp hm cw (by omega) h2
    rw[e3,aa]at e
    exact ih (i+1) _ _ (by omega) hz e
   ·rw[bn c]at e
    exact ih (i+1) _ _ (by omega) hm e
 have h3:=(len cs.length 0 _ _ (by omega) hm e).2.1
 rw[hy]at h3
 cases h3
theorem I0{c:bM}(h:cr c):Tot (vc c) (fun y=>(PrW y.1∧s_ProgOk y.1=some (true,()))∧McW y.1.Vars.length y.2.1∧cr y.2.2.1):=by
 rw[KO]
 exact tb (Cu h) (fun y hy=>tb (Ca hy.2 8 (by omega)) (fun z hz=>tb (HJ hy.1.1 hy.1.2 (by have:=hz.1.1;omega) hz.1.2) (fun m hm=>ts ⟨hy.1,hm,hz.2⟩)))
theorem dN(n:Int):Bt (bW n):=Iz n
theorem kp{t:List Int}(h:Bt t):Bt (dI t):=cT (dN _) h
theorem BN(n:Int):Bt (ja n):=by
 unfold ja
 split
 ·exact dN _
 ·exact iI
theorem wy{v:bG}(h:VW v):Bt (iv v):=cT (cT (dN _) (BN _)) (kp h.2)
theorem pA{α:Type}(f:List Int→α→List Int)(P:α→Prop)(hf:∀ a x,Bt a→P x→Bt (f a x)):∀ (l:List α) (a:List Int),Bt a→(∀ x∈l,P x)→Bt (l.foldl f a)
 | [],a,ha,_=>ha
 | x::l,a,ha,h=>pA f P hf l (f a x) (hf a x ha (h x aE)) (fun y hy=>h y (aF _ hy))
theorem BO{nv:Nat}{m:bt}(h:McW nv m):Bt (jG m):=by
 unfold jG gU gV
 refine cT (pA _ (fun _=>True) (fun a x ha _=>cT ha (dN _)) _ _ (cT (cT (pA _ ClW (fun a x ha hx=>cT (cT (cT ha (dN _)) (kp hx.1.2)) (wy hx.2)) _ _ (cT (pA _ VW (fun a x ha hx=>?_) _ _ (dN _) h.1.1.2) (dN _)) h.1.2.2) (dN _)) (dN _)) (fun _ _=>trivial)) (kp h.2.2.2)
 exact cT ha (wy hx)
def RcW(r:bB):Prop:=(r.List.length≤100∧∀ e∈r.List,CmW e.C)∧r.Snap.length≤31000∧Bt r.Snap
theorem CF{c:bM}(h:cr c)(t:Int)(n:Nat)(hn:n≤50):Tot (vh c t (n:Int)) (fun y=>(y.1.length≤50∧∀ e∈y.1,CmW e.C)∧cr y.2.1):=by
 rw[KW,ar]
 refine tb (dM h _ (by omega)) (fun y hy=>?_)
 obtain⟨m,hm⟩:=Int.eq_ofNat_of_zero_le hy.1.1
 rw[hm]
 have key:∀ (d i:Nat) (t:Int) (l:List bq) (c:bM),cr c→i+d=m→l.length=i→(∀ e∈l,CmW e.C)→Tot (rp t l (m:Int) (i:Int) c) (fun y=>(y.1.length≤50∧∀ e∈y.1,CmW e.C)∧cr y.2.1):=by
  intro d
  induction d with
  | zero =>
   intro i t l c hc hd hl hw
   rw[z0,aq]
   exact ts ⟨⟨by show l.length≤_;omega,hw⟩,hc⟩
  | succ d ih =>
   intro i t l c hc hd hl hw
   rw[z0,ap,ar (n:=(i:Int)+1)]
   refine tb (dM hc 2 (by omega)) (fun u hu=>tb (wL hu.2) (fun z hz=>tc (by rw[b6];omega) (ih (i+1) _ _ _ hz.2 (by omega) (by show(l++[_]).length=_;rw[ag,hl];rfl) (fun x hx=>?_))))
   rcases aB.1 (show x∈l++[_]from hx)with hx | hx
   ·exact hw x hx
   ·rw[aK.1 hx];exact hz.1
 exact key m 0 t [] _ hy.2 (by omega) rfl (fun x hx=>by cases hx)
theorem zb{c:bM}(h:cr c):Tot (rt c) (fun y=>RcW y.1∧cr y.2.1):=by
 have nl:(([]:List bq).length≤100∧∀ e∈([]:List bq),CmW e.C):=⟨by simp,fun e he=>by cases he⟩
 rw[K0]
 refine tb (dM h 4 (by omega)) (fun y hy=>ti (fun _=>tb (dM hy.2 6 (by omega)) (fun z hz=>tb (dM hz.2 4 (by omega)) (fun u hu=>ts ⟨⟨nl,by simp,iI⟩,hu.2⟩))) (fun _=>ti (fun _=>tb (I0 hy.2) (fun z hz=>tb (dM hz.2.2 3 (by omega)) (fun u hu=>tb (dM hu.2 5 (by omega)) (fun v hv=>?_)))) (fun _=>tb (dM hy.2 2 (by omega)) (fun z hz=>tb (dM hz.2 3 (by omega)) (fun u hu=>tb (CF hu.2 1 4 (by omega)) (fun v hv=>ts ⟨⟨⟨by have:=hv.1.1;show v.1.length≤100;omega,hv.1.2⟩,by simp,iI⟩,hv.2⟩))))))
 have hf:=HR hz.1.1.names hz.2.1
 have hl:=HL hf
 rw[KR _ hf,aa]
 exact ts ⟨⟨nl,by show(jG _).length≤_;omega,BO hz.2.1⟩,hv.2⟩
theorem wx:∀ (l:List bq) (a:List Int),Bt a→(∀ e∈l,CmW e.C)→Bt (eY l a)
 | [],a,ha,_=>ha
 | e::l,a,ha,h=>wx l (fB a e) (cT (cT (cT (cT ha (dN _)) (dN _)) (dN _)) (kp (h e aE).2)) (fun x hx=>h x (aF _ hx))
theorem BP{r:bB}(h:RcW r):Bt (dQ r):=by
 unfold dQ
 split
 ·have hb:Bt (dP r):=cT (wx _ _ (cT (cT (cT (cT (dN _) (dN _)) (dN _)) (dN _)) (dN _)) h.1.2) (kp h.2.2)
  refine cT (cT (dN _) hb) (fun x hx=>?_)
  unfold gG at hx
  rcases aL.1 hx with rfl | hx
  ·exact gJ _
  rcases aL.1 hx with rfl | hx
  ·exact gJ _
  rcases aL.1 hx with rfl | hx
  ·exact gJ _
  rw[aK.1 hx];exact gJ _
 ·exact iI
theorem HB{r:bB}(h:RcW r):gN r.List:=fun e he=>by have:=(h.1.2 e he).1;omega
theorem y8{r:bB}(h:RcW r):Tot (lu r) (fun y=>y.1.length≤41000∧Bt y.1):=te (JT r (by have:=h.1.1;omega) (HB h)) ⟨qy r,BP h⟩
theorem BX{c:bM}(h:cr c):Tot (vj c) (fun y=>(y.1.length≤200000∧Bt y.1)∧cr y.2.1):=by
 rw[KZ]
 have key:∀ (d i:Nat) (t:List Int) (c:bM),cr c→i+d=3→t.length≤41000*i→Bt t→Tot (rr t (i:Int) c) (fun y=>(y.1.length≤200000∧Bt y.1)∧cr y.2.1):=by
  intro d
  induction d with
  | zero =>
   intro i t c h hd ht hb
   rw[z6]
   exact tb (dM h 4 (by omega)) (fun y hy=>tn (by rw[ab];omega) (ts ⟨⟨by show t.length≤_;omega,hb⟩,hy.2⟩))
  | succ d ih =>
   intro i t c h hd ht hb
   rw[z6,cM (n:=4) (by omega) (by omega)]
   refine tb (dM h 4 (by omega)) (fun y hy=>ti (fun _=>tb (zb hy.2) (fun r hr=>tb (y8 hr.1) (fun b hb2=>?_))) (fun _=>ts ⟨⟨by show t.length≤_;omega,hb⟩,hy.2⟩))
   have:=hb2.1
   exact tc (by rw[b6];omega) (ih (i+1) _ _ hr.2 (by omega) (by show(t++_).length≤_;rw[ag];omega) (cT hb hb2.2))
 exact key 3 0 [] c h (by omega) (by simp) iI
theorem Cs{c:bM}(h:cr c){b:List Int}(hl:b.length≤1000000)(hb:Bt b):Tot (vf c b) (fun y=>(y.1.length≤b.length+1∧Bt y.1)∧cr y.2.1):=by
 rw[KS,ar]
 refine tb (dM h _ (by omega)) (fun y hy=>tb (dM hy.2 5 (by omega)) (fun z hz=>ti (fun _=>tc (by omega) (ts ⟨⟨?_,fun x hx=>hb x (by first | exact List.mem_of_mem_drop (List.mem_of_mem_take hx) | exact List.mem_of_mem_take hx)⟩,hz.2⟩)) (fun _=>ti (fun _=>?_) (fun _=>ts ⟨⟨by show b.length≤_;omega,hb⟩,hz.2⟩))))
 ·simp only[aQ,aR];omega
 ·refine tc (by omega) (tc (by rw[b6,aQ,aR];omega) (tb (yH hz.2 _ (by simp)) (fun u hu=>tc (by omega) (tc (by rw[b6,aQ,aR];omega) (tc ?_ (ts ⟨⟨?_,?_⟩,hu.2⟩))))))
  ·show(List.take _ (List.drop 0 b)).length+([_]++List.take _ (List.drop _ b)).length≤_
   rw[b6,ag,aQ,aR,aQ,aR,bj];omega
  ·show(List.take _ (List.drop 0 b)++([_]++List.take _ (List.drop _ b))).length≤_
   rw[ag,ag,aQ,aR,aQ,aR,bj];omega
  ·exact cT (fun x hx=>hb x (List.mem_of_mem_drop (List.mem_of_mem_take (show x∈List.take _ (List.drop 0 b)from hx)))) (cT (a:=[_]) (fun x hx=>by rw[aK.1 hx];exact gJ _) (fun x hx=>hb x (List.mem_of_mem_drop (List.mem_of_mem_take hx))))
theorem IM{b:List Int}(hb:b.length≤1048576):Tot (uz b) (fun y=>(y.1.length≤250000∧Bt y.1)∧(-1≤y.2.1∧y.2.1≤250000)):=by
 obtain⟨c,e,hc⟩:=HU b hb
 rw[JB,e,aa]
 refine tb (zb hc) (fun r hr=>tb (y8 hr.1) (fun x hx=>tb (BX hr.2) (fun y hy=>?_)))
 have h1:=hx.1
 have h2:=hy.1.1
 have hl:(List.append x.1 y.1).length=x.1.length+y.1.length:=ag
 refine tc (by rw[b6];omega) (tb (Cs hy.2 (by omega) (cT hx.2 hy.1.2)) (fun z hz=>tb (yH hz.2 _ (by simp)) (fun k hk=>?_)))
 have h3:=hz.1.1
 refine ts ⟨⟨by show z.1.length≤_;omega,hz.1.2⟩,?_⟩
 have hk1:=hk.1
 simp only[aL,List.not_mem_nil,or_false]at hk1
 show -1≤k.1∧k.1≤250000
 omega
abbrev Rs:=Int×Bool
def rdN(b:List Int)(s:Rs):Int×Rs:=if s.2=true∧(cC b s.1).2.2=true then((cC b s.1).1,(cC b s.1).2.1,true) else(0,s.1,false)
def rdT(b:List Int)(s:Rs):List Int×Rs:=if s.2=true∧(dX b s.1).2.2=true then((dX b s.1).1,(dX b s.1).2.1,true) else([],s.1,false)
def Pos(b:List Int)(s:Rs):Prop:=0≤s.1∧s.1≤(b.length:Int)
theorem fI{b:List Int}{s:Rs}(hs:Pos b s):Pos b (rdN b s).2:=by
 unfold rdN;split
 ·have:=gp b s.1;exact⟨this.2.2.1,this.2.2.2⟩
 ·exact hs
theorem y6{b:List Int}{s:Rs}(hw:Bytes b)(hs:Pos b s):Pos b (rdT b s).2:=by
 unfold rdT;split
 ·rename_i h
  have:=vJ b hw s.1 (dX b s.1).2.1 (dX b s.1).1 (by rw[← h.2])
  exact⟨by show 0≤(dX b s.1).2.1;omega,this.2.2.1⟩
 ·exact hs
theorem ij{b:List Int}{s:Rs}(hw:Bytes b)(h:(rdN b s).2.2=true):s.2=true∧s.1<(rdN b s).2.1∧b.take (rdN b s).2.1.toNat=b.take s.1.toNat++bW (rdN b s).1∧0≤(rdN b s).1∧(rdN b s).1≤4611686018427387903:=by
 unfold rdN at h ⊢
 by_cases hc:s.2=true∧(cC b s.1).2.2=true
 ·rw[bm hc]
  obtain⟨c1,c2,c3,c4,c5,c6⟩:=kS b hw s.1 (cC b s.1).1 (cC b s.1).2.1 (by rw[← hc.2])
  exact⟨hc.1,c2,c4,c5,c6⟩
 ·rw[bn hc]at h;cases h
theorem tZ{b:List Int}{s:Rs}(hw:Bytes b)(h:(rdT b s).2.2=true):s.2=true∧s.1<(rdT b s).2.1∧b.take (rdT b s).2.1.toNat=b.take s.1.toNat++dI (rdT b s).1:=by
 unfold rdT at h ⊢
 by_cases hc:s.2=true∧(dX b s.1).2.2=true
 ·rw[bm hc]
  obtain⟨c1,c2,c3,c4,c5⟩:=vJ b hw s.1 (dX b s.1).2.1 (dX b s.1).1 (by rw[← hc.2])
  exact⟨hc.1,c2,c4⟩
 ·rw[bn hc]at h;cases h
theorem IG{b:List Int}{s:Rs}:0≤(rdN b s).1∧(rdN b s).1≤4611686018427387903:=by
 have:=gp b s.1
 unfold rdN;split
 ·exact⟨this.1,this.2.1⟩
 ·exact⟨Int.le_refl _,by show(0:Int)≤_;omega⟩
theorem IH{b:List Int}{s:Rs}(h:(rdN b s).2.2=false):(rdN b s).1=0:=by
 unfold rdN at h ⊢
 by_cases hc:s.2=true∧(cC b s.1).2.2=true
 ·rw[bm hc]at h;cases h
 ·rw[bn hc]
theorem tY{b:List Int}{s:Rs}(h:s.2=false):rdN b s=(0,s.1,false):=by unfold rdN;rw[bn (by rw[h];simp)]
theorem kY{b:List Int}{s:Rs}(h:s.2=false):rdT b s=([],s.1,false):=by unfold rdT;rw[bn (by rw[h];simp)]
theorem II{b:List Int}{s:Rs}(hw:Bytes b):(rdT b s).1.length≤b.length:=by
 unfold rdT;split
 ·rename_i h
  exact(vJ b hw s.1 (dX b s.1).2.1 (dX b s.1).1 (by rw[← h.2])).2.2.2.2
 ·exact Nat.zero_le _
theorem ip{b:List Int}{s:Rs}(hb:b.length≤1048576)(hw:Bytes b)(hs:Pos b s):fY ⟨b,s.1,s.2⟩=some ((rdN b s).1,⟨b,(rdN b s).2.1,(rdN b s).2.2⟩,()):=by
 unfold Pos at hs
 rw[KT,uD b hb hw s.1 (by omega),aa]
 unfold rdN tr3
 obtain⟨p,ok⟩:=s
 cases h1:(cC b p).2.2 <;> cases ok <;> simp
theorem vg{b:List Int}{s:Rs}(hb:b.length≤1048576)(hw:Bytes b)(hs:Pos b s):lx ⟨b,s.1,s.2⟩=some ((rdT b s).1,⟨b,(rdT b s).2.1,(rdT b s).2.2⟩,()):=by
 unfold Pos at hs
 rw[KU,JG b hb hw s.1 (by omega),aa]
 unfold rdT trT
 obtain⟨p,ok⟩:=s
 cases h1:(dX b p).2.2 <;> cases ok <;> simp
theorem fF{b:List Int}{s:Rs}(hb:b.length≤1048576)(hw:Bytes b):fG ⟨b,s.1,!s.2⟩ 4611686018427387903=some ((rdN b s).1,⟨b,(rdN b s).2.1,!(rdN b s).2.2⟩,()):=by
 have hbd:=(gp b s.1).2.1
 rw[xO,jA b hb hw s.1,aa]
 unfold rdN tr3
 obtain⟨p,ok⟩:=s
 dsimp only at hbd ⊢
 have hn:¬ (cC b p).1>4611686018427387903:=by omega
 cases h1:(cC b p).2.2 <;> cases ok <;> simp[hn]
theorem xM{b:List Int}{s:Rs}(hb:b.length≤1048576)(hw:Bytes b):fG ⟨b,s.1,!s.2⟩ 40=(if(rdN b s).2.2=true∧40<(rdN b s).1 then some (0,⟨b,s.1,true⟩,())else some ((rdN b s).1,⟨b,(rdN b s).2.1,!(rdN b s).2.2⟩,())):=by
 rw[xO,jA b hb hw s.1,aa]
 unfold rdN tr3
 obtain⟨p,ok⟩:=s
 dsimp only
 by_cases hn:(cC b p).1>40
 ·have hn':40<(cC b p).1:=hn
  cases h1:(cC b p).2.2 <;> cases ok <;> simp[hn']
 ·have hn':¬ 40<(cC b p).1:=hn
  cases h1:(cC b p).2.2 <;> cases ok <;> simp[hn']
theorem xR{b:List Int}{s:Rs}(hb:b.length≤1048576)(hw:Bytes b):qf ⟨b,s.1,!s.2⟩=some ((rdT b s).1,⟨b,(rdT b s).2.1,!(rdT b s).2.2⟩,()):=by
 rw[DF,Dk b hb hw s.1,aa]
 unfold rdT trT
 obtain⟨p,ok⟩:=s
 cases h1:(dX b p).2.2 <;> cases ok <;> simp
def rdE(b:List Int)(s:Rs):bq×Rs :=
 (⟨(rdN b s).1,⟨w64 ((rdN b (rdN b s).2).1-1),(rdN b (rdN b (rdN b s).2).2).1,(rdT b (rdN b (rdN b (rdN b s).2).2).2).1⟩⟩,(rdT b (rdN b (rdN b (rdN b s).2).2).2).2)
theorem yV{b:List Int}{s:Rs}(hw:Bytes b)(hs:Pos b s):Pos b (rdE b s).2:=y6 hw (fI (fI (fI hs)))
theorem yW{b:List Int}{s:Rs}(hw:Bytes b)(h:(rdE b s).2.2=true):s.2=true∧s.1<(rdE b s).2.1∧b.take (rdE b s).2.1.toNat=fB (b.take s.1.toNat) (rdE b s).1:=by
 obtain⟨a1,a2,a3⟩:=tZ hw h
 obtain⟨b1,b2,b3,b4,b5⟩:=ij hw a1
 obtain⟨c1,c2,c3,c4,c5⟩:=ij hw b1
 obtain⟨d1,d2,d3,d4,d5⟩:=ij hw c1
 refine⟨d1,by show s.1<(rdT b (rdN b (rdN b (rdN b s).2).2).2).2.1;omega,?_⟩
 show b.take (rdT b (rdN b (rdN b (rdN b s).2).2).2).2.1.toNat=_
 rw[a3,b3,c3,d3]
 unfold fB rdE
 dsimp only
 rw[show w64 (w64 ((rdN b (rdN b s).2).1-1)+1)=(rdN b (rdN b s).2).1 by rw[ar (n:=(rdN b (rdN b s).2).1-1),ar];omega]
theorem yU{b:List Int}{s:Rs}(h:s.2=false):(rdE b s).2.2=false:=by
 unfold rdE
 have e1:(rdN b s).2.2=false:=by rw[tY h]
 have e2:(rdN b (rdN b s).2).2.2=false:=by rw[tY e1]
 have e3:(rdN b (rdN b (rdN b s).2).2).2.2=false:=by rw[tY e2]
 rw[kY e3]
def rdL(b:List Int):Nat→Rs→List bq→List bq×Rs
 | 0,s,acc=>(acc,s)
 | j+1,s,acc=>rdL b j (rdE b s).2 (acc++[(rdE b s).1])
def rdS(b:List Int):Nat→Rs→List bq→List bq×Rs
 | 0,s,acc=>(acc,s)
 | j+1,s,acc=>if s.2=true then rdS b j (rdE b s).2 (acc++[(rdE b s).1]) else(acc,s)
theorem yX(b:List Int):∀ (j:Nat) (s:Rs) (acc:List bq),s.2=false→(rdL b j s acc).2.2=false
 | 0,s,acc,h=>h
 | j+1,s,acc,h=>yX b j _ _ (yU h)
theorem yY(b:List Int):∀ (j:Nat) (s:Rs) (acc:List bq),(rdL b j s acc).2.2=(rdS b j s acc).2.2∧((rdS b j s acc).2.2=true→rdL b j s acc=rdS b j s acc)
 | 0,s,acc=>⟨rfl,fun _=>rfl⟩
 | j+1,s,acc=>by
  unfold rdL rdS
  by_cases h:s.2=true
  ·rw[bm h];exact yY b j _ _
  ·rw[bn h]
   have h':s.2=false:=by simpa using h
   exact⟨by rw[yX b j _ _ (yU h')];exact h'.symm,fun h2=>absurd h2 h⟩
theorem yZ{b:List Int}(hb:b.length≤1048576)(hw:Bytes b):∀ (j:Nat) (s:Rs) (acc:List bq),Pos b s→gN acc →
  Pos b (rdS b j s acc).2∧gN (rdS b j s acc).1∧((rdS b j s acc).2.2=true→∃ new,(rdS b j s acc).1=acc++new∧new.length=j∧s.2=true∧b.take (rdS b j s acc).2.1.toNat=eY new (b.take s.1.toNat)∧s.1+j≤(rdS b j s acc).2.1)
 | 0,s,acc,hs,ha=>⟨hs,ha,fun h=>⟨[],by simp[rdS],rfl,h,rfl,by show s.1+0≤s.1;omega⟩⟩
 | j+1,s,acc,hs,ha=>by
  unfold rdS
  by_cases h:s.2=true
  ·rw[bm h]
   have hl:gN (acc++[(rdE b s).1]):=by
    intro e he
    rcases aB.1 he with he | he
    ·exact ha e he
    ·rw[aK.1 he]
     have:=II (b:=b) (s:=(rdN b (rdN b (rdN b s).2).2).2) hw
     show(rdT b (rdN b (rdN b (rdN b s).2).2).2).1.length≤_
     omega
   obtain⟨k1,k2,k3⟩:=yZ hb hw j (rdE b s).2 (acc++[(rdE b s).1]) (yV hw hs) hl
   refine⟨k1,k2,fun h2=>?_⟩
   obtain⟨new,e1,e2,e3,e4,e5⟩:=k3 h2
   obtain⟨f1,f2,f3⟩:=yW hw e3
   refine⟨(rdE b s).1::new,by rw[e1,ah];rfl,by simp[e2],h,by rw[e4,f3];rfl,by omega⟩
  ·rw[bn h]
   exact⟨hs,ha,fun h2=>absurd h2 h⟩
def cJ(r:bB)(b:List Int)(x:List bq×Rs):bB×Rs:=(⟨r.Kind,r.Term,r.Vote,r.Prev,x.1,(rdT b x.2).1⟩,(rdT b x.2).2)
theorem LA{b:List Int}(hb:b.length≤1048576)(hw:Bytes b)(n:Int)(hn:n≤4611686018427387904)(z:bB):∀ (j:Nat) (i:Nat) (s:Rs) (r:bB),(i:Int)+j=n→Pos b s→(s.2=true→(r.List.length:Int)≤s.1) →
  rx n i ⟨b,s.1,s.2⟩ z r=some ((cJ r b (rdS b j s r.List)).1,⟨b,(cJ r b (rdS b j s r.List)).2.1,(cJ r b (rdS b j s r.List)).2.2⟩,()):=by
 intro j
 induction j with
 | zero =>
  intro i s r hi hs hl
  rw[z8,aq,vg hb hw hs];rfl
 | succ j ih =>
  intro i s r hi hs hl
  rw[z8,ap]
  unfold rdS
  by_cases h:s.2=true
  ·have hl':=hl h
   have hp:=hs.2
   have c1:r.List.length+1≤room:=by rw[b6];omega
   have p1:=fI hs
   have p2:=fI p1
   have p3:=fI p2
   rw[bm h,bm h,ip hb hw hs,aa]
   dsimp only
   rw[ip hb hw p1,aa]
   dsimp only
   rw[ip hb hw p2,aa]
   dsimp only
   rw[vg hb hw p3,aa]
   dsimp only
   rw[bm c1,ar (n:=(i:Int)+1)]
   have:=ih (i+1) (rdE b s).2 ⟨r.Kind,r.Term,r.Vote,r.Prev,r.List++[(rdE b s).1],r.Snap⟩ (by omega) (yV hw hs) (fun h2=>by
    have:=(yW hw h2).2.1
    show((r.List++[(rdE b s).1]).length:Int)≤_
    rw[ag,bj];omega)
   rw[show((i+1:Nat):Int)=(i:Int)+1 by omega]at this
   exact this
  ·rw[bn h,bn h,vg hb hw hs];rfl
theorem xN{b:List Int}(hb:b.length≤1048576)(hw:Bytes b)(n:Int)(hn:n≤40)(z:bB):∀ (j:Nat) (i:Nat) (s:Rs) (r:bB),(i:Int)+j=n→r.List.length≤i →
  qe n i ⟨b,s.1,!s.2⟩ z r=some ((cJ r b (rdL b j s r.List)).1,⟨b,(cJ r b (rdL b j s r.List)).2.1,!(cJ r b (rdL b j s r.List)).2.2⟩,()):=by
 intro j
 induction j with
 | zero =>
  intro i s r hi hl
  rw[xP,aq,xR hb hw];rfl
 | succ j ih =>
  intro i s r hi hl
  rw[xP,ap]
  unfold rdL
  have c1:r.List.length+1≤room:=by rw[b6];omega
  rw[fF hb hw,aa]
  dsimp only
  rw[fF hb hw,aa]
  dsimp only
  rw[fF hb hw,aa]
  dsimp only
  rw[xR hb hw,aa]
  dsimp only
  rw[bm c1,ar (n:=(i:Int)+1)]
  have:=ih (i+1) (rdE b s).2 ⟨r.Kind,r.Term,r.Vote,r.Prev,r.List++[(rdE b s).1],r.Snap⟩ (by omega) (by
   show(r.List++[(rdE b s).1]).length≤_
   rw[ag,bj];omega)
  rw[show((i+1:Nat):Int)=(i:Int)+1 by omega]at this
  exact this
theorem za(b:List Int)(hb:b.length≤1048576)(hw:Bytes b):∃ (r:bB) (s:Rs),rv ⟨b,0,true⟩=some (r,⟨b,s.1,s.2⟩,())∧gN r.List∧∃ (r2:bB) (s2:Rs),kI ⟨b,0,false⟩=some (r2,⟨b,s2.1,!s2.2⟩,()) ∧
  (s2.2=true↔s.2=true∧r.List.length≤40)∧(s2.2=true→r2=r∧s2=s)∧(s.2=true→b.take s.1.toNat=dP r∧0≤s.1∧s.1≤(b.length:Int)∧r.List.length≤1048576):=by
 have p0:Pos b ((0:Int),true):=⟨Int.le_refl _,by show(0:Int)≤b.length;omega⟩
 generalize hs0:(((0:Int),true):Rs)=s0 at p0
 have p1:=fI p0
 have p2:=fI p1
 have p3:=fI p2
 have p4:=fI p3
 have p5:=fI p4
 generalize hh:bB.mk (rdN b s0).1 (rdN b (rdN b s0).2).1 (w64 ((rdN b (rdN b (rdN b s0).2).2).1-1)) (rdN b (rdN b (rdN b (rdN b s0).2).2).2).1 [] []=hd
 generalize hf:rdN b (rdN b (rdN b (rdN b (rdN b s0).2).2).2).2=f at p5
 have hfb:0≤f.1∧f.1≤4611686018427387903:=by rw[← hf];exact IG
 have hl0:hd.List=[]:=by rw[← hh]
 have hS:rv ⟨b,0,true⟩=some ((cJ hd b (rdS b f.1.toNat f.2 hd.List)).1,⟨b,(cJ hd b (rdS b f.1.toNat f.2 hd.List)).2.1,(cJ hd b (rdS b f.1.toNat f.2 hd.List)).2.2⟩,()):=by
  have e0:bL.mk b 0 true=⟨b,s0.1,s0.2⟩:=by rw[← hs0]
  rw[e0,K3,ip hb hw p0,aa]
  dsimp only
  rw[ip hb hw p1,aa]
  dsimp only
  rw[ip hb hw p2,aa]
  dsimp only
  rw[ip hb hw p3,aa]
  dsimp only
  rw[ip hb hw p4,aa]
  dsimp only
  rw[hf,hh]
  exact LA hb hw f.1 (by omega) _ f.1.toNat 0 f.2 hd (by omega) p5 (fun _=>by rw[hl0];exact p5.1)
 obtain⟨k1,k2,k3⟩:=yZ hb hw f.1.toNat f.2 hd.List p5 (by rw[hl0];intro e he;cases he)
 generalize hX:rdS b f.1.toNat f.2 hd.List=X at hS k1 k2 k3
 refine⟨_,(cJ hd b X).2,hS,k2,?_⟩
 have hok:(cJ hd b X).2.2=true→X.2.2=true:=fun h=>(tZ hw h).1
 have hlen:(cJ hd b X).2.2=true→X.1.length=f.1.toNat:=fun h=>by
  obtain⟨new,n1,n2,_⟩:=k3 (hok h)
  rw[n1,hl0,bg,n2]
 have hbody:(cJ hd b X).2.2=true→b.take (cJ hd b X).2.1.toNat=dP (cJ hd b X).1∧0≤(cJ hd b X).2.1∧(cJ hd b X).2.1≤(b.length:Int)∧(cJ hd b X).1.List.length≤1048576:=fun h=>by
  obtain⟨t1,t2,t3⟩:=tZ hw h
  obtain⟨new,n1,n2,n3,n4,n5⟩:=k3 t1
  have hp:=y6 hw k1
  have q5:(rdN b (rdN b (rdN b (rdN b (rdN b s0).2).2).2).2).2.2=true:=by rw[hf];exact n3
  obtain⟨a1,a2,a3,a4,a5⟩:=ij hw q5
  obtain⟨b1,b2,b3,b4,b5⟩:=ij hw a1
  obtain⟨c1,c2,c3,c4,c5⟩:=ij hw b1
  obtain⟨d1,d2,d3,d4,d5⟩:=ij hw c1
  obtain⟨e1,e2,e3,e4,e5⟩:=ij hw d1
  have hX1:X.1=new:=by rw[n1,hl0,bg]
  refine⟨?_,hp.1,hp.2,?_⟩
  ·show b.take (rdT b X.2).2.1.toNat=eY X.1 (fJ (cJ hd b X).1)++dI (rdT b X.2).1
   rw[t3,n4,hX1]
   congr 2
   rw[hf]at a3
   rw[a3,b3,c3,d3,e3]
   unfold fJ cJ
   rw[← hh,← hs0]
   dsimp only
   rw[hX1,n2,hs0]
   rw[show w64 (w64 ((rdN b (rdN b (rdN b s0).2).2).1-1)+1)=(rdN b (rdN b (rdN b s0).2).2).1 by rw[bX (n:=(rdN b (rdN b (rdN b s0).2).2).1-1) (by omega) (by omega),ar];omega,show((f.1.toNat:Nat):Int)=f.1 by omega]
   rfl
  ·show X.1.length≤_
   rw[hX1,n2]
   have:=k1.2
   have:=p5.1
   omega
 have e0:bH.mk b 0 false=⟨b,s0.1,!s0.2⟩:=by rw[← hs0];rfl
 by_cases hc:f.2.2=true∧40<f.1
 ·have hI:kI ⟨b,0,false⟩=some ((cJ hd b ([],((rdN b (rdN b (rdN b (rdN b s0).2).2).2).2.1,false))).1,⟨b,(cJ hd b ([],((rdN b (rdN b (rdN b (rdN b s0).2).2).2).2.1,false))).2.1,!(cJ hd b ([],((rdN b (rdN b (rdN b (rdN b s0).2).2).2).2.1,false))).2.2⟩,()):=by
   rw[e0,xQ,fF hb hw,aa]
   dsimp only
   rw[fF hb hw,aa]
   dsimp only
   rw[fF hb hw,aa]
   dsimp only
   rw[fF hb hw,aa]
   dsimp only
   rw[xM hb hw,hf,bm hc,aa]
   dsimp only
   rw[hh]
   have:=xN hb hw 0 (by omega) pf 0 0 ((rdN b (rdN b (rdN b (rdN b s0).2).2).2).2.1,false) hd (by omega) (by rw[hl0];exact aH _)
   rw[hl0]at this
   exact this
  refine⟨_,_,hI,?_,fun h=>?_,hbody⟩
  ·have hn:(cJ hd b ([],((rdN b (rdN b (rdN b (rdN b s0).2).2).2).2.1,false))).2.2=false:=by unfold cJ;rw[kY rfl]
   rw[hn]
   constructor
   ·intro h;cases h
   ·rintro ⟨h1,h2⟩
    have:=hlen h1
    have h2':X.1.length≤40:=h2
    omega
  ·have hn:(cJ hd b ([],((rdN b (rdN b (rdN b (rdN b s0).2).2).2).2.1,false))).2.2=false:=by unfold cJ;rw[kY rfl]
   rw[hn]at h;cases h
 ·have hf40:f.1≤40:=by
   by_cases h:f.2.2=true
   ·have:¬ 40<f.1:=fun h2=>hc ⟨h,h2⟩
    omega
   ·have:f.1=0:=by rw[← hf]at h ⊢;exact IH (by simpa using h)
    omega
  have hI:kI ⟨b,0,false⟩=some ((cJ hd b (rdL b f.1.toNat f.2 [])).1,⟨b,(cJ hd b (rdL b f.1.toNat f.2 [])).2.1,!(cJ hd b (rdL b f.1.toNat f.2 [])).2.2⟩,()):=by
   rw[e0,xQ,fF hb hw,aa]
   dsimp only
   rw[fF hb hw,aa]
   dsimp only
   rw[fF hb hw,aa]
   dsimp only
   rw[fF hb hw,aa]
   dsimp only
   rw[xM hb hw,hf,bn hc,aa]
   dsimp only
   rw[hh]
   have:=xN hb hw f.1 hf40 pf f.1.toNat 0 f.2 hd (by omega) (by rw[hl0];exact aH _)
   rw[hl0]at this
   exact this
  have hrel:=yY b f.1.toNat f.2 []
  rw[hl0]at hX
  rw[hX]at hrel
  refine⟨_,_,hI,?_,fun h=>?_,hbody⟩
  ·by_cases hx:X.2.2=true
   ·rw[hrel.2 hx]
    constructor
    ·intro h
     have:=hlen h
     exact⟨h,by show X.1.length≤40;omega⟩
    ·exact fun h=>h.1
   ·have hx':X.2.2=false:=by simpa using hx
    have h1:(cJ hd b (rdL b f.1.toNat f.2 [])).2.2=false:=by unfold cJ;rw[kY (by rw[hrel.1];exact hx')]
    rw[h1]
    constructor
    ·intro h;cases h
    ·intro h;exact absurd (hok h.1) hx
  ·by_cases hx:X.2.2=true
   ·rw[hrel.2 hx];exact⟨rfl,rfl⟩
   ·have hx':X.2.2=false:=by simpa using hx
    have h1:(cJ hd b (rdL b f.1.toNat f.2 [])).2.2=false:=by unfold cJ;rw[kY (by rw[hrel.1];exact hx')]
    rw[h1]at h;cases h
theorem sS(a b:List Int)(ha:a.length≤4294967296):vP a b=some (decide (a=b),()):=by
 rw[Md]
 by_cases hl:(a.length:Int)=b.length
 ·rw[bn (by simp[hl])]
  have key:∀ (d i:Nat),i+d=a.length→rW a b (a.length:Int) i=some (decide (a.drop i=b.drop i),()):=by
   intro d
   induction d with
   | zero =>
    intro i hd
    rw[A8,aq,aX (by omega),aX (by omega)];simp
   | succ d ih =>
    intro i hd
    have hi:i<a.length:=by omega
    have hi2:i<b.length:=by omega
    rw[A8,ap,al,al,df hi,df hi2,cM hi (by omega),ih (i+1) (by omega),ai hi,ai hi2]
    simp only[List.cons.injEq]
    by_cases h:a[i]=b[i]
    ·simp only[h,decide_true,Bool.not_true,Bool.false_eq_true,if_false,true_and]
    ·simp only[h,decide_false,Bool.not_false,if_true,false_and]
  have:=key a.length 0 (by omega)
  simpa using this
 ·rw[bm (by simpa using hl),ae (fun h=>hl (by rw[h]))]
theorem K4(b:List Int)(hb:b.length≤4294967296):ry b=some (gG b,()):=by
 rw[z9,zN b hb];rfl
theorem y9(b:List Int)(hb:b.length≤1048576)(hw:Bytes b)(p:Int)(hp:-9223372036854775808≤p∧p≤9223372036854775807) :
  ∃ r q ok,uI b p=some (r,q,ok,())∧gt b p=some (r,q,ok,())∧r.List.length≤1048576∧(ok=true→0≤p∧p<q∧q≤(b.length:Int)∧r.List.length≤40):=by
 rw[JU,qa,uD b hb hw p hp,jA b hb hw p]
 simp only[aa,tr3]
 have hbd:=gp b p
 cases hg:cC b p with | mk n mo =>
 obtain⟨m,ok0⟩:=mo
 rw[hg]at hbd
 dsimp only at hbd ⊢
 obtain⟨h1,h2,h3,h4⟩:=hbd
 cases ok0 with
 | false=>exact⟨_,_,_,rfl,rfl,Nat.zero_le _,fun h=>by cases h⟩
 | true =>
  obtain⟨g1,g2,g3,g4,g5,g6⟩:=kS b hw p n m hg
  simp only[Bool.not_true,Bool.false_eq_true,if_false,ab]
  rw[ar (n:=(b.length:Int)-m),ar (n:=(b.length:Int)-m-4)]
  by_cases hn:n>(b.length:Int)-m-4
  ·simp only[bm hn];exact⟨_,_,_,rfl,rfl,Nat.zero_le _,fun h=>by cases h⟩
  ·have e1:w64 (m+n)=m+n:=ar
   have e2:w64 (m+n+4)=m+n+4:=ar
   have c1:0≤m∧m≤m+n∧m+n≤(b.length:Int):=by omega
   have c2:0≤m+n∧m+n≤m+n+4∧m+n+4≤(b.length:Int):=by omega
   have c3:0≤p∧p≤m+n+4∧m+n+4≤(b.length:Int):=by omega
   simp only[bn hn,e1,e2,bm c1,bm c2,bm c3]
   generalize hB:List.take ((m+n).toNat-m.toNat) (List.drop m.toNat b)=B
   generalize hT:List.take ((m+n+4).toNat-(m+n).toNat) (List.drop (m+n).toNat b)=T
   have hBl:(B.length:Int)=n:=by rw[← hB,aQ,aR];omega
   have hTl:T.length=4:=by rw[← hT,aQ,aR];omega
   have hBw:Bytes B:=fun x hx=>hw x (by rw[← hB]at hx;exact List.mem_of_mem_drop (List.mem_of_mem_take hx))
   have hU:List.take ((m+n+4).toNat-p.toNat) (List.drop p.toNat b)=(bW n++B)++T:=by
    rw[← List.drop_take,show(m+n+4).toNat=(m+n).toNat+((m+n+4).toNat-(m+n).toNat) by omega,List.take_add,hT,show(m+n).toNat=m.toNat+((m+n).toNat-m.toNat) by omega,List.take_add,hB,g4,
     ah,ah,List.drop_left' (by rw[aQ];omega),ah]
   rw[hU]
   obtain⟨r,s,q1,q2,r2,s2,q3,q4,q5,q6⟩:=za B (by omega) hBw
   rw[K4 B (by omega),q1,q3]
   simp only[aa]
   by_cases hs2:s2.2=true
   ·obtain⟨rfl,rfl⟩:=q5 hs2
    obtain⟨k1,k2,k3,k4⟩:=q6 hs2
    rw[p9 r2 (by omega),uJ r2 (by omega) q2]
    simp only[hs2,Bool.not_true,Bool.false_eq_true,if_false,aa]
    by_cases hat:s2.1=n
    ·have hbody:dP r2=B:=by rw[← k1,hat,a9 (by omega)]
     have hat2:s2.1=(B.length:Int):=by omega
     rw[sS _ _ (by have:=qy r2;omega)]
     simp only[ac hat,ac hat2,Bool.not_true,Bool.false_eq_true,if_false,aa]
     cases hr:eO r2 with
     | false =>
      have hne:¬ dQ r2=(bW n++B)++T:=by
       unfold dQ;rw[hr];simp only[Bool.false_eq_true,if_false]
       intro h
       have:=congrArg List.length h
       simp only[ag,List.length_nil,hTl]at this
       omega
      simp only[ae hne,Bool.not_false,if_true]
      by_cases hsum:gG B=T
      ·simp only[ac hsum,Bool.not_true,Bool.false_eq_true,if_false]
       exact⟨_,_,_,rfl,rfl,Nat.zero_le _,fun h=>by cases h⟩
      ·simp only[ae hsum,Bool.not_false,if_true]
       exact⟨_,_,_,rfl,rfl,Nat.zero_le _,fun h=>by cases h⟩
     | true =>
      have he:dQ r2=(bW n++B)++gG B:=by
       unfold dQ;rw[hr,bm rfl,hbody,hBl]
      by_cases hsum:gG B=T
      ·have h2:dQ r2=(bW n++B)++T:=by rw[he,hsum]
       simp only[ac hsum,ac h2,Bool.not_true,Bool.false_eq_true,if_false]
       exact⟨_,_,_,rfl,rfl,k4,fun _=>⟨g1,by omega,by omega,(kZ hr).1⟩⟩
      ·have h2:¬ dQ r2=(bW n++B)++T:=by
        rw[he];intro h;exact hsum (List.append_cancel_left h)
       simp only[ae hsum,ae h2,Bool.not_false,if_true]
       exact⟨_,_,_,rfl,rfl,Nat.zero_le _,fun h=>by cases h⟩
    ·have hat2:¬ s2.1=(B.length:Int):=by omega
     simp only[ae hat,ae hat2,Bool.not_false,if_true]
     by_cases hsum:gG B=T
     ·simp only[ac hsum,Bool.not_true,Bool.false_eq_true,if_false]
      exact⟨_,_,_,rfl,rfl,Nat.zero_le _,fun h=>by cases h⟩
     ·simp only[ae hsum,Bool.not_false,if_true]
      exact⟨_,_,_,rfl,rfl,Nat.zero_le _,fun h=>by cases h⟩
   ·have hs2':s2.2=false:=by simpa using hs2
    simp only[hs2',Bool.not_false,if_true]
    by_cases hsum:gG B=T
    ·simp only[ac hsum,Bool.not_true,Bool.false_eq_true,if_false]
     by_cases hs:s.2=true
     ·obtain⟨k1,k2,k3,k4⟩:=q6 hs
      have hlong:¬ r.List.length≤40:=fun h=>hs2 (q4.2 ⟨hs,h⟩)
      have hr:eO r=false:=by
       cases h:eO r with
       | false=>rfl
       | true=>exact absurd (kZ h).1 hlong
      rw[uJ r (by omega) q2,hr]
      simp only[hs,Bool.not_true,Bool.false_eq_true,if_false,aa,Bool.not_false,if_true]
      by_cases hat:s.1=(B.length:Int)
      ·simp only[ac hat,Bool.not_true,Bool.false_eq_true,if_false]
       exact⟨_,_,_,rfl,rfl,Nat.zero_le _,fun h=>by cases h⟩
      ·simp only[ae hat,Bool.not_false,if_true]
       exact⟨_,_,_,rfl,rfl,Nat.zero_le _,fun h=>by cases h⟩
     ·have hs':s.2=false:=by simpa using hs
      simp only[hs',Bool.not_false,if_true]
      exact⟨_,_,_,rfl,rfl,Nat.zero_le _,fun h=>by cases h⟩
    ·simp only[ae hsum,Bool.not_false,if_true]
     exact⟨_,_,_,rfl,rfl,Nat.zero_le _,fun h=>by cases h⟩
theorem C7{b b':List Int}(hw:Bytes b){p v q:Int}(h:cC b p=(v,q,true))(hl:q≤(b'.length:Int))(he:b'.take q.toNat=b.take q.toNat):cC b' p=(v,q,true):=by
 obtain⟨h0,h1,h2,h3,h4,h5⟩:=kS b hw p v q h
 have e:bW v=cV 8 v:=by unfold bW;rw[bm ⟨h4,h5⟩]
 have ht:b'.take p.toNat=b.take p.toNat:=by
  have:=congrArg (List.take p.toNat) he
  rw[List.take_take,List.take_take,Nat.min_eq_left (by omega)]at this
  exact this
 have hd:b'.drop p.toNat=cV 8 v++b'.drop q.toNat:=by
  have e1:(b'.take q.toNat).drop p.toNat=cV 8 v:=by
   rw[he,h3,e,List.drop_left' (by rw[aQ];omega)]
  have e2:b'=b'.take q.toNat++b'.drop q.toNat:=(List.take_append_drop _ _).symm
  have e3:b'.drop p.toNat=(b'.take q.toNat++b'.drop q.toNat).drop p.toNat:=congrArg (List.drop p.toNat) e2
  rw[e3,List.drop_append_of_le_length (by rw[aQ];omega),e1]
 have hln:((cV 8 v).length:Int)=q-p:=by
  have:=congrArg List.length h3
  rw[e,ag,aQ,aQ]at this
  omega
 unfold cC
 rw[bm ⟨h0,by omega⟩]
 have:=C8 b' p h0 8 0 0 v (b'.drop q.toNat) (by omega) (by simpa using hd) h4 (by omega) (by omega) (by simp) (fun h=>by omega) (by simpa using h5)
 have this':du b' p 9 0 0=_:=this
 rw[this',hln]
 simp only[Int.zero_add,Int.pow_zero,Int.mul_one,Prod.mk.injEq,and_true,true_and]
 omega
def kd(b:List Int)(p:Int)(r:bB)(q:Int):Prop:=gt b p=some (r,q,true,())
theorem Au{b b':List Int}{N:Nat}(he:b'.take N=b.take N)(i j:Nat)(hj:j≤N):List.take (j-i) (List.drop i b')=List.take (j-i) (List.drop i b):=by
 rw[← List.drop_take,← List.drop_take]
 have:=congrArg (List.take j) he
 rw[List.take_take,List.take_take,Nat.min_eq_left hj]at this
 rw[this]
theorem DT{b:List Int}(hb:b.length≤1048576)(hw:Bytes b){p:Int}(hp:-9223372036854775808≤p∧p≤9223372036854775807){r:bB}{q:Int}(h:kd b p r q) :
  (0≤p∧p<q∧q≤(b.length:Int)∧r.List.length≤40)∧List.take (q.toNat-p.toNat) (List.drop p.toNat b)=dQ r∧∀ b':List Int,b'.length≤1048576→Bytes b'→q≤(b'.length:Int)→b'.take q.toNat=b.take q.toNat→kd b' p r q:=by
 obtain⟨r0,q0,ok,_,e2,_,e4⟩:=y9 b hb hw p hp
 have h':gt b p=some (r,q,true,()):=h
 rw[h']at e2
 have e3:=aO e2
 simp only[Prod.mk.injEq]at e3
 obtain⟨rfl,rfl,rfl,_⟩:=e3
 have hs:=e4 rfl
 refine⟨hs,?_⟩
 have hbd:=gp b p
 cases hg:cC b p with | mk n mo =>
 obtain⟨m,ok0⟩:=mo
 have eg:iS b p=some (n,m,ok0,()):=by rw[jA b hb hw p,hg];rfl
 rw[qa,eg,aa]at h'
 rw[hg]at hbd
 dsimp only at h' hbd
 cases ok0 with
 | false=>rw[bm (by decide)]at h';simp at h'
 | true =>
  obtain⟨g1,g2,g3,g4,g5,g6⟩:=kS b hw p n m hg
  rw[bn (by decide),ar (n:=(b.length:Int)-m),ar (n:=(b.length:Int)-m-4)]at h'
  by_cases hn:n>(b.length:Int)-m-4
  ·rw[ak hn]at h';simp at h'
  ·have e1:w64 (m+n)=m+n:=ar
   have e2':w64 (m+n+4)=m+n+4:=ar
   rw[aj hn,e1,e2',al]at h'
   have hBl:(List.take ((m+n).toNat-m.toNat) (List.drop m.toNat b)).length≤1048576:=by rw[aQ,aR];omega
   have hBw:Bytes (List.take ((m+n).toNat-m.toNat) (List.drop m.toNat b)):=fun x hx=>hw x (List.mem_of_mem_drop (List.mem_of_mem_take hx))
   obtain⟨r1,s1,q1,q2,r2,s2,q3,q4,q5,q6⟩:=za _ hBl hBw
   have q3':=q3
   rw[q3,aa]at h'
   dsimp only at h'
   by_cases hs2:s2.2=true
   ·obtain⟨rfl,rfl⟩:=q5 hs2
    obtain⟨k1,k2,k3,k4⟩:=q6 hs2
    rw[hs2,bn (by decide)]at h'
    by_cases hat:s2.1=n
    ·rw[bn (by simp[hat]),p9 r2 (by omega),aa,al,sS _ _ (show(dQ r2).length≤_ by have:=qy r2;omega),aa]at h'
     dsimp only at h'
     by_cases heq:dQ r2=List.take ((m+n+4).toNat-p.toNat) (List.drop p.toNat b)
     ·rw[ac heq,bn (by decide)]at h'
      have e3:=aO h'
      simp only[Prod.mk.injEq]at e3
      obtain⟨rfl,rfl,_⟩:=e3
      refine⟨heq.symm,fun b' hb' hw' hl' he=>?_⟩
      have hm:b'.take m.toNat=b.take m.toNat:=by
       have:=congrArg (List.take m.toNat) he
       rw[List.take_take,List.take_take,Nat.min_eq_left (by omega)]at this
       exact this
      show gt b' p=_
      have eg':iS b' p=some (n,m,true,()):=by rw[jA b' hb' hw' p,C7 hw hg (by omega) hm];rfl
      rw[qa,eg',aa]
      dsimp only
      rw[bn (by decide),ar (n:=(b'.length:Int)-m),ar (n:=(b'.length:Int)-m-4),aq,e1,e2',al,Au he _ _ (by omega),q3',aa]
      dsimp only
      rw[hs2,bn (by decide),bn (by simp[hat]),p9 r2 (by omega),aa,al,sS _ _ (show(dQ r2).length≤_ by have:=qy r2;omega),aa,Au he _ _ (by omega)]
      dsimp only
      rw[ac heq,bn (by decide)]
     ·rw[ae heq,bm (by decide)]at h';simp at h'
    ·rw[bm (by simp[hat])]at h';simp at h'
   ·have hs2':s2.2=false:=by simpa using hs2
    rw[hs2',bm (by decide)]at h';simp at h'
inductive Row (b:List Int):Int→List bB→Int→Prop
 | nil (p:Int):Row b p [] p
 | cons {p m q:Int} {r:bB} {l:List bB}:kd b p r m→Row b m l q→Row b p (r::l) q
theorem Row.snoc{b:List Int}{p m q:Int}{l:List bB}{r:bB}(h:Row b p l m)(hr:kd b m r q):Row b p (l++[r]) q:=by
 induction h with
 | nil p=>exact .cons hr (.nil _)
 | cons h1 _ ih=>exact .cons h1 (ih hr)
theorem wh{b:List Int}(hl:b.length≤1048576)(hw:Bytes b)(i:Int)(h0:0≤i)(h1:i≤1000):Tot (ql b i) (fun y=>0≤y.1∧y.1≤255):=by
 rw[D7]
 refine ti (fun c=>?_) (fun c=>ts ?_)
 ·rw[ab]at c
  have hi:i.toNat<b.length:=by omega
  have:=hw _ (aW hi)
  refine tc ⟨h0,c⟩ (ts ?_)
  rw[dC hi]
  show 0≤w64 b[i.toNat]∧w64 b[i.toNat]≤255
  rw[ar];exact this
 ·have e1:w64 (i*7)=i*7:=ar
  have e2:w64 (i*7+(b.length:Int))=i*7+b.length:=ar
  show 0≤Int.tmod (w64 (w64 (i*7)+(b.length:Int))) 256∧Int.tmod (w64 (w64 (i*7)+(b.length:Int))) 256≤255
  rw[e1,e2,Int.tmod_eq_emod_of_nonneg (by omega)]
  omega
end Go.Proofs.YtacknlgegbagfaaGreat.E.TN
