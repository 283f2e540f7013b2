/- What the pure statement needs (3). No condition. -/
import Derived.Test.YtacknlgegbagfaaGreatM1
import Derived.Test.YtacknlgegbagfaaGreatTRe1
import Derived.Test.YtacknlgegbagfaaGreatTRe2
import Derived.Test.YtacknlgegbagfaaGreatTRe3
import Derived.Test.YtacknlgegbagfaaGreatM2
import Derived.KernelRfl
namespace Go.Proofs.YtacknlgegbagfaaGreat.E.TR
open Go.Proofs.YtacknlgegbagfaaGreat.E
set_option linter.unusedVariables false
theorem jh(a b c:Int):fP a b c=some (decide (b≤a∧a≤c),()):=by
 rw[Ep]
 by_cases h:a≥b
 ·rw[bm (by simp[h])];simp[show b≤a from h]
 ·rw[bn (by simp[h])];simp[show ¬ b≤a from h]
def isD(x:Int):Bool:=decide (48≤x)&&decide (x≤57)
def AllD(l:List Int):Prop:=∀ x∈l,48≤x∧x≤57
theorem AllD.tail{c:Int}{l:List Int}(h:AllD (c::l)):AllD l:=fun x hx=>h x (aF _ hx)
theorem AllD.head{c:Int}{l:List Int}(h:AllD (c::l)):48≤c∧c≤57:=h c (aE ..)
def dv(a:Int)(l:List Int):Int:=l.foldl (fun n c=>10*n+(c-48)) a
theorem kX(a c:Int)(l:List Int):dv a (c::l)=dv (10*a+(c-48)) l:=rfl
theorem Dq(a:Int)(l m:List Int):dv a (l++m)=dv (dv a l) m:=List.foldl_append ..
theorem qq:∀ (l:List Int) (a:Int),dv a l=a*10 ^ l.length+dv 0 l
 | [],a=>by simp[dv]
 | c::l,a=>by
  rw[kX,kX,qq l (10*a+(c-48)),qq l (10*0+(c-48)),aS,Int.pow_succ,Int.add_mul,Int.mul_zero,Int.zero_add,← Int.add_assoc]
  congr 2
  rw[Int.mul_comm 10 a,Int.mul_assoc,Int.mul_comm 10]
theorem xR:∀ (l:List Int) (a:Int),AllD l→0≤a→0≤dv a l
 | [],a,_,h=>h
 | c::l,a,hd,h=>xR l (10*a+(c-48)) hd.tail (by have:=hd.head;omega)
theorem xQ:∀ (l:List Int),AllD l→dv 0 l<10 ^ l.length
 | [],_=>by simp[dv]
 | c::l,hd=>by
  have h1:=xQ l hd.tail
  have h2:=hd.head
  rw[kX,qq,aS,Int.pow_succ]
  have:(10*0+(c-48))*10 ^ l.length≤9*10 ^ l.length:=Int.mul_le_mul_of_nonneg_right (by omega) (Int.le_of_lt (Int.pow_pos (by omega)))
  omega
def fr:List Int→Int→Int
 | [],_=>0
 | c::l,u=>(c-48)*u+fr l (u/10)
theorem xS:∀ k:Nat,dv 0 (List.replicate k 48)=0
 | 0=>rfl
 | k+1=>by rw[List.replicate_succ,kX];exact xS k
def Bt(b:List Int):Prop:=∀ x∈b,0≤x∧x≤255
theorem uf(x:Int):s_l2Digit x=some (isD x,()):=by
 rw[L7]
 unfold isD
 by_cases h:x≥48
 ·rw[ak h,show decide (48≤x)=true from ac h,Bool.true_and]
 ·rw[aj h,show decide (48≤x)=false from ae h,Bool.false_and]
def fin(p:Int)(b:Bool)(n m:Int):Option (Int×Int×Unit):=if m=0 then some (0,0,())else if n>9000000000000 then some (0,0,())else some (if b=true then 0-n else n,p,())
set_option linter.defProp false
def bj:=@List.length_singleton
def d9(n:Nat):List Int:=(Lib.decDigits n).map fun b=>(b.toNat:Int)
theorem qp{n:Nat}(h:n<10):d9 n=[48+(n:Int)]:=by
 unfold d9
 rw[Lib.decDigits,dif_pos h]
 have:(UInt8.ofNat (48+n)).toNat=48+n:=by rw[UInt8.toNat_ofNat'];omega
 simp only[bc,List.map_nil,this]
 congr 1
theorem tr{n:Nat}(h:¬ n<10):d9 n=d9 (n/10)++[48+((n%10:Nat):Int)]:=by
 unfold d9
 rw[Lib.decDigits,dif_neg h]
 have:(UInt8.ofNat (48+n%10)).toNat=48+n%10:=by rw[UInt8.toNat_ofNat'];omega
 simp only[List.map_append,bc,List.map_nil,this]
 congr 2
theorem AllD.app{l m:List Int}(h:AllD l)(g:AllD m):AllD (l++m):=fun x hx=>(aB.1 hx).elim (h x) (g x)
theorem xO(n:Nat):AllD (d9 n)∧dv 0 (d9 n)=n∧d9 n≠[]∧(0<n→∃ c r,d9 n=c::r∧49≤c):=by
 induction n using Nat.strongRecOn with
 | ind n ih =>
  by_cases h:n<10
  ·rw[qp h]
   refine⟨fun x hx=>?_,?_,by simp,fun h0=>⟨_,_,rfl,by omega⟩⟩
   ·rw[aK.1 hx];omega
   ·simp only[dv,List.foldl_cons,List.foldl_nil];omega
  ·obtain⟨h1,h2,h3,h4⟩:=ih (n/10) (by omega)
   rw[tr h]
   refine⟨h1.app fun x hx=>?_,?_,by simp,fun _=>?_⟩
   ·rw[aK.1 hx];omega
   ·rw[Dq,h2];simp only[dv,List.foldl_cons,List.foldl_nil];omega
   ·obtain⟨c,r,e,hc⟩:=h4 (by omega)
    rw[e]
    exact⟨c,r++_,rfl,hc⟩
theorem tt{n k:Nat}(h:n<10 ^ k)(hk:0<k):(d9 n).length≤k:=by
 induction k generalizing n with
 | zero=>omega
 | succ k ih =>
  by_cases h9:n<10
  ·rw[qp h9];simp
  ·rw[tr h9,ag,bj]
   have hk0:0<k:=by
    rcases Nat.eq_zero_or_pos k with h0 | h0
    ·subst h0;omega
    ·exact h0
   have:=ih (n:=n/10) (by rw[Nat.pow_succ]at h;omega) hk0
   omega
theorem xN{r:Nat}(h:r<1000000):∃ l,d9 (1000000+r)=49::l∧l.length=6∧AllD l∧dv 0 l=r:=by
 obtain⟨h1,h2,h3,h4⟩:=xO (1000000+r)
 obtain⟨c,l,e,hc⟩:=h4 (by omega)
 have hlen:=tt (n:=1000000+r) (k:=7) (by omega) (by omega)
 rw[e]at h1 h2 hlen
 have hl:=xQ l h1.tail
 have hn:=xR l 0 h1.tail (Int.le_refl 0)
 have hc9:=h1.head
 rw[kX,qq]at h2
 simp only[aS]at hlen
 have h6:l.length=6:=by
  by_cases h6:l.length=6
  ·exact h6
  ·exfalso
   have h5:(10:Int) ^ l.length≤10 ^ 5:=by
    have:(10:Nat) ^ l.length≤10 ^ 5:=Nat.pow_le_pow_right (by omega) (by omega)
    exact_mod_cast this
   have:(10*0+(c-48))*10 ^ l.length≤9*10 ^ 5:=Int.mul_le_mul (by omega) h5 (Int.le_of_lt (Int.pow_pos (by omega))) (by omega)
   omega
 rw[h6]at h2 hl
 have hc1:c=49:=by omega
 subst hc1
 exact⟨l,e,h6,h1.tail,by omega⟩
theorem ES(n:Nat):∀ acc:List Int,acc.length+n≤9223372036854775807→sf (n:Int) acc=some ((if n=0 then []else d9 n)++acc,()):=by
 induction n using Nat.strongRecOn with
 | ind n ih =>
  intro acc hb
  rw[L8]
  by_cases h0:n=0
  ·rw[aq,bm h0];rfl
  ·have e1:Int.tdiv (n:Int) 10=((n/10:Nat):Int):=rfl
   have e2:Int.tmod (n:Int) 10=((n%10:Nat):Int):=rfl
   have e3:w8 (w64 (48+((n%10:Nat):Int)))=48+((n%10:Nat):Int):=by rw[ar,wB (by omega) (by omega)]
   rw[ap,e1,e2,e3,bm (by rw[bj];omega),ar,bn h0,ih (n/10) (by omega) _ (by rw[ag,bj];omega)]
   by_cases h9:n<10
   ·rw[al,qp h9,Nat.mod_eq_of_lt h9];rfl
   ·rw[am,tr h9,ah]
theorem yP(n:Nat)(h:n≤9223372036854775807):se (n:Int)=some (d9 n,()):=by
 rw[L9]
 by_cases h0:n=0
 ·subst h0
  rw[ap,qp (by omega)];rfl
 ·rw[aq,ES n [] (by simpa using h),bn h0,aI]
def eH(c:Int)(l:List Int):List Int:=(l.reverse.dropWhile (fun x=>decide (x=c))).reverse
theorem BL(c:Int)(l:List Int):eH c (l++[c])=eH c l:=by
 unfold eH
 rw[List.reverse_append,List.reverse_singleton,List.singleton_append,List.dropWhile_cons_of_pos (by simp)]
theorem BK{c x:Int}(h:x≠c)(l:List Int):eH c (l++[x])=l++[x]:=by
 unfold eH
 rw[List.reverse_append,List.reverse_singleton,List.singleton_append,List.dropWhile_cons_of_neg (by simpa using h),List.reverse_cons,List.reverse_reverse]
theorem wo{l:List Int}{n:Nat}(h:l.length=n+1):l=l.take (l.length-1)++[l[l.length-1]]:=by
 have h1:=List.take_append_drop (l.length-1) l
 have h2:l.drop (l.length-1)=[l[l.length-1]]:=by
  rw[ai (by omega),aX (by omega)]
 rw[h2]at h1
 exact h1.symm
theorem BI(c:Int):∀ (n:Nat) (l:List Int),l.length=n→∃ k,l=eH c l++List.replicate k c∧((∃ x∈l,x≠c)→eH c l≠[])
 | 0,l,h=>by
  have:l=[]:=List.eq_nil_of_length_eq_zero h
  subst this
  exact⟨0,rfl,fun⟨x,hx,_⟩=>by cases hx⟩
 | n+1,l,h=>by
  have hs:=wo h
  generalize hA:l.take (l.length-1)=A at hs
  generalize l[l.length-1]=x at hs
  have hAl:A.length=n:=by rw[← hA,aQ];omega
  subst hs
  by_cases hx:x=c
  ·subst hx
   obtain⟨k,e,g⟩:=BI x n A hAl
   rw[BL]
   refine⟨k+1,?_,fun⟨y,hy,hne⟩=>g ⟨y,?_,hne⟩⟩
   ·rw[List.replicate_succ',← ah,← e]
   ·rcases aB.1 hy with hy | hy
    ·exact hy
    ·exact absurd (aK.1 hy) hne
  ·rw[BK hx]
   exact⟨0,by simp,fun _=>by simp⟩
theorem BJ(c:Int)(l:List Int):(eH c l).length≤l.length:=by
 obtain⟨k,e,_⟩:=BI c l.length l rfl
 have:=congrArg List.length e
 rw[ag]at this
 omega
theorem Bd(t0:Int)(t4:List Int)(h4:t4.length≤1000):∀ (n:Nat) (l:List Int),l.length=n→l.length≤1000→(∃ x∈l,x≠48)→rp t0 t4 l=lQ t0 (t4++[46]++eH 48 l)
 | 0,l,hl,_,⟨x,hx,_⟩=>by
  have:l=[]:=List.eq_nil_of_length_eq_zero hl
  subst this
  cases hx
 | n+1,l,hl,h,hne=>by
  rw[Kg,ar,al,show((l.length:Int)-1).toNat=l.length-1 by omega,dJ (by omega)]
  have hs:=wo hl
  have e:List.take (l.length-1-0) (List.drop 0 l)=l.take (l.length-1):=rfl
  by_cases hx:l[l.length-1]=48
  ·rw[ak hx,al,e]
   rw[hx]at hs
   obtain⟨x,hx1,hx2⟩:=hne
   have hx3:x∈l.take (l.length-1):=by
    rw[hs]at hx1
    rcases aB.1 hx1 with h1 | h1
    ·exact h1
    ·exact absurd (aK.1 h1) hx2
   rw[Bd t0 t4 h4 n _ (by rw[aQ];omega) (by rw[aQ];omega) ⟨x,hx3,hx2⟩]
   have:eH 48 l=eH 48 (l.take (l.length-1)):=by
    generalize l.take (l.length-1)=A at *
    rw[hs];exact BL 48 A
   rw[this]
  ·rw[aj hx,bm (by simp only[bj];omega),bm (by rw[ag];simp only[bj];omega)]
   have:eH 48 l=l:=by
    generalize hA:l.take (l.length-1)=A at hs
    generalize l[l.length-1]=x at hs hx
    rw[hs];exact BK hx _
   rw[this]
def lj(r:Nat):List Int:=if 0<r then 46::eH 48 ((d9 (1000000+r)).drop 1)else []
def kW(n:Nat):List Int:=d9 (n/1000000)++lj (n%1000000)
def ja(n:Int):List Int:=if -9000000000000≤n∧n≤9000000000000 then(if n<0 then [45]else [])++kW n.natAbs else []
theorem DS{r:Nat}(h:r<1000000):(lj r).length≤7:=by
 unfold lj
 obtain⟨l,e,h6,_⟩:=xN h
 split
 ·rw[e,List.drop_one,List.tail_cons,aS]
  have:=BJ 48 l
  omega
 ·simp
theorem Dg{n:Nat}(h:n≤9000000000000):(kW n).length≤14:=by
 unfold kW
 have h1:=tt (n:=n/1000000) (k:=7) (by omega) (by omega)
 have h2:=DS (r:=n%1000000) (by omega)
 rw[ag];omega
theorem Di(n:Int):(ja n).length≤15:=by
 unfold ja
 split
 ·rename_i h
  have:=Dg (n:=n.natAbs) (by omega)
  rw[ag]
  split
  ·simp only[bj];omega
  ·simp only[List.length_nil];omega
 ·simp
theorem As(n:Int)(t:List Int)(h:t.length≤1000):lQ n t=some ((if n<0 then [45]else [])++t,()):=by
 rw[Kh]
 by_cases h0:n<0
 ·rw[ak h0,bm h0,bm (by rw[bj];omega)]
 ·rw[aj h0,bn h0];rfl
theorem Ar(n:Int):s_DecOk n=some (decide (-9000000000000≤n∧n≤9000000000000),()):=by
 rw[Ke,A4]
 by_cases h:n ≥ -9000000000000
 ·rw[ak h]
  simp[show -9000000000000≤n from h]
 ·rw[aj h]
  simp[show ¬ -9000000000000≤n from h]
theorem Kj(n:Int):vh n=some (ja n,()):=by
 rw[Ki,Ar,aa]
 dsimp only
 unfold ja
 by_cases h:-9000000000000≤n∧n≤9000000000000
 ·rw[ac h,bn (by decide),bm h]
  have ea:kv n=some (((n.natAbs:Nat):Int),()):=by
   rw[A3]
   by_cases h0:n<0
   ·rw[ak h0,ar,show(0:Int)-n=((n.natAbs:Nat):Int) by omega]
   ·rw[aj h0,show((n.natAbs:Nat):Int)=n by omega]
  rw[ea,aa]
  dsimp only
  generalize hm:n.natAbs=m
  have e1:Int.tdiv (m:Int) 1000000=((m/1000000:Nat):Int):=rfl
  have e2:Int.tmod (m:Int) 1000000=((m%1000000:Nat):Int):=rfl
  have h1:=tt (n:=m/1000000) (k:=7) (by omega) (by omega)
  rw[e1,e2,ar,yP _ (by omega),aa]
  dsimp only
  unfold kW lj
  by_cases h0:0<m%1000000
  ·have e3:w64 (1000000+((m%1000000:Nat):Int))=((1000000+m%1000000:Nat):Int):=by rw[ar];omega
   obtain⟨l,e,h6,hd,hv⟩:=xN (r:=m%1000000) (by omega)
   have e4:List.take ((49::l).length-1) (List.drop 1 (49::l))=l:=by simp
   have h7:=BJ 48 l
   have hne:∃ x∈l,x≠48:=by
    by_cases hh:∃ x∈l,x≠48
    ·exact hh
    ·exfalso
     have hall:∀ x∈l,x=48:=fun x hx=>by
      by_cases hx48:x=48
      ·exact hx48
      ·exact absurd ⟨x,hx,hx48⟩ hh
     rw[List.eq_replicate_of_mem hall,xS]at hv
     omega
   rw[ap,e3,yP _ (by omega),aa,bm h0]
   dsimp only
   rw[e,e4,bm (by rw[aS];omega),Bd n _ (by omega) _ l rfl (by omega) hne,As _ _ (by simp only[ag,bj];omega),List.drop_one,List.tail_cons,ah (d9 _)]
   rfl
  ·rw[aq,bn h0,aI,As _ _ (by omega)]
 ·rw[ae h,bm (by decide),bn h]
def Cj(v:bG):Prop:=v.S.length≤100000∧Bt v.S
def sv(v:bG):List Int:=if v.Kind=1 then ja v.N else v.S
theorem KM(v:bG):dS v=some (sv v,()):=by
 rw[KL]
 unfold sv
 by_cases h:v.Kind=1
 ·rw[ak h,bm h,Kj];rfl
 ·rw[aj h,bn h]
theorem xh(b:Bool):s_l1Bit b=some (if b=true then 1 else 0,()):=by rw[LX];cases b <;> rfl
end Go.Proofs.YtacknlgegbagfaaGreat.E.TR
namespace Go.Proofs.YtacknlgegbagfaaGreat.E
set_option linter.unusedVariables false
set_option linter.defProp false
def aW:=@List.getElem_mem
def hY(p:Nat→Bool)(n:Nat):Bool:=(List.range n).any p
theorem anyB_iff{p:Nat→Bool}{n:Nat}:hY p n=true ↔ ∃ i,i<n∧p i=true:=by
 unfold hY
 rw[List.any_eq_true]
 constructor
 ·rintro ⟨i,h,e⟩;exact⟨i,List.mem_range.1 h,e⟩
 ·rintro ⟨i,h,e⟩;exact⟨i,List.mem_range.2 h,e⟩
theorem anyB_false{p:Nat→Bool}{n:Nat}:hY p n=false ↔ ∀ i,i<n→p i=false:=by
 rw[← aU,anyB_iff]
 constructor
 ·intro h i hi
  cases e:p i with
  | false=>rfl
  | true=>exact absurd ⟨i,hi,e⟩ h
 ·rintro h ⟨i,hi,e⟩
  rw[h i hi]at e;cases e
theorem DG{ρ:Type}(F:Int→Option ρ)(n:Nat)(p:Nat→Bool)(x y:Option ρ)
  (step:∀ i:Nat,i<n→F i=if p i=true then x else F ((i+1:Nat):Int)) (stop:F (n:Int)=y):F 0=if hY p n=true then x else y:=by
 have key:∀ (d i:Nat),i+d=n→(∀ j,j<i→p j=false)→F (i:Int)=if hY p n=true then x else y:=by
  intro d
  induction d with
  | zero =>
   intro i hd hj
   have hi:i=n:=by omega
   subst hi
   rw[stop,anyB_false.2 hj];rfl
  | succ d ih =>
   intro i hd hj
   rw[step i (by omega)]
   cases e:p i with
   | true=>rw[bm rfl,anyB_iff.2 ⟨i,by omega,e⟩,bm rfl]
   | false =>
    rw[bn (by simp)]
    refine ih (i+1) (by omega) fun j h=>?_
    by_cases h':j=i
    ·subst h';exact e
    ·exact hj j (by omega)
 exact key n 0 (by omega) (fun j h=>absurd h (by omega))
theorem ED{σ:Type}(F:Int→Option (Int×σ))(s:σ)(n:Nat)(p:Nat→Bool)
  (step:∀ i:Nat,i<n→F i=if p i=true then some ((i:Int),s)else F ((i+1:Nat):Int)) (stop:F (n:Int)=some (-1,s)) :
  ∃ k:Int,F 0=some (k,s)∧decide (k≥0)=hY p n∧k<n∧(0≤k→p k.toNat=true∧∀ j:Nat,(j:Int)<k→p j=false)∧(k<0→k = -1):=by
 have key:∀ (d i:Nat),i+d=n→(∀ j,j<i→p j=false)→∃ k:Int,F (i:Int)=some (k,s)∧decide (k≥0)=hY p n∧k<n∧(0≤k→p k.toNat=true∧∀ j:Nat,(j:Int)<k→p j=false)∧(k<0→k = -1):=by
  intro d
  induction d with
  | zero =>
   intro i hd hj
   have hi:i=n:=by omega
   subst hi
   exact⟨-1,stop,by rw[anyB_false.2 hj];rfl,by omega,fun h=>by omega,fun _=>rfl⟩
  | succ d ih =>
   intro i hd hj
   rw[step i (by omega)]
   cases e:p i with
   | true=>rw[bm rfl];exact⟨i,rfl,by rw[anyB_iff.2 ⟨i,by omega,e⟩];exact ac (by omega),by omega,fun _=>⟨by rw[af];exact e,fun j h=>hj j (by omega)⟩,fun h=>by omega⟩
   | false =>
    rw[bn (by simp)]
    refine ih (i+1) (by omega) fun j h=>?_
    by_cases h':j=i
    ·subst h';exact e
    ·exact hj j (by omega)
 exact key n 0 (by omega) (fun j h=>absurd h (by omega))
theorem wU{α:Type}(l:List α)(z:α)(p:α→Bool):hY (fun i=>p (l.getD i z)) l.length=l.any p:=by
 cases h:l.any p with
 | true =>
  obtain⟨x,hx,e⟩:=List.any_eq_true.1 h
  obtain⟨i,hi,rfl⟩:=bk.1 hx
  exact anyB_iff.2 ⟨i,hi,by rw[dJ hi];exact e⟩
 | false =>
  rw[anyB_false]
  intro i hi
  rw[dJ hi]
  cases e:p l[i] with
  | false=>rfl
  | true =>
   have:l.any p=true:=List.any_eq_true.2 ⟨l[i],aW hi,e⟩
   rw[h]at this;cases this
end Go.Proofs.YtacknlgegbagfaaGreat.E
namespace Go.Proofs.YtacknlgegbagfaaGreat.E.TR
open Go.Proofs.YtacknlgegbagfaaGreat.E
set_option linter.unusedVariables false
def spl:List Int→List (List Int)
 | []=>[[]]
 | c::l=>if c=32 then []::spl l else((c::(spl l).getD 0 [])::(spl l).drop 1)
def pre(w:List Int):List (List Int)→List (List Int)
 | []=>[w]
 | x::xs=>(w++x)::xs
def ne(w:List Int):Bool:=!decide (w=[])
def k9(l:List Int):List (List Int):=(spl l).filter ne
theorem sq(l:List Int):∃ x xs,spl l=x::xs:=by
 cases l with
 | nil=>exact⟨_,_,rfl⟩
 | cons c l=>rw[spl];split <;> exact⟨_,_,rfl⟩
theorem wt{c:Int}(h:c≠32)(l:List Int):spl (c::l)=pre [c] (spl l):=by
 obtain⟨x,xs,e⟩:=sq l
 rw[spl,bn h,e];rfl
theorem Jd(a b:List Int)(l:List (List Int)):pre a (pre b l)=pre (a++b) l:=by
 cases l with
 | nil=>rfl
 | cons x xs=>show(a++(b++x))::xs=_;rw[← ah];rfl
theorem zC(l:List Int):pre [] (spl l)=spl l:=by
 obtain⟨x,xs,e⟩:=sq l
 rw[e];rfl
theorem wq:∀ l:List Int,(spl l).length=l.count 32+1
 | []=>rfl
 | c::l=>by
  by_cases h:c=32
  ·subst h;rw[spl,bm rfl,aS,wq l,List.count_cons_self]
  ·obtain⟨x,xs,e⟩:=sq l
   rw[wt h,List.count_cons_of_ne h,← wq l,e];rfl
theorem zd{w:List Int}(h:w≠[]):ne w=true:=by unfold ne;rw[ae h];rfl
theorem KS(t:List Int)(ht:t.length≤4294967290):∀ (d i f:Nat) (acc:List (List Int)),i+d=t.length→f≤i→acc.length≤i→gh t acc (f:Int) (i:Int)=some (acc++(pre ((t.drop f).take (i-f)) (spl (t.drop i))).filter ne,()):=by
 have fin:∀ (acc:List (List Int)) (a:Int) (b:Nat),t.length<b→gh t acc a (b:Int)=some (acc,()):=fun acc a b hb=>by rw[vn,aq]
 intro d
 induction d with
 | zero =>
  intro i f acc hi hf ha
  have hw:w64 ((i:Int)+1)=((i+1:Nat):Int):=by rw[ar];omega
  rw[vn,ap,aq,hw,aX (i:=i) (by omega)]
  show _=some (acc++List.filter ne [(t.drop f).take (i-f)++[]],())
  rw[aI]
  by_cases c:f<i
  ·have hne:(t.drop f).take (i-f)≠[]:=fun e=>by
    have:=congrArg List.length e
    rw[aQ,aR]at this
    simp only[List.length_nil]at this
    omega
   rw[ap,al,bm (by rw[b7];omega),fin _ _ _ (by omega),List.filter_cons_of_pos (zd hne),af,af]
   rfl
  ·rw[aq,fin _ _ _ (by omega),show i-f=0 by omega,List.take_zero,List.filter_cons_of_neg (by decide)]
   rw[List.filter_nil,aI]
 | succ d ih =>
  intro i f acc hi hf ha
  have hi':i<t.length:=by omega
  have hw:w64 ((i:Int)+1)=((i+1:Nat):Int):=cO hi' (by omega)
  rw[vn,ap,ap,al,dq hi',hw,ai hi']
  have hstep:(t.drop f).take (i+1-f)=(t.drop f).take (i-f)++[t[i]]:=by
   rw[show i+1-f=(i-f)+1 by omega,List.take_add_one,List.getElem?_drop,show f+(i-f)=i by omega,List.getElem?_eq_getElem hi'];rfl
  by_cases c:t[i]=32
  ·rw[bn (by rw[c];decide),c,spl,bm rfl]
   show _=some (acc++List.filter ne (((t.drop f).take (i-f)++[])::spl (t.drop (i+1))),())
   rw[aI]
   have hrec:∀ acc:List (List Int),acc.length≤i+1→gh t acc ((i+1:Nat):Int) ((i+1:Nat):Int)=some (acc++(spl (t.drop (i+1))).filter ne,()):=fun acc ha=>by
    have:=ih (i+1) (i+1) acc (by omega) (aH _) ha
    rwa [Nat.sub_self,List.take_zero,zC]at this
   by_cases c2:f<i
   ·have hne:(t.drop f).take (i-f)≠[]:=fun e=>by
     have:=congrArg List.length e
     rw[aQ,aR]at this
     simp only[List.length_nil]at this
     omega
    rw[ap,al,bm (by rw[b7];omega),List.filter_cons_of_pos (zd hne),af,af]
    have:=hrec (acc++[(t.drop f).take (i-f)]) (by simp;omega)
    rw[ah]at this
    exact this
   ·rw[aq,show i-f=0 by omega,List.take_zero,List.filter_cons_of_neg (by decide)]
    exact hrec acc (by omega)
  ·rw[bm (by simp[c]),wt c,Jd,← hstep]
   exact ih (i+1) f acc (by omega) (by omega) (by omega)
theorem KT(t:List Int)(ht:t.length≤4294967290):vm t=some (k9 t,()):=by
 rw[Ko]
 have:=KS t ht t.length 0 0 [] (by omega) (aH _) (aH _)
 rw[aN,Nat.sub_zero,List.take_zero,zC,bg]at this
 exact this
theorem DD(t:List Int):(k9 t).length≤t.length+1:=by
 have hc:=List.count_le_length (a:=(32:Int)) (l:=t)
 have:=wq t
 have:=List.length_filter_le ne (spl t)
 unfold k9
 omega
theorem Bu:∀ (l:List Int) (P:Int→Prop),(∀ x∈l,P x)→∀ w∈spl l,(∀ x∈w,P x)∧w.length≤l.length
 | [],P,h,w,hw=>by rw[aK.1 hw];exact⟨fun x hx=>(by cases hx),aH _⟩
 | c::l,P,h,w,hw=>by
  have ih:=Bu l P fun x hx=>h x (aF _ hx)
  by_cases hc:c=32
  ·rw[spl,bm hc]at hw
   rcases aL.1 hw with rfl | hw
   ·exact⟨fun x hx=>(by cases hx),Nat.zero_le _⟩
   ·exact⟨(ih w hw).1,by have:=(ih w hw).2;rw[aS];omega⟩
  ·obtain⟨x,xs,e⟩:=sq l
   rw[wt hc,e]at hw
   rcases aL.1 (show w∈([c]++x)::xs from hw)with rfl | hw
   ·obtain⟨g1,g2⟩:=ih x (by rw[e];exact aE ..)
    refine⟨fun y hy=>?_,by simp;omega⟩
    rcases aL.1 (show y∈c::x from hy)with rfl | hy
    ·exact h _ (aE ..)
    ·exact g1 y hy
   ·obtain⟨g1,g2⟩:=ih w (by rw[e];exact aF _ hw)
    exact⟨g1,by rw[aS];omega⟩
theorem DE{l:List Int}{P:Int→Prop}(h:∀ x∈l,P x){w:List Int}(hw:w∈k9 l):(∀ x∈w,P x)∧w.length≤l.length:=Bu l P h w (List.mem_filter.1 hw).1
theorem gk(a b c:Int):s_l1In a b c=some (decide (b≤a∧a≤c),()):=by
 rw[A4]
 by_cases h:b≤a
 ·rw[bm (by simp[h])];simp[h]
 ·rw[bn (by simp[h])];simp[h]
inductive Small:bC→Prop
 | mk (x:bC):x.Kids.length≤100→(∀ k∈x.Kids,Small k)→Small x
def n93(x:Int):Bool:=!decide (x=93)
def qd(l:List Int):List Int:=l.takeWhile n93
noncomputable def y9(s:List Int):Int×Bool:=match rn s with
 | some (v,ok,_)=>(v,ok)
 | none=>(0,false)
noncomputable def BP(v:bG):Bool:=(decide (-9000000000000≤v.N∧v.N≤9000000000000) && !decide ((v.S.length:Int)>300)) &&
 (if v.Kind=0 then decide (v.N=0)&&decide (v.S=[])else if v.Kind=1 then decide (v.S=[])else if v.Kind=2 then decide (v.N=0)else if v.Kind=3 then(y9 v.S).2&&decide ((y9 v.S).1=v.N)else false)
def qh(a b:bo):Bool:=decide (a.Name<b.Name)||(decide (a.Name=b.Name)&&ltS a.Key b.Key)
theorem KZ(a:bo)(n:Int)(k:List Int):vC a n k=some (decide (a.Name<n)||(decide (a.Name=n)&&ltS a.Key k),()):=by
 rw[KY]
 cases decide (a.Name<n) <;> cases decide (a.Name=n) <;> rfl
def Dc(n:Int):Prop:=-9000000000000≤n∧n≤9000000000000
def VG(v:bG):Prop:=BP v=true∧Bt v.S
theorem VG.bd{v:bG}(h:VG v):Dc v.N∧v.S.length≤300:=by
 have h1:=h.1
 unfold BP at h1
 rw[aA,aA,ab,Bool.not_eq_true',decide_eq_false_iff_not]at h1
 exact⟨h1.1.1,by have:=h1.1.2;omega⟩
theorem VG.drawn{v:bG}(h:VG v):Cj v:=⟨by have:=h.bd.2;omega,h.2⟩
theorem xM(n:Nat):Bt (d9 n):=fun x hx=>by have:=(xO n).1 x hx;omega
theorem MP(c:Int)(l:List Int):∀ x∈eH c l,x∈l:=fun x hx=>by
 unfold eH at hx
 rw[List.mem_reverse]at hx
 have:=(List.dropWhile_sublist _).subset hx
 rwa [List.mem_reverse]at this
theorem Dh(n:Int):Bt (ja n):=by
 intro x hx
 unfold ja at hx
 split at hx
 ·rcases aB.1 hx with hx | hx
  ·split at hx
   ·rw[aK.1 hx];omega
   ·cases hx
  ·unfold kW at hx
   rcases aB.1 hx with hx | hx
   ·exact xM _ x hx
   ·unfold lj at hx
    split at hx
    ·rcases aL.1 hx with rfl | hx
     ·omega
     ·exact xM _ x (List.mem_of_mem_drop (MP _ _ x hx))
    ·cases hx
 ·cases hx
def atP(n:Int)(k:List Int)(c:bo):Bool:=decide (c.Name=n)&&decide (c.Key=k)
theorem atP_iff{n:Int}{k:List Int}{c:bo}:atP n k c=true↔c.Name=n∧c.Key=k:=by
 unfold atP;rw[aA,ab,ab]
def atV(l:List bo)(n:Int)(k:List Int):Int:=if l.any (atP n k)=true then(l.findIdx (atP n k):Int)else -1
theorem DF{α:Type}{l:List α}{p:α→Bool}{z:α}{k:Int}(h0:0≤k)(hl:k<(l.length:Int))(h1:p (l.getD k.toNat z)=true)(h2:∀ j:Nat,(j:Int)<k→p (l.getD j z)=false):(l.findIdx p:Int)=k:=by
 have hk:k.toNat<l.length:=by omega
 have h3:l.findIdx p=k.toNat:=by
  rw[List.findIdx_eq hk]
  refine⟨by rw[← dJ hk z];exact h1,fun j hj=>?_⟩
  rw[← dJ (by omega) z]
  exact h2 j (by omega)
 rw[h3];omega
theorem KP(s:bE)(n:Int)(k:List Int)(hl:s.Cells.length≤100000):kd s n k=some (atV s.Cells n k,()):=by
 obtain⟨v,e1,e2,e3,e4,e5⟩:=ED (fun i=>gN n k i s) () s.Cells.length (fun i=>atP n k (s.Cells.getD i eA))
  (fun i hi=>by
   show gN n k _ s=_
   rw[rG,ap,al,dq hi,dJ hi,cO hi (by omega)]
   unfold atP
   by_cases c:s.Cells[i].Name=n
   ·rw[ac c,bm rfl,al,Bool.true_and]
   ·rw[ae c,bn (by decide),Bool.false_and,bn (by decide)])
  (by show gN n k _ s=_;rw[rG,bn (by simp)])
 have e1':gN n k 0 s=some (v,()):=e1
 rw[AF,e1']
 congr 2
 unfold atV
 rw[wU s.Cells eA (atP n k)]at e2
 by_cases c:0≤v
 ·rw[← e2,ak c]
  exact(DF c e3 (e4 c).1 (e4 c).2).symm
 ·rw[← e2,aj c]
  exact e5 (by omega)
theorem Cw(l:List bo)(n:Int)(k:List Int):(atV l n k = -1∧∀ c∈l,¬ (c.Name=n∧c.Key=k))∨(0≤atV l n k∧atV l n k<(l.length:Int)):=by
 unfold atV
 by_cases c:l.any (atP n k)=true
 ·rw[bm c]
  have:=List.findIdx_lt_length_of_exists (xs:=l) (p:=atP n k) (by obtain⟨x,hx,e⟩:=List.any_eq_true.1 c;exact⟨x,hx,e⟩)
  exact .inr (by omega)
 ·rw[bn c]
  refine .inl ⟨rfl,fun x hx h=>c (List.any_eq_true.2 ⟨x,hx,atP_iff.2 h⟩)⟩
def j6(l:List bo)(c:bo):Nat:=l.findIdx fun x=>!qh x c
def lE(l:List bo)(n:Int)(k:List Int)(v:bG):Option (List bo) :=
 if 0≤atV l n k then some (l.set (atV l n k).toNat ⟨(l.getD (atV l n k).toNat eA).Name,(l.getD (atV l n k).toNat eA).Key,v⟩)
 else if 40≤l.length then none else some (jk l (j6 l ⟨n,k,v⟩) [⟨n,k,v⟩])
theorem xG{s:bE}(hv:s.Vars.length≤100000)(hc:s.Cells.length≤100000):gO s=some (s,()):=by
 rw[KW,bm (by rw[b7];omega),bm (by rw[b7];omega)];rfl
theorem Jo(s:bE)(n:Int)(k:List Int)(v:bG)(hv:s.Vars.length≤100000)(hl:s.Cells.length≤100000) :
  ri s n k v=some (match lE s.Cells n k v with | some C=>(⟨s.Vars,C,s.Nr,s.Err⟩,true,()) | none=>(s,false,())):=by
 rw[J2,xG hv hl,KP s n k hl,aa,aa]
 dsimp only
 unfold lE
 rcases Cw s.Cells n k with ⟨h,hno⟩ | h
 ·rw[aq,bn (c:=0≤atV s.Cells n k) (by omega)]
  by_cases c:40≤s.Cells.length
  ·rw[ap,bm c]
  ·rw[aq,bn c]
   have fin:∀ i:Nat,i≤s.Cells.length→(List.append (List.append (List.append [] (List.take ((i:Int).toNat-0) (List.drop 0 s.Cells))) [(bo.mk n k v)]) (List.take ((List.length s.Cells)-(i:Int).toNat) (List.drop (i:Int).toNat s.Cells)))=jk s.Cells i [⟨n,k,v⟩]:=fun i hi=>by
    unfold jk
    simp only[af,Nat.sub_zero,aN]
    rw[a9 (i:=s.Cells.length-i) (by rw[aR];omega)]
    show([]++s.Cells.take i)++[(⟨n,k,v⟩:bo)]++s.Cells.drop i=_
    simp
   have key:∀ (d i:Nat),i+d=s.Cells.length→(∀ j,j<i→qh (s.Cells.getD j eA) ⟨n,k,v⟩=true)→rj n k (i:Int) s v gr s=some (⟨s.Vars,jk s.Cells (j6 s.Cells ⟨n,k,v⟩) [⟨n,k,v⟩],s.Nr,s.Err⟩,true,()):=by
    intro d
    induction d with
    | zero =>
     intro i hi hj
     have hp:j6 s.Cells ⟨n,k,v⟩=i:=by
      rw[show i=s.Cells.length by omega]
      unfold j6
      rw[List.findIdx_eq_length]
      intro x hx
      obtain⟨j,hj',rfl⟩:=bk.1 hx
      have:=hj j (by omega)
      rw[dJ hj']at this
      rw[this];rfl
     rw[Ak,aq,al,bm (by rw[b7];simp;omega),bm (by rw[b7];simp;omega),al,bm (by rw[b7];simp;omega),fin i (by omega),hp]
    | succ d ih =>
     intro i hi hj
     have hi':i<s.Cells.length:=by omega
     rw[Ak,ap,al,dq hi',KZ,aa]
     dsimp only
     rw[show(decide (s.Cells[i].Name<n)||(decide (s.Cells[i].Name=n)&&ltS s.Cells[i].Key k))=qh s.Cells[i] ⟨n,k,v⟩from rfl]
     cases c3:qh s.Cells[i] ⟨n,k,v⟩ with
     | true =>
      rw[bm rfl,cO hi' (by omega)]
      refine ih (i+1) (by omega) fun j hji=>?_
      by_cases e:j=i
      ·subst e;rw[dJ hi'];exact c3
      ·exact hj j (by omega)
     | false =>
      have hp:j6 s.Cells ⟨n,k,v⟩=i:=by
       unfold j6
       rw[List.findIdx_eq hi']
       refine⟨by rw[c3];rfl,fun j hji=>?_⟩
       have:=hj j hji
       rw[dJ (by omega)]at this
       rw[this];rfl
      rw[bn (by decide),al,bm (by rw[b7];simp;omega),bm (by rw[b7];simp;omega),al,bm (by rw[b7];simp;omega),fin i (by omega),hp]
   exact key s.Cells.length 0 (by omega) fun j hj=>absurd hj (by omega)
 ·rw[ap,bm h,bm h.1]
mutual
def zj:bC→Nat
 | ⟨_,_,_,_,ks⟩=>1+zk ks
def zk:List bC→Nat
 | []=>0
 | k::ks=>zj k+zk ks
end
def eC(f:List Bool)(j n:Nat):List Int:=((List.range' j n).filter fun i=>f.getD i false).map Int.ofNat
theorem marks_mem{f:List Bool}{j n:Nat}{x:Int}:x∈eC f j n ↔ ∃ i:Nat,x=i∧j≤i∧i<j+n∧f.getD i false=true:=by
 unfold eC
 rw[List.mem_map]
 constructor
 ·rintro ⟨i,hi,rfl⟩
  rw[List.mem_filter,List.mem_range'_1]at hi
  exact⟨i,rfl,hi.1.1,hi.1.2,hi.2⟩
 ·rintro ⟨i,rfl,h1,h2,h3⟩
  exact⟨i,List.mem_filter.2 ⟨List.mem_range'_1.2 ⟨h1,h2⟩,h3⟩,rfl⟩
theorem IA(f:List Bool)(j n:Nat):(eC f j n).length≤n:=by
 unfold eC
 rw[bh]
 exact Nat.le_trans (List.length_filter_le ..) (by rw[List.length_range'];exact aH _)
theorem IB(f:List Bool)(j n m:Nat):eC f j (n+m)=eC f j n++eC f (j+n) m:=by
 unfold eC
 rw[← List.range'_append_1,List.filter_append,List.map_append]
theorem yJ(t:List Int):∀ l:List Int,0≤dz l t↔t <:+: l
 | []=>by
  unfold dz
  cases t with
  | nil=>simp
  | cons a t=>simp
 | b::l=>by
  have ih:=yJ t l
  have hb:=qJ l t
  unfold dz
  rw[List.infix_cons_iff]
  by_cases c:t.isPrefixOf (b::l)=true
  ·rw[bm c];exact⟨fun _=>.inl (List.isPrefixOf_iff_prefix.1 c),fun _=>Int.le_refl _⟩
  ·rw[bn c]
   have c':¬ t <+: b::l:=fun h=>c (List.isPrefixOf_iff_prefix.2 h)
   by_cases d:dz l t = -1
   ·rw[bm d]
    exact⟨fun h=>by omega,fun h=>by rcases h with h | h;exact absurd h c';exact absurd (ih.2 h) (by omega)⟩
   ·rw[bn d]
    exact⟨fun h=>.inr (ih.1 (by omega)),fun h=>by rcases h with h | h;exact absurd h c';have:=ih.2 h;omega⟩
theorem EA{l t:List Int}(h:l.length<t.length):dz l t = -1:=by
 have hb:=qJ l t
 have:=(yJ t l).1
 by_cases c:0≤dz l t
 ·have:=(this c).length_le;omega
 ·omega
theorem KU(s t:List Int)(hs:s.length≤300)(ht:t.length≤300):∀ (d i:Nat),i+d=s.length→rL s t (i:Int)=some (if dz (s.drop i) t = -1 then 0 else(i:Int)+dz (s.drop i) t+1,()):=by
 intro d
 induction d with
 | zero =>
  intro i hi
  have hw:w64 ((i:Int)+(t.length:Int))=((i+t.length:Nat):Int):=by rw[ar];omega
  have hd:s.drop i=[]:=aX (by omega)
  rw[AJ,hw,hd]
  cases t with
  | nil =>
   rw[ak (by simp;omega),bm (by simp;omega)]
   rw[bm (by simp[hd]),ar]
   simp[dz]
  | cons c t =>
   rw[bn (by rw[ab,aS];omega)]
   simp[dz]
 | succ d ih =>
  intro i hi
  have hi':i<s.length:=by omega
  have hw:w64 ((i:Int)+(t.length:Int))=((i+t.length:Nat):Int):=by rw[ar];omega
  rw[AJ,hw]
  by_cases c:i+t.length≤s.length
  ·have hpre:(t.isPrefixOf (s.drop i)=true)↔(s.drop i).take t.length=t:=by
    rw[List.isPrefixOf_iff_prefix,List.prefix_iff_eq_take];exact eq_comm
   have hcons:=ai hi'
   rw[ap,al,af,af,show i+t.length-i=t.length by omega,cO hi' (by omega)]
   by_cases c2:(s.drop i).take t.length=t
   ·have e:dz (s.drop i) t=0:=by rw[hcons]at hpre c2 ⊢;unfold dz;rw[bm (hpre.2 c2)]
    rw[ak c2,e,bn (by decide)]
    congr 2
   ·have hn:¬ t.isPrefixOf (s.drop i)=true:=fun h=>c2 (hpre.1 h)
    have e:dz (s.drop i) t=if dz (s.drop (i+1)) t = -1 then -1 else dz (s.drop (i+1)) t+1:=by rw[hcons]at hn ⊢;exact(by rw[dz,bn hn])
    have hb:=qJ (s.drop (i+1)) t
    rw[aj c2,ih (i+1) (by omega),e]
    by_cases c3:dz (s.drop (i+1)) t = -1
    ·rw[bm c3,bm c3,bm rfl]
    ·rw[bn c3,bn c3,am]
     congr 2;omega
  ·rw[aq,bm (EA (by rw[aR];omega))]
theorem KV(s t:List Int)(hs:s.length≤300)(ht:t.length≤300):vF s t=some (dz s t+1,()):=by
 rw[K8]
 have:=KU s t hs ht s.length 0 (by omega)
 rw[aN]at this
 rw[show(0:Int)=((0:Nat):Int)from rfl,this]
 have hb:=qJ s t
 congr 2
 split <;> omega
def Tot{α:Type}(x:Option α)(P:α→Prop):Prop:=∃ y,x=some y∧P y
theorem tb{α β:Type}{x:Option α}{P:α→Prop}{f:α→Option β}{Q:β→Prop}(h:Tot x P)(k:∀ y,P y→Tot (f y) Q):Tot (x.bind f) Q:=by
 obtain⟨y,rfl,hy⟩:=h;exact k y hy
theorem ts{α:Type}{y:α}{Q:α→Prop}(h:Q y):Tot (some y) Q:=⟨y,rfl,h⟩
theorem ti{α:Type}{c:Prop}[Decidable c]{a b:Option α}{Q:α→Prop}(h:c→Tot a Q)(k:¬ c→Tot b Q):Tot (if c then a else b) Q:=by
 by_cases hc:c
 ·rw[bm hc];exact h hc
 ·rw[bn hc];exact k hc
theorem tc{α:Type}{c:Prop}[Decidable c]{a b:Option α}{Q:α→Prop}(hc:c)(h:Tot a Q):Tot (if c then a else b) Q:=by rw[bm hc];exact h
theorem tn{α:Type}{c:Prop}[Decidable c]{a b:Option α}{Q:α→Prop}(hc:¬ c)(h:Tot b Q):Tot (if c then a else b) Q:=by rw[bn hc];exact h
theorem te{α:Type}{x:Option α}{y:α}{P:α→Prop}(h:x=some y)(hp:P y):Tot x P:=⟨y,h,hp⟩
def TW(t:List Int):Prop:=t.length≤300∧Bt t
def VW(v:bG):Prop:=TW v.S
theorem pJ:TW []:=⟨by simp,fun x hx=>by cases hx⟩
theorem kD(k n:Int):VW ⟨k,n,[]⟩:=pJ
theorem BR:VW cq:=pJ
theorem MS{v:bG}(h:VW v):TW (sv v):=by
 unfold sv
 split
 ·have:=Di v.N;exact⟨by omega,Dh _⟩
 ·exact h
theorem ey{v:bG}(h:VW v):Tot (dS v) (fun y=>TW y.1):=te (KM v) (MS h)
theorem cS{l:List bG}(h:∀ v∈l,VW v)(n:Nat):VW (l.getD n cq):=by
 by_cases c:n<l.length
 ·rw[dJ c];exact h _ (aW c)
 ·rw[List.getD_eq_getElem?_getD,List.getElem?_eq_none (by omega)];exact BR
theorem jT(p:Int)(b:Bool)(n m:Int)(N:Int)(h0:0≤p)(h1:p≤N):Tot (s_DecFront_L5 p b n m) (fun y=>0≤y.2.1∧y.2.1≤N):=by
 rw[J9]
 refine ti (fun _=>ts ⟨Int.le_refl _,?_⟩) (fun _=>ti (fun _=>ts ⟨Int.le_refl _,?_⟩) (fun _=>ti (fun _=>ts ⟨h0,h1⟩) (fun _=>ts ⟨h0,h1⟩))) <;> exact Int.le_trans h0 h1
theorem DW(s:List Int)(hs:s.length≤1000)(b:Bool):∀ (d i:Nat) (n m u:Int),i+d=s.length→Tot (s_DecFront_L4 s (i:Int) b n m u) (fun y=>0≤y.2.1∧y.2.1≤(s.length:Int)):=by
 intro d
 induction d with
 | zero =>
  intro i n m u hd
  rw[Ao,aq]
  exact jT _ _ _ _ _ (by omega) (by omega)
 | succ d ih =>
  intro i n m u hd
  have hi:i<s.length:=by omega
  rw[Ao,ap,al,dq hi,uf,aa,cO hi (by omega)]
  exact ti (fun _=>tc (by omega) (ih (i+1) _ _ _ (by omega))) (fun _=>jT _ _ _ _ _ (by omega) (by omega))
theorem DU(s:List Int)(hs:s.length≤1000)(b:Bool):∀ (d i:Nat) (n m:Int),i+d=s.length→Tot (s_DecFront_L3 s (i:Int) b n m) (fun y=>0≤y.2.1∧y.2.1≤(s.length:Int)):=by
 intro d
 induction d with
 | zero =>
  intro i n m hd
  rw[An,aq,ar (n:=(i:Int)+1),aq]
  exact jT _ _ _ _ _ (by omega) (by omega)
 | succ d ih =>
  intro i n m hd
  have hi:i<s.length:=by omega
  rw[An,ap,al,dq hi,uf,aa,cO hi (by omega)]
  refine ti (fun _=>ti (fun _=>tc (by omega) (ih (i+1) _ _ (by omega))) (fun _=>ih (i+1) _ _ (by omega))) (fun _=>ti (fun h=>?_) (fun _=>jT _ _ _ _ _ (by omega) (by omega)))
  rw[ab]at h
  refine tc (by omega) (ti (fun _=>tc (by omega) ?_) (fun _=>jT _ _ _ _ _ (by omega) (by omega)))
  rw[uf,aa]
  exact ti (fun _=>DW s hs b _ (i+1) _ _ _ (show i+1+(s.length-(i+1))=s.length by omega)) (fun _=>jT _ _ _ _ _ (by omega) (by omega))
theorem qx(s:List Int)(hs:s.length≤1000)(b:Bool)(i:Nat)(hi:i≤s.length):Tot (s_DecFront_L2 s (i:Int) b) (fun y=>0≤y.2.1∧y.2.1≤(s.length:Int)):=by
 rw[J8];exact DU s hs b (s.length-i) i 0 0 (by omega)
theorem DT(s:List Int)(hs:s.length≤1000):∀ (d i:Nat),i+d=s.length→Tot (s_DecFront_L1 s (i:Int)) (fun y=>0≤y.2.1∧y.2.1≤(s.length:Int)):=by
 intro d
 induction d with
 | zero =>
  intro i hd
  have e:¬ (i:Int)<(s.length:Int):=by omega
  rw[Am]
  simp only[ab,bn e]
  exact qx s hs _ i (by omega)
 | succ d ih =>
  intro i hd
  have hi:i<s.length:=by omega
  have e:(i:Int)<(s.length:Int):=by omega
  have e2:(0:Int)≤(i:Int)∧(i:Int)<(s.length:Int):=by omega
  rw[Am,cO hi (by omega)]
  simp only[ab,bm e,bm e2]
  refine ti (fun _=>ih (i+1) (by omega)) (fun _=>ti (fun _=>qx s hs _ (i+1) (by omega)) (fun _=>ti (fun _=>qx s hs _ (i+1) (by omega)) (fun _=>qx s hs _ i (by omega))))
theorem yk(s:List Int)(hs:s.length≤1000):Tot (s_DecFront s) (fun y=>0≤y.2.1∧y.2.1≤(s.length:Int)):=by
 rw[Ka];exact DT s hs s.length 0 (by omega)
theorem eE{v:bG}(h:VW v):Tot (ej v) (fun _=>True):=by
 have key:∀ b:Bool,Tot (rE v.Kind b v) (fun _=>True):=fun b=>by
  rw[KJ]
  exact ti (fun _=>ts trivial) (fun _=>ti (fun _=>tb (yk v.S (by have:=h.1;omega)) (fun _ _=>ts trivial)) (fun _=>ts trivial))
 rw[KK]
 exact ti (fun _=>key _) (fun _=>key _)
theorem Iu(s:List Int)(hs:s.length≤1000):Tot (rn s) (fun _=>True):=by
 have key:∀ (d i:Nat) (n:Int),i+d=s.length→Tot (ro s n (i:Int)) (fun _=>True):=by
  intro d
  induction d with
  | zero =>
   intro i n hd
   rw[Aq,aq];exact ts trivial
  | succ d ih =>
   intro i n hd
   have hi:i<s.length:=by omega
   rw[Aq,ap,al,cO hi (by omega)]
   exact ti (fun _=>ts trivial) (fun _=>ih (i+1) n (by omega))
 rw[Kc]
 refine tb (yk s hs) (fun y hy=>ti (fun _=>ts trivial) (fun _=>?_))
 obtain⟨k,hk⟩:=Int.eq_ofNat_of_zero_le hy.1
 rw[hk]
 exact key (s.length-k) k _ (by have:=hy.2;omega)
theorem uP{s:List Int}(hs:s.length≤1000)(hb:Bt s):Tot (lV s) (fun y=>VW y.1):=by
 have key:∀ (t:List Int),TW t→Tot (rz t cq) (fun y=>VW y.1):=fun t ht=>by
  rw[KC]
  exact tb (Iu t (by have:=ht.1;omega)) (fun y _=>ti (fun _=>ts ht) (fun _=>ts ht))
 rw[KD]
 refine ti (fun h=>?_) (fun h=>key s ?_)
 ·rw[ab]at h
  refine tc (by omega) (key _ ⟨by rw[aQ];omega,fun x hx=>?_⟩)
  rw[aN]at hx
  exact hb x (List.mem_of_mem_take hx)
 ·rw[ab]at h
  exact⟨by omega,hb⟩
theorem gM(n:Int):Tot (s_DecOk n) (fun _=>True):=te (Ar n) trivial
theorem js(n:Int):Tot (gR n) (fun _=>True):=by
 rw[L6]
 exact tb (gM _) (fun _ _=>ti (fun _=>ts trivial) (fun _=>ts trivial))
theorem Cl(a b:Int):Tot (vd a b) (fun _=>True):=by
 rw[J6]
 exact tb (gM _) (fun _ _=>ti (fun _=>ts trivial) (fun _=>tb (gM _) (fun _ _=>ti (fun _=>ts trivial) (fun _=>tb (js _) (fun _ _=>ts trivial)))))
theorem MH(a b:Int):Tot (vg a b) (fun _=>True):=by
 rw[Kf]
 exact tb (gM _) (fun _ _=>ti (fun _=>ts trivial) (fun _=>tb (gM _) (fun _ _=>ti (fun _=>ts trivial) (fun _=>tb (js _) (fun _ _=>ts trivial)))))
theorem wN(a:Int):Tot (kv a) (fun _=>True):=by
 rw[A3];exact ti (fun _=>ts trivial) (fun _=>ts trivial)
theorem ID(a b:Int):Tot (vf a b) (fun _=>True):=by
 rw[Kd]
 refine tb (gM _) (fun _ _=>ti (fun _=>ts trivial) (fun _=>tb (gM _) (fun _ _=>ti (fun _=>ts trivial) (fun _=>tb (wN _) (fun _ _=>tb (wN _) (fun y _=>ti (fun h=>tc ?_ (ti (fun _=>ts trivial) (fun _=>?_))) (fun _=>?_)))))))
 ·rw[ab]at h;omega
 ·exact ti (fun _=>tb (js _) (fun _ _=>ts trivial)) (fun _=>tb (js _) (fun _ _=>ts trivial))
 ·exact ti (fun _=>tb (js _) (fun _ _=>ts trivial)) (fun _=>tb (js _) (fun _ _=>ts trivial))
theorem Dk(a b:Int):Tot (ve a b) (fun _=>True):=by
 rw[J7]
 refine tb (gM _) (fun _ _=>ti (fun _=>ts trivial) (fun _=>tb (gM _) (fun _ _=>ti (fun _=>ts trivial) (fun _=>ti (fun _=>ts trivial) (fun h=>tc ?_ (tb (js _) (fun _ _=>ts trivial)))))))
 rw[ab]at h;exact h
theorem wz(v:bG):Tot (lX v) (fun _=>True):=by
 have key:∀ b:Bool,Tot (rF v.Kind b v) (fun _=>True):=fun b=>by
  rw[KN]
  exact ti (fun _=>ts trivial) (fun _=>ti (fun _=>ts trivial) (fun _=>ts trivial))
 rw[KO]
 exact ti (fun _=>key _) (fun _=>key _)
theorem sy(b:Bool):Tot (ke b) (fun y=>VW y.1):=by
 rw[K0,xh,aa,AK,aa];exact ts (kD _ _)
theorem gV(n:Int):Tot (fB n) (fun y=>VW y.1):=by rw[AK];exact ts (kD _ _)
theorem s8(b:Bool):Tot (s_l1Bit b) (fun _=>True):=te (xh b) trivial
theorem C9{a b:bG}(ha:VW a)(hb:VW b):Tot (vc a b) (fun _=>True):=by
 rw[J5]
 refine tb (ey ha) (fun _ _=>tb (ey hb) (fun _ _=>tb (ey ha) (fun _ _=>tb (ey hb) (fun _ _=>ti (fun _=>ti (fun _=>tb (eE ha) (fun _ _=>tb (eE hb) (fun _ _=>tb (eE ha) (fun _ _=>tb (eE hb) (fun _ _=>ti (fun _=>ts trivial) (fun _=>tb (s8 _) (fun _ _=>ts trivial))))))) (fun _=>?_)) (fun _=>?_)))))
 ·exact ti (fun _=>ts trivial) (fun _=>tb (s8 _) (fun _ _=>ts trivial))
 ·exact ti (fun _=>ts trivial) (fun _=>tb (s8 _) (fun _ _=>ts trivial))
theorem I3{op:Int}(h0:0≤op∧op<6){a b:bG}(ha:VW a)(hb:VW b):Tot (vG op a b) (fun y=>VW y.1):=by
 rw[Lc]
 exact tb (C9 ha hb) (fun _ _=>tc h0 (tb (sy _) (fun _ h=>ts h)))
theorem qO{v:bG}(h:VW v):Tot (kj v) (fun y=>TW y.1):=by
 rw[K9]
 refine tb (ey h) (fun y hy=>ti (fun c=>?_) (fun _=>ts hy))
 rw[ab]at c
 have:=hy.1
 omega
theorem I5{l:List bG}(h:∀ v∈l,VW v)(h2:2≤l.length):Tot (vH l) (fun y=>TW y.1):=by
 have key:∀ (t:List Int) (f u:Int),TW t→u≤t.length→Tot (rM t f u) (fun y=>TW y.1):=fun t f u ht hu=>by
  rw[Ld]
  have hm:Tot (s_l1Max f 1) (fun y=>1≤y.1):=by
   rw[A5]
   exact ti (fun c=>ts (by rw[ab]at c;show 1≤f;omega)) (fun _=>ts (Int.le_refl 1))
  refine tb hm (fun y hy=>ti (fun _=>ts pJ) (fun c=>?_))
  rw[ab]at c
  have hl:=ht.1
  have e:w64 (y.1-1)=y.1-1:=ar
  rw[e]
  refine tc (by omega) (ts ⟨?_,fun x hx=>ht.2 x (List.mem_of_mem_drop (List.mem_of_mem_take hx))⟩)
  rw[aQ,aR];omega
 rw[Le]
 refine tc (by omega) (tb (ey (cS h _)) (fun y hy=>tc (by omega) (tb (eE (cS h _)) (fun n _=>ti (fun c=>?_) (fun _=>key _ _ _ hy (by omega))))))
 rw[ab]at c
 refine tc (by omega) (tb (eE (cS h _)) (fun m _=>tb (P:=fun z=>z.1≤(y.1.length:Int)) ?_ (fun z hz=>key _ _ _ hy hz)))
 rw[A6]
 exact ti (fun c=>ts (Int.le_refl _)) (fun c=>ts (by rw[ab]at c;show _≤_;omega))
theorem xy(a b:Int)(t:List Int)(ht:TW t):Tot (rI t a b) (fun y=>TW y.1):=by
 have key:∀ (d i:Nat) (t:List Int),TW t→i+d=t.length→Tot (ki a b t (i:Int)) (fun y=>TW y.1):=by
  intro d
  induction d with
  | zero =>
   intro i t ht hd
   rw[AH,aq];exact ts ht
  | succ d ih =>
   intro i t ht hd
   have hi:i<t.length:=by omega
   have hl:=ht.1
   rw[AH,ap,al,cO hi (by omega)]
   refine ti (fun _=>tc (by omega) (ti (fun _=>tc (by omega) (tc (by omega) (ih (i+1) _ ⟨by rw[aY];omega,fun x hx=>?_⟩ (by rw[aY];omega)))) (fun _=>ih (i+1) t ht (by omega)))) (fun _=>ih (i+1) t ht (by omega))
   rcases List.mem_or_eq_of_mem_set hx with hx | rfl
   ·exact ht.2 x hx
   ·exact iP _
 rw[K2]
 exact tc (by have:=ht.1;rw[b7];omega) (key t.length 0 t ht (by omega))
theorem qf{l:List bG}(h:∀ v∈l,VW v)(h2:1≤l.length)(nm:List Int)(hn:nm=[105,110,100,101,120]∨nm=[115,117,98,115,116,114]→2≤l.length)(hk:nm∈[[108,101,110,103,116,104],[105,110,116],[105,110,100,101,120],[117,112,112,101,114],[108,111,119,101,114],[115,117,98,115,116,114]]):Tot (kg nm l) (fun y=>VW y.1):=by
 rw[K1]
 refine ti (fun _=>tc (by omega) (tb (ey (cS h _)) (fun _ _=>tb (gV _) (fun _ q=>ts q)))) (fun n1=>ti (fun _=>tc (by omega) (tb (eE (cS h _)) (fun y _=>?_))) (fun n2=>ti (fun c=>?_) (fun n3=>ti (fun _=>tc (by omega) (tb (ey (cS h _)) (fun y hy=>tb (xy _ _ _ hy) (fun _ q=>ts q)))) (fun n4=>ti (fun _=>tc (by omega) (tb (ey (cS h _)) (fun y hy=>tb (xy _ _ _ hy) (fun _ q=>ts q)))) (fun n5=>?_)))))
 ·rw[Kb,aa];exact tb (gV _) (fun _ q=>ts q)
 ·rw[ab]at c
  have:=hn (.inl c)
  refine tc (by omega) (tb (ey (cS h _)) (fun y hy=>tc (by omega) (tb (ey (cS h _)) (fun z hz=>?_))))
  rw[KV _ _ hy.1 hz.1,aa]
  exact tb (gV _) (fun _ q=>ts q)
 ·rw[ab]at n1 n2 n3 n4 n5
  have:nm=[115,117,98,115,116,114]:=by simpa [n1,n2,n3,n4,n5]using hk
  exact tb (I5 h (hn (.inr this))) (fun _ q=>ts q)
theorem CU{l:List bG}(h:∀ v∈l,VW v)(h2:1≤l.length)(h3:l.length≤100)(nm:List Int)(hk:nm∈[[108,101,110,103,116,104],[105,110,116],[105,110,100,101,120],[117,112,112,101,114],[108,111,119,101,114],[115,117,98,115,116,114]]):Tot (vK nm l) (fun y=>VW y.1):=by
 have hv:∀ v∈List.append (List.append [] l) [bG.mk 0 0 []],VW v:=fun v hv=>by
  rcases aB.1 (show v∈l++[bG.mk 0 0 []]from hv)with hv | hv
  ·exact h v hv
  ·rw[aK.1 hv];exact kD _ _
 have hl:(List.append (List.append [] l) [bG.mk 0 0 []]).length=l.length+1:=by show(l++[bG.mk 0 0 []]).length=_;simp
 have hl0:(List.append [] l).length=l.length:=rfl
 rw[Lh]
 refine ti (fun c=>ti (fun _=>tc (by rw[b7];omega) (tc (by rw[b7,hl0];omega) (tb (qf hv (by omega) nm (fun _=>by omega) hk) (fun _ q=>ts q)))) (fun n1=>ti (fun _=>tc (by rw[b7];omega) (tc (by rw[b7,hl0];omega) (tb (qf hv (by omega) nm (fun _=>by omega) hk) (fun _ q=>ts q)))) (fun n2=>tb (qf h h2 nm (fun e=>?_) hk) (fun _ q=>ts q)))) (fun c=>tb (qf h h2 nm (fun _=>?_) hk) (fun _ q=>ts q))
 ·rw[ab]at n1 n2;exact(e.elim n1 n2).elim
 ·rw[ab]at c;omega
set_option linter.defProp false
def a7:=@List.length_eq_zero_iff
def adj(l:List bz)(b e:Bool)(k:Nat):List Int :=
 if(l.getD k cl).Op=6 then [(l.getD k cl).A]else if(l.getD k cl).Op=7 then [(l.getD k cl).A,(l.getD k cl).B]
 else if(l.getD k cl).Op=4 then(if b=true then [(k:Int)+1]else [])else if(l.getD k cl).Op=5 then(if e=true then [(k:Int)+1]else [])else []
theorem Cm(l:List bz)(b e:Bool)(k:Nat):(adj l b e k).length≤2:=by
 unfold adj
 split
 ·simp
 ·split
  ·simp
  ·split
   ·split <;> simp
   ·split
    ·split <;> simp
    ·simp
inductive Rch (l:List bz) (at_:List Int) (b e:Bool):Int→Prop
 | base {i:Int}:i∈at_→0≤i→i<(l.length:Int)→Rch l at_ b e i
 | step {k j:Int}:Rch l at_ b e k→j∈adj l b e k.toNat→0≤j→j<(l.length:Int)→Rch l at_ b e j
theorem Rch.bd{l:List bz}{at_:List Int}{b e:Bool}{i:Int}(h:Rch l at_ b e i):0≤i∧i<(l.length:Int):=by
 cases h with
 | base _ h1 h2=>exact⟨h1,h2⟩
 | step _ _ h1 h2=>exact⟨h1,h2⟩
def St(l:List bz)(seen:List Bool)(out:List Int):Prop:=seen.length=l.length∧(∀ i:Nat,i<l.length→seen.getD i false=decide ((i:Int)∈out))∧(∀ x∈out,0≤x∧x<(l.length:Int))∧out.Nodup
theorem xH:∀ (f:List Bool) (k:Nat),k<f.length→f.getD k false=false→(f.set k true).count false+1=f.count false
 | [],k,h,_=>absurd h (by simp)
 | a::f,0,h,e=>by
  have:a=false:=e
  subst this
  rw[List.set_cons_zero,List.count_cons,List.count_cons];simp
 | a::f,k+1,h,e=>by
  have:=xH f k (by simpa using h) e
  rw[List.set_cons_succ,List.count_cons,List.count_cons];omega
def Mk(l:List bz)(at_:List Int)(b e:Bool)(f:List Bool)(todo:List Int):Prop:=f.length=l.length∧(∀ k:Nat,f.getD k false=true→Rch l at_ b e k)∧(∀ y∈todo,0≤y→y<(l.length:Int)→Rch l at_ b e y) ∧
 ∀ k:Nat,f.getD k false=true→∀ y∈adj l b e k,0≤y→y<(l.length:Int)→f.getD y.toNat false=true∨y∈todo
theorem KQ{l:List bz}(hl:l.length≤1000)(at_:List Int)(b e:Bool):∀ (d:Nat) (f:List Bool) (todo:List Int),3*f.count false+todo.length≤d→d≤100000→Mk l at_ b e f todo →
  ∃ f',eG l f b e todo=some (f',())∧Mk l at_ b e f' []∧(∀ k:Nat,f.getD k false=true→f'.getD k false=true)∧∀ y∈todo,0≤y→y<(l.length:Int)→f'.getD y.toNat false=true:=by
 intro d
 induction d with
 | zero =>
  intro f todo hd hd2 h
  have ht:todo=[]:=a7.1 (by omega)
  subst ht
  rw[wd,bn (by simp)]
  exact⟨f,rfl,h,fun k hk=>hk,fun y hy=>by cases hy⟩
 | succ d ih =>
  intro f todo hd hd2 h
  obtain⟨h1,h2,h3,h4⟩:=h
  by_cases ht:todo.length=0
  ·have ht:todo=[]:=a7.1 ht
   subst ht
   rw[wd,bn (by simp)]
   exact⟨f,rfl,⟨h1,h2,h3,h4⟩,fun k hk=>hk,fun y hy=>by cases hy⟩
  ·have w:w64 ((todo.length:Int)-1)=((todo.length-1:Nat):Int):=by rw[ar];omega
   have hlt:todo.length-1<todo.length:=by omega
   rw[wd,ap,w,al,al,dq hlt,af]
   have hsplit:todo=todo.take (todo.length-1)++[todo[todo.length-1]]:=wo (n:=todo.length-1) (by omega)
   have hrl:(todo.take (todo.length-1)).length=todo.length-1:=by rw[aQ];omega
   generalize todo.take (todo.length-1)=rest at hsplit hrl
   generalize todo[todo.length-1]=v at hsplit
   have hmem:∀ y,y∈todo↔y∈rest∨y=v:=fun y=>by rw[hsplit,aB,aK]
   have skip:(0≤v→v<(l.length:Int)→f.getD v.toNat false=true)→∃ f',eG l f b e rest=some (f',())∧Mk l at_ b e f' []∧(∀ k:Nat,f.getD k false=true→f'.getD k false=true)∧∀ y∈todo,0≤y→y<(l.length:Int)→f'.getD y.toNat false=true:=fun hv=>by
    obtain⟨f',e1,e2,e3,e4⟩:=ih f rest (by omega) (by omega) ⟨h1,h2,fun y hy=>h3 y ((hmem y).2 (.inl hy)),fun k hk y hy y0 y1=>by
     rcases h4 k hk y hy y0 y1 with h | h
     ·exact .inl h
     ·rcases(hmem y).1 h with h | h
      ·exact .inr h
      ·subst h;exact .inl (hv y0 y1)⟩
    refine⟨f',e1,e2,e3,fun y hy y0 y1=>?_⟩
    rcases(hmem y).1 hy with h | h
    ·exact e4 y h y0 y1
    ·subst h;exact e3 _ (hv y0 y1)
   by_cases c1:v≥(l.length:Int)
   ·rw[ak c1];exact skip fun _ h=>absurd h (by omega)
   rw[aj c1]
   by_cases c2:v<0
   ·rw[ak c2];exact skip fun h=>absurd h (by omega)
   rw[aj c2,al]
   by_cases c3:f.getD v.toNat false=true
   ·rw[bm c3];exact skip fun _ _=>c3
   rw[bn c3,al,al]
   have hvn:v.toNat<f.length:=by omega
   have hvr:Rch l at_ b e v:=h3 v ((hmem v).2 (.inr rfl)) (by omega) (by omega)
   have hcount:=xH f v.toNat hvn (by simpa using c3)
   have hw:w64 (v+1)=((v.toNat:Nat):Int)+1:=by rw[ar];omega
   have go:∃ f',eG l (f.set v.toNat true) b e (rest++adj l b e v.toNat)=some (f',())∧Mk l at_ b e f' []∧(∀ k:Nat,f.getD k false=true→f'.getD k false=true)∧∀ y∈todo,0≤y→y<(l.length:Int)→f'.getD y.toNat false=true:=by
    have hal:=Cm l b e v.toNat
    have hget:∀ k:Nat,(f.set v.toNat true).getD k false=true↔f.getD k false=true∨k=v.toNat:=fun k=>by
     by_cases hk:v.toNat=k
     ·subst hk;rw[DY hvn];simp
     ·rw[List.getD_eq_getElem?_getD,List.getElem?_set_ne hk,← List.getD_eq_getElem?_getD]
      exact⟨.inl,fun h=>h.elim id fun h=>absurd h.symm hk⟩
    obtain⟨f',e1,e2,e3,e4⟩:=ih (f.set v.toNat true) (rest++adj l b e v.toNat) (by rw[ag];omega) (by omega) ⟨by rw[aY];exact h1,fun k hk=>by
      rcases(hget k).1 hk with h | h
      ·exact h2 k h
      ·subst h;rw[Int.toNat_of_nonneg (by omega)];exact hvr,
     fun y hy y0 y1=>by
      rcases aB.1 hy with hy | hy
      ·exact h3 y ((hmem y).2 (.inl hy)) y0 y1
      ·exact .step hvr hy y0 y1,
     fun k hk y hy y0 y1=>by
      rcases(hget k).1 hk with h | h
      ·rcases h4 k h y hy y0 y1 with h | h
       ·exact .inl ((hget _).2 (.inl h))
       ·rcases(hmem y).1 h with h | h
        ·exact .inr (au _ h)
        ·exact .inl ((hget _).2 (.inr (by rw[h])))
      ·subst h;exact .inr (av _ hy)⟩
    refine⟨f',e1,e2,fun k hk=>e3 k ((hget k).2 (.inl hk)),fun y hy y0 y1=>?_⟩
    rcases(hmem y).1 hy with h | h
    ·exact e4 y (au _ h) y0 y1
    ·exact e3 _ ((hget _).2 (.inr (by rw[h])))
   have hnil:rest++[]=rest:=aI _
   unfold adj at go
   revert go
   generalize l.getD v.toNat cl=p
   intro go
   by_cases c6:p.Op=6
   ·rw[bm c6]at go
    rw[ak c6,bm (by rw[b7];omega)]
    exact go
   rw[bn c6]at go
   rw[aj c6]
   by_cases c7:p.Op=7
   ·rw[bm c7]at go
    rw[ak c7,bm (by rw[b7];omega)]
    exact go
   rw[bn c7]at go
   rw[aj c7]
   by_cases c4:p.Op=4
   ·rw[bm c4]at go
    rw[ak c4]
    cases b with
    | true =>
     rw[bm rfl]at go
     rw[bm rfl,bm (by rw[b7];omega),hw]
     exact go
    | false =>
     rw[bn (by decide),hnil]at go
     rw[bn (by decide)]
     exact go
   rw[bn c4]at go
   rw[aj c4]
   by_cases c5:p.Op=5
   ·rw[bm c5]at go
    rw[ak c5]
    cases e with
    | true =>
     rw[bm rfl]at go
     rw[bm rfl,bm (by rw[b7];omega),hw]
     exact go
    | false =>
     rw[bn (by decide),hnil]at go
     rw[bn (by decide)]
     exact go
   rw[bn c5,hnil]at go
   rw[aj c5]
   exact go
theorem Mq(f:List Bool)(hf:f.length≤1000):we f=some (eC f 0 f.length,()):=by
 have key:∀ (d i:Nat) (t:List Int),i+d=f.length→t.length≤i→l6 f t (i:Int)=some (t++eC f i d,()):=by
  intro d
  induction d with
  | zero =>
   intro i t hi ht
   rw[A9,aq]
   show _=some (t++[],())
   rw[aI]
  | succ d ih =>
   intro i t hi ht
   have hi':i<f.length:=by omega
   rw[A9,ap,al,cO hi' (by omega),af,show d+1=1+d by omega,IB]
   have hm:eC f i 1=if f.getD i false=true then [(i:Int)]else []:=by
    unfold eC
    rw[show List.range' i 1=[i]from rfl,List.filter_cons]
    split <;> rfl
   rw[hm]
   by_cases c:f.getD i false=true
   ·rw[bm c,bm c,bm (by rw[b7];omega)]
    have:=ih (i+1) (t++[(i:Int)]) (by omega) (by simp;omega)
    rw[ah]at this
    exact this
   ·rw[bn c,bn c,bg]
    exact ih (i+1) t (by omega) (by omega)
 rw[Mb]
 have:=key f.length 0 [] (by omega) (aH _)
 rwa [bg]at this
theorem KR{l:List bz}(hl:l.length≤1000)(at_:List Int)(hat:at_.length≤1000000)(b e:Bool):∃ f:List Bool,lP l at_ b e=some (eC f 0 l.length,())∧∀ k:Nat,k<l.length→(f.getD k false=true↔Rch l at_ b e k):=by
 have key:∀ (d i:Nat) (f:List Bool),i+d=at_.length→Mk l at_ b e f []→(∀ (j:Nat) (hj:j<at_.length),j<i→0≤at_[j]→at_[j]<(l.length:Int)→f.getD at_[j].toNat false=true) →
   ∃ g:List Bool,rl l at_ b e f (i:Int)=some (eC g 0 l.length,())∧∀ k:Nat,k<l.length→(g.getD k false=true↔Rch l at_ b e k):=by
  intro d
  induction d with
  | zero =>
   intro i f hi h ha
   obtain⟨h1,h2,h3,h4⟩:=h
   rw[Al,aq,Mq f (by omega),aa,h1]
   refine⟨f,rfl,fun k hk=>⟨h2 k,fun hx=>?_⟩⟩
   have all:∀ y:Int,Rch l at_ b e y→f.getD y.toNat false=true:=fun y hy=>by
    induction hy with
    | base g1 g2 g3 =>
     obtain⟨j,hj,rfl⟩:=bk.1 g1
     exact ha j hj (by omega) g2 g3
    | step g0 g1 g2 g3 ih =>
     rcases h4 _ ih _ g1 g2 g3 with h | h
     ·exact h
     ·cases h
   have:=all k hx
   rwa [af]at this
  | succ d ih =>
   intro i f hi h ha
   have hi':i<at_.length:=by omega
   obtain⟨h1,h2,h3,h4⟩:=h
   rw[Al,ap,al,dq hi',Ma]
   have hc:=List.count_le_length (a:=false) (l:=f)
   obtain⟨f',e1,e2,e3,e4⟩:=KQ hl at_ b e (3*f.count false+1) f [at_[i]] (by simp) (by omega) ⟨h1,h2,fun y hy y0 y1=>.base (by rw[aK.1 hy];exact aW hi') y0 y1,fun k hk y hy y0 y1=>(h4 k hk y hy y0 y1).imp id fun h=>by cases h⟩
   rw[e1,aa]
   dsimp only
   rw[cO hi' (by omega)]
   refine ih (i+1) f' (by omega) e2 fun j hj hji x0 x1=>?_
   by_cases hj':j=i
   ·subst hj';exact e4 _ (aK.2 rfl) x0 x1
   ·exact e3 _ (ha j hj (by omega) x0 x1)
 rw[J3,bm ⟨by omega,by omega,by rw[b7];omega⟩,af]
 have hno:∀ k:Nat,(List.replicate l.length false).getD k false=false:=fun k=>by
  rw[List.getD_eq_getElem?_getD,List.getElem?_replicate];split <;> rfl
 exact key at_.length 0 _ (by omega) ⟨a8,fun k hk=>(by rw[hno]at hk;cases hk),fun y hy=>(by cases hy),fun k hk=>(by rw[hno]at hk;cases hk)⟩ (fun j hj h=>absurd h (by omega))
def plB(p:bz)(n:Int):Bool :=
 if p.Op=1 then decide (0≤p.C∧p.C≤255)&&((decide (p.Set=[]) && !p.Not)&&(decide (p.A=0)&&decide (p.B=0)))
 else if p.Op=3 then decide (p.C=0)&&(decide (p.A=0)&&decide (p.B=0))
 else if p.Op=6 then decide (p.C=0)&&((decide (p.Set=[]) && !p.Not)&&(decide (0≤p.A∧p.A≤w64 (n-1))&&decide (p.B=0)))
 else if p.Op=7 then decide (p.C=0)&&((decide (p.Set=[]) && !p.Not)&&(decide (0≤p.A∧p.A≤w64 (n-1))&&decide (0≤p.B∧p.B≤w64 (n-1))))
 else if p.Op=2∨p.Op=4∨p.Op=5∨p.Op=8 then decide (p.C=0)&&((decide (p.Set=[]) && !p.Not)&&(decide (p.A=0)&&decide (p.B=0)))
 else false
theorem Mr(p:bz)(n:Int):wg p n=some (plB p n,()):=by
 rw[Mh]
 simp only[Mc,Md,Me,Mf,Mg,gk,aa]
 unfold plB
 generalize w64 (n-1)=m
 by_cases c1:p.Op=1
 ·by_cases hC:0≤p.C∧p.C≤255
  ·by_cases hs:p.Set=[] <;> by_cases hn:p.Not <;> by_cases hA:p.A=0 <;> by_cases hB:p.B=0 <;> simp[c1,hC,hs,hn,hA,hB]
  ·have hC':p.C≠0:=fun h=>hC (by omega)
   by_cases hs:p.Set=[] <;> by_cases hn:p.Not <;> by_cases hA:p.A=0 <;> by_cases hB:p.B=0 <;> simp[c1,hC,hC',hs,hn,hA,hB]
 by_cases hC:p.C=0
 ·by_cases c3:p.Op=3
  ·by_cases hA:p.A=0 <;> by_cases hB:p.B=0 <;> simp[c3,hC,hA,hB]
  by_cases c6:p.Op=6
  ·by_cases hs:p.Set=[] <;> by_cases hn:p.Not <;> by_cases hA:0≤p.A∧p.A≤m <;> by_cases hB:p.B=0 <;> simp[c6,hC,hs,hn,hA,hB]
  by_cases c7:p.Op=7
  ·by_cases hs:p.Set=[] <;> by_cases hn:p.Not <;> by_cases hA:0≤p.A∧p.A≤m <;> by_cases hB:0≤p.B∧p.B≤m <;> simp[c7,hC,hs,hn,hA,hB]
  by_cases c2:p.Op=2
  ·by_cases hs:p.Set=[] <;> by_cases hn:p.Not <;> by_cases hA:p.A=0 <;> by_cases hB:p.B=0 <;> simp[c2,hC,hs,hn,hA,hB]
  by_cases c4:p.Op=4
  ·by_cases hs:p.Set=[] <;> by_cases hn:p.Not <;> by_cases hA:p.A=0 <;> by_cases hB:p.B=0 <;> simp[c4,hC,hs,hn,hA,hB]
  by_cases c5:p.Op=5
  ·by_cases hs:p.Set=[] <;> by_cases hn:p.Not <;> by_cases hA:p.A=0 <;> by_cases hB:p.B=0 <;> simp[c5,hC,hs,hn,hA,hB]
  by_cases c8:p.Op=8
  ·by_cases hs:p.Set=[] <;> by_cases hn:p.Not <;> by_cases hA:p.A=0 <;> by_cases hB:p.B=0 <;> simp[c8,hC,hs,hn,hA,hB]
  have hno:¬ (1≤p.Op∧p.Op≤8):=by omega
  simp[c1,c2,c3,c4,c5,c6,c7,c8,hno]
 ·have e5:(decide (p.C=0))=false:=ae hC
  by_cases c3:p.Op=3
  ·simp[c3,hC]
  by_cases c6:p.Op=6
  ·simp[c6,hC]
  by_cases c7:p.Op=7
  ·simp[c7,hC]
  simp[c1,c3,c6,c7,hC]
theorem Cr(l:List Int)(c:Int):(l.any fun x=>decide (x=c))=decide (c∈l):=by
 cases h:decide (c∈l) with
 | true=>exact List.any_eq_true.2 ⟨c,of_decide_eq_true h,by simp⟩
 | false =>
  have h:=of_decide_eq_false h
  rw[← aU]
  intro e
  obtain⟨x,hx,e⟩:=List.any_eq_true.1 e
  exact h (by rw[← of_decide_eq_true e];exact hx)
theorem Mj(l:List Int)(c:Int)(hl:l.length≤4294967296):wh l c=some (decide (c∈l),()):=by
 rw[Mi]
 have h:=DG (fun i=>jz l c i) l.length (fun i=>decide (l.getD i 0=c)) (some (true,())) (some (false,()))
  (fun i hi=>by show jz l c _=_;rw[Ba,ap,al,dq hi,dJ hi,cO hi (by omega)])
  (by show jz l c _=_;rw[Ba,bn (by simp)])
 have h':jz l c 0=_:=h
 rw[h',wU l 0 (fun x=>decide (x=c)),Cr]
 by_cases d:c∈l
 ·rw[ac d,bm rfl]
 ·rw[ae d,bn (by decide)]
inductive R
 | err (e:Int)
 | stop
 | go (a:Int) (V:List bG) (C:List bo) (out:List Int) (st:List bG)
def cF(o:bw):Int :=
 if o.Code=4∨o.Code=5∨o.Code=6∨o.Code=9∨o.Code=24∨o.Code=26∨o.Code=27∨o.Code=28∨o.Code=31∨o.Code=32∨o.Code=33∨o.Code=35 then 1
 else if o.Code=7∨o.Code=8 then 2 else if o.Code=29 then o.N else if 12≤o.Code∧o.Code≤23 then 2 else 0
abbrev WTy:=bE×(List (List Int)×(List (List Int)×(List Int×(List (List Int)×(List Int×(Int×(Bool×Unit)))))))
def ClW(c:bo):Prop:=TW c.Key∧VW c.Val
def SW(nv:Nat)(s:bE):Prop:=(s.Vars.length=nv∧∀ v∈s.Vars,VW v)∧(s.Cells.length≤40∧∀ c∈s.Cells,ClW c)
def FW(line:List Int)(fs:List (List Int)):Prop:=(line.length≤1000∧Bt line)∧(fs.length≤2000∧∀ f∈fs,f.length≤1000∧Bt f)
def OW(o:List Int):Prop:=o.length≤600∧Bt o
def WW(nv:Nat)(x:WTy):Prop:=SW nv x.1∧FW x.2.2.2.1 x.2.2.2.2.1∧OW x.2.2.2.2.2.1
def StW(st:List bG):Prop:=st.length≤64∧∀ v∈st,VW v
theorem f7{nv:Nat}{s:bE}{vs:List (List Int)}{cs:List (List Int)}{line:List Int}{fs:List (List Int)}{out:List Int}{fuel:Int}{done:Bool}(hs:SW nv s)(hf:FW line fs)(ho:OW out)(e:Int):Tot (fA s vs cs line fs out fuel done e) (fun y=>WW nv y.1):=by
 rw[K5]
 exact ti (fun _=>ts ⟨hs,hf,ho⟩) (fun _=>ts ⟨hs,hf,ho⟩)
theorem sm{nv:Nat}{s:bE}{vs:List (List Int)}{cs:List (List Int)}{line:List Int}{fs:List (List Int)}{out:List Int}{fuel:Int}{done:Bool}(hs:SW nv s)(hf:FW line fs)(ho:OW out)(t:List Int)(ht:TW t):Tot (ko s vs cs line fs out fuel done t) (fun y=>WW nv y.1):=by
 rw[Lf]
 have h1:=ho.1
 have h2:=ht.1
 rw[ar]
 refine ti (fun _=>tb (f7 hs hf ho _) (fun _ h=>ts h)) (fun c=>tc (by omega) (ts ⟨hs,hf,?_,fun x hx=>?_⟩))
 ·rw[ab]at c
  show(out++t).length≤600
  rw[ag];omega
 ·rcases aB.1 hx with hx | hx
  ·exact ho.2 x hx
  ·exact ht.2 x hx
theorem j5{nv:Nat}{s:bE}{vs:List (List Int)}{cs:List (List Int)}{line:List Int}{fs:List (List Int)}{out:List Int}{fuel:Int}{done:Bool}(hs:SW nv s)(hf:FW line fs)(ho:OW out){st:List bG}(hst:StW st){v:bG}(hv:VW v):Tot (iH ⟨(),st⟩ s vs cs line fs out fuel done v) (fun y=>StW y.1.stack∧WW nv y.2.1):=by
 rw[Lk]
 refine ti (fun _=>tb (f7 hs hf ho _) (fun _ h=>ts ⟨hst,h⟩)) (fun c=>tc (by have:=hst.1;rw[b7];show st.length+1≤_;omega) (ts ⟨⟨?_,fun x hx=>?_⟩,hs,hf,ho⟩))
 ·rw[ab]at c
  have c':¬ (st.length:Int)=64:=c
  have:=hst.1
  show(st++[v]).length≤64
  rw[ag,bj];omega
 ·rcases aB.1 (show x∈st++[v]from hx)with hx | hx
  ·exact hst.2 x hx
  ·rw[aK.1 hx];exact hv
theorem uv{nv:Nat}{s:bE}{vs:List (List Int)}{cs:List (List Int)}{line:List Int}{fs:List (List Int)}{out:List Int}{fuel:Int}{done:Bool}(hs:SW nv s)(hf:FW line fs)(ho:OW out)(op a b:Int):Tot (lY s vs cs line fs out fuel done op a b) (fun y=>VW y.1∧WW nv y.2.1):=by
 have L1:∀ (n:Int) (ok:Bool),Tot (jv n ok (bI.mk s vs cs line fs out fuel done) cq) (fun y=>VW y.1∧WW nv y.2.1):=fun n ok=>by
  rw[La]
  exact ti (fun _=>tb (f7 hs hf ho _) (fun _ h=>tb (gV _) (fun _ q=>ts ⟨q,h⟩))) (fun _=>tb (gV _) (fun _ q=>ts ⟨q,hs,hf,ho⟩))
 rw[Lb]
 refine ti (fun _=>tb (Cl _ _) (fun _ _=>L1 _ _)) (fun _=>ti (fun _=>tb (MH _ _) (fun _ _=>L1 _ _)) (fun _=>ti (fun _=>tb (ID _ _) (fun _ _=>L1 _ _)) (fun _=>ti (fun _=>tb (f7 hs hf ho _) (fun _ h=>ts ⟨kD _ _,h⟩)) (fun c=>tb (Dk _ _) (fun _ _=>ti (fun _=>tc ?_ (L1 _ _)) (fun _=>L1 _ _))))))
 rw[ab]at c;exact c
theorem DC{nv:Nat}{s:bE}{vs:List (List Int)}{cs:List (List Int)}{line:List Int}{fs:List (List Int)}{out:List Int}{fuel:Int}{done:Bool}(hs:SW nv s)(hf:FW line fs)(ho:OW out){v:bG}(hv:VW v):Tot (vE s vs cs line fs out fuel done v) (fun y=>VW y.1∧WW nv y.2.1):=by
 rw[K6]
 refine tb (eE hv) (fun n _=>ti (fun _=>tb (uP hf.1.1 hf.1.2) (fun _ h=>ts ⟨h,hs,hf,ho⟩)) (fun c=>?_))
 rw[gk,aa]
 refine ti (fun _=>tb (uP (s:=[]) (by simp) (fun x hx=>by cases hx)) (fun _ h=>ts ⟨h,hs,hf,ho⟩)) (fun d=>?_)
 have d':1≤w64 (Int.tdiv n.1 1000000)∧w64 (Int.tdiv n.1 1000000)≤(fs.length:Int):=by simpa using d
 have hl:=hf.2.1
 rw[ar (n:=w64 (Int.tdiv n.1 1000000)-1)]
 have hi:(w64 (Int.tdiv n.1 1000000)-1).toNat<fs.length:=by omega
 refine tc (by omega) (tb (P:=fun y=>VW y.1) ?_ (fun _ h=>ts ⟨h,hs,hf,ho⟩))
 rw[dJ hi]
 have:=hf.2.2 _ (aW hi)
 exact uP this.1 this.2
theorem CW{nv:Nat}{s:bE}{vs:List (List Int)}{cs:List (List Int)}{line:List Int}{fs:List (List Int)}{out:List Int}{fuel:Int}{done:Bool}(hs:SW nv s)(hf:FW line fs)(ho:OW out){a b:bG}(ha:VW a)(hb:VW b):Tot (vD s vs cs line fs out fuel done a b) (fun y=>VW y.1∧WW nv y.2.1):=by
 rw[K3]
 refine tb (ey ha) (fun x hx=>tb (ey hb) (fun y hy=>tc (by have:=hx.1;have:=hy.1;omega) (ti (fun _=>tb (f7 hs hf ho _) (fun _ h=>ts ⟨kD _ _,h⟩)) (fun c=>ts ⟨⟨?_,fun z hz=>?_⟩,hs,hf,ho⟩))))
 ·rw[ab]at c
  show(x.1++y.1).length≤300
  omega
 ·rcases aB.1 (show z∈x.1++y.1 from hz)with hz | hz
  ·exact hx.2 z hz
  ·exact hy.2 z hz
theorem wZ{nv:Nat}{s:bE}(hs:SW nv s)(n:Int)(k:List Int):Tot (kd s n k) (fun y=>y.1<(s.Cells.length:Int)):=by
 have key:∀ (d i:Nat),i+d=s.Cells.length→Tot (gN n k (i:Int) s) (fun y=>y.1<(s.Cells.length:Int)):=by
  intro d
  have hl:=hs.2.1
  induction d with
  | zero =>
   intro i hd
   rw[rG,aq];exact ts (show(-1:Int)<_ by omega)
  | succ d ih =>
   intro i hd
   have hi:i<s.Cells.length:=by omega
   rw[rG,ap,al,cO hi (by omega)]
   exact ti (fun _=>tc (by omega) (ti (fun _=>ts (show(i:Int)<_ by omega)) (fun _=>ih (i+1) (by omega)))) (fun _=>ih (i+1) (by omega))
 rw[AF];exact key s.Cells.length 0 (by omega)
theorem kV{nv:Nat}{s:bE}(hs:SW nv s)(hn:nv≤100):gO s=some (s,()):=xG (by have:=hs.1.1;omega) (by have:=hs.2.1;omega)
theorem xK{nv:Nat}{s:bE}(hs:SW nv s)(i:Nat):ClW (s.Cells.getD i eA):=by
 by_cases c:i<s.Cells.length
 ·rw[dJ c];exact hs.2.2 _ (aW c)
 ·rw[List.getD_eq_getElem?_getD,List.getElem?_eq_none (by omega)];exact⟨pJ,pJ⟩
theorem yp{nv:Nat}{s:bE}(hs:SW nv s)(n:Int)(k:List Int):Tot (rh s n k) (fun y=>VW y.1):=by
 rw[J1]
 refine tb (wZ hs n k) (fun y hy=>ti (fun _=>ts (kD _ _)) (fun c=>?_))
 rw[ab]at c
 exact tc (by omega) (ts (xK hs _).2)
theorem Jp{nv:Nat}{s:bE}(hs:SW nv s)(hn:nv≤100)(n:Int){k:List Int}(hk:TW k){v:bG}(hv:VW v):Tot (ri s n k v) (fun y=>SW nv y.1):=by
 have hv1:=hs.1.1
 have hl:=hs.2.1
 rw[Jo s n k v (by omega) (by omega)]
 have hp:∀ C,lE s.Cells n k v=some C→C.length≤40∧∀ c∈C,ClW c:=by
  intro C hC
  unfold lE at hC
  split at hC
  ·cases hC
   refine⟨by rw[aY];exact hl,fun c hc=>?_⟩
   rcases List.mem_or_eq_of_mem_set hc with hc | rfl
   ·exact hs.2.2 c hc
   ·exact⟨(xK hs _).1,hv⟩
  ·split at hC
   ·cases hC
   ·cases hC
    have ins:∀ (p:Nat) (x:bo),ClW x→(jk s.Cells p [x]).length≤40∧∀ c∈jk s.Cells p [x],ClW c:=by
     intro p x hx
     unfold jk
     refine⟨?_,fun c hc=>?_⟩
     ·simp only[ag,aQ,aR,bj];omega
     ·rcases aB.1 hc with hc | hc
      ·exact hs.2.2 c (List.mem_of_mem_take hc)
      ·rcases aB.1 hc with hc | hc
       ·rw[aK.1 hc];exact hx
       ·exact hs.2.2 c (List.mem_of_mem_drop hc)
    exact ins _ _ ⟨hk,hv⟩
 cases e:lE s.Cells n k v with
 | none=>exact ts hs
 | some C=>exact ts ⟨hs.1,hp C e⟩
theorem Dp{nv:Nat}{s:bE}(hs:SW nv s)(hn:nv≤100)(n:Int)(k:List Int):Tot (u9 s n k) (fun y=>SW nv y.1):=by
 have hl:=hs.2.1
 rw[J0,kV hs hn,aa]
 refine tb (wZ hs n k) (fun y hy=>ti (fun c=>?_) (fun _=>ts hs))
 rw[ab]at c
 rw[ar (n:=y.1+1)]
 refine tc (by omega) (tc (by rw[b7,aQ];omega) (tc (by omega) (tc ?_ (ts ⟨hs.1,?_,fun c hc=>?_⟩))))
 ·show(List.take _ (List.drop 0 s.Cells)).length+_≤_
  rw[b7,aQ,aQ,aR,aR];omega
 ·show(List.take (y.1.toNat-0) (List.drop 0 s.Cells)++List.take _ (List.drop _ s.Cells)).length≤40
  rw[ag,aQ,aQ,aR,aR];omega
 ·rcases aB.1 (show c∈List.take (y.1.toNat-0) (List.drop 0 s.Cells)++List.take _ (List.drop _ s.Cells)from hc)with hc | hc
  ·exact hs.2.2 c (List.mem_of_mem_drop (List.mem_of_mem_take hc))
  ·exact hs.2.2 c (List.mem_of_mem_drop (List.mem_of_mem_take hc))
theorem xz{nv:Nat}{s:bE}{vs:List (List Int)}{cs:List (List Int)}{line:List Int}{fs:List (List Int)}{out:List Int}{fuel:Int}{done:Bool}(hs:SW nv s)(hn:nv≤100)(hf:FW line fs)(ho:OW out){st:List bG}(hst:StW st)(n:Int){k:List Int}(hk:TW k){v:bG}(hv:VW v):Tot (rN ⟨(),st⟩ s vs cs line fs out fuel done n k v) (fun y=>StW y.1.stack∧WW nv y.2.1):=by
 rw[Li]
 exact tb (Jp hs hn n hk hv) (fun y hy=>ti (fun _=>tb (f7 hs hf ho _) (fun _ h=>ts ⟨hst,h⟩)) (fun _=>tb (j5 hy hf ho hst hv) (fun _ h=>ts h)))
theorem IE{nv:Nat}{s:bE}{vs:List (List Int)}{cs:List (List Int)}{line:List Int}{fs:List (List Int)}{out:List Int}{fuel:Int}{done:Bool}(hs:SW nv s)(hn:nv≤100)(hf:FW line fs)(ho:OW out){st l:List bG}(hst:StW st)(hl:∀ v∈l,VW v){o:bw}(hN:(o.Code=3∨o.Code=4∨o.Code=5)→0≤o.N∧o.N<nv)
  (h1:(o.Code=4∨o.Code=5∨o.Code=6∨o.Code=35)→1≤l.length) (h2:(o.Code=7∨o.Code=8)→2≤l.length):Tot (vM ⟨(),st⟩ s vs cs line fs out fuel done o l) (fun y=>StW y.1.stack∧WW nv y.2.1):=by
 have hv1:=hs.1.1
 have setW:∀ {s':bE} (hs':SW nv s') (i:Nat) {v:bG},VW v→∀ (n e:Int),SW nv ⟨List.set s'.Vars i v,s'.Cells,n,e⟩:=fun {s'} hs' i {v} hv n e=>⟨⟨by rw[← hs'.1.1];exact aY,fun x hx=>by
  rcases List.mem_or_eq_of_mem_set hx with hx | rfl
  ·exact hs'.1.2 x hx
  ·exact hv⟩,hs'.2⟩
 rw[Lj]
 refine ti (fun c=>?_) (fun c3=>ti (fun c=>?_) (fun c4=>ti (fun c=>?_) (fun c5=>ti (fun c=>?_) (fun c6=>ti (fun c=>?_) (fun c7=>ti (fun c=>?_) (fun c8=>ti (fun c=>?_) (fun _=>ts ⟨hst,hs,hf,ho⟩)))))))
 ·rw[ab]at c
  have:=hN (.inl c)
  exact tc (by omega) (tb (j5 hs hf ho hst (cS hs.1.2 _)) (fun _ h=>ts h))
 ·rw[ab]at c
  have:=hN (.inr (.inl c))
  have:=h1 (.inl c)
  exact tc (by omega) (tc (by omega) (tc (by omega) (tb (j5 (setW hs _ (cS hl _) _ _) hf ho hst (cS hl _)) (fun _ h=>ts h))))
 ·rw[ab]at c
  have:=hN (.inr (.inr c))
  have:=h1 (.inr (.inl c))
  refine tc (by omega) (tb (eE (cS hs.1.2 _)) (fun _ _=>tc (by omega) (tb (eE (cS hl _)) (fun _ _=>tb (uv hs hf ho _ _ _) (fun y hy=>ti (fun _=>tc ?_ (tb (j5 (setW hy.2.1 _ hy.1 _ _) hy.2.2.1 hy.2.2.2 hst hy.1) (fun _ h=>ts h))) (fun _=>ts ⟨hst,hy.2⟩))))))
  have:=hy.2.1.1.1
  omega
 ·rw[ab]at c
  have:=h1 (.inr (.inr (.inl c)))
  exact tc (by omega) (tb (qO (cS hl _)) (fun k hk=>tb (yp hs _ _) (fun v hv=>tb (j5 hs hf ho hst hv) (fun _ h=>ts h))))
 ·rw[ab]at c
  have:=h2 (.inl c)
  exact tc (by omega) (tb (qO (cS hl _)) (fun k hk=>tc (by omega) (tb (xz hs hn hf ho hst _ hk (cS hl _)) (fun _ h=>ts h))))
 ·rw[ab]at c
  have:=h2 (.inr c)
  exact tc (by omega) (tb (qO (cS hl _)) (fun k hk=>tb (yp hs _ _) (fun v hv=>tb (eE hv) (fun _ _=>tc (by omega) (tb (eE (cS hl _)) (fun _ _=>tb (uv hs hf ho _ _ _) (fun y hy=>ti (fun _=>tb (xz hy.2.1 hn hy.2.2.1 hy.2.2.2 hst _ hk hy.1) (fun _ h=>ts h)) (fun _=>ts ⟨hst,hy.2⟩))))))))
 ·rw[ab]at c
  have:=h1 (.inr (.inr (.inr c)))
  exact tc (by omega) (tb (qO (cS hl _)) (fun k hk=>tb (Dp hs hn _ _) (fun v hv=>ts ⟨hst,hv,hf,ho⟩)))
theorem Ez(l:List Int)(c:Int):0≤di l c↔c∈l:=by
 induction l with
 | nil=>simp[di]
 | cons b l ih =>
  have:=yG l c
  unfold di
  rw[aL]
  by_cases hb:b=c
  ·rw[bm hb];simp[hb]
  ·rw[bn hb]
   have hb':¬ c=b:=fun h=>hb h.symm
   by_cases hi:di l c = -1
   ·rw[bm hi]
    constructor
    ·intro h;omega
    ·rintro (h | h)
     ·exact absurd h hb'
     ·have:=ih.2 h;omega
   ·rw[bn hi]
    constructor
    ·intro h;exact .inr (ih.1 (by omega))
    ·rintro (h | h)
     ·exact absurd h hb'
     ·have:=ih.2 h;omega
theorem Db(l:List Int)(c:Int):wF l [c]=some (decide (c∈l),()):=by
 rw[M9,Na,M5]
 rw[bn (by simp)]
 by_cases h:[c]=l
 ·rw[ak h]
  subst h
  simp
 ·rw[aj h,bm (by simp),bm (by simp),M4,M3]
  simp only[aa,List.getD_cons_zero,ge_iff_le,Ez]
theorem Mp(l:List Int)(hl:l.length≤9223372036854775807):s_l9Line l=some (!decide ((10:Int)∈l),()):=by
 rw[Mo]
 have key:∀ (d i:Nat),i+d=l.length→s_l9Line_L1 l i=some (!decide ((10:Int)∈l.drop i),()):=by
  intro d
  induction d with
  | zero =>
   intro i hd
   rw[Bc,aq,aX (by omega)];simp
  | succ d ih =>
   intro i hd
   have hi:i<l.length:=by omega
   rw[Bc,ap,al,dq hi,cO hi hl,ih (i+1) (by omega),ai hi]
   by_cases h:l[i]=10
   ·rw[ak h,h];simp
   ·rw[aj h]
    have h':¬ (10:Int)=l[i]:=fun e=>h e.symm
    simp only[aL,h',false_or]
 have:=key l.length 0 (by omega)
 simpa using this
def eU(c:bp):Bool :=
 if c.Who = -1 then decide (c.Seq=0)&&decide (c.Line=[])
 else decide (0≤c.Who∧c.Who≤2)&&(decide (1≤c.Seq∧c.Seq≤100000)&&(decide ((c.Line.length:Int)≤60) && !decide ((10:Int)∈c.Line)))
theorem Ew(l:List Int):tR l=some (decide ((l.length:Int)≤60) && !decide ((10:Int)∈l),()):=by
 rw[Ev]
 by_cases h:(l.length:Int)≤60
 ·rw[ak h,Db,aa,ac h];rfl
 ·rw[aj h,ae h];rfl
theorem D9(c:bp):tK c=some (eU c,()):=by
 rw[D8]
 unfold eU
 simp only[jh,Ew,aa,ab]
 by_cases h1:c.Who = -1
 ·simp only[bm h1]
  by_cases h2:c.Seq=0
  ·simp only[bm h2,ac h2,Bool.true_and]
  ·simp only[bn h2,ae h2,Bool.false_and]
 ·simp only[bn h1]
  by_cases h2:0≤c.Who∧c.Who≤2
  ·simp only[bm h2,ac h2,Bool.true_and]
   by_cases h3:1≤c.Seq∧c.Seq≤100000
   ·simp only[bm h3,ac h3,Bool.true_and]
   ·simp only[bn h3,ae h3,Bool.false_and]
  ·simp only[bn h2,ae h2,Bool.false_and]
theorem vb(c:bp)(hl:c.Line.length≤9223372036854775807):rm c=some (eU c,()):=by
 rw[J4]
 unfold eU
 simp only[gk,Mp _ hl,aa,ab]
 by_cases h1:c.Who = -1
 ·simp only[bm h1]
  by_cases h2:c.Seq=0
  ·simp only[bm h2,ac h2,Bool.true_and]
  ·simp only[bn h2,ae h2,Bool.false_and]
 ·simp only[bn h1]
  by_cases h2:0≤c.Who∧c.Who≤2
  ·simp only[bm h2,ac h2,Bool.true_and]
   by_cases h3:1≤c.Seq∧c.Seq≤100000
   ·simp only[bm h3,ac h3,Bool.true_and]
    by_cases h4:(c.Line.length:Int)≤60
    ·simp only[bm h4,ac h4,Bool.true_and]
    ·simp only[bn h4,ae h4,Bool.false_and]
   ·simp only[bn h3,ae h3,Bool.false_and]
  ·simp only[bn h2,ae h2,Bool.false_and]
theorem EJ(n:Int):qG n=some (decide (0≤n∧n≤300),()):=by rw[Er,jh];rfl
def g7(l:List bq):Prop:=∀ e∈l,e.C.Line.length≤9223372036854775807
def fZ(m:Int)(e:bq):Bool:=decide (0≤e.Term∧e.Term≤m)&&eU e.C
def f6(l:List bq)(m:Int):Bool:=decide ((l.length:Int)≤40)&&l.all (fZ m)
theorem LT(l:List bq)(m:Int)(hl:l.length≤4294967296)(hw:g7 l):wc l m=some (f6 l m,()):=by
 rw[LS]
 have key:∀ (d i:Nat),i+d=l.length→rY l m i=some ((l.drop i).all (fZ m)&&decide ((l.length:Int)≤40),()):=by
  intro d
  induction d with
  | zero =>
   intro i hd
   rw[A0,aq,aX (by omega)];rfl
  | succ d ih =>
   intro i hd
   have hi:i<l.length:=by omega
   have c:(0:Int)≤(i:Int)∧(i:Int)<(l.length:Int):=by omega
   rw[A0,ak c.2,dq hi,cO hi (by omega),ai hi]
   simp only[bm c,gk,vb _ (hw _ (aW hi)),aa]
   rw[ih (i+1) (by omega),List.all_cons]
   unfold fZ
   cases decide (0≤l[i].Term∧l[i].Term≤m) with
   | false=>rfl
   | true=>cases eU l[i].C <;> rfl
 have:=key l.length 0 (by omega)
 unfold f6
 rw[Bool.and_comm]
 simpa using this
theorem Em(e:bq)(m:Int):tO e m=some (!fZ m e,m,()):=by
 rw[El,jh,D9]
 unfold fZ
 simp only[aa]
 cases decide (0≤e.Term∧e.Term≤m) <;> rfl
theorem Eo(l:List bq)(m:Int)(hl:l.length≤4294967296):tN l m=some (f6 l m,()):=by
 have key:∀ (d i:Nat),i+d=l.length→∃ r,pN l (l.length:Int) i m=some (r,m,())∧(r≥0↔(l.drop i).all (fZ m)=false):=by
  intro d
  induction d with
  | zero =>
   intro i hd
   rw[B7,aq,aX (by omega)]
   exact⟨-1,rfl,by simp⟩
  | succ d ih =>
   intro i hd
   have hi:i<l.length:=by omega
   have c:(0:Int)≤(i:Int)∧(i:Int)<(l.length:Int):=by omega
   rw[B7,ak c.2,dq hi,cO hi (by omega),ai hi]
   simp only[bm c,Em,aa,List.all_cons]
   cases fZ m l[i] with
   | false=>exact⟨_,rfl,by simp⟩
   | true =>
    obtain⟨r,e1,e2⟩:=ih (i+1) (by omega)
    exact⟨r,by simpa using e1,by simpa using e2⟩
 obtain⟨r,e1,e2⟩:=key l.length 0 (by omega)
 rw[En]
 unfold f6
 by_cases h:(l.length:Int)≤40
 ·have e1':pN l (l.length:Int) 0 m=some (r,m,()):=e1
  rw[ak h,ac h,M6,M8,e1']
  simp only[aa,Bool.true_and]
  rw[aN]at e2
  cases hb:l.all (fZ m) with
  | false=>rw[ac (e2.2 hb)];rfl
  | true=>rw[ae (fun h=>by rw[e2.1 h]at hb;cases hb)];rfl
 ·rw[aj h,ae h];rfl
set_option linter.defProp false
def ba:=@Int.tdiv_eq_ediv_of_nonneg
def dc:Nat→Int→List Int
 | 0,n=>[n%256]
 | d+1,n=>if n>127 then(n%128+128)::dc d (n/128)else [n%256]
theorem Jn(d:Nat):∀ n:Int,(dc d n).length≤d+1:=by
 induction d with
 | zero=>intro n;simp[dc]
 | succ d ih =>
  intro n;unfold dc;split
  ·have:=ih (n/128);simp;omega
  ·simp
theorem jG(n:Int):w8 n=n%256:=IntKind.wrap_u8 n
theorem Mv{n:Int}(h:0≤n):dC .i64 n 7=n/128:=by
 show n.fdiv (2 ^ 7)=n/128
 rw[Int.fdiv_eq_ediv_of_nonneg n (by decide)];rfl
theorem Kz(d:Nat):∀ (n:Int) (out:List Int),0≤n→n<128 ^ (d+1)→n≤9223372036854775807→out.length+d≤1000→ry n out=some (out++dc d n,()):=by
 induction d with
 | zero =>
  intro n out h0 h1 h2 h3
  rw[AC,aj (by simp at h1;omega),bm (by rw[b7];omega),jG];rfl
 | succ d ih =>
  intro n out h0 h1 h2 h3
  rw[AC]
  unfold dc
  have c1:out.length+1≤room:=by rw[b7];omega
  by_cases h:n>127
  ·have e:=ih (n/128) (out++[n%128+128]) (by omega) (by rw[Int.pow_succ]at h1;omega) (by omega) (by simp;omega)
   rw[ah,List.singleton_append]at e
   rw[bm h,ak h,bm c1,ba h0,Int.tmod_eq_emod_of_nonneg h0,ar (n:=n/128),ar (n:=n%128+128),wB (n:=n%128+128) (by omega) (by omega)]
   exact e
  ·rw[bn h,aj h,bm c1,jG];rfl
theorem Ee(d:Nat):∀ (n:Int) (out:List Int),0≤n→n<128 ^ (d+1)→n≤9223372036854775807→out.length+d≤1000→qA n out=some (out++dc d n,()):=by
 induction d with
 | zero =>
  intro n out h0 h1 h2 h3
  rw[yw,aj (by simp at h1;omega),bm (by rw[b7];omega),jG];rfl
 | succ d ih =>
  intro n out h0 h1 h2 h3
  rw[yw]
  unfold dc
  have c1:out.length+1≤room:=by rw[b7];omega
  by_cases h:n>127
  ·have e:=ih (n/128) (out++[n%128+128]) (by omega) (by rw[Int.pow_succ]at h1;omega) (by omega) (by simp;omega)
   rw[ah,List.singleton_append]at e
   rw[bm h,ak h,bm c1,Mv h0,wS h0 (by omega),I2 (by omega) (by omega),wB (n:=n%128+128) (by omega) (by omega)]
   exact e
  ·rw[bn h,aj h,bm c1,jG];rfl
def bU(n:Int):List Int:=if 0≤n∧n≤4611686018427387903 then dc 8 n else []
theorem cB(n:Int):(bU n).length≤9:=by
 unfold bU;split
 ·exact Jn 8 n
 ·simp
theorem eL(n:Int):dH n=some (bU n,()):=by
 rw[KA,gk,aa]
 unfold bU
 by_cases h:0≤n∧n≤4611686018427387903
 ·rw[bm h,bn (by simp[h])]
  exact Kz 8 n [] h.1 (by have:=h.2;omega) (by omega) (by simp)
 ·rw[bn h,bm (by simp[h])]
theorem f8(n:Int):jf n=some (bU n,()):=by
 rw[Ef,jh,aa]
 unfold bU
 by_cases h:0≤n∧n≤4611686018427387903
 ·rw[bm h,bn (by simp[h])]
  exact Ee 8 n [] h.1 (by have:=h.2;omega) (by omega) (by simp)
 ·rw[bn h,bm (by simp[h])]
def cU(s:List Int):List Int:=bU s.length++s
theorem fx(s:List Int):(cU s).length≤9+s.length:=by
 unfold cU;rw[ag];have:=cB s.length;omega
theorem lU(s:List Int)(h:s.length≤4000000000):ju s=some (cU s,()):=by
 have:=cB s.length
 rw[KB,eL,aa]
 dsimp only
 rw[bm (by rw[b7];omega),bm (by rw[b7];omega)];rfl
theorem yx(s:List Int)(h:s.length≤4000000000):qB s=some (cU s,()):=by
 have:=cB s.length
 rw[Eg,f8,aa]
 dsimp only
 rw[bm (by rw[b7];omega)];rfl
def dE(b:List Int)(p:Int):Nat→Int→Int→Int×Int×Bool
 | 0,_,_=>(0,0,false)
 | d+1,n,k =>
  if p+k<(b.length:Int) then
   (let x:=b.getD (p+k).toNat 0
    let m:=bits .or .i64 n (cW .i64 (x%128) (7*k))
    if 127<x then dE b p d m (k+1)
    else if(x=0∧0<k)∨¬ (0≤m∧m≤4611686018427387903) then(0,0,false)
    else(m,p+k+1,true))
  else(0,0,false)
def tr3(x:Int×Int×Bool):Int×Int×Bool×Unit:=(x.1,x.2.1,x.2.2,())
theorem tg{b:List Int}(hw:∀ x∈b,0≤x∧x≤255){p:Int}(h0:0≤p)(h:p<(b.length:Int)):0≤b.getD p.toNat 0∧b.getD p.toNat 0≤255:=by
 rw[dJ (by omega)]
 exact hw _ (aW _)
theorem Kp(b:List Int)(hb:b.length≤1048576)(hw:∀ x∈b,0≤x∧x≤255)(p:Int)(hp:0≤p)(hp2:p≤(b.length:Int))(d:Nat):∀ (n k:Int),0≤k→k+d=9→rq b p n k=some (tr3 (dE b p d n k)):=by
 induction d with
 | zero =>
  intro n k h0 hd
  rw[vo,aq];rfl
 | succ d ih =>
  intro n k h0 hd
  have w1:w64 ((b.length:Int)-k)=(b.length:Int)-k:=ar
  have w2:w64 (p+k)=p+k:=ar
  have w3:w64 (7*k)=7*k:=ar
  have w4:w64 (k+1)=k+1:=ar
  have w5:w64 (p+k+1)=p+k+1:=ar
  rw[vo,ap,aq,w1,w2,w3,w4,w5]
  unfold dE
  by_cases h:p+k<(b.length:Int)
  ·have hx:=tg hw (show 0≤p+k by omega) h
   have w6:w64 (b.getD (p+k).toNat 0)=b.getD (p+k).toNat 0:=ar
   have t1:Int.tmod (b.getD (p+k).toNat 0) 128=b.getD (p+k).toNat 0%128:=Int.tmod_eq_emod_of_nonneg hx.1
   rw[aq,al,al,bm h,w6,t1]
   dsimp only
   generalize hm:bits .or .i64 n (cW .i64 (b.getD (p+k).toNat 0%128) (7*k))=m
   by_cases h2:127<b.getD (p+k).toNat 0
   ·rw[bm h2,aq]
    exact ih m (k+1) (by omega) (by omega)
   ·rw[bn h2,ap]
    simp only[ab]
    split
    ·split
     ·rw[al];rfl
     ·split
      ·rw[al];rfl
      ·split
       ·rw[al];rfl
       ·rw[am];rfl
    ·split
     ·rw[al];rfl
     ·split
      ·rw[al];rfl
      ·rw[am];rfl
  ·rw[bn h,ap];rfl
theorem Ea(b:List Int)(hb:b.length≤1048576)(hw:∀ x∈b,0≤x∧x≤255)(p:Int)(hp:0≤p)(hp2:p≤(b.length:Int))(d:Nat):∀ (n k:Int),0≤k→k+d=9→qz b p n k=some (tr3 (dE b p d n k)):=by
 induction d with
 | zero =>
  intro n k h0 hd
  rw[yv,aq];rfl
 | succ d ih =>
  intro n k h0 hd
  have w2:w64 (p+k)=p+k:=ar
  have w3:w64 (7*k)=7*k:=ar
  have w4:w64 (k+1)=k+1:=ar
  have w5:w64 (p+k+1)=p+k+1:=ar
  rw[yv,ap,w2,w3,w4,w5]
  unfold dE
  by_cases h:p+k<(b.length:Int)
  ·have hx:=tg hw (show 0≤p+k by omega) h
   have w6:w64 (b.getD (p+k).toNat 0)=b.getD (p+k).toNat 0:=ar
   have t1:bits .and .i64 (b.getD (p+k).toNat 0) 127=b.getD (p+k).toNat 0%128:=wS hx.1 (by omega)
   rw[ak h,al,al,bm h,w6,t1]
   dsimp only
   generalize hm:bits .or .i64 n (cW .i64 (b.getD (p+k).toNat 0%128) (7*k))=m
   by_cases h2:127<b.getD (p+k).toNat 0
   ·rw[bm h2,ap]
    exact ih m (k+1) (by omega) (by omega)
   ·rw[bn h2,aq]
    simp only[ab,jh,aa,Bool.not_eq_true',decide_eq_false_iff_not]
    split
    ·split
     ·rw[al];rfl
     ·split
      ·rw[al];rfl
      ·rw[am];rfl
    ·split
     ·rw[al];rfl
     ·rw[am];rfl
  ·rw[bn h,aq];rfl
def cz(b:List Int)(p:Int):Int×Int×Bool:=if 0≤p∧p≤(b.length:Int)then dE b p 9 0 0 else(0,0,false)
theorem ik(b:List Int)(hb:b.length≤1048576)(hw:∀ x∈b,0≤x∧x≤255)(p:Int):fm b p=some (tr3 (cz b p)):=by
 rw[Eb,jh,aa]
 unfold cz
 by_cases h:0≤p∧p≤(b.length:Int)
 ·rw[bm h,bn (by simp[h])];exact Ea b hb hw p h.1 h.2 9 0 0 (by omega) (by omega)
 ·rw[bn h,bm (by simp[h])];rfl
theorem vt(b:List Int)(hb:b.length≤1048576)(hw:∀ x∈b,0≤x∧x≤255)(p:Int)(hp:-9223372036854775808≤p∧p≤9223372036854775807):lR b p=some (tr3 (cz b p)):=by
 rw[Kq]
 unfold cz
 by_cases h:0≤p∧p≤(b.length:Int)
 ·rw[bm h];exact Kp b hb hw p h.1 h.2 9 0 0 (by omega) (by omega)
 ·rw[bn h,vo,bm (by decide)]
  by_cases h1:p<0
  ·rw[bm (by simp[h1])];rfl
  ·rw[bn (by simp[h1]),ar,ap];rfl
theorem DZ(b:List Int)(p:Int)(hp:0≤p)(hp2:p≤(b.length:Int))(d:Nat):∀ n k:Int,0≤k→k+d=9→0≤(dE b p d n k).1∧(dE b p d n k).1≤4611686018427387903∧0≤(dE b p d n k).2.1∧(dE b p d n k).2.1≤(b.length:Int):=by
 induction d with
 | zero=>intro n k h0 hd;simp[dE]
 | succ d ih =>
  intro n k h0 hd
  unfold dE
  split
  ·dsimp only;split
   ·exact ih _ _ (by omega) (by omega)
   ·split
    ·simp
    ·rename_i h1 _ h2
     dsimp only;omega
  ·simp
theorem gE(b:List Int)(p:Int):0≤(cz b p).1∧(cz b p).1≤4611686018427387903∧0≤(cz b p).2.1∧(cz b p).2.1≤(b.length:Int):=by
 unfold cz;split
 ·rename_i h;exact DZ b p h.1 h.2 9 0 0 (by omega) (by omega)
 ·simp
theorem qU{n y:Int}{k:Nat}(h0:0≤n)(h1:n<128 ^ k)(y0:0≤y)(y1:y<128)(hk:k≤8):bits .or .i64 n (cW .i64 y (7*(k:Int)))=n+y*128 ^ k:=by
 obtain⟨a,rfl⟩:=Int.eq_ofNat_of_zero_le h0
 obtain⟨c,rfl⟩:=Int.eq_ofNat_of_zero_le y0
 have e128:(128:Nat) ^ k=2 ^ (7*k):=by rw[Nat.pow_mul]
 have ha:a<2 ^ (7*k):=by rw[← e128];exact_mod_cast h1
 have hc:c<128:=by omega
 have hp:2 ^ (7*k)*c+a<2 ^ 63:=by
  have h1:2 ^ (7*k)*c+a<2 ^ (7*k)*128:=by
   have:2 ^ (7*k)*c+2 ^ (7*k)≤2 ^ (7*k)*128:=by
    rw[← Nat.mul_succ];exact Nat.mul_le_mul_left _ (by omega)
   omega
  have h2:2 ^ (7*k)*128=2 ^ (7*k+7):=by rw[Nat.pow_add]
  have h3:(2:Nat) ^ (7*k+7)≤2 ^ 63:=Nat.pow_le_pow_right (by omega) (by omega)
  omega
 have hcp:c*2 ^ (7*k)<2 ^ 63:=by rw[Nat.mul_comm];omega
 have hs:cW .i64 (c:Int) (7*(k:Int))=((c*2 ^ (7*k):Nat):Int):=by
  unfold cW
  have ht:(7*(k:Int)).toNat=7*k:=by omega
  have hm:min (7*(k:Int)).toNat IntKind.i64.bits=7*k:=by rw[ht];show min (7*k) 64=7*k;omega
  rw[hm]
  have e:(c:Int)*2 ^ (7*k)=((c*2 ^ (7*k):Nat):Int):=by rw[Int.natCast_mul,Int.natCast_pow];rfl
  rw[e]
  have e2:(2:Nat) ^ 63=9223372036854775808:=by decide
  exact bW (by omega) (by have:=hcp;omega)
 rw[hs]
 have hb:=(bits_nat .i64 63 (by decide) (wD 63 (by omega)) a (c*2 ^ (7*k)) (by omega) hcp).2
 rw[hb,Nat.or_comm,Nat.mul_comm,← Nat.two_pow_add_eq_or_of_lt ha c,Int.natCast_add,Int.natCast_mul,Int.natCast_pow,Int.add_comm,Int.mul_comm]
 congr 2
 rw[Int.pow_mul];rfl
theorem Dn{b:List Int}{p:Int}(h0:0≤p)(h:p<(b.length:Int)):b.drop p.toNat=b.getD p.toNat 0::b.drop (p+1).toNat:=by
 rw[ai (show p.toNat<b.length by omega),dJ (by omega),show(p+1).toNat=p.toNat+1 by omega]
theorem qX(d:Nat){n:Int}(h:n>127):dc (d+1) n=(n%128+128)::dc d (n/128):=by show(if n>127 then _ else _)=_;rw[bm h]
theorem D0(b:List Int)(hw:∀ x∈b,0≤x∧x≤255)(p:Int)(hp:0≤p)(hp2:p≤(b.length:Int))(v q:Int):∀ (d k:Nat) (n:Int),k+d=9→0≤n→n<128 ^ k→dE b p d n k=(v,q,true) →
  ∃ w,0≤w∧v=n+w*128 ^ k∧p+k<q∧q≤(b.length:Int)∧(b.drop (p+k).toNat).take (q-(p+k)).toNat=dc (d-1) w∧(0<k→0<w):=by
 intro d
 induction d with
 | zero=>intro k n hd h0 h1 h;simp[dE]at h
 | succ d ih =>
  intro k n hd h0 h1 h
  unfold dE at h
  by_cases hlt:p+k<(b.length:Int)
  ·rw[bm hlt]at h
   dsimp only at h
   have hx:=tg hw (show 0≤p+k by omega) hlt
   have hdr:=Dn (b:=b) (p:=p+k) (by omega) hlt
   generalize b.getD (p+k).toNat 0=x at h hx hdr
   rw[qU h0 h1 (by omega) (by omega) (by omega)]at h
   by_cases h2:127<x
   ·rw[bm h2]at h
    have hpow:(0:Int)<128 ^ k:=Int.pow_pos (by omega)
    have hps:(128:Int) ^ (k+1)=128 ^ k*128:=Int.pow_succ ..
    obtain⟨w,w0,e1,e2,e3,e4,e5⟩:=ih (k+1) (n+x%128*128 ^ k) (by omega) (Int.add_nonneg h0 (Int.mul_nonneg (by omega) (by omega))) (by
     have:x%128*128 ^ k≤127*128 ^ k:=Int.mul_le_mul_of_nonneg_right (by omega) (by omega)
     rw[hps];omega) (by rw[show((k+1:Nat):Int)=(k:Int)+1 by omega];exact h)
    have w5:=e5 (by omega)
    rw[show p+((k+1:Nat):Int)=p+k+1 by omega]at e2 e4
    refine⟨x%128+128*w,by omega,?_,by omega,e3,?_,fun _=>by omega⟩
    ·rw[e1,hps,Int.add_mul,Int.add_assoc,Int.mul_assoc 128 w,Int.mul_comm 128 (w*128 ^ k),Int.mul_assoc w]
    ·rw[hdr,show(q-(p+k)).toNat=(q-(p+k+1)).toNat+1 by omega,List.take_succ_cons,e4]
     cases d with
     | zero=>simp[dE]at h
     | succ d =>
      show _=dc (d+1) _
      rw[qX _ (by omega),show(x%128+128*w)%128+128=x by omega,show(x%128+128*w)/128=w by omega]
      rfl
   ·rw[bn h2]at h
    by_cases h3:(x=0∧(0:Int)<k)∨¬ (0≤n+x%128*128 ^ k∧n+x%128*128 ^ k≤4611686018427387903)
    ·rw[bm h3]at h;simp at h
    ·rw[bn h3]at h
     simp only[Prod.mk.injEq,and_true]at h
     obtain⟨e1,e2⟩:=h
     have hxm:x%128=x:=by omega
     refine⟨x,hx.1,by rw[← e1,hxm],by omega,by omega,?_,fun hk=>by omega⟩
     rw[hdr,show(q-(p+k)).toNat=0+1 by omega,List.take_succ_cons,List.take_zero]
     cases d with
     | zero=>show _=[x%256];rw[show x%256=x by omega]
     | succ d =>
      show _=dc (d+1) x
      unfold dc
      rw[am,show x%256=x by omega]
  ·rw[bn hlt]at h;simp at h
theorem lz(b:List Int)(hw:∀ x∈b,0≤x∧x≤255)(p v q:Int)(h:cz b p=(v,q,true)):0≤p∧p<q∧q≤(b.length:Int)∧b.take q.toNat=b.take p.toNat++bU v∧0≤v∧v≤4611686018427387903:=by
 have hbd:=gE b p
 unfold cz at h hbd
 by_cases hc:0≤p∧p≤(b.length:Int)
 ·rw[bm hc]at h hbd
  rw[h]at hbd
  obtain⟨w,w0,e1,e2,e3,e4,_⟩:=D0 b hw p hc.1 hc.2 v q 9 0 0 rfl (by omega) (by simp) h
  have ev:v=w:=by rw[e1];simp
  have hv:0≤v∧v≤4611686018427387903:=⟨hbd.1,hbd.2.1⟩
  refine⟨hc.1,by omega,e3,?_,hv.1,hv.2⟩
  have e4':(b.drop p.toNat).take (q-p).toNat=dc 8 w:=by simpa using e4
  have ep:bU v=dc 8 w:=by unfold bU;rw[bm hv,ev]
  rw[ep,← e4',show q.toNat=p.toNat+(q-p).toNat by omega,List.take_add]
 ·rw[bn hc]at h;simp at h
def Bytes(b:List Int):Prop:=∀ x∈b,0≤x∧x≤255
def dP(b:List Int)(p:Int):List Int×Int×Bool :=
 if(cz b p).2.2=true∧(cz b p).1≤(b.length:Int)-(cz b p).2.1 then((b.drop (cz b p).2.1.toNat).take (cz b p).1.toNat,(cz b p).2.1+(cz b p).1,true) else([],0,false)
def trT(x:List Int×Int×Bool):List Int×Int×Bool×Unit:=(x.1,x.2.1,x.2.2,())
theorem BF(b:List Int)(g:Int×Int×Bool)(h1:0≤g.1)(h2:g.1≤4611686018427387903)(h3:0≤g.2.1)(h4:g.2.1≤(b.length:Int))(hb:b.length≤1048576) :
  (if(!g.2.2)=true then some (([]:List Int),(0:Int),false,())else if(decide (g.1>w64 ((b.length:Int)-g.2.1)))=true then some ([],0,false,()) else
   if(0:Int)≤g.2.1∧g.2.1≤w64 (g.2.1+g.1)∧w64 (g.2.1+g.1)≤(b.length:Int)then some (List.take ((w64 (g.2.1+g.1)).toNat-g.2.1.toNat) (List.drop g.2.1.toNat b),w64 (g.2.1+g.1),true,())else none) =
  some (trT (if g.2.2=true∧g.1≤(b.length:Int)-g.2.1 then((b.drop g.2.1.toNat).take g.1.toNat,g.2.1+g.1,true) else([],0,false))):=by
 obtain⟨n,q,ok⟩:=g
 dsimp only at *
 cases ok with
 | false=>simp[trT]
 | true =>
  rw[ar (n:=(b.length:Int)-q),ar (n:=q+n)]
  simp only[Bool.not_true,Bool.false_eq_true,if_false,true_and,ab]
  by_cases h:n>(b.length:Int)-q
  ·rw[bm h,am];rfl
  ·rw[bn h,al,al,show(q+n).toNat-q.toNat=n.toNat by omega];rfl
theorem Ks(b:List Int)(hb:b.length≤1048576)(hw:Bytes b)(p:Int)(hp:-9223372036854775808≤p∧p≤9223372036854775807):vu b p=some (trT (dP b p)):=by
 obtain⟨h1,h2,h3,h4⟩:=gE b p
 rw[Kr,vt b hb hw p hp,aa]
 exact BF b (cz b p) h1 h2 h3 h4 hb
theorem Ed(b:List Int)(hb:b.length≤1048576)(hw:Bytes b)(p:Int):tL b p=some (trT (dP b p)):=by
 obtain⟨h1,h2,h3,h4⟩:=gE b p
 rw[Ec,ik b hb hw p,aa]
 exact BF b (cz b p) h1 h2 h3 h4 hb
theorem wy(b:List Int)(hw:Bytes b)(p q:Int)(t:List Int)(h:dP b p=(t,q,true)):0≤p∧p<q∧q≤(b.length:Int)∧b.take q.toNat=b.take p.toNat++cU t∧t.length≤b.length:=by
 unfold dP at h
 have hbd:=gE b p
 cases hg:cz b p with | mk n mo =>
 obtain⟨m,ok⟩:=mo
 rw[hg]at h hbd
 dsimp only at h hbd
 by_cases hc:ok=true∧n≤(b.length:Int)-m
 ·obtain⟨rfl,hc2⟩:=hc
  rw[bm ⟨rfl,hc2⟩]at h
  simp only[Prod.mk.injEq,and_true]at h
  obtain⟨rfl,rfl⟩:=h
  obtain⟨c1,c2,c3,c4,c5,c6⟩:=lz b hw p n m hg
  have hl:((b.drop m.toNat).take n.toNat).length=n.toNat:=by rw[aQ,aR];omega
  refine⟨c1,by omega,by omega,?_,by rw[hl];omega⟩
  rw[show(m+n).toNat=m.toNat+n.toNat by omega,List.take_add,c4,ah]
  unfold cU
  rw[hl,show((n.toNat:Nat):Int)=n by omega]
 ·rw[bn hc]at h;simp at h
theorem tu{b r:List Int}{n:Nat}{x:Int}(h:b.drop n=x::r):n<b.length∧b.getD n 0=x∧b.drop (n+1)=r:=by
 have hl:n<b.length:=by
  have:=congrArg List.length h
  rw[aR]at this
  simp only[aS]at this
  omega
 rw[ai hl]at h
 simp only[List.cons.injEq]at h
 exact⟨hl,by rw[dJ hl];exact h.1,h.2⟩
theorem yn(b:List Int)(p:Int)(hp:0≤p):∀ (d k:Nat) (acc w:Int) (rest:List Int),k+d=8→b.drop (p+k).toNat=dc d w++rest→0≤w→w<128 ^ (d+1)→0≤acc→acc<128 ^ k→(0<k→0<w)→acc+w*128 ^ k≤4611686018427387903 →
  dE b p (d+1) acc k=(acc+w*128 ^ k,p+k+(dc d w).length,true):=by
 intro d
 induction d with
 | zero =>
  intro k acc w rest hd hb w0 w1 a0 a1 hk hm
  have w1':w<128:=by simpa using w1
  have hb':b.drop (p+k).toNat=(w%256)::rest:=hb
  obtain⟨g1,g2,g3⟩:=tu hb'
  rw[show w%256=w by omega]at g2
  unfold dE
  have hpow:(0:Int)≤w*128 ^ k:=Int.mul_nonneg w0 (Int.le_of_lt (Int.pow_pos (by omega)))
  rw[al,g2]
  dsimp only
  rw[show w%128=w by omega,qU a0 a1 w0 w1' (by omega),am,bn (by rintro (h | h) <;> omega)]
  rfl
 | succ d ih =>
  intro k acc w rest hd hb w0 w1 a0 a1 hk hm
  by_cases h:w>127
  ·rw[qX d h]at hb
   obtain⟨g1,g2,g3⟩:=tu hb
   have hpow:(0:Int)<128 ^ k:=Int.pow_pos (by omega)
   have hps:(128:Int) ^ (k+1)=128 ^ k*128:=Int.pow_succ ..
   have hwd:w*128 ^ k=w%128*128 ^ k+w/128*(128 ^ k*128):=by
    have e:w=w%128+128*(w/128):=by omega
    have e2:w*128 ^ k=(w%128+128*(w/128))*128 ^ k:=by rw[← e]
    rw[e2,Int.add_mul,Int.mul_comm (128 ^ k) 128,← Int.mul_assoc,Int.mul_comm 128 (w/128)]
   have hmm:w%128*128 ^ k≤127*128 ^ k:=Int.mul_le_mul_of_nonneg_right (by omega) (by omega)
   have hnn:0≤w%128*128 ^ k:=Int.mul_nonneg (by omega) (by omega)
   have e:=ih (k+1) (acc+w%128*128 ^ k) (w/128) rest (by omega) (by rw[show(p+((k+1:Nat):Int)).toNat=(p+k).toNat+1 by omega];exact g3) (by omega) (by rw[Int.pow_succ]at w1;omega) (by omega) (by rw[hps];omega) (fun _=>by omega) (by rw[hps];omega)
   have hp2:dc (d+1) w=(w%128+128)::dc d (w/128):=qX d h
   rw[dE,al,g2]
   dsimp only
   rw[show(w%128+128)%128=w%128 by omega,qU a0 a1 (by omega) (by omega) (by omega),al,show(k:Int)+1=((k+1:Nat):Int) by omega,e,hp2,hps,Int.add_assoc,← hwd]
   simp only[aS,Prod.mk.injEq,and_true,true_and]
   omega
  ·have hp2:dc (d+1) w=[w%256]:=by show(if w>127 then _ else _)=_;rw[bn h]
   rw[hp2]at hb
   obtain⟨g1,g2,g3⟩:=tu hb
   rw[show w%256=w by omega]at g2
   have hpow:(0:Int)≤w*128 ^ k:=Int.mul_nonneg w0 (Int.le_of_lt (Int.pow_pos (by omega)))
   rw[dE,al,g2]
   dsimp only
   rw[show w%128=w by omega,qU a0 a1 w0 (by omega) (by omega),am,bn (by rintro (h | h) <;> omega),hp2]
   rfl
theorem Jm(d:Nat):∀ n:Int,0≤n→∀ x∈dc d n,0≤x∧x≤255:=by
 induction d with
 | zero=>intro n h x hx;rw[aK.1 (show x∈[n%256]from hx)];omega
 | succ d ih =>
  intro n h x hx
  by_cases hb:n>127
  ·rw[qX d hb]at hx
   rcases aL.1 hx with rfl | hx
   ·omega
   ·exact ih _ (by omega) x hx
  ·have hp2:dc (d+1) n=[n%256]:=by show(if n>127 then _ else _)=_;rw[bn hb]
   rw[hp2]at hx
   rw[aK.1 hx];omega
theorem Jl(n:Int):Bytes (bU n):=by
 unfold bU
 split
 ·rename_i h;exact Jm 8 n h.1
 ·intro x hx;cases hx
def zig(n:Int):Int:=if n<0 then -2*n-1 else 2*n
def InZ(n:Int):Prop:=-2305843009213693951≤n∧n≤2305843009213693951
instance (n:Int):Decidable (InZ n):=inferInstanceAs (Decidable (_∧_))
def jr(n:Int):List Int:=if InZ n then bU (zig n)else []
theorem Ky(n:Int):vx n=some (jr n,()):=by
 rw[Kx,gk,aa]
 unfold jr
 by_cases h:InZ n
 ·have hh:=h
  unfold InZ at hh
  rw[bm h,bn (by simp[hh])]
  unfold zig
  by_cases h2:n<0
  ·rw[ak h2,bm h2,ar (n:=-2*n),ar,eL];rfl
  ·rw[aj h2,bn h2,ar,eL];rfl
 ·have hh:=h
  unfold InZ at hh
  rw[bn h,bm (by simp[hh])]
theorem tG{α β ρ:Type}(F:β→Int→Option ρ)(g:β→α→β)(l:List α)(P:Nat→β→Prop)
  (step:∀ (i:Nat) (h:i<l.length) (acc:β),P i acc→F acc i=F (g acc l[i]) ((i+1:Nat):Int)∧P (i+1) (g acc l[i])) (acc:β) (h0:P 0 acc) :
  F acc 0=F (l.foldl g acc) (l.length:Int)∧P l.length (l.foldl g acc):=by
 have key:∀ (d i:Nat) (acc:β),i+d=l.length→P i acc→F acc i=F ((l.drop i).foldl g acc) (l.length:Int)∧P l.length ((l.drop i).foldl g acc):=by
  intro d
  induction d with
  | zero =>
   intro i acc hd hp
   have hi:i=l.length:=by omega
   subst hi
   rw[List.drop_length];exact⟨rfl,hp⟩
  | succ d ih =>
   intro i acc hd hp
   have hi:i<l.length:=by omega
   obtain⟨e1,e2⟩:=step i hi acc hp
   rw[e1,ai hi,List.foldl_cons]
   exact ih (i+1) _ (by omega) e2
 exact key l.length 0 acc (by omega) h0
theorem zG(n:Int):(jr n).length≤9:=by
 unfold jr
 split
 ·exact cB _
 ·simp
def iM(v:bG):List Int:=(bU v.Kind++jr v.N)++cU v.S
theorem sx(v:bG):(iM v).length≤27+v.S.length:=by
 unfold iM
 have h1:=cB v.Kind
 have h2:=zG v.N
 have h3:=fx v.S
 rw[ag,ag];omega
theorem im{α:Type}(a b:List α):(List.append a b).length=a.length+b.length:=ag
theorem AU(v:bG)(h:v.S.length≤2097152):rS v=some (iM v,()):=by
 have h1:=cB v.Kind
 have h2:=zG v.N
 have h3:=fx v.S
 rw[LL,eL,Ky,lU _ (by omega),aa,aa]
 dsimp only
 rw[bm (by rw[b7];omega),aa,bm (by rw[b7,im];dsimp only;omega)]
 rfl
def i5(a:List Int)(v:bG):List Int:=a++iM v
def iZ(a:List Int)(c:bo):List Int:=((a++bU c.Name)++cU c.Key)++iM c.Val
def jO(a:List Int)(n:Int):List Int:=a++bU n
def ib(m:bt):List Int:=m.State.Vars.foldl i5 (bU (m.State.Vars.length:Int))++bU (m.State.Cells.length:Int)
def ia(m:bt):List Int:=((m.State.Cells.foldl iZ (ib m))++bU m.State.Nr)++bU m.State.Err
def jo(m:bt):List Int:=m.Done.foldl jO (ia m)++cU m.Out
def kL(m:bt):Prop :=
 m.State.Vars.length≤8∧(∀ v∈m.State.Vars,v.S.length≤300)∧m.State.Cells.length≤40∧(∀ c∈m.State.Cells,c.Key.length≤300∧c.Val.S.length≤300)∧m.Done.length=3∧m.Out.length≤1500
theorem DQ(l:List bG)(h:∀ v∈l,v.S.length≤300):∀ acc:List Int,(l.foldl i5 acc).length≤acc.length+327*l.length:=by
 induction l with
 | nil=>intro acc;simp
 | cons v l ih =>
  intro acc
  have h1:=ih (fun x hx=>h x (aF _ hx)) (i5 acc v)
  have h2:=sx v
  have h3:=h v (aE ..)
  have h4:(i5 acc v).length=acc.length+(iM v).length:=by unfold i5;rw[ag]
  rw[List.foldl_cons,aS];omega
theorem wO(a:List Int)(c:bo)(h:c.Key.length≤300∧c.Val.S.length≤300):(iZ a c).length≤a.length+645:=by
 unfold iZ
 have h1:=cB c.Name
 have h2:=fx c.Key
 have h3:=sx c.Val
 rw[ag,ag,ag];omega
theorem DP(l:List bo)(h:∀ c∈l,c.Key.length≤300∧c.Val.S.length≤300):∀ acc:List Int,(l.foldl iZ acc).length≤acc.length+645*l.length:=by
 induction l with
 | nil=>intro acc;simp
 | cons v l ih =>
  intro acc
  have h1:=ih (fun x hx=>h x (aF _ hx)) (iZ acc v)
  have h2:=wO acc v (h v (aE ..))
  rw[List.foldl_cons,aS];omega
theorem yj(l:List Int):∀ acc:List Int,(l.foldl jO acc).length≤acc.length+9*l.length:=by
 induction l with
 | nil=>intro acc;simp
 | cons v l ih =>
  intro acc
  have h1:=ih (jO acc v)
  have h2:=cB v
  have h4:(jO acc v).length=acc.length+(bU v).length:=by unfold jO;rw[ag]
  rw[List.foldl_cons,aS];omega
theorem xr{m:bt}(h:kL m):(ib m).length≤2700:=by
 obtain⟨h1,h2,h3,h4,h5,h6⟩:=h
 unfold ib
 have a1:=DQ _ h2 (bU (m.State.Vars.length:Int))
 have a2:=cB (m.State.Vars.length:Int)
 have a3:=cB (m.State.Cells.length:Int)
 rw[ag];omega
theorem xq{m:bt}(h:kL m):(ia m).length≤28600:=by
 have hv:=xr h
 obtain⟨h1,h2,h3,h4,h5,h6⟩:=h
 unfold ia
 have a1:=DP _ h4 (ib m)
 have a2:=cB m.State.Nr
 have a3:=cB m.State.Err
 rw[ag,ag];omega
theorem AR(m:bt)(h:kL m):vZ m=some (jo m,()):=by
 have hv:=xr h
 have hc:=xq h
 obtain⟨h1,h2,h3,h4,h5,h6⟩:=h
 rw[LF,eL,aa]
 dsimp only
 have a2:=cB (m.State.Vars.length:Int)
 obtain⟨f1,_⟩:=tG (fun acc i=>kp acc i m m.State) i5 m.State.Vars (fun i acc=>acc.length≤9+400*i) (fun i hi acc hp=>by
  have hS:=h2 _ (aW hi)
  have hv:=sx m.State.Vars[i]
  refine⟨?_,by show(acc++iM m.State.Vars[i]).length≤_;rw[ag];omega⟩
  show kp acc i m m.State=kp _ _ m m.State
  rw[AO,ap,al,dq hi,AU _ (by omega),aa,bm (by rw[b7];dsimp only;omega),cO hi (by omega)]
  rfl) (bU (m.State.Vars.length:Int)) (by omega)
 rw[f1,AO,bn (by simp),eL,aa]
 dsimp only
 have e1:List.append (m.State.Vars.foldl i5 (bU (m.State.Vars.length:Int))) (bU (m.State.Cells.length:Int))=ib m:=rfl
 rw[bm (by have:=congrArg List.length e1;rw[im]at this;rw[b7];omega),e1]
 obtain⟨f2,_⟩:=tG (fun acc i=>kq acc i m m.State) iZ m.State.Cells (fun i acc=>acc.length≤2700+700*i) (fun i hi acc hp=>by
  have hS:=h4 _ (aW hi)
  have hp':acc.length≤2700+700*i:=hp
  refine⟨?_,Nat.le_trans (wO acc _ hS) (by omega)⟩
  show kq acc i m m.State=kq _ _ m m.State
  have q1:=cB m.State.Cells[i].Name
  have q2:=fx m.State.Cells[i].Key
  have q3:=sx m.State.Cells[i].Val
  have hb:(0:Int)≤(i:Int)∧(i:Int)<(m.State.Cells.length:Int):=by omega
  rw[AP,ap,dq hi]
  simp only[bm hb]
  rw[eL,aa,bm (by rw[b7];dsimp only;omega),lU _ (by omega),aa,bm (by rw[b7,im];dsimp only;omega),AU _ (by omega),aa,bm (by rw[b7,im,im];dsimp only;omega),cO hi (by omega)]
  rfl) (ib m) (by omega)
 rw[f2,AP,bn (by simp),eL,aa]
 dsimp only
 have e2:List.append (List.append (m.State.Cells.foldl iZ (ib m)) (bU m.State.Nr)) (bU m.State.Err)=ia m:=rfl
 have e2l:=congrArg List.length e2
 rw[im,im]at e2l
 rw[bm (by rw[b7];omega),eL,aa]
 dsimp only
 rw[bm (by rw[b7,im];omega),e2]
 obtain⟨f3,_⟩:=tG (fun acc i=>kr acc i m) jO m.Done (fun i acc=>acc.length≤28600+9*i) (fun i hi acc hp=>by
  have q1:=cB m.Done[i]
  refine⟨?_,by show(acc++bU m.Done[i]).length≤_;rw[ag];omega⟩
  show kr acc i m=kr _ _ m
  rw[AQ,ap,al,dq hi,eL,aa,bm (by rw[b7];dsimp only;omega),cO hi (by omega)]
  rfl) (ia m) (by omega)
 have q4:=fx m.Out
 have q5:=yj m.Done (ia m)
 rw[f3,AQ,bn (by simp),lU _ (by omega),aa,bm (by rw[b7];dsimp only;omega)]
 rfl
theorem za{m:bt}(h:kL m):(jo m).length≤30200:=by
 have hc:=xq h
 obtain⟨h1,h2,h3,h4,h5,h6⟩:=h
 unfold jo
 have q4:=fx m.Out
 have q5:=yj m.Done (ia m)
 rw[ag];omega
theorem xC{l:List bz}(hl:l.length≤1000)(at_:List Int)(hat:at_.length≤1000000)(b e:Bool):Tot (lP l at_ b e) (fun y=>y.1.length≤1000∧∀ x∈y.1,0≤x∧x<(l.length:Int)):=by
 obtain⟨f,e4,_⟩:=KR hl at_ hat b e
 refine te e4 ⟨Nat.le_trans (IA _ _ _) hl,fun x hx=>?_⟩
 obtain⟨i,rfl,h1,h2,_⟩:=marks_mem.1 hx
 omega
theorem IG(l:List bz)(hl:l.length≤1000):Tot (vw l) (fun _=>True):=by
 have key:∀ (d i:Nat),i+d=l.length→Tot (rx l (l.length:Int) (i:Int)) (fun _=>True):=by
  intro d
  induction d with
  | zero =>
   intro i hd
   rw[AB,aq,gk,aa];exact ts trivial
  | succ d ih =>
   intro i hd
   have hi:i<l.length:=by omega
   rw[AB,ap,al,Mr,aa,cO hi (by omega)]
   exact ti (fun _=>ts trivial) (fun _=>tc (by omega) (ti (fun _=>ts trivial) (fun _=>ih (i+1) (by omega))))
 rw[Kw];exact key l.length 0 (by omega)
theorem MO(p:bz)(c:Int)(hl:p.Set.length≤1000):Tot (wi p c) (fun _=>True):=by
 rw[Ml]
 refine ti (fun _=>ts trivial) (fun _=>ti (fun _=>ts trivial) (fun _=>ti (fun _=>?_) (fun _=>ts trivial)))
 rw[Mj _ _ (by omega),aa];exact ts trivial
theorem IC{l:List bz}(hl:l.length≤1000)(hS:∀ p∈l,p.Set.length≤1000){s:List Int}(hs:s.length≤1000000)(p:Nat)(hp:p≤s.length):Tot (vv l s (p:Int)) (fun _=>True):=by
 have L1:∀ (d p:Nat),p+d=s.length→∀ (m:List Int) (best:Int),m.length≤1000→(∀ x∈m,0≤x∧x<(l.length:Int))→Tot (ru l s m best (p:Int)) (fun _=>True):=by
  intro d
  induction d with
  | zero =>
   intro p hd m best hm hb
   have L2:∀ best,Tot (lS l s m best (p:Int)) (fun _=>True):=fun best=>by
    rw[Ax,ap];exact ts trivial
   rw[Aw]
   refine ti (fun c=>?_) (fun _=>ts trivial)
   rw[ab]at c
   rw[ar (n:=(m.length:Int)-1)]
   exact tc (by omega) (ti (fun _=>L2 _) (fun _=>L2 _))
  | succ d ih =>
   intro p hd m best hm hb
   have hp:p<s.length:=by omega
   have L3:∀ (best:Int) (e i:Nat) (t:List Int),i+e=m.length→t.length≤i→Tot (lT l s m best (p:Int) t (i:Int)) (fun _=>True):=by
    intro best e
    induction e with
    | zero =>
     intro i t hi ht
     rw[Ay,aq,cO hp (by omega)]
     exact tb (xC hl t (by omega) _ _) (fun y hy=>ih (p+1) (by omega) y.1 best hy.1 hy.2)
    | succ e ihe =>
     intro i t hi ht
     have hi':i<m.length:=by omega
     have hv:=hb _ (aW hi')
     have hvn:m[i].toNat<l.length:=by omega
     rw[Ay,ap,al,dq hi',al,al,dJ hvn,cO hi' (by omega)]
     exact tb (MO _ _ (hS _ (aW hvn))) (fun y _=>ti (fun _=>tc (by omega) (tc (by rw[b7];omega) (ihe (i+1) _ (by omega) (by show(t++[_]).length≤_;rw[ag,bj];omega)))) (fun _=>ihe (i+1) t (by omega) (by omega)))
   have L2:∀ best,Tot (lS l s m best (p:Int)) (fun _=>True):=fun best=>by
    rw[Ax,aq]
    exact L3 best m.length 0 [] (by omega) (by simp)
   rw[Aw]
   refine ti (fun c=>?_) (fun _=>ts trivial)
   rw[ab]at c
   rw[ar (n:=(m.length:Int)-1)]
   exact tc (by omega) (ti (fun _=>L2 _) (fun _=>L2 _))
 rw[Kt]
 refine tb (IG l hl) (fun _ _=>ti (fun _=>ts trivial) (fun _=>?_))
 rw[gk,aa]
 exact ti (fun _=>ts trivial) (fun _=>tb (xC hl [0] (by simp) _ _) (fun y hy=>L1 (s.length-p) p (by omega) y.1 (-1) hy.1 hy.2))
def sW(pat:List Int):Prop:=∃ r ok l,s_RexParse pat=some (r,ok,())∧s_NfaOf r=some (l,())∧l.length≤1000∧∀ p∈l,p.Set.length≤1000
theorem ya{pat:List Int}(hp:sW pat)(s:List Int)(hs:s.length≤1000):Tot (rK pat s) (fun y=>VW y.1):=by
 obtain⟨r,ok,l,e1,e2,hl,hS⟩:=hp
 have key:∀ (d p:Nat),p+d=s.length+1→Tot (rv l s (p:Int)) (fun _=>True):=by
  intro d
  induction d with
  | zero =>
   intro p hd
   rw[AA,aq];exact ts trivial
  | succ d ih =>
   intro p hd
   rw[AA,ap,ar (n:=(p:Int)+1)]
   exact tb (IC hl hS (by omega) p (by omega)) (fun _ _=>ti (fun _=>ts trivial) (fun _=>ih (p+1) (by omega)))
 rw[K7,e1,aa]
 dsimp only
 rw[Ku,e2,aa]
 dsimp only
 rw[Kv]
 exact tb (P:=fun _=>True) (tb (key (s.length+1) 0 (by omega)) (fun _ _=>ts trivial)) (fun(y:Bool×Unit) _=>tb (sy _) (fun _ h=>ts h))
structure OpW (nv len at_:Int) (o:bw):Prop where
 code:1≤o.Code∧o.Code≤36
 text:TW o.S
 var:(o.Code=3∨o.Code=4∨o.Code=5)→0≤o.N∧o.N<nv
 call:o.Code=29→(1≤o.N∧o.N≤3)∧o.S∈[[108,101,110,103,116,104],[105,110,116],[105,110,100,101,120],[117,112,112,101,114],[108,111,119,101,114],[115,117,98,115,116,114]]
 pat:(o.Code=24∨o.Code=25)→sW o.S
 jump:(o.Code=30∨o.Code=31)→0≤o.N∧o.N<len
 next:o.Code≠36→at_+1<len
theorem IP{o:bw}(h:1≤o.Code∧o.Code≤36):vQ o=some (cF o,()):=by
 rw[Lu]
 simp only[Lt,gk,aa]
 unfold cF
 by_cases hr:12≤o.Code∧o.Code≤23
 ·have n:∀ k:Int,(k<12∨23<k)→¬ o.Code=k:=fun k h1 h2=>by omega
  simp[n,hr.1,hr.2]
 ·have ee:o.Code=1∨o.Code=2∨o.Code=3∨o.Code=4∨o.Code=5∨o.Code=6∨o.Code=7∨o.Code=8∨o.Code=9∨o.Code=10∨o.Code=11∨o.Code=24∨o.Code=25∨o.Code=26∨o.Code=27∨o.Code=28∨o.Code=29∨o.Code=30∨o.Code=31∨o.Code=32∨o.Code=33∨o.Code=34∨o.Code=35∨o.Code=36:=by omega
  rcases ee with e | e | e | e | e | e | e | e | e | e | e | e | e | e | e | e | e | e | e | e | e | e | e | e <;> simp[e]
theorem eI{nv:Nat}{s:bE}{vs:List (List Int)}{cs:List (List Int)}{line:List Int}{fs:List (List Int)}{out:List Int}{fuel:Int}{done:Bool}(hs:SW nv s)(hf:FW line fs)(ho:OW out){st:List bG}(hst:StW st){v:bG}(hv:VW v):Tot (ek ⟨(),st⟩ s vs cs line fs out fuel done v) (fun y=>StW y.1.stack∧WW nv y.2.1):=by
 rw[Lv]
 exact ti (fun _=>tb (j5 hs hf ho hst hv) (fun _ h=>ts h)) (fun _=>ts ⟨hst,hs,hf,ho⟩)
theorem MW{nv:Nat}{s:bE}{vs:List (List Int)}{cs:List (List Int)}{line:List Int}{fs:List (List Int)}{out:List Int}{fuel:Int}{done:Bool}(hs:SW nv s)(hf:FW line fs)(ho:OW out){st l:List bG}(hst:StW st)(hl:∀ v∈l,VW v){o:bw}{len at_:Int}(hO:OpW nv len at_ o)(hlen:(l.length:Int)=cF o)(hc:o.Code≤29)
  (hn:¬ (o.Code=3∨o.Code=4∨o.Code=5∨o.Code=6∨o.Code=7∨o.Code=8)):Tot (vR ⟨(),st⟩ s vs cs line fs out fuel done o l) (fun y=>StW y.1.stack∧WW nv y.2.1):=by
 have hcd:=hO.code
 rw[Lw]
 refine ti (fun c=>tb (gV _) (fun _ h=>eI hs hf ho hst h)) (fun c1=>ti (fun c=>ti (fun _=>tb (f7 hs hf ho _) (fun _ h=>eI h.1 h.2.1 h.2.2 hst hO.text)) (fun _=>eI hs hf ho hst hO.text)) (fun c2=>ti (fun c=>?_) (fun c9=>ti (fun c=>tb (gV _) (fun _ h=>eI hs hf ho hst h)) (fun c10=>ti (fun c=>tb (gV _) (fun _ h=>eI hs hf ho hst h)) (fun c11=>ti (fun c=>?_) (fun c17=>ti (fun c=>?_) (fun c24=>ti (fun c=>?_) (fun c25=>ti (fun c=>?_) (fun c26=>ti (fun c=>?_) (fun c27=>ti (fun c=>?_) (fun c28=>ti (fun c=>?_) (fun c29=>?_))))))))))))
 ·rw[ab]at c
  have hk:cF o=1:=by unfold cF;simp[c]
  exact tc (by omega) (tb (DC hs hf ho (cS hl _)) (fun _ h=>eI h.2.1 h.2.2.1 h.2.2.2 hst h.1))
 ·rw[ab]at c
  have hk:cF o=2:=by unfold cF;simp[c]
  exact tc (by omega) (tc (by omega) (tb (CW hs hf ho (cS hl _) (cS hl _)) (fun _ h=>eI h.2.1 h.2.2.1 h.2.2.2 hst h.1)))
 ·rw[ab]at c
  have hk:cF o=1:=by unfold cF;simp[c]
  exact tc (by omega) (tb (ey (cS hl _)) (fun y hy=>tb (ya (hO.pat (.inl c)) _ (by have:=hy.1;omega)) (fun _ h=>eI hs hf ho hst h)))
 ·rw[ab]at c
  exact tb (ya (hO.pat (.inr c)) _ hf.1.1) (fun _ h=>eI hs hf ho hst h)
 ·rw[ab]at c
  have hk:cF o=1:=by unfold cF;simp[c]
  exact tc (by omega) (tb (wz _) (fun _ _=>tb (sy _) (fun _ h=>eI hs hf ho hst h)))
 ·rw[ab]at c
  have hk:cF o=1:=by unfold cF;simp[c]
  exact tc (by omega) (tb (eE (cS hl _)) (fun _ _=>tb (gV _) (fun _ h=>eI hs hf ho hst h)))
 ·rw[ab]at c
  have hk:cF o=1:=by unfold cF;simp[c]
  exact tc (by omega) (tb (wz _) (fun _ _=>tb (sy _) (fun _ h=>eI hs hf ho hst h)))
 ·rw[ab]at c
  have hk:cF o=o.N:=by unfold cF;simp[c]
  obtain⟨q1,q2⟩:=hO.call c
  exact tb (CU hl (by omega) (by omega) _ q2) (fun _ h=>eI hs hf ho hst h)
 ·rw[ab]at c1 c2 c9 c10 c11 c17 c24 c25 c26 c27 c28 c29
  have hk:cF o=2:=by
   have hr:12≤o.Code∧o.Code≤23:=by omega
   unfold cF
   rw[am,am,bn c29,bm hr]
  refine ti (fun c=>tc (by omega) (tb (eE (cS hl _)) (fun _ _=>tc (by omega) (tb (eE (cS hl _)) (fun _ _=>tb (uv hs hf ho _ _ _) (fun _ h=>eI h.2.1 h.2.2.1 h.2.2.2 hst h.1)))))) (fun c=>?_)
  rw[ab]at c
  rw[ar (n:=o.Code-18)]
  exact tc (by omega) (tc (by omega) (tb (I3 (by omega) (cS hl _) (cS hl _)) (fun _ h=>eI hs hf ho hst h)))
theorem MF{nv:Nat}{s:bE}{vs:List (List Int)}{cs:List (List Int)}{line:List Int}{fs:List (List Int)}{out:List Int}{fuel:Int}{done:Bool}(hs:SW nv s)(hn:nv≤100)(hf:FW line fs)(ho:OW out){st:List bG}(hst:StW st){o:bw}{len at_:Int}(hO:OpW nv len at_ o)(ha:0≤at_)(hlen:len≤100000)(ha2:at_<len) :
  Tot (vP ⟨(),st⟩ s vs cs line fs out fuel done o at_) (fun y=>(y.2.1=true→0≤y.1∧y.1<len)∧StW y.2.2.1.stack∧WW nv y.2.2.2.1):=by
 have hcd:=hO.code
 have hst1:=hst.1
 have htk:0≤cF o∧cF o≤3:=by
  unfold cF
  split
  ·omega
  ·split
   ·omega
   ·split
    ·rename_i c
     have:=(hO.call c).1;omega
    ·split <;> omega
 have hw:w64 ((st.length:Int)-cF o)=(st.length:Int)-cF o:=ar
 rw[Ls,IP hcd,aa]
 dsimp only
 rw[hw]
 refine ti (fun _=>tb (f7 hs hf ho _) (fun _ h=>ts ⟨(fun e=>by cases e),hst,h⟩)) (fun c=>?_)
 rw[ab]at c
 have hlist:∀ v∈List.append [] (List.take (st.length-((st.length:Int)-cF o).toNat) (List.drop ((st.length:Int)-cF o).toNat st)),VW v:=fun v hv=>hst.2 v (List.mem_of_mem_drop (List.mem_of_mem_take (show v∈List.take _ _ from hv)))
 have hll:((List.append [] (List.take (st.length-((st.length:Int)-cF o).toNat) (List.drop ((st.length:Int)-cF o).toNat st))).length:Int)=cF o:=by
  show((List.take _ (List.drop _ st)).length:Int)=_
  rw[aQ,aR];omega
 have hst':StW (List.take ((st.length:Int)-cF o).toNat st):=⟨by rw[aQ];omega,fun v hv=>hst.2 v (List.mem_of_mem_take hv)⟩
 generalize List.append [] (List.take (st.length-((st.length:Int)-cF o).toNat) (List.drop ((st.length:Int)-cF o).toNat st))=l at hlist hll ⊢
 generalize List.take ((st.length:Int)-cF o).toNat st=st' at hst' ⊢
 refine tc (by omega) (tc (by rw[b7,aQ,aR];omega) (tc (by omega) ?_))
 have L1:∀ {s':bE} {vs' cs':List (List Int)} {line':List Int} {fs':List (List Int)} {out':List Int} {fuel':Int} {done':Bool} {st2:List bG},o.Code≠36→SW nv s'→FW line' fs'→OW out'→StW st2→Tot (gP at_ () st2 s' vs' cs' line' fs' out' fuel' done') (fun y=>(y.2.1=true→0≤y.1∧y.1<len)∧StW y.2.2.1.stack∧WW nv y.2.2.2.1):=fun {s' vs' cs' line' fs' out' fuel' done' st2} h36 a1 a2 a3 a4=>by
  have:=hO.next h36
  rw[Lq,ar (n:=at_+1)]
  exact ts ⟨fun _=>⟨by show 0≤at_+1;omega,this⟩,a4,a1,a2,a3⟩
 refine ti (fun c=>ts ⟨(fun e=>by cases e),hst',hs,hf,ho⟩) (fun c36=>ti (fun c=>?_) (fun c30=>ti (fun c=>?_) (fun c31=>ti (fun c=>L1 (by rw[ab]at c36;exact c36) hs hf ho hst') (fun c32=>ti (fun c=>?_) (fun c33=>ti (fun c=>tb (sm hs hf ho _ ?_) (fun _ h=>L1 (by rw[ab]at c36;exact c36) h.1 h.2.1 h.2.2 hst')) (fun c34=>?_))))))
 ·rw[ab]at c
  exact ts ⟨fun _=>hO.jump (.inl c),hst',hs,hf,ho⟩
 ·rw[ab]at c c36
  have hk:cF o=1:=by unfold cF;simp[c]
  exact tc (by omega) (tb (wz _) (fun _ _=>ti (fun _=>ts ⟨fun _=>hO.jump (.inr c),hst',hs,hf,ho⟩) (fun _=>L1 c36 hs hf ho hst')))
 ·rw[ab]at c c36
  have hk:cF o=1:=by unfold cF;simp[c]
  refine ti (fun _=>tb (sm hs hf ho _ ⟨by simp,fun x hx=>by rw[aK.1 hx];omega⟩) (fun _ h=>tc (by omega) (tb (ey (cS hlist _)) (fun t ht=>tb (sm h.1 h.2.1 h.2.2 _ ht) (fun _ q=>L1 c36 q.1 q.2.1 q.2.2 hst'))))) (fun _=>tc (by omega) (tb (ey (cS hlist _)) (fun t ht=>tb (sm hs hf ho _ ht) (fun _ q=>L1 c36 q.1 q.2.1 q.2.2 hst'))))
 ·exact⟨by simp,fun x hx=>by rw[aK.1 hx];omega⟩
 ·rw[ab]at c36 c30 c31 c32 c33 c34
  have N:∀ b:Bool,(o.Code=3∨o.Code=4∨o.Code=5∨o.Code=6∨o.Code=7∨o.Code=8∨o.Code=35↔b=true)→Tot (gQ at_ l b (bK.mk () st') (bI.mk s vs cs line fs out fuel done) o) (fun y=>(y.2.1=true→0≤y.1∧y.1<len)∧StW y.2.2.1.stack∧WW nv y.2.2.2.1):=fun b hb=>by
   rw[Lr]
   refine ti (fun e=>tb (IE hs hn hf ho hst' hlist hO.var (fun h=>?_) (fun h=>?_)) (fun _ h=>L1 c36 h.2.1 h.2.2.1 h.2.2.2 h.1)) (fun e=>tb (MW hs hf ho hst' hlist hO hll ?_ ?_) (fun _ h=>L1 c36 h.2.1 h.2.2.1 h.2.2.2 h.1))
   ·have hk:cF o=1:=by unfold cF;rcases h with h | h | h | h <;> simp[h]
    omega
   ·have hk:cF o=2:=by unfold cF;rcases h with h | h <;> simp[h]
    omega
   ·exact Classical.byContradiction fun hh=>e (hb.1 (by omega))
   ·intro h;exact e (hb.1 (by omega))
  refine ti (fun c=>N _ ?_) (fun d3=>ti (fun c=>N _ ?_) (fun d4=>ti (fun c=>N _ ?_) (fun d5=>ti (fun c=>N _ ?_) (fun d6=>ti (fun c=>N _ ?_) (fun d7=>ti (fun c=>N _ ?_) (fun d8=>N _ ?_)))))) <;> (simp only[ab]at *;omega)
def sZ(nv:Int)(l:List bw):Prop:=(0<l.length∧l.length≤100000)∧∀ (i:Nat) (h:i<l.length),OpW nv l.length i l[i]
theorem yr{nv:Nat}(hn:nv≤100){l:List bw}(hl:sZ nv l):∀ (d n:Nat) (a:Int) (w:bI) (st:List bG),n+d=20000→0≤a→a<l.length→SW nv w.s→FW w.line w.fields→OW w.out→StW st →
  Tot (rO l a (n:Int) w (bK.mk () st)) (fun y=>WW nv y.1):=by
 intro d
 induction d with
 | zero =>
  intro n a w st hd h0 h1 hs hf ho hst
  rw[AL]
  exact ti (fun _=>tc (ac (by omega)) (tb (f7 hs hf ho _) (fun _ h=>ts h))) (fun _=>ts ⟨hs,hf,ho⟩)
 | succ d ih =>
  intro n a w st hd h0 h1 hs hf ho hst
  have hi:a.toNat<l.length:=by omega
  have hO:=hl.2 a.toNat hi
  rw[Int.toNat_of_nonneg h0]at hO
  have hl2:=hl.1.2
  rw[AL,dJ hi,ar (n:=(n:Int)+1)]
  refine ti (fun _=>tn (by rw[ab];omega) (tc (by omega) (tb (MF hs hn hf ho hst hO h0 (by omega) h1) (fun y hy=>ti (fun _=>ts hy.2.2) (fun c=>?_))))) (fun _=>ts ⟨hs,hf,ho⟩)
  have hon:=hy.1 (by simpa using c)
  exact ih (n+1) y.1 _ _ (by omega) hon.1 hon.2 hy.2.2.1 hy.2.2.2.1 hy.2.2.2.2 hy.2.1
theorem xU{nv:Nat}(hn:nv≤100){w:bI}{s:bE}(hw:SW nv w.s)(ho:OW w.out)(hs:SW nv s):Tot (rJ w s) (fun y=>SW nv y.1∧OW y.2.1):=by
 rw[K4,kV hs hn,aa]
 exact ti (fun _=>ts ⟨hs,by simp,fun x hx=>by cases hx⟩) (fun _=>ts ⟨hw,ho⟩)
structure PrW (p:bA):Prop where
 names:p.Vars.length≤8
 start:sZ (p.Vars.length:Int) p.Start
 main:sZ (p.Vars.length:Int) p.Main
 right:∃ b,s_ProgOk p=some (b,())
theorem JS{p:bA}(hp:PrW p){s:bE}(hs:SW p.Vars.length s){line:List Int}(hl:line.length≤1000)(hb:Bt line):Tot (vN p s line) (fun y=>SW p.Vars.length y.1∧OW y.2.1):=by
 have hn:=hp.names
 have hf:FW line (k9 line):=⟨⟨hl,hb⟩,by have:=DD line;omega,fun f h=>by
  have:=DE (P:=fun x=>0≤x∧x≤255) hb h
  exact⟨by omega,this.1⟩⟩
 have ho:OW []:=⟨by simp,fun x hx=>by cases hx⟩
 have L1:∀ (w:bI),SW p.Vars.length w.s→FW w.line w.fields→OW w.out→Tot (rP p s gr w) (fun y=>SW p.Vars.length y.1∧OW y.2.1):=fun w a1 a2 a3=>by
  rw[Ll,AM]
  exact tb (yr (by omega) hp.main 20000 0 0 _ [] (by omega) (by omega) (by have:=hp.main.1.1;omega) a1 a2 a3 ⟨by simp,fun x hx=>by cases hx⟩) (fun y hy=>tb (xU (by omega) hy.1 hy.2.2 hs) (fun _ h=>ts h))
 rw[Lm,kV hs (by omega),aa,KT _ (by omega),aa]
 dsimp only
 have hs2:SW p.Vars.length ⟨s.Vars,s.Cells,w64 (s.Nr+1),s.Err⟩:=hs
 exact ti (fun _=>tb (f7 hs2 hf ho _) (fun y hy=>L1 _ hy.1 hy.2.1 hy.2.2)) (fun _=>L1 _ hs2 hf ho)
theorem Bw(n:Nat)(hn:n≤8):Tot (rB (n:Int)) (fun y=>SW n y.1):=by
 have e1:sc (n:Int) 8=some ((n:Int),()):=by
  rw[A6]
  by_cases c:(n:Int)<8
  ·rw[ak c]
  ·rw[aj c,show(8:Int)=(n:Int) by omega]
 have e2:s_l1Max 0 (n:Int)=some ((n:Int),()):=by
  rw[A5]
  by_cases c:(0:Int)>n
  ·omega
  ·rw[aj c]
 rw[KH,e1,aa]
 dsimp only
 rw[e2,aa]
 dsimp only
 refine tc ⟨by omega,by omega,by rw[b7];omega⟩ (ts ⟨⟨?_,fun v hv=>?_⟩,by simp,fun c hc=>by cases hc⟩)
 ·show(List.replicate _ _).length=n
  rw[a8];omega
 ·rw[List.eq_of_mem_replicate hv];exact BR
theorem MD{p:bA}(hp:PrW p):Tot (vO p) (fun y=>SW p.Vars.length y.1∧OW y.2.1):=by
 have hn:=hp.names
 have hf:FW [] []:=⟨⟨by simp,fun x hx=>by cases hx⟩,by simp,fun f h=>by cases h⟩
 have ho:OW []:=⟨by simp,fun x hx=>by cases hx⟩
 rw[Lp]
 refine tb (Bw _ hn) (fun r hr=>?_)
 rw[kV hr (by omega),aa,AM]
 exact tb (yr (by omega) hp.start 20000 0 0 _ [] (by omega) (by omega) (by have:=hp.start.1.1;omega) hr hf ho ⟨by simp,fun x hx=>by cases hx⟩) (fun y hy=>tb (xU (by omega) hy.1 hy.2.2 hr) (fun _ h=>ts h))
def McW(nv:Nat)(m:bt):Prop:=SW nv m.State∧m.Done.length=3∧(m.Out.length≤1500∧Bt m.Out)
theorem zg{p:bA}(hp:PrW p):Tot (vX p) (fun y=>McW p.Vars.length y.1):=by
 rw[LD]
 refine tb (MD hp) (fun y hy=>ti (fun _=>tb (Bw _ hp.names) (fun z hz=>ts ⟨hz,rfl,by simp,fun x hx=>by cases hx⟩)) (fun c=>ts ⟨hy.1,rfl,?_,hy.2.2⟩))
 have:=hy.2.1
 show y.2.1.length≤1500
 omega
theorem xP{p:bA}(hp:PrW p){m:bt}(hm:McW p.Vars.length m){c:bp}(hc:c.Who<3)(hl:c.Line.length≤1000)(hb:Bt c.Line):Tot (vU p m c) (fun y=>McW p.Vars.length y.1):=by
 have hn:=hp.names
 have hcp:vT m=some (m,()):=by
  rw[Ly,kV hm.1 (by omega),aa,bm (by have:=hm.2.1;rw[b7];omega)];rfl
 have h3:=hm.2.1
 have ho:=hm.2.2.1
 rw[Lz,hcp,aa]
 refine ti (fun _=>ts hm) (fun c0=>?_)
 rw[ab]at c0
 have hset:∀ x:Int,(List.set m.Done c.Who.toNat x).length=3:=fun x=>by rw[aY];exact h3
 refine tc (by omega) (ti (fun _=>ts hm) (fun _=>tc (by dsimp only;omega) (ti (fun _=>ts ⟨hm.1,hset _,hm.2.2⟩) (fun _=>tb (JS hp hm.1 hl hb) (fun y hy=>?_)))))
 have hy2:=hy.2.1
 rw[ar]
 refine ti (fun _=>ts ⟨hm.1,hset _,hm.2.2⟩) (fun d=>tc (by omega) (ts ⟨hy.1,hset _,?_,fun x hx=>?_⟩))
 ·rw[ab]at d
  show(m.Out++y.2.1).length≤1500
  rw[ag];omega
 ·rcases aB.1 hx with hx | hx
  ·exact hm.2.2.2 x hx
  ·exact hy.2.2 x hx
def zl:bt:=⟨gr,[],[]⟩
theorem Ix{p:bA}(hp:PrW p){cs:List bp}(hl:cs.length≤1000)(hc:∀ c∈cs,c.Line.length≤1000∧Bt c.Line):Tot (rr p cs) (fun y=>y.1=zl∨McW p.Vars.length y.1):=by
 have key:∀ (d i:Nat) (m:bt),i+d=cs.length→McW p.Vars.length m→Tot (j9 cs (i:Int) p sK m) (fun y=>y.1=zl∨McW p.Vars.length y.1):=by
  intro d
  induction d with
  | zero =>
   intro i m hd hm
   rw[rt,aq];exact ts (.inr hm)
  | succ d ih =>
   intro i m hd hm
   have hi:i<cs.length:=by omega
   obtain⟨h1,h2⟩:=hc _ (aW hi)
   rw[rt,ap,al,dq hi,vb _ (by omega),aa,cO hi (by omega)]
   refine ti (fun c=>tc (by omega) (tb (xP hp hm ?_ h1 h2) (fun y hy=>ih (i+1) _ (by omega) hy))) (fun _=>ih (i+1) m (by omega) hm)
   have c':eU cs[i]=true:=c
   unfold eU at c'
   by_cases e:(cs[i].Who) = -1
   ·omega
   ·simp[e]at c';omega
 obtain⟨b,hb⟩:=hp.right
 rw[Au,hb,aa]
 exact ti (fun _=>ts (.inl rfl)) (fun _=>tb (zg hp) (fun y hy=>key cs.length 0 _ (by omega) hy))
theorem zb{nv:Nat}(hn:nv≤8){m:bt}(h:McW nv m):kL m:=⟨by have:=h.1.1.1;omega,fun v hv=>(h.1.1.2 v hv).1,h.1.2.1,fun c hc=>⟨(h.1.2.2 c hc).1.1,(h.1.2.2 c hc).2.1⟩,h.2.1,h.2.2.1⟩
theorem p8(y:Int)(m:Nat)(hm:m<9223372036854775808):0≤Go.bits .and .i64 y m∧Go.bits .and .i64 y m≤m:=by
 have h:Go.bits .and .i64 y m=IntKind.i64.wrap (((BitVec.ofInt 64 y).toNat &&& m:Nat):Int):=by
  simp only[Go.bits,BitVec.toNat_and,BitVec.ofInt_natCast]
  congr 3
  exact Nat.mod_eq_of_lt (by show m<2 ^ 64;omega)
 have h2:(BitVec.ofInt 64 y).toNat &&& m≤m:=Nat.and_le_right
 rw[h,IntKind.wrap_i64]
 omega
def ci(c:bM):Prop:=0≤c.i∧c.b.length≤1048576
theorem kR{c:bM}(h:ci c):∃ x c',jx c=some (x,c',())∧ci c'∧0≤x∧x≤255:=by
 obtain⟨h1,h2⟩:=h
 rw[LY]
 by_cases hi:c.i<(c.b.length:Int)
 ·rw[ak hi,bm ⟨h1,hi⟩]
  refine⟨_,_,rfl,⟨?_,h2⟩,(p8 _ 255 (by decide)).1,(p8 _ 255 (by decide)).2⟩
  show 0≤w64 (c.i+1)
  rw[ar];omega
 ·rw[aj hi]
  exact⟨_,_,rfl,⟨h1,h2⟩,(p8 _ 255 (by decide)).1,(p8 _ 255 (by decide)).2⟩
theorem qb{c:bM}(h:ci c)(n:Int):∃ x c',cV c n=some (x,c',())∧ci c'∧0≤x∧(0<n→x<n)∧(n≤0→x=0):=by
 rw[LW]
 by_cases h0:n≤0
 ·rw[ak h0]
  exact⟨0,c,rfl,h,by omega,fun h=>by omega,fun _=>rfl⟩
 ·rw[aj h0]
  have hn:0<n:=by omega
  by_cases h1:n≤256
  ·rw[ak h1]
   obtain⟨x,c',e,k1,k2,k3⟩:=kR h
   simp only[e,aa]
   rw[al]
   exact⟨_,_,rfl,k1,Int.tmod_nonneg _ k2,fun _=>Int.tmod_lt_of_pos _ hn,fun h=>by omega⟩
  ·rw[aj h1]
   obtain⟨x1,c1,e1,k1,a1,b1⟩:=kR h
   obtain⟨x2,c2,e2,k2,a2,b2⟩:=kR k1
   obtain⟨x3,c3,e3,k3,a3,b3⟩:=kR k2
   obtain⟨x4,c4,e4,k4,a4,b4⟩:=kR k3
   simp only[e1,e2,e3,e4,aa]
   rw[al]
   refine⟨_,_,rfl,k4,Int.tmod_nonneg _ ?_,fun _=>Int.tmod_lt_of_pos _ hn,fun h=>by omega⟩
   rw[ar (n:=x1*16777216),ar (n:=x2*65536),ar (n:=x3*256)]
   rw[ar (n:=x1*16777216+x2*65536),ar (n:=x1*16777216+x2*65536+x3*256)]
   rw[ar];omega
theorem I8{c:bM}(h:ci c)(l:List Int)(hl:l≠[]):∃ x c',fa c l=some (x,c',())∧ci c'∧x∈l:=by
 have hp:0<l.length:=List.length_pos_iff.2 hl
 rw[L4]
 obtain⟨x,c',e,k1,k2,k3,_⟩:=qb h (l.length:Int)
 have k3:=k3 (by omega)
 simp only[e,aa]
 rw[bm ⟨k2,k3⟩]
 obtain⟨i,rfl⟩:=Int.eq_ofNat_of_zero_le k2
 have hi:i<l.length:=by omega
 exact⟨_,_,rfl,k1,by rw[dq hi];exact aW hi⟩
theorem zy{c:bM}(h:ci c)(l:List (List Int))(hl:l≠[]):∃ x c',jy c l=some (x,c',())∧ci c'∧x∈l:=by
 have hp:0<l.length:=List.length_pos_iff.2 hl
 rw[L5]
 obtain⟨x,c',e,k1,k2,k3,_⟩:=qb h (l.length:Int)
 have k3:=k3 (by omega)
 simp only[e,aa]
 rw[bm ⟨k2,k3⟩]
 obtain⟨i,rfl⟩:=Int.eq_ofNat_of_zero_le k2
 have hi:i<l.length:=by omega
 exact⟨_,_,rfl,k1,by rw[dq hi];exact aW hi⟩
theorem zf(b:List Int)(h:b.length≤1048576):∃ c,kx b=some (((),c),())∧ci c:=by
 rw[LZ]
 have key:∀ (d i:Nat) (k:Int),i+d=b.length→∃ c,sd b k (i:Int)=some (((),c),())∧ci c:=by
  intro d
  induction d with
  | zero =>
   intro i k hd
   rw[A7,aq]
   exact⟨_,rfl,Int.le_refl 0,h⟩
  | succ d ih =>
   intro i k hd
   rw[A7,ap]
   by_cases h4:(i:Int)<4000
   ·rw[ak h4,al,cO (n:=b.length) (by omega) (by omega)]
    exact ih (i+1) _ (by omega)
   ·rw[aj h4]
    exact⟨_,rfl,Int.le_refl 0,h⟩
 exact key b.length 0 _ (by omega)
theorem CB(b:List Int):uh b=some (decide ((b.length:Int)>1048576),()):=EV b
set_option maxRecDepth 1000000
def twC(t:List Int):Bool:=decide (t.length≤300)&&t.all fun x=>decide (0≤x∧x≤255)
theorem MR{t:List Int}(h:twC t=true):TW t:=by
 unfold twC at h
 rw[aA,ab]at h
 exact⟨h.1,fun x hx=>of_decide_eq_true (List.all_eq_true.1 h.2 x hx)⟩
def uC(t:List Int):Bool:=match (kZ 300).s_RexParse t with
 | some (r,_,_)=>(match (kZ 300).s_NfaOf r with
  | some (l,_)=>decide (l.length≤1000)&&l.all fun p=>decide (p.Set.length≤1000)
  | none=>false)
 | none=>false
theorem I7{t:List Int}(h:uC t=true):sW t:=by
 unfold uC at h
 split at h
 ·rename_i r ok u e
  split at h
  ·rename_i l u2 e2
   rw[aA,ab]at h
   exact⟨r,ok,l,(bT 300).s_RexParse _ _ e,(bT 300).s_NfaOf _ _ e2,h.1,fun p hp=>of_decide_eq_true (List.all_eq_true.1 h.2 p hp)⟩
  ·cases h
 ·cases h
def opC(nv len at_:Int)(o:bw):Bool :=
 (decide (1≤o.Code∧o.Code≤36)&&twC o.S)&&((decide ((o.Code=3∨o.Code=4∨o.Code=5)→0≤o.N∧o.N<nv)&&decide (o.Code=29→(1≤o.N∧o.N≤3)∧o.S∈[[108,101,110,103,116,104],[105,110,116],[105,110,100,101,120],[117,112,112,101,114],[108,111,119,101,114],[115,117,98,115,116,114]])) &&
  ((if o.Code=24∨o.Code=25 then uC o.S else true)&&(decide ((o.Code=30∨o.Code=31)→0≤o.N∧o.N<len)&&decide (o.Code≠36→at_+1<len))))
theorem IU{nv len at_:Int}{o:bw}(h:opC nv len at_ o=true):OpW nv len at_ o:=by
 unfold opC at h
 simp only[aA]at h
 obtain⟨⟨h1,h2⟩,⟨h3,h4⟩,h5,h6,h7⟩:=h
 exact⟨of_decide_eq_true h1,MR h2,of_decide_eq_true h3,of_decide_eq_true h4,fun c=>by rw[bm c]at h5;exact I7 h5,of_decide_eq_true h6,of_decide_eq_true h7⟩
def lM(nv len:Int):Int→List bw→Bool
 | _,[]=>true
 | i,o::l=>opC nv len i o&&lM nv len (i+1) l
theorem uZ{nv len:Int}:∀ (l:List bw) (i:Int),lM nv len i l=true→∀ (j:Nat) (h:j<l.length),OpW nv len (i+j) l[j]
 | [],_,_,j,hj=>by cases hj
 | o::l,i,h,j,hj=>by
  unfold lM at h
  rw[aA]at h
  cases j with
  | zero=>rw[show i+((0:Nat):Int)=i by omega];exact IU h.1
  | succ j =>
   have:=uZ l (i+1) h.2 j (by simpa using hj)
   rw[show i+((j+1:Nat):Int)=i+1+j by omega]
   exact this
def uG(p:bA):Bool:=(decide (p.Vars.length≤8)&&decide (0<p.Start.length∧p.Start.length≤100000))&&((lM p.Vars.length p.Start.length 0 p.Start&&(decide (0<p.Main.length∧p.Main.length≤100000)&&lM p.Vars.length p.Main.length 0 p.Main))&&(match (kZ 300).s_ProgOk p with
  | some (true,_)=>true
  | _=>false))
theorem Jf{p:bA}(h:uG p=true):PrW p∧s_ProgOk p=some (true,()):=by
 unfold uG at h
 simp only[aA]at h
 obtain⟨⟨h1,h2⟩,⟨h3,h4,h5⟩,h6⟩:=h
 have hr:s_ProgOk p=some (true,()):=by
  split at h6
  ·rename_i u e;exact(bT 300).s_ProgOk _ _ e
  ·cases h6
 refine⟨⟨of_decide_eq_true h1,⟨of_decide_eq_true h2,fun i hi=>?_⟩,⟨of_decide_eq_true h4,fun i hi=>?_⟩,⟨_,hr⟩⟩,hr⟩
 ·have:=uZ _ 0 h3 i hi
  rwa [Int.zero_add]at this
 ·have:=uZ _ 0 h5 i hi
  rwa [Int.zero_add]at this
def wu(s:List Int):Bool:=match (kZ 300).s_Build s with
 | some (p,_,_)=>uG p
 | none=>false
theorem Mz{s:List Int}(h:wu s=true):Tot (s_Build s) (fun y=>PrW y.1∧s_ProgOk y.1=some (true,())):=by
 unfold wu at h
 split at h
 ·rename_i p c u e
  exact te ((bT 300).s_Build _ _ e) (Jf h)
 ·cases h
def srcs:List (List Int):=[[123,32,110,32,43,61,32,49,59,32,115,91,36,49,93,32,43,61,32,36,50,59,32,112,114,105,110,116,32,110,44,32,36,49,44,32,115,91,36,49,93,59,32,125,10],[66,69,71,73,78,32,123,32,112,114,105,110,116,32,34,115,116,97,114,116,34,59,32,125,10,47,94,97,47,32,123,32,97,32,43,61,32,49,59,32,112,114,105,110,116,32,34,97,34,44,32,97,59,32,110,101,120,116,59,32,125,10,36,49,32,62,32,53,32,123,32,112,114,105,110,116,32,36,49,32,42,32,50,32,47,32,51,59,32,125,10,78,82,32,60,32,51,32,123,32,112,114,105,110,116,32,78,70,32,34,58,34,32,36,48,59,32,125,10],[123,32,105,32,61,32,49,59,32,119,104,105,108,101,32,40,105,32,60,61,32,78,70,41,32,123,32,119,91,36,105,93,32,43,61,32,49,59,32,112,114,105,110,116,32,36,105,32,34,61,34,32,119,91,36,105,93,59,32,105,32,43,61,32,49,59,32,125,32,125,10],[108,101,110,103,116,104,40,36,48,41,32,62,32,51,32,38,38,32,33,40,36,49,32,126,32,47,98,43,99,47,41,32,123,32,112,114,105,110,116,32,115,117,98,115,116,114,40,36,48,44,32,50,44,32,51,41,44,32,117,112,112,101,114,40,36,49,41,44,32,105,110,100,101,120,40,36,48,44,32,34,97,34,41,59,32,125,10,123,32,105,102,32,40,36,49,32,61,61,32,34,120,34,41,32,123,32,100,101,108,101,116,101,32,107,91,36,50,93,59,32,125,32,101,108,115,101,32,123,32,107,91,36,50,93,32,61,32,107,91,36,50,93,32,43,32,49,59,32,125,32,112,114,105,110,116,32,107,91,36,50,93,32,43,32,48,59,32,125,10],[123,32,116,32,61,32,116,32,36,49,32,34,46,34,59,32,112,114,105,110,116,32,116,44,32,45,36,49,32,37,32,51,44,32,105,110,116,40,36,49,32,47,32,50,41,59,32,105,102,32,40,108,101,110,103,116,104,40,116,41,32,62,32,49,50,41,32,123,32,116,32,61,32,34,34,59,32,125,32,125,10],[36,49,32,123,32,112,114,105,110,116,32,49,32,47,32,40,36,49,32,45,32,52,41,59,32,125,10,123,32,119,104,105,108,101,32,40,49,41,32,123,32,105,32,43,61,32,49,59,32,125,32,125,10],[78,82,32,61,61,32,49,123,32,112,114,105,110,116,32,34,102,105,114,115,116,34,59,32,125,10]]
theorem MC:(srcs.all wu)=true:=by kernel_rfl
theorem CM{s:List Int}(h:s∈srcs):Tot (s_Build s) (fun y=>PrW y.1∧s_ProgOk y.1=some (true,())):=Mz (List.all_eq_true.1 MC s h)
theorem MB:wj=some (srcs,()):=Mn
theorem Dl{c:bM}(h:ci c):Tot (vJ c) (fun y=>(PrW y.1∧s_ProgOk y.1=some (true,()))∧ci y.2.1):=by
 rw[Lg,Mm,MB,aa]
 dsimp only
 obtain⟨x,c',e,k,m⟩:=zy h srcs (by simp[srcs])
 rw[e,aa,aa]
 exact tb (CM m) (fun y hy=>ts ⟨hy,k⟩)
def dA(r:bB):Bool :=
 if decide (0≤r.Term∧r.Term≤300)&&(decide (0≤r.Prev∧r.Prev≤300)&&(f6 r.List 300 && !decide ((r.Snap.length:Int)>30000))) then
  if r.Kind=1 then decide (-1≤r.Vote∧r.Vote≤4)&&(decide (r.Prev=0)&&(decide ((r.List.length:Int)=0)&&decide (r.Snap=[])))
  else if r.Kind=2 then decide (r.Vote=0)&&decide (r.Snap=[])
  else if r.Kind=3 then decide (r.Vote=0)&&decide ((r.List.length:Int)=0)
  else false
 else false
theorem Et(n:Int):tQ n=some (decide (-1≤n∧n≤4),()):=by rw[Es,jh];rfl
theorem zY{k v p:Int}{a b c:Bool}:(if k=1 then
   if a=true then if p=0 then if b=true then some (c,())else some (false,())else some (false,())else some (false,())
  else if k=2 then if v=0 then some (c,())else some (false,())
  else if k=3 then if v=0 then some (b,())else some (false,())else some (false,())) =
  some (if k=1 then a&&(decide (p=0)&&(b&&c))else if k=2 then decide (v=0)&&c else if k=3 then decide (v=0)&&b else false,()):=by
 by_cases h1:k=1
 ·simp only[bm h1]
  cases a
  ·rfl
  ·by_cases h2:p=0
   ·simp only[h2];cases b <;> simp
   ·simp[h2]
 ·simp only[bn h1]
  by_cases h2:k=2
  ·simp only[bm h2]
   by_cases h3:v=0 <;> simp[h3]
  ·simp only[bn h2]
   by_cases h3:k=3
   ·simp only[bm h3]
    by_cases h4:v=0 <;> simp[h4]
   ·simp only[bn h3]
theorem rA(r:bB)(hl:r.List.length≤4294967296)(hw:g7 r.List):lW r=some (dA r,()):=by
 rw[KG]
 unfold dA
 simp only[gk,LT _ _ hl hw,aa]
 cases decide (0≤r.Term∧r.Term≤300) with
 | false=>rfl
 | true =>
 cases decide (0≤r.Prev∧r.Prev≤300) with
 | false=>rfl
 | true =>
 cases f6 r.List 300 with
 | false=>rfl
 | true =>
 cases decide ((r.Snap.length:Int)>30000) with
 | true=>rfl
 | false =>
  have:=zY (k:=r.Kind) (v:=r.Vote) (p:=r.Prev) (a:=decide (-1≤r.Vote∧r.Vote≤4)) (b:=decide ((r.List.length:Int)=0)) (c:=decide (r.Snap=[]))
  simpa only[ab,Bool.not_true,Bool.not_false,Bool.false_eq_true,if_false,Bool.true_and,if_true]using this
theorem yz(r:bB)(hl:r.List.length≤4294967296):ll r=some (dA r,()):=by
 rw[Ej]
 unfold dA
 simp only[EJ,Et,Eo _ _ hl,aa]
 cases decide (0≤r.Term∧r.Term≤300) with
 | false=>rfl
 | true =>
 cases decide (0≤r.Prev∧r.Prev≤300) with
 | false=>rfl
 | true =>
 cases f6 r.List 300 with
 | false=>rfl
 | true =>
 cases decide ((r.Snap.length:Int)>30000) with
 | true=>rfl
 | false =>
  have:=zY (k:=r.Kind) (v:=r.Vote) (p:=r.Prev) (a:=decide (-1≤r.Vote∧r.Vote≤4)) (b:=decide ((r.List.length:Int)=0)) (c:=decide (r.Snap=[]))
  simpa only[ab,Bool.not_true,Bool.not_false,Bool.false_eq_true,if_false,Bool.true_and,if_true]using this
def kB:List Int→Int→Int→Int
 | [],a,b=>w64 (w64 (b*65536)+a)
 | x::l,a,b=>kB l (Int.tmod (w64 (a+w64 x)) 65521) (Int.tmod (w64 (b+Int.tmod (w64 (a+w64 x)) 65521)) 65521)
def gp(l:List Int):Int:=kB l 1 0
theorem vz(l:List Int)(hl:l.length≤4294967296):rC l=some (gp l,()):=by
 rw[KI]
 have key:∀ (d i:Nat) (a b:Int),i+d=l.length→rD l a b i=some (kB (l.drop i) a b,()):=by
  intro d
  induction d with
  | zero =>
   intro i a b hd
   rw[AE,aq,aX (by omega)];rfl
  | succ d ih =>
   intro i a b hd
   have hi:i<l.length:=by omega
   rw[AE,ap,al,dq hi,cO hi (by omega),ih (i+1) _ _ (by omega),ai hi];rfl
 have:=key l.length 0 1 0 (by omega)
 simpa [gp]using this
theorem yB(l:List Int)(hl:l.length≤4294967296):lm l=some (gp l,()):=by
 rw[Ek]
 have key:∀ (d i:Nat) (a b:Int),i+d=l.length→qF a b l (l.length:Int) i=some (kB (l.drop i) a b,()):=by
  intro d
  induction d with
  | zero =>
   intro i a b hd
   rw[yA,aq,aX (by omega)];rfl
  | succ d ih =>
   intro i a b hd
   have hi:i<l.length:=by omega
   rw[yA,ap,al,dq hi,cO hi (by omega),ih (i+1) _ _ (by omega),ai hi];rfl
 have:=key l.length 0 1 0 (by omega)
 simpa [gp]using this
def dy(acc:List Int)(e:bq):List Int:=(((acc++bU e.Term)++bU (w64 (e.C.Who+1)))++bU e.C.Seq)++cU e.C.Line
def de:List bq→List Int→List Int
 | [],acc=>acc
 | e::l,acc=>de l (dy acc e)
theorem tv(acc:List Int)(e:bq)(h:e.C.Line.length≤60):(dy acc e).length≤acc.length+96:=by
 unfold dy
 simp only[ag]
 have a:=cB e.Term
 have b:=cB (w64 (e.C.Who+1))
 have c:=cB e.C.Seq
 have d:=fx e.C.Line
 omega
theorem xi:∀ (l:List bq) (acc:List Int),(∀ e∈l,e.C.Line.length≤60)→(de l acc).length≤acc.length+96*l.length
 | [],acc,_=>by simp[de]
 | e::l,acc,h=>by
  have h1:=tv acc e (h e (aE ..))
  have h2:=xi l (dy acc e) fun x hx=>h x (aF _ hx)
  show(de l (dy acc e)).length≤_
  rw[aS];omega
theorem C0{c:bp}(h:eU c=true):c.Line.length≤60:=by
 unfold eU at h
 split at h
 ·simp only[aA,ab]at h;rw[h.2];exact Nat.zero_le _
 ·simp only[aA,ab]at h;omega
theorem Dw{l:List bq}{m:Int}(h:f6 l m=true):l.length≤40∧∀ e∈l,e.C.Line.length≤60:=by
 unfold f6 at h
 simp only[aA,ab,List.all_eq_true]at h
 refine⟨by omega,fun e he=>?_⟩
 have:=h.2 e he
 unfold fZ at this
 simp only[aA]at this
 exact C0 this.2
theorem lH{r:bB}(h:dA r=true):r.List.length≤40∧(∀ e∈r.List,e.C.Line.length≤60)∧r.Snap.length≤30000:=by
 unfold dA at h
 split at h
 ·rename_i hc
  simp only[aA,Bool.not_eq_true',decide_eq_false_iff_not]at hc
  have:=Dw hc.2.2.1
  exact⟨this.1,this.2,by omega⟩
 ·cases h
theorem LN(r:bB)(hl:r.List.length≤40)(hw:∀ e∈r.List,e.C.Line.length≤60)(hs:r.Snap.length≤30000):∀ (d i:Nat) (acc:List Int),i+d=r.List.length→acc.length≤100+96*i→rU acc i r=some (de (r.List.drop i) acc++cU r.Snap,()):=by
 intro d
 induction d with
 | zero =>
  intro i acc hd ha
  have a:=fx r.Snap
  rw[AW,aq,lU _ (by omega),aa]
  dsimp only
  rw[bm (by rw[b7];omega),aX (by omega)];rfl
 | succ d ih =>
  intro i acc hd ha
  have hi:i<r.List.length:=by omega
  have he:=hw _ (aW hi)
  have a:=cB (r.List[i]).Term
  have b:=cB (w64 ((r.List[i]).C.Who+1))
  have c:=cB (r.List[i]).C.Seq
  have t:=fx (r.List[i]).C.Line
  have el:=tv acc _ he
  have c1:acc.length+(bU (r.List[i]).Term).length≤room:=by rw[b7];omega
  have c2:(acc++bU (r.List[i]).Term).length+(bU (w64 ((r.List[i]).C.Who+1))).length≤room:=by rw[b7,ag];omega
  have c3:((acc++bU (r.List[i]).Term)++bU (w64 ((r.List[i]).C.Who+1))).length+(bU (r.List[i]).C.Seq).length≤room:=by rw[b7];simp only[ag];omega
  have c4:(((acc++bU (r.List[i]).Term)++bU (w64 ((r.List[i]).C.Who+1)))++bU (r.List[i]).C.Seq).length+(cU (r.List[i]).C.Line).length≤room:=by rw[b7];simp only[ag];omega
  rw[AW,ap,al,dq hi,cO hi (by omega)]
  simp only[eL,lU _ (show(r.List[i]).C.Line.length≤4000000000 by omega),aa,List.append_eq,bm c1,bm c2,bm c3,bm c4]
  rw[ai hi]
  exact ih (i+1) (dy acc r.List[i]) (by omega) (by omega)
theorem Eh(r:bB)(hl:r.List.length≤40)(hw:∀ e∈r.List,e.C.Line.length≤60):∀ (d i:Nat) (acc:List Int),i+d=r.List.length→acc.length≤100+96*i→jg acc r.List (r.List.length:Int) i r=jg (de (r.List.drop i) acc) r.List (r.List.length:Int) (r.List.length:Int) r:=by
 intro d
 induction d with
 | zero =>
  intro i acc hd ha
  rw[aX (by omega),show i=r.List.length by omega];rfl
 | succ d ih =>
  intro i acc hd ha
  have hi:i<r.List.length:=by omega
  have he:=hw _ (aW hi)
  have a:=cB (r.List[i]).Term
  have b:=cB (w64 ((r.List[i]).C.Who+1))
  have c:=cB (r.List[i]).C.Seq
  have t:=fx (r.List[i]).C.Line
  have el:=tv acc _ he
  have c1:acc.length+(bU (r.List[i]).Term).length≤room:=by rw[b7];omega
  have c2:(acc++bU (r.List[i]).Term).length+(bU (w64 ((r.List[i]).C.Who+1))).length≤room:=by rw[b7,ag];omega
  have c3:((acc++bU (r.List[i]).Term)++bU (w64 ((r.List[i]).C.Who+1))).length+(bU (r.List[i]).C.Seq).length≤room:=by rw[b7];simp only[ag];omega
  have c4:(((acc++bU (r.List[i]).Term)++bU (w64 ((r.List[i]).C.Who+1)))++bU (r.List[i]).C.Seq).length+(cU (r.List[i]).C.Line).length≤room:=by rw[b7];simp only[ag];omega
  have step3:qC acc r.List (r.List.length:Int) i [(r.List[i]).Term,w64 ((r.List[i]).C.Who+1),(r.List[i]).C.Seq] 3 0 r r.List[i]=jg (dy acc r.List[i]) r.List (r.List.length:Int) ((i+1:Nat):Int) r:=by
   have w1:w64 (0+1)=1:=ar
   have w2:w64 (1+1)=2:=ar
   have w3:w64 (2+1)=3:=ar
   rw[qD,bm (by decide),bm (by simp),f8,aa]
   rw[bm (by exact c1),w1,qD,bm (by decide),bm (by simp),f8,aa]
   rw[bm (by exact c2),w2,qD,bm (by decide),bm (by simp),f8,aa]
   rw[bm (by exact c3),w3,qD,bn (by decide),yx _ (by omega),aa,bm (by exact c4),cO hi (by omega)]
   rfl
  rw[yy,ap,al,dq hi,step3,ai hi]
  exact ih (i+1) (dy acc r.List[i]) (by omega) (by omega)
def fy(r:bB):List Int:=(((bU r.Kind++bU r.Term)++bU (w64 (r.Vote+1)))++bU r.Prev)++bU (r.List.length:Int)
def b6(r:bB):List Int:=de r.List (fy r)++cU r.Snap
def df(b:List Int):List Int:=[w8 (gp b),w8 (dC .i64 (gp b) 8),w8 (dC .i64 (gp b) 16),w8 (dC .i64 (gp b) 24)]
def bZ(r:bB):List Int:=if dA r then(bU ((b6 r).length:Int)++b6 r)++df (b6 r)else []
theorem uR(r:bB):(fy r).length≤45:=by
 unfold fy
 simp only[ag]
 have a:=cB r.Kind
 have b:=cB r.Term
 have c:=cB (w64 (r.Vote+1))
 have d:=cB r.Prev
 have e:=cB (r.List.length:Int)
 omega
theorem lG{r:bB}(h:dA r=true):(b6 r).length≤40000:=by
 obtain⟨h1,h2,h3⟩:=lH h
 unfold b6
 rw[ag]
 have a:=xi r.List (fy r) h2
 have b:=fx r.Snap
 have c:=uR r
 omega
theorem iD(r:bB):(bZ r).length≤41000:=by
 unfold bZ
 split
 ·rename_i h
  have a:=lG h
  have b:=cB ((b6 r).length:Int)
  simp only[ag,df,aS,List.length_nil]
  omega
 ·simp
theorem AD(r:bB)(hl:r.List.length≤4294967296)(hw:g7 r.List):kc r=some (bZ r,()):=by
 rw[KE,rA r hl hw,aa]
 unfold bZ
 cases h:dA r with
 | false=>rfl
 | true =>
  obtain⟨h1,h2,h3⟩:=lH h
  have hb:=lG h
  have a:=cB r.Kind
  have b:=cB r.Term
  have c:=cB (w64 (r.Vote+1))
  have d:=cB r.Prev
  have e:=cB (r.List.length:Int)
  have f:=cB ((b6 r).length:Int)
  have body:wa r=some (b6 r,()):=by
   rw[LO]
   have c1:(bU r.Kind).length+(bU r.Term).length≤room:=by rw[b7];omega
   have c2:(bU r.Kind++bU r.Term).length+(bU (w64 (r.Vote+1))).length≤room:=by rw[b7];simp only[ag];omega
   have c3:((bU r.Kind++bU r.Term)++bU (w64 (r.Vote+1))).length+(bU r.Prev).length≤room:=by rw[b7];simp only[ag];omega
   have c4:(((bU r.Kind++bU r.Term)++bU (w64 (r.Vote+1)))++bU r.Prev).length+(bU (r.List.length:Int)).length≤room:=by rw[b7];simp only[ag];omega
   simp only[eL,aa,List.append_eq,bm c1,bm c2,bm c3,bm c4]
   exact LN r h1 h2 h3 r.List.length 0 (fy r) (by omega) (by have:=uR r;omega)
  rw[bn (by simp),body,aa,eL,aa]
  dsimp only
  rw[bm (by rw[b7];omega),A2,vz _ (by omega)]
  simp only[aa,List.append_eq,if_true]
  rw[bm (by rw[b7];simp only[ag,aS,List.length_nil];omega)]
  rfl
theorem jV(r:bB)(hl:r.List.length≤4294967296):lk r=some (bZ r,()):=by
 rw[Ei,yz r hl,aa]
 unfold bZ
 cases h:dA r with
 | false=>rfl
 | true =>
  obtain⟨h1,h2,h3⟩:=lH h
  have hb:=lG h
  have a:=cB r.Kind
  have b:=cB r.Term
  have c:=cB (w64 (r.Vote+1))
  have d:=cB r.Prev
  have e:=cB (r.List.length:Int)
  have f:=cB ((b6 r).length:Int)
  have g:=fx r.Snap
  have w1:w64 (0+1)=1:=ar
  have w2:w64 (1+1)=2:=ar
  have w3:w64 (2+1)=3:=ar
  have w4:w64 (3+1)=4:=ar
  have w5:w64 (4+1)=5:=ar
  rw[bn (by simp),jU,bm (by decide),bm (by simp),f8,aa]
  rw[bm (by show 0+(bU r.Kind).length≤room;rw[b7];omega),w1,jU,bm (by decide),bm (by simp),f8,aa]
  rw[bm (by show(bU r.Kind).length+(bU r.Term).length≤room;rw[b7];omega),w2,jU,bm (by decide),bm (by simp),f8,aa]
  rw[bm (by show(bU r.Kind++bU r.Term).length+(bU (w64 (r.Vote+1))).length≤room;rw[b7];simp only[ag];omega),w3,jU,bm (by decide),bm (by simp),f8,aa]
  rw[bm (by show((bU r.Kind++bU r.Term)++bU (w64 (r.Vote+1))).length+(bU r.Prev).length≤room;rw[b7];simp only[ag];omega),w4,jU,bm (by decide),bm (by simp),f8,aa]
  rw[bm (by show(((bU r.Kind++bU r.Term)++bU (w64 (r.Vote+1)))++bU r.Prev).length+(bU (r.List.length:Int)).length≤room;rw[b7];simp only[ag];omega),w5,jU,bn (by decide)]
  have key:=Eh r h1 h2 r.List.length 0 (fy r) (by omega) (by have:=uR r;omega)
  have key':jg (fy r) r.List (r.List.length:Int) 0 r=_:=key
  refine Eq.trans key' ?_
  rw[aN,yy,bn (by simp),yx _ (by omega),aa]
  have hb':(de r.List (fy r)++cU r.Snap).length≤40000:=hb
  have c1:(de r.List (fy r)).length+(cU r.Snap).length≤room:=by rw[ag]at hb';rw[b7];omega
  simp only[bm c1,List.append_eq]
  show((lm (b6 r)).bind fun r1=>(jf ((b6 r).length:Int)).bind fun r2=>if r2.1.length+(b6 r).length≤room then if(r2.1++b6 r).length+4≤room then some ((r2.1++b6 r)++[w8 r1.1,w8 (dC .i64 r1.1 8),w8 (dC .i64 r1.1 16),w8 (dC .i64 r1.1 24)],())else none else none)=_
  rw[yB _ (by omega),f8]
  simp only[aa]
  rw[bm (by rw[b7];omega),bm (by rw[b7,ag];omega)]
  rfl
theorem Bytes.app{a b:List Int}(ha:Bytes a)(hb:Bytes b):Bytes (a++b):=fun x hx=>(aB.1 hx).elim (ha x) (hb x)
theorem cN{c:bM}(h:ci c)(n:Int)(hn:0<n):Tot (cV c n) (fun y=>(0≤y.1∧y.1<n)∧ci y.2.1):=by
 obtain⟨x,c',e,k,a,b,_⟩:=qb h n
 exact te e ⟨⟨a,b hn⟩,k⟩
theorem uD{c:bM}(h:ci c)(l:List (List Int))(hl:l≠[]):Tot (jy c l) (fun y=>y.1∈l∧ci y.2.1):=by
 obtain⟨x,c',e,k,m⟩:=zy h l hl
 exact te e ⟨m,k⟩
theorem gK{c:bM}(h:ci c)(l:List Int)(hl:l≠[]):Tot (fa c l) (fun y=>y.1∈l∧ci y.2.1):=by
 obtain⟨x,c',e,k,m⟩:=I8 h l hl
 exact te e ⟨m,k⟩
theorem uB{c:bM}(h:ci c)(n:Int):Tot (ky c n) (fun y=>ci y.2.1):=by
 obtain⟨x,c',e,k,_⟩:=qb h n
 rw[L0,e]
 exact ts k
theorem uw{l:List (List Int)}{n:Nat}{x:List Int}(hl:(l.all fun t=>decide (t.length≤n)&&t.all fun b=>decide (0≤b∧b≤255))=true)(h:x∈l):x.length≤n∧Bt x:=by
 have:=List.all_eq_true.1 hl x h
 rw[aA,ab]at this
 exact⟨this.1,fun b hb=>of_decide_eq_true (List.all_eq_true.1 this.2 b hb)⟩
theorem cZ{a b:List Int}(ha:Bt a)(hb:Bt b):Bt (a++b):=fun x hx=>(aB.1 hx).elim (ha x) (hb x)
theorem fY:Bt []:=fun x hx=>by cases hx
theorem Im{c:bM}(h:ci c):Tot (vA c) (fun y=>(y.1.length≤100∧Bt y.1)∧ci y.2.1):=by
 rw[KX]
 have key:∀ (d i:Nat) (t:List Int) (c:bM),ci c→i+d=4→t.length≤5*i→Bt t→Tot (rH t (i:Int) c) (fun y=>(y.1.length≤100∧Bt y.1)∧ci y.2.1):=by
  intro d
  induction d with
  | zero =>
   intro i t c h hd ht hb
   rw[AG]
   exact tb (cN h 5 (by omega)) (fun y hy=>tn (by rw[ab];omega) (ts ⟨⟨by show t.length≤_;omega,hb⟩,hy.2⟩))
  | succ d ih =>
   intro i t c h hd ht hb
   rw[AG,cO (n:=4) (by omega) (by omega)]
   refine tb (cN h 5 (by omega)) (fun y hy=>ti (fun _=>tb (uD hy.2 _ (by simp)) (fun u hu=>?_)) (fun _=>ts ⟨⟨by show t.length≤_;omega,hb⟩,hy.2⟩))
   have l2:=uw (n:=3) (by decide) hu.1
   refine tc (by omega) (tb (uD hu.2 _ (by simp)) (fun v hv=>?_))
   have l3:=uw (n:=2) (by decide) hv.1
   refine tc (by rw[ag];omega) (ih (i+1) _ _ hv.2 (by omega) (by rw[ag,ag];omega) (cZ (cZ hb l2.2) l3.2))
 exact key 4 0 [] c h (by omega) (by simp) fY
def CmW(c:bp):Prop:=c.Line.length≤100∧Bt c.Line
theorem tl{c:bM}(h:ci c):Tot (lZ c) (fun y=>CmW y.1∧ci y.2.1):=by
 rw[LA]
 exact tb (uB h 8) (fun y hy=>ti (fun _=>ts ⟨⟨by simp,fY⟩,hy⟩) (fun _=>tb (cN hy 3 (by omega)) (fun z hz=>tb (cN hz.2 5 (by omega)) (fun u hu=>tb (Im hu.2) (fun v hv=>ts ⟨hv.1,hv.2⟩)))))
theorem C1{c:bM}(h:ci c)(n:Nat)(hn:n≤100):Tot (vV c (n:Int)) (fun y=>(y.1.length≤100∧∀ x∈y.1,CmW x)∧ci y.2.1):=by
 rw[LB,ar]
 refine tb (cN h _ (by omega)) (fun y hy=>?_)
 obtain⟨m,hm⟩:=Int.eq_ofNat_of_zero_le hy.1.1
 rw[hm]
 have key:∀ (d i:Nat) (l:List bp) (c:bM),ci c→i+d=m→l.length=i→(∀ x∈l,CmW x)→Tot (rQ l (m:Int) (i:Int) c) (fun y=>(y.1.length≤100∧∀ x∈y.1,CmW x)∧ci y.2.1):=by
  intro d
  induction d with
  | zero =>
   intro i l c hc hd hl hw
   rw[AN,aq]
   exact ts ⟨⟨by show l.length≤_;omega,hw⟩,hc⟩
  | succ d ih =>
   intro i l c hc hd hl hw
   rw[AN,ap,ar (n:=(i:Int)+1)]
   refine tb (tl hc) (fun z hz=>tc (by rw[b7];omega) (ih (i+1) _ _ hz.2 (by omega) (by show(l++[_]).length=_;rw[ag,hl];rfl) (fun x hx=>?_)))
   rcases aB.1 (show x∈l++[_]from hx)with hx | hx
   ·exact hw x hx
   ·rw[aK.1 hx];exact hz.1
 exact key m 0 [] _ hy.2 (by omega) rfl (fun x hx=>by cases hx)
theorem Iw{p:bA}(hp:PrW p)(hr:s_ProgOk p=some (true,())){cs:List bp}(hl:cs.length≤1000)(hc:∀ c∈cs,CmW c):Tot (rr p cs) (fun y=>McW p.Vars.length y.1):=by
 obtain⟨y,e,hy⟩:=Ix hp hl (fun c h=>⟨by have:=(hc c h).1;omega,(hc c h).2⟩)
 refine⟨y,e,hy.resolve_left fun hy=>?_⟩
 rw[Au,hr,aa,bn (by simp)]at e
 obtain⟨m,e2,hm⟩:=zg hp
 rw[e2,aa]at e
 have len:∀ (d i:Nat) (m:bt) (y:bt×Unit),i+d=cs.length→McW p.Vars.length m→j9 cs (i:Int) p sK m=some y→McW p.Vars.length y.1:=by
  intro d
  induction d with
  | zero =>
   intro i m y hd hm e
   rw[rt,aq]at e
   cases e;exact hm
  | succ d ih =>
   intro i m y hd hm e
   have hi:i<cs.length:=by omega
   obtain⟨h1,h2⟩:=hc _ (aW hi)
   rw[rt,ap,al,dq hi,vb _ (by omega),aa,cO hi (by omega)]at e
   dsimp only at e
   by_cases c:eU cs[i]=true
   ·rw[bm c,al]at e
    have cw:cs[i].Who<3:=by
     have c':=c
     unfold eU at c'
     by_cases e:(cs[i].Who) = -1
     ·omega
     ·simp[e]at c';omega
    obtain⟨z,e3,hz⟩:=xP hp hm cw (by omega) h2
    rw[e3,aa]at e
    exact ih (i+1) _ _ (by omega) hz e
   ·rw[bn c]at e
    exact ih (i+1) _ _ (by omega) hm e
 have h3:=(len cs.length 0 _ _ (by omega) hm e).2.1
 rw[hy]at h3
 cases h3
theorem Aa{c:bM}(h:ci c):Tot (vW c) (fun y=>(PrW y.1∧s_ProgOk y.1=some (true,()))∧McW y.1.Vars.length y.2.1∧ci y.2.2.1):=by
 rw[LC]
 exact tb (Dl h) (fun y hy=>tb (C1 hy.2 8 (by omega)) (fun z hz=>tb (Iw hy.1.1 hy.1.2 (by have:=hz.1.1;omega) hz.1.2) (fun m hm=>ts ⟨hy.1,hm,hz.2⟩)))
theorem dV(n:Int):Bt (bU n):=Jl n
theorem kQ{t:List Int}(h:Bt t):Bt (cU t):=cZ (dV _) h
theorem CJ(n:Int):Bt (jr n):=by
 unfold jr
 split
 ·exact dV _
 ·exact fY
theorem xn{v:bG}(h:VW v):Bt (iM v):=cZ (cZ (dV _) (CJ _)) (kQ h.2)
theorem qe{α:Type}(f:List Int→α→List Int)(P:α→Prop)(hf:∀ a x,Bt a→P x→Bt (f a x)):∀ (l:List α) (a:List Int),Bt a→(∀ x∈l,P x)→Bt (l.foldl f a)
 | [],a,ha,_=>ha
 | x::l,a,ha,h=>qe f P hf l (f a x) (hf a x ha (h x aE)) (fun y hy=>h y (aF _ hy))
theorem xl{nv:Nat}{m:bt}(h:McW nv m):Bt (jo m):=by
 unfold jo ia ib
 refine cZ (qe _ (fun _=>True) (fun a x ha _=>cZ ha (dV _)) _ _ (cZ (cZ (qe _ ClW (fun a x ha hx=>cZ (cZ (cZ ha (dV _)) (kQ hx.1.2)) (xn hx.2)) _ _ (cZ (qe _ VW (fun a x ha hx=>?_) _ _ (dV _) h.1.1.2) (dV _)) h.1.2.2) (dV _)) (dV _)) (fun _ _=>trivial)) (kQ h.2.2.2)
 exact cZ ha (xn hx)
def RcW(r:bB):Prop:=(r.List.length≤100∧∀ e∈r.List,CmW e.C)∧r.Snap.length≤31000∧Bt r.Snap
theorem xV{c:bM}(h:ci c)(t:Int)(n:Nat)(hn:n≤50):Tot (v9 c t (n:Int)) (fun y=>(y.1.length≤50∧∀ e∈y.1,CmW e.C)∧ci y.2.1):=by
 rw[LM,ar]
 refine tb (cN h _ (by omega)) (fun y hy=>?_)
 obtain⟨m,hm⟩:=Int.eq_ofNat_of_zero_le hy.1.1
 rw[hm]
 have key:∀ (d i:Nat) (t:Int) (l:List bq) (c:bM),ci c→i+d=m→l.length=i→(∀ e∈l,CmW e.C)→Tot (rT t l (m:Int) (i:Int) c) (fun y=>(y.1.length≤50∧∀ e∈y.1,CmW e.C)∧ci y.2.1):=by
  intro d
  induction d with
  | zero =>
   intro i t l c hc hd hl hw
   rw[AV,aq]
   exact ts ⟨⟨by show l.length≤_;omega,hw⟩,hc⟩
  | succ d ih =>
   intro i t l c hc hd hl hw
   rw[AV,ap,ar (n:=(i:Int)+1)]
   refine tb (cN hc 2 (by omega)) (fun u hu=>tb (tl hu.2) (fun z hz=>tc (by rw[b7];omega) (ih (i+1) _ _ _ hz.2 (by omega) (by show(l++[_]).length=_;rw[ag,hl];rfl) (fun x hx=>?_))))
   rcases aB.1 (show x∈l++[_]from hx)with hx | hx
   ·exact hw x hx
   ·rw[aK.1 hx];exact hz.1
 exact key m 0 t [] _ hy.2 (by omega) rfl (fun x hx=>by cases hx)
theorem zX{c:bM}(h:ci c):Tot (ku c) (fun y=>RcW y.1∧ci y.2.1):=by
 have nl:(([]:List bq).length≤100∧∀ e∈([]:List bq),CmW e.C):=⟨by simp,fun e he=>by cases he⟩
 rw[AY]
 refine tb (cN h 4 (by omega)) (fun y hy=>ti (fun _=>tb (cN hy.2 6 (by omega)) (fun z hz=>tb (cN hz.2 4 (by omega)) (fun u hu=>ts ⟨⟨nl,by simp,fY⟩,hu.2⟩))) (fun _=>ti (fun _=>tb (Aa hy.2) (fun z hz=>tb (cN hz.2.2 3 (by omega)) (fun u hu=>tb (cN hu.2 5 (by omega)) (fun v hv=>?_)))) (fun _=>tb (cN hy.2 2 (by omega)) (fun z hz=>tb (cN hz.2 3 (by omega)) (fun u hu=>tb (xV hu.2 1 4 (by omega)) (fun v hv=>ts ⟨⟨⟨by have:=hv.1.1;show v.1.length≤100;omega,hv.1.2⟩,by simp,fY⟩,hv.2⟩))))))
 have hf:=zb hz.1.1.names hz.2.1
 have hl:=za hf
 rw[AR _ hf,aa]
 exact ts ⟨⟨nl,by show(jo _).length≤_;omega,xl hz.2.1⟩,hv.2⟩
theorem xk:∀ (l:List bq) (a:List Int),Bt a→(∀ e∈l,CmW e.C)→Bt (de l a)
 | [],a,ha,_=>ha
 | e::l,a,ha,h=>xk l (dy a e) (cZ (cZ (cZ (cZ ha (dV _)) (dV _)) (dV _)) (kQ (h e aE).2)) (fun x hx=>h x (aF _ hx))
theorem xm{r:bB}(h:RcW r):Bt (bZ r):=by
 unfold bZ
 split
 ·have hb:Bt (b6 r):=cZ (xk _ _ (cZ (cZ (cZ (cZ (dV _) (dV _)) (dV _)) (dV _)) (dV _)) h.1.2) (kQ h.2.2)
  refine cZ (cZ (dV _) hb) (fun x hx=>?_)
  unfold df at hx
  rcases aL.1 hx with rfl | hx
  ·exact iP _
  rcases aL.1 hx with rfl | hx
  ·exact iP _
  rcases aL.1 hx with rfl | hx
  ·exact iP _
  rw[aK.1 hx];exact iP _
 ·exact fY
theorem uj{r:bB}(h:RcW r):g7 r.List:=fun e he=>by have:=(h.1.2 e he).1;omega
theorem zU{r:bB}(h:RcW r):Tot (kc r) (fun y=>y.1.length≤41000∧Bt y.1):=te (AD r (by have:=h.1.1;omega) (uj h)) ⟨iD r,xm h⟩
theorem CQ{c:bM}(h:ci c):Tot (wb c) (fun y=>(y.1.length≤200000∧Bt y.1)∧ci y.2.1):=by
 rw[LP]
 have key:∀ (d i:Nat) (t:List Int) (c:bM),ci c→i+d=3→t.length≤41000*i→Bt t→Tot (rW t (i:Int) c) (fun y=>(y.1.length≤200000∧Bt y.1)∧ci y.2.1):=by
  intro d
  induction d with
  | zero =>
   intro i t c h hd ht hb
   rw[AX]
   exact tb (cN h 4 (by omega)) (fun y hy=>tn (by rw[ab];omega) (ts ⟨⟨by show t.length≤_;omega,hb⟩,hy.2⟩))
  | succ d ih =>
   intro i t c h hd ht hb
   rw[AX,cO (n:=4) (by omega) (by omega)]
   refine tb (cN h 4 (by omega)) (fun y hy=>ti (fun _=>tb (zX hy.2) (fun r hr=>tb (zU hr.1) (fun b hb2=>?_))) (fun _=>ts ⟨⟨by show t.length≤_;omega,hb⟩,hy.2⟩))
   have:=hb2.1
   exact tc (by rw[b7];omega) (ih (i+1) _ _ hr.2 (by omega) (by show(t++_).length≤_;rw[ag];omega) (cZ hb hb2.2))
 exact key 3 0 [] c h (by omega) (by simp) fY
theorem Dj{c:bM}(h:ci c){b:List Int}(hl:b.length≤1000000)(hb:Bt b):Tot (v6 c b) (fun y=>(y.1.length≤b.length+1∧Bt y.1)∧ci y.2.1):=by
 rw[LG,ar]
 refine tb (cN h _ (by omega)) (fun y hy=>tb (cN hy.2 5 (by omega)) (fun z hz=>ti (fun _=>tc (by omega) (ts ⟨⟨?_,fun x hx=>hb x (by first | exact List.mem_of_mem_drop (List.mem_of_mem_take hx) | exact List.mem_of_mem_take hx)⟩,hz.2⟩)) (fun _=>ti (fun _=>?_) (fun _=>ts ⟨⟨by show b.length≤_;omega,hb⟩,hz.2⟩))))
 ·simp only[aQ,aR];omega
 ·refine tc (by omega) (tc (by rw[b7,aQ,aR];omega) (tb (gK hz.2 _ (by simp)) (fun u hu=>tc (by omega) (tc (by rw[b7,aQ,aR];omega) (tc ?_ (ts ⟨⟨?_,?_⟩,hu.2⟩))))))
  ·show(List.take _ (List.drop 0 b)).length+([_]++List.take _ (List.drop _ b)).length≤_
   rw[b7,ag,aQ,aR,aQ,aR,bj];omega
  ·show(List.take _ (List.drop 0 b)++([_]++List.take _ (List.drop _ b))).length≤_
   rw[ag,ag,aQ,aR,aQ,aR,bj];omega
  ·exact cZ (fun x hx=>hb x (List.mem_of_mem_drop (List.mem_of_mem_take (show x∈List.take _ (List.drop 0 b)from hx)))) (cZ (a:=[_]) (fun x hx=>by rw[aK.1 hx];exact iP _) (fun x hx=>hb x (List.mem_of_mem_drop (List.mem_of_mem_take hx))))
theorem Jz{b:List Int}(hb:b.length≤1048576):Tot (vj b) (fun y=>(y.1.length≤250000∧Bt y.1)∧(-1≤y.2.1∧y.2.1≤250000)):=by
 obtain⟨c,e,hc⟩:=zf b hb
 rw[Kl,e,aa]
 refine tb (zX hc) (fun r hr=>tb (zU hr.1) (fun x hx=>tb (CQ hr.2) (fun y hy=>?_)))
 have h1:=hx.1
 have h2:=hy.1.1
 have hl:(List.append x.1 y.1).length=x.1.length+y.1.length:=ag
 refine tc (by rw[b7];omega) (tb (Dj hy.2 (by omega) (cZ hx.2 hy.1.2)) (fun z hz=>tb (gK hz.2 _ (by simp)) (fun k hk=>?_)))
 have h3:=hz.1.1
 refine ts ⟨⟨by show z.1.length≤_;omega,hz.1.2⟩,?_⟩
 have hk1:=hk.1
 simp only[aL,List.not_mem_nil,or_false]at hk1
 show -1≤k.1∧k.1≤250000
 omega
theorem My{c:bM}(h:ci c){t:bp}(ht:CmW t):Tot (vY c t) (fun y=>CmW y.1∧ci y.2.1):=by
 rw[LE]
 refine tb (cN h 12 (by omega)) (fun y hy=>ti (fun _=>tb (gK hy.2 _ (by simp)) (fun z hz=>ts ⟨ht,hz.2⟩)) (fun _=>ti (fun _=>tb (gK hy.2 _ (by simp)) (fun z hz=>ts ⟨ht,hz.2⟩)) (fun _=>ti (fun _=>tb (uD hy.2 _ (by simp)) (fun z hz=>ts ⟨?_,hz.2⟩)) (fun _=>ts ⟨ht,hy.2⟩))))
 exact uw (n:=100) (by decide) hz.1
theorem zJ{r:bB}(h:RcW r)(hl:r.List.length≤99){e:bq}(he:CmW e.C):RcW ⟨r.Kind,r.Term,r.Vote,r.Prev,List.append r.List [e],r.Snap⟩:=by
 refine⟨⟨?_,fun x hx=>?_⟩,h.2⟩
 ·show(r.List++[e]).length≤100
  rw[ag,bj];omega
 ·rcases aB.1 (show x∈r.List++[e]from hx)with hx | hx
  ·exact h.1.2 x hx
  ·rw[aK.1 hx];exact he
theorem Jy{c:bM}(h:ci c):Tot (ku c) (fun y=>(RcW y.1∧y.1.List.length≤50)∧ci y.2.1):=by
 have nl:(([]:List bq).length≤100∧∀ e∈([]:List bq),CmW e.C):=⟨by simp,fun e he=>by cases he⟩
 rw[AY]
 refine tb (cN h 4 (by omega)) (fun y hy=>ti (fun _=>tb (cN hy.2 6 (by omega)) (fun z hz=>tb (cN hz.2 4 (by omega)) (fun u hu=>ts ⟨⟨⟨nl,by simp,fY⟩,by simp⟩,hu.2⟩))) (fun _=>ti (fun _=>tb (Aa hy.2) (fun z hz=>tb (cN hz.2.2 3 (by omega)) (fun u hu=>tb (cN hu.2 5 (by omega)) (fun v hv=>?_)))) (fun _=>tb (cN hy.2 2 (by omega)) (fun z hz=>tb (cN hz.2 3 (by omega)) (fun u hu=>tb (xV hu.2 1 4 (by omega)) (fun v hv=>ts ⟨⟨⟨⟨by have:=hv.1.1;show v.1.length≤100;omega,hv.1.2⟩,by simp,fY⟩,hv.1.1⟩,hv.2⟩))))))
 have hf:=zb hz.1.1.names hz.2.1
 have hl:=za hf
 rw[AR _ hf,aa]
 exact ts ⟨⟨⟨nl,by show(jo _).length≤_;omega,xl hz.2.1⟩,by simp⟩,hv.2⟩
theorem JA{c:bM}(h:ci c):Tot (rV c) (fun y=>RcW y.1∧ci y.2.1):=by
 have L1:∀ {c:bM} {r:bB},ci c→RcW r→Tot (iJ c eN r) (fun y=>RcW y.1∧ci y.2.1):=fun {c r} hc hr=>by
  rw[LQ];exact ts ⟨hr,hc⟩
 have L2:∀ (d:Nat) {c:bM} {r:bB},ci c→RcW r→41≤r.List.length+d→r.List.length≤50→Tot (rX c eN r) (fun y=>RcW y.1∧ci y.2.1):=by
  intro d
  induction d with
  | zero =>
   intro c r hc hr hd hl
   rw[AZ]
   refine tb (cN hc 2 (by omega)) (fun y hy=>?_)
   rw[ar (n:=40+y.1)]
   exact tn (by rw[ab];omega) (L1 hy.2 hr)
  | succ d ih =>
   intro c r hc hr hd hl
   rw[AZ]
   refine tb (cN hc 2 (by omega)) (fun y hy=>?_)
   rw[ar (n:=40+y.1)]
   refine ti (fun c2=>tc (by rw[b7];omega) (ih hy.2 (zJ hr (by omega) ⟨by simp,fY⟩) ?_ ?_)) (fun _=>L1 hy.2 hr)
   ·show 41≤(r.List++[_]).length+d
    rw[ag,bj];omega
   ·rw[ab]at c2
    show(r.List++[_]).length≤50
    rw[ag,bj];omega
 rw[LR]
 refine tb (Jy h) (fun r hr=>tb (cN hr.2 14 (by omega)) (fun y hy=>ti (fun _=>tb (cN hy.2 6 (by omega)) (fun z hz=>L1 hz.2 hr.1.1)) (fun _=>ti (fun _=>tb (gK hy.2 _ (by simp)) (fun z hz=>L1 hz.2 hr.1.1)) (fun _=>ti (fun _=>tb (gK hy.2 _ (by simp)) (fun z hz=>L1 hz.2 hr.1.1)) (fun _=>ti (fun _=>tb (cN hy.2 3 (by omega)) (fun z hz=>tb (tl hz.2) (fun u hu=>tb (My hu.2 hu.1) (fun v hv=>tc (by have:=hr.1.2;rw[b7];omega) (L1 hv.2 (zJ hr.1.1 (by have:=hr.1.2;omega) hv.1)))))) (fun _=>ti (fun _=>L2 41 hy.2 hr.1.1 (by omega) hr.1.2) (fun _=>L1 hy.2 hr.1.1)))))))
theorem IR{c:bM}(h:ci c):Tot (v7 c) (fun y=>y.1.length≤100∧ci y.2.1):=by
 have L2:∀ {t:List Int} {c:bM},ci c→t.length≤60→Tot (kt t c) (fun y=>y.1.length≤100∧ci y.2.1):=fun {t c} hc ht=>by
  rw[LH]
  refine tb (uB hc 12) (fun y hy=>ti (fun _=>tb (gK hy _ (by simp)) (fun z hz=>tc (by rw[b7];omega) (ts ⟨?_,hz.2⟩))) (fun _=>ts ⟨by show t.length≤_;omega,hy⟩))
  show(t++_).length≤100
  rw[ag]
  simp only[aS,List.length_nil];omega
 have L1:∀ (d i:Nat) (t:List Int) (c:bM),ci c→i+d=3→t.length≤9*i→Tot (rR t (i:Int) c) (fun y=>y.1.length≤100∧ci y.2.1):=by
  have E:∀ (i:Nat) (t:List Int) (c:bM),ci c→i≤3→t.length≤9*i→Tot ((ky c 3).bind fun(r3:Bool×bM×Unit) =>
    if r3.1=true then
     (fa r3.2.1 [0,128,255]).bind fun(r4:Int×bM×Unit) =>
     (cV r4.2.1 3).bind fun(r5:Int×bM×Unit) =>
     if List.length t+2≤room then
      kt (List.append t [(w8 r4.1),(w8 r5.1)]) r5.2.1
     else none
    else
     kt t r3.2.1) (fun y=>y.1.length≤100∧ci y.2.1):=fun i t c hc hi ht=>by
   refine tb (uB hc 3) (fun y hy=>ti (fun _=>tb (gK hy _ (by simp)) (fun z hz=>tb (cN hz.2 3 (by omega)) (fun u hu=>tc (by rw[b7];omega) (L2 hu.2 ?_)))) (fun _=>L2 hy (by omega)))
   show(t++_).length≤60
   rw[ag]
   simp only[aS,List.length_nil];omega
  intro d
  induction d with
  | zero =>
   intro i t c hc hd ht
   rw[AS]
   exact tb (cN hc 4 (by omega)) (fun y hy=>tn (by rw[ab];omega) (E i t _ hy.2 (by omega) ht))
  | succ d ih =>
   intro i t c hc hd ht
   rw[AS,cO (n:=4) (by omega) (by omega)]
   refine tb (cN hc 4 (by omega)) (fun y hy=>ti (fun _=>tb (gK hy.2 _ (by simp)) (fun z hz=>?_)) (fun _=>E i t _ hy.2 (by omega) ht))
   have hl:=cB z.1
   rw[eL,aa]
   dsimp only
   exact tc (by rw[b7];omega) (ih (i+1) _ _ hz.2 (by omega) (by show(t++_).length≤_;rw[ag];omega))
 rw[LI]
 exact L1 3 0 [] c h (by omega) (by simp)
abbrev Rs:=Int×Bool
def rdN(b:List Int)(s:Rs):Int×Rs:=if s.2=true∧(cz b s.1).2.2=true then((cz b s.1).1,(cz b s.1).2.1,true) else(0,s.1,false)
def rdT(b:List Int)(s:Rs):List Int×Rs:=if s.2=true∧(dP b s.1).2.2=true then((dP b s.1).1,(dP b s.1).2.1,true) else([],s.1,false)
def Pos(b:List Int)(s:Rs):Prop:=0≤s.1∧s.1≤(b.length:Int)
theorem fS{b:List Int}{s:Rs}(hs:Pos b s):Pos b (rdN b s).2:=by
 unfold rdN;split
 ·have:=gE b s.1;exact⟨this.2.2.1,this.2.2.2⟩
 ·exact hs
theorem zS{b:List Int}{s:Rs}(hw:Bytes b)(hs:Pos b s):Pos b (rdT b s).2:=by
 unfold rdT;split
 ·rename_i h
  have:=wy b hw s.1 (dP b s.1).2.1 (dP b s.1).1 (by rw[← h.2])
  exact⟨by show 0≤(dP b s.1).2.1;omega,this.2.2.1⟩
 ·exact hs
theorem iC{b:List Int}{s:Rs}(hw:Bytes b)(h:(rdN b s).2.2=true):s.2=true∧s.1<(rdN b s).2.1∧b.take (rdN b s).2.1.toNat=b.take s.1.toNat++bU (rdN b s).1∧0≤(rdN b s).1∧(rdN b s).1≤4611686018427387903:=by
 unfold rdN at h ⊢
 by_cases hc:s.2=true∧(cz b s.1).2.2=true
 ·rw[bm hc]
  obtain⟨c1,c2,c3,c4,c5,c6⟩:=lz b hw s.1 (cz b s.1).1 (cz b s.1).2.1 (by rw[← hc.2])
  exact⟨hc.1,c2,c4,c5,c6⟩
 ·rw[bn hc]at h;cases h
theorem uN{b:List Int}{s:Rs}(hw:Bytes b)(h:(rdT b s).2.2=true):s.2=true∧s.1<(rdT b s).2.1∧b.take (rdT b s).2.1.toNat=b.take s.1.toNat++cU (rdT b s).1:=by
 unfold rdT at h ⊢
 by_cases hc:s.2=true∧(dP b s.1).2.2=true
 ·rw[bm hc]
  obtain⟨c1,c2,c3,c4,c5⟩:=wy b hw s.1 (dP b s.1).2.1 (dP b s.1).1 (by rw[← hc.2])
  exact⟨hc.1,c2,c4⟩
 ·rw[bn hc]at h;cases h
theorem Jt{b:List Int}{s:Rs}:0≤(rdN b s).1∧(rdN b s).1≤4611686018427387903:=by
 have:=gE b s.1
 unfold rdN;split
 ·exact⟨this.1,this.2.1⟩
 ·exact⟨Int.le_refl _,by show(0:Int)≤_;omega⟩
theorem Ju{b:List Int}{s:Rs}(h:(rdN b s).2.2=false):(rdN b s).1=0:=by
 unfold rdN at h ⊢
 by_cases hc:s.2=true∧(cz b s.1).2.2=true
 ·rw[bm hc]at h;cases h
 ·rw[bn hc]
theorem uM{b:List Int}{s:Rs}(h:s.2=false):rdN b s=(0,s.1,false):=by unfold rdN;rw[bn (by rw[h];simp)]
theorem lF{b:List Int}{s:Rs}(h:s.2=false):rdT b s=([],s.1,false):=by unfold rdT;rw[bn (by rw[h];simp)]
theorem Jv{b:List Int}{s:Rs}(hw:Bytes b):(rdT b s).1.length≤b.length:=by
 unfold rdT;split
 ·rename_i h
  exact(wy b hw s.1 (dP b s.1).2.1 (dP b s.1).1 (by rw[← h.2])).2.2.2.2
 ·exact Nat.zero_le _
theorem iI{b:List Int}{s:Rs}(hb:b.length≤1048576)(hw:Bytes b)(hs:Pos b s):gj ⟨b,s.1,s.2⟩=some ((rdN b s).1,⟨b,(rdN b s).2.1,(rdN b s).2.2⟩,()):=by
 unfold Pos at hs
 rw[LJ,vt b hb hw s.1 (by omega),aa]
 unfold rdN tr3
 obtain⟨p,ok⟩:=s
 cases h1:(cz b p).2.2 <;> cases ok <;> simp
theorem v8{b:List Int}{s:Rs}(hb:b.length≤1048576)(hw:Bytes b)(hs:Pos b s):l5 ⟨b,s.1,s.2⟩=some ((rdT b s).1,⟨b,(rdT b s).2.1,(rdT b s).2.2⟩,()):=by
 unfold Pos at hs
 rw[LK,Ks b hb hw s.1 (by omega),aa]
 unfold rdT trT
 obtain⟨p,ok⟩:=s
 cases h1:(dP b p).2.2 <;> cases ok <;> simp
theorem fp{b:List Int}{s:Rs}(hb:b.length≤1048576)(hw:Bytes b):fQ ⟨b,s.1,!s.2⟩ 4611686018427387903=some ((rdN b s).1,⟨b,(rdN b s).2.1,!(rdN b s).2.2⟩,()):=by
 have hbd:=(gE b s.1).2.1
 rw[yC,ik b hb hw s.1,aa]
 unfold rdN tr3
 obtain⟨p,ok⟩:=s
 dsimp only at hbd ⊢
 have hn:¬ (cz b p).1>4611686018427387903:=by omega
 cases h1:(cz b p).2.2 <;> cases ok <;> simp[hn]
theorem tT{b:List Int}{s:Rs}(hb:b.length≤1048576)(hw:Bytes b):fQ ⟨b,s.1,!s.2⟩ 40=(if(rdN b s).2.2=true∧40<(rdN b s).1 then some (0,⟨b,s.1,true⟩,())else some ((rdN b s).1,⟨b,(rdN b s).2.1,!(rdN b s).2.2⟩,())):=by
 rw[yC,ik b hb hw s.1,aa]
 unfold rdN tr3
 obtain⟨p,ok⟩:=s
 dsimp only
 by_cases hn:(cz b p).1>40
 ·have hn':40<(cz b p).1:=hn
  cases h1:(cz b p).2.2 <;> cases ok <;> simp[hn']
 ·have hn':¬ 40<(cz b p).1:=hn
  cases h1:(cz b p).2.2 <;> cases ok <;> simp[hn']
theorem yE{b:List Int}{s:Rs}(hb:b.length≤1048576)(hw:Bytes b):qI ⟨b,s.1,!s.2⟩=some ((rdT b s).1,⟨b,(rdT b s).2.1,!(rdT b s).2.2⟩,()):=by
 rw[Ex,Ed b hb hw s.1,aa]
 unfold rdT trT
 obtain⟨p,ok⟩:=s
 cases h1:(dP b p).2.2 <;> cases ok <;> simp
def rdE(b:List Int)(s:Rs):bq×Rs :=
 (⟨(rdN b s).1,⟨w64 ((rdN b (rdN b s).2).1-1),(rdN b (rdN b (rdN b s).2).2).1,(rdT b (rdN b (rdN b (rdN b s).2).2).2).1⟩⟩,(rdT b (rdN b (rdN b (rdN b s).2).2).2).2)
theorem zL{b:List Int}{s:Rs}(hw:Bytes b)(hs:Pos b s):Pos b (rdE b s).2:=zS hw (fS (fS (fS hs)))
theorem zM{b:List Int}{s:Rs}(hw:Bytes b)(h:(rdE b s).2.2=true):s.2=true∧s.1<(rdE b s).2.1∧b.take (rdE b s).2.1.toNat=dy (b.take s.1.toNat) (rdE b s).1:=by
 obtain⟨a1,a2,a3⟩:=uN hw h
 obtain⟨b1,b2,b3,b4,b5⟩:=iC hw a1
 obtain⟨c1,c2,c3,c4,c5⟩:=iC hw b1
 obtain⟨d1,d2,d3,d4,d5⟩:=iC hw c1
 refine⟨d1,by show s.1<(rdT b (rdN b (rdN b (rdN b s).2).2).2).2.1;omega,?_⟩
 show b.take (rdT b (rdN b (rdN b (rdN b s).2).2).2).2.1.toNat=_
 rw[a3,b3,c3,d3]
 unfold dy rdE
 dsimp only
 rw[show w64 (w64 ((rdN b (rdN b s).2).1-1)+1)=(rdN b (rdN b s).2).1 by rw[ar (n:=(rdN b (rdN b s).2).1-1),ar];omega]
theorem zK{b:List Int}{s:Rs}(h:s.2=false):(rdE b s).2.2=false:=by
 unfold rdE
 have e1:(rdN b s).2.2=false:=by rw[uM h]
 have e2:(rdN b (rdN b s).2).2.2=false:=by rw[uM e1]
 have e3:(rdN b (rdN b (rdN b s).2).2).2.2=false:=by rw[uM e2]
 rw[lF e3]
def rdL(b:List Int):Nat→Rs→List bq→List bq×Rs
 | 0,s,acc=>(acc,s)
 | j+1,s,acc=>rdL b j (rdE b s).2 (acc++[(rdE b s).1])
def rdS(b:List Int):Nat→Rs→List bq→List bq×Rs
 | 0,s,acc=>(acc,s)
 | j+1,s,acc=>if s.2=true then rdS b j (rdE b s).2 (acc++[(rdE b s).1]) else(acc,s)
theorem zN(b:List Int):∀ (j:Nat) (s:Rs) (acc:List bq),s.2=false→(rdL b j s acc).2.2=false
 | 0,s,acc,h=>h
 | j+1,s,acc,h=>zN b j _ _ (zK h)
theorem zP(b:List Int):∀ (j:Nat) (s:Rs) (acc:List bq),(rdL b j s acc).2.2=(rdS b j s acc).2.2∧((rdS b j s acc).2.2=true→rdL b j s acc=rdS b j s acc)
 | 0,s,acc=>⟨rfl,fun _=>rfl⟩
 | j+1,s,acc=>by
  unfold rdL rdS
  by_cases h:s.2=true
  ·rw[bm h];exact zP b j _ _
  ·rw[bn h]
   have h':s.2=false:=by simpa using h
   exact⟨by rw[zN b j _ _ (zK h')];exact h'.symm,fun h2=>absurd h2 h⟩
theorem zQ{b:List Int}(hb:b.length≤1048576)(hw:Bytes b):∀ (j:Nat) (s:Rs) (acc:List bq),Pos b s→g7 acc →
  Pos b (rdS b j s acc).2∧g7 (rdS b j s acc).1∧((rdS b j s acc).2.2=true→∃ new,(rdS b j s acc).1=acc++new∧new.length=j∧s.2=true∧b.take (rdS b j s acc).2.1.toNat=de new (b.take s.1.toNat)∧s.1+j≤(rdS b j s acc).2.1)
 | 0,s,acc,hs,ha=>⟨hs,ha,fun h=>⟨[],by simp[rdS],rfl,h,rfl,by show s.1+0≤s.1;omega⟩⟩
 | j+1,s,acc,hs,ha=>by
  unfold rdS
  by_cases h:s.2=true
  ·rw[bm h]
   have hl:g7 (acc++[(rdE b s).1]):=by
    intro e he
    rcases aB.1 he with he | he
    ·exact ha e he
    ·rw[aK.1 he]
     have:=Jv (b:=b) (s:=(rdN b (rdN b (rdN b s).2).2).2) hw
     show(rdT b (rdN b (rdN b (rdN b s).2).2).2).1.length≤_
     omega
   obtain⟨k1,k2,k3⟩:=zQ hb hw j (rdE b s).2 (acc++[(rdE b s).1]) (zL hw hs) hl
   refine⟨k1,k2,fun h2=>?_⟩
   obtain⟨new,e1,e2,e3,e4,e5⟩:=k3 h2
   obtain⟨f1,f2,f3⟩:=zM hw e3
   refine⟨(rdE b s).1::new,by rw[e1,ah];rfl,by simp[e2],h,by rw[e4,f3];rfl,by omega⟩
  ·rw[bn h]
   exact⟨hs,ha,fun h2=>absurd h2 h⟩
def cM(r:bB)(b:List Int)(x:List bq×Rs):bB×Rs:=(⟨r.Kind,r.Term,r.Vote,r.Prev,x.1,(rdT b x.2).1⟩,(rdT b x.2).2)
theorem Ms{b:List Int}(hb:b.length≤1048576)(hw:Bytes b)(n:Int)(hn:n≤4611686018427387904)(z:bB):∀ (j:Nat) (i:Nat) (s:Rs) (r:bB),(i:Int)+j=n→Pos b s→(s.2=true→(r.List.length:Int)≤s.1) →
  sa n i ⟨b,s.1,s.2⟩ z r=some ((cM r b (rdS b j s r.List)).1,⟨b,(cM r b (rdS b j s r.List)).2.1,(cM r b (rdS b j s r.List)).2.2⟩,()):=by
 intro j
 induction j with
 | zero =>
  intro i s r hi hs hl
  rw[A1,aq,v8 hb hw hs];rfl
 | succ j ih =>
  intro i s r hi hs hl
  rw[A1,ap]
  unfold rdS
  by_cases h:s.2=true
  ·have hl':=hl h
   have hp:=hs.2
   have c1:r.List.length+1≤room:=by rw[b7];omega
   have p1:=fS hs
   have p2:=fS p1
   have p3:=fS p2
   rw[bm h,bm h,iI hb hw hs,aa]
   dsimp only
   rw[iI hb hw p1,aa]
   dsimp only
   rw[iI hb hw p2,aa]
   dsimp only
   rw[v8 hb hw p3,aa]
   dsimp only
   rw[bm c1,ar (n:=(i:Int)+1)]
   have:=ih (i+1) (rdE b s).2 ⟨r.Kind,r.Term,r.Vote,r.Prev,r.List++[(rdE b s).1],r.Snap⟩ (by omega) (zL hw hs) (fun h2=>by
    have:=(zM hw h2).2.1
    show((r.List++[(rdE b s).1]).length:Int)≤_
    rw[ag,bj];omega)
   rw[show((i+1:Nat):Int)=(i:Int)+1 by omega]at this
   exact this
  ·rw[bn h,bn h,v8 hb hw hs];rfl
theorem tU{b:List Int}(hb:b.length≤1048576)(hw:Bytes b)(n:Int)(hn:n≤40)(z:bB):∀ (j:Nat) (i:Nat) (s:Rs) (r:bB),(i:Int)+j=n→r.List.length≤i →
  qH n i ⟨b,s.1,!s.2⟩ z r=some ((cM r b (rdL b j s r.List)).1,⟨b,(cM r b (rdL b j s r.List)).2.1,!(cM r b (rdL b j s r.List)).2.2⟩,()):=by
 intro j
 induction j with
 | zero =>
  intro i s r hi hl
  rw[yD,aq,yE hb hw];rfl
 | succ j ih =>
  intro i s r hi hl
  rw[yD,ap]
  unfold rdL
  have c1:r.List.length+1≤room:=by rw[b7];omega
  rw[fp hb hw,aa]
  dsimp only
  rw[fp hb hw,aa]
  dsimp only
  rw[fp hb hw,aa]
  dsimp only
  rw[yE hb hw,aa]
  dsimp only
  rw[bm c1,ar (n:=(i:Int)+1)]
  have:=ih (i+1) (rdE b s).2 ⟨r.Kind,r.Term,r.Vote,r.Prev,r.List++[(rdE b s).1],r.Snap⟩ (by omega) (by
   show(r.List++[(rdE b s).1]).length≤_
   rw[ag,bj];omega)
  rw[show((i+1:Nat):Int)=(i:Int)+1 by omega]at this
  exact this
theorem zW(b:List Int)(hb:b.length≤1048576)(hw:Bytes b):∃ (r:bB) (s:Rs),rZ ⟨b,0,true⟩=some (r,⟨b,s.1,s.2⟩,())∧g7 r.List∧∃ (r2:bB) (s2:Rs),jW ⟨b,0,false⟩=some (r2,⟨b,s2.1,!s2.2⟩,()) ∧
  (s2.2=true↔s.2=true∧r.List.length≤40)∧(s2.2=true→r2=r∧s2=s)∧(s.2=true→b.take s.1.toNat=b6 r∧0≤s.1∧s.1≤(b.length:Int)∧r.List.length≤1048576):=by
 have p0:Pos b ((0:Int),true):=⟨Int.le_refl _,by show(0:Int)≤b.length;omega⟩
 generalize hs0:(((0:Int),true):Rs)=s0 at p0
 have p1:=fS p0
 have p2:=fS p1
 have p3:=fS p2
 have p4:=fS p3
 have p5:=fS p4
 generalize hh:bB.mk (rdN b s0).1 (rdN b (rdN b s0).2).1 (w64 ((rdN b (rdN b (rdN b s0).2).2).1-1)) (rdN b (rdN b (rdN b (rdN b s0).2).2).2).1 [] []=hd
 generalize hf:rdN b (rdN b (rdN b (rdN b (rdN b s0).2).2).2).2=f at p5
 have hfb:0≤f.1∧f.1≤4611686018427387903:=by rw[← hf];exact Jt
 have hl0:hd.List=[]:=by rw[← hh]
 have hS:rZ ⟨b,0,true⟩=some ((cM hd b (rdS b f.1.toNat f.2 hd.List)).1,⟨b,(cM hd b (rdS b f.1.toNat f.2 hd.List)).2.1,(cM hd b (rdS b f.1.toNat f.2 hd.List)).2.2⟩,()):=by
  have e0:bL.mk b 0 true=⟨b,s0.1,s0.2⟩:=by rw[← hs0]
  rw[e0,LU,iI hb hw p0,aa]
  dsimp only
  rw[iI hb hw p1,aa]
  dsimp only
  rw[iI hb hw p2,aa]
  dsimp only
  rw[iI hb hw p3,aa]
  dsimp only
  rw[iI hb hw p4,aa]
  dsimp only
  rw[hf,hh]
  exact Ms hb hw f.1 (by omega) _ f.1.toNat 0 f.2 hd (by omega) p5 (fun _=>by rw[hl0];exact p5.1)
 obtain⟨k1,k2,k3⟩:=zQ hb hw f.1.toNat f.2 hd.List p5 (by rw[hl0];intro e he;cases he)
 generalize hX:rdS b f.1.toNat f.2 hd.List=X at hS k1 k2 k3
 refine⟨_,(cM hd b X).2,hS,k2,?_⟩
 have hok:(cM hd b X).2.2=true→X.2.2=true:=fun h=>(uN hw h).1
 have hlen:(cM hd b X).2.2=true→X.1.length=f.1.toNat:=fun h=>by
  obtain⟨new,n1,n2,_⟩:=k3 (hok h)
  rw[n1,hl0,bg,n2]
 have hbody:(cM hd b X).2.2=true→b.take (cM hd b X).2.1.toNat=b6 (cM hd b X).1∧0≤(cM hd b X).2.1∧(cM hd b X).2.1≤(b.length:Int)∧(cM hd b X).1.List.length≤1048576:=fun h=>by
  obtain⟨t1,t2,t3⟩:=uN hw h
  obtain⟨new,n1,n2,n3,n4,n5⟩:=k3 t1
  have hp:=zS hw k1
  have q5:(rdN b (rdN b (rdN b (rdN b (rdN b s0).2).2).2).2).2.2=true:=by rw[hf];exact n3
  obtain⟨a1,a2,a3,a4,a5⟩:=iC hw q5
  obtain⟨b1,b2,b3,b4,b5⟩:=iC hw a1
  obtain⟨c1,c2,c3,c4,c5⟩:=iC hw b1
  obtain⟨d1,d2,d3,d4,d5⟩:=iC hw c1
  obtain⟨e1,e2,e3,e4,e5⟩:=iC hw d1
  have hX1:X.1=new:=by rw[n1,hl0,bg]
  refine⟨?_,hp.1,hp.2,?_⟩
  ·show b.take (rdT b X.2).2.1.toNat=de X.1 (fy (cM hd b X).1)++cU (rdT b X.2).1
   rw[t3,n4,hX1]
   congr 2
   rw[hf]at a3
   rw[a3,b3,c3,d3,e3]
   unfold fy cM
   rw[← hh,← hs0]
   dsimp only
   rw[hX1,n2,hs0]
   rw[show w64 (w64 ((rdN b (rdN b (rdN b s0).2).2).1-1)+1)=(rdN b (rdN b (rdN b s0).2).2).1 by rw[bW (n:=(rdN b (rdN b (rdN b s0).2).2).1-1) (by omega) (by omega),ar];omega,show((f.1.toNat:Nat):Int)=f.1 by omega]
   rfl
  ·show X.1.length≤_
   rw[hX1,n2]
   have:=k1.2
   have:=p5.1
   omega
 have e0:bH.mk b 0 false=⟨b,s0.1,!s0.2⟩:=by rw[← hs0];rfl
 by_cases hc:f.2.2=true∧40<f.1
 ·have hI:jW ⟨b,0,false⟩=some ((cM hd b ([],((rdN b (rdN b (rdN b (rdN b s0).2).2).2).2.1,false))).1,⟨b,(cM hd b ([],((rdN b (rdN b (rdN b (rdN b s0).2).2).2).2.1,false))).2.1,!(cM hd b ([],((rdN b (rdN b (rdN b (rdN b s0).2).2).2).2.1,false))).2.2⟩,()):=by
   rw[e0,tV,fp hb hw,aa]
   dsimp only
   rw[fp hb hw,aa]
   dsimp only
   rw[fp hb hw,aa]
   dsimp only
   rw[fp hb hw,aa]
   dsimp only
   rw[tT hb hw,hf,bm hc,aa]
   dsimp only
   rw[hh]
   have:=tU hb hw 0 (by omega) eN 0 0 ((rdN b (rdN b (rdN b (rdN b s0).2).2).2).2.1,false) hd (by omega) (by rw[hl0];exact aH _)
   rw[hl0]at this
   exact this
  refine⟨_,_,hI,?_,fun h=>?_,hbody⟩
  ·have hn:(cM hd b ([],((rdN b (rdN b (rdN b (rdN b s0).2).2).2).2.1,false))).2.2=false:=by unfold cM;rw[lF rfl]
   rw[hn]
   constructor
   ·intro h;cases h
   ·rintro ⟨h1,h2⟩
    have:=hlen h1
    have h2':X.1.length≤40:=h2
    omega
  ·have hn:(cM hd b ([],((rdN b (rdN b (rdN b (rdN b s0).2).2).2).2.1,false))).2.2=false:=by unfold cM;rw[lF rfl]
   rw[hn]at h;cases h
 ·have hf40:f.1≤40:=by
   by_cases h:f.2.2=true
   ·have:¬ 40<f.1:=fun h2=>hc ⟨h,h2⟩
    omega
   ·have:f.1=0:=by rw[← hf]at h ⊢;exact Ju (by simpa using h)
    omega
  have hI:jW ⟨b,0,false⟩=some ((cM hd b (rdL b f.1.toNat f.2 [])).1,⟨b,(cM hd b (rdL b f.1.toNat f.2 [])).2.1,!(cM hd b (rdL b f.1.toNat f.2 [])).2.2⟩,()):=by
   rw[e0,tV,fp hb hw,aa]
   dsimp only
   rw[fp hb hw,aa]
   dsimp only
   rw[fp hb hw,aa]
   dsimp only
   rw[fp hb hw,aa]
   dsimp only
   rw[tT hb hw,hf,bn hc,aa]
   dsimp only
   rw[hh]
   have:=tU hb hw f.1 hf40 eN f.1.toNat 0 f.2 hd (by omega) (by rw[hl0];exact aH _)
   rw[hl0]at this
   exact this
  have hrel:=zP b f.1.toNat f.2 []
  rw[hl0]at hX
  rw[hX]at hrel
  refine⟨_,_,hI,?_,fun h=>?_,hbody⟩
  ·by_cases hx:X.2.2=true
   ·rw[hrel.2 hx]
    constructor
    ·intro h
     have:=hlen h
     exact⟨h,by show X.1.length≤40;omega⟩
    ·exact fun h=>h.1
   ·have hx':X.2.2=false:=by simpa using hx
    have h1:(cM hd b (rdL b f.1.toNat f.2 [])).2.2=false:=by unfold cM;rw[lF (by rw[hrel.1];exact hx')]
    rw[h1]
    constructor
    ·intro h;cases h
    ·intro h;exact absurd (hok h.1) hx
  ·by_cases hx:X.2.2=true
   ·rw[hrel.2 hx];exact⟨rfl,rfl⟩
   ·have hx':X.2.2=false:=by simpa using hx
    have h1:(cM hd b (rdL b f.1.toNat f.2 [])).2.2=false:=by unfold cM;rw[lF (by rw[hrel.1];exact hx')]
    rw[h1]at h;cases h
theorem qu(a b:List Int)(ha:a.length≤4294967296):wE a b=some (decide (a=b),()):=by
 rw[M7]
 by_cases hl:(a.length:Int)=b.length
 ·rw[bn (by simp[hl])]
  have key:∀ (d i:Nat),i+d=a.length→sE a b (a.length:Int) i=some (decide (a.drop i=b.drop i),()):=by
   intro d
   induction d with
   | zero =>
    intro i hd
    rw[B5,aq,aX (by omega),aX (by omega)];simp
   | succ d ih =>
    intro i hd
    have hi:i<a.length:=by omega
    have hi2:i<b.length:=by omega
    rw[B5,ap,al,al,dq hi,dq hi2,cO hi (by omega),ih (i+1) (by omega),ai hi,ai hi2]
    simp only[List.cons.injEq]
    by_cases h:a[i]=b[i]
    ·simp only[h,decide_true,Bool.not_true,Bool.false_eq_true,if_false,true_and]
    ·simp only[h,decide_false,Bool.not_false,if_true,false_and]
  have:=key a.length 0 (by omega)
  simpa using this
 ·rw[bm (by simpa using hl),ae (fun h=>hl (by rw[h]))]
theorem LV(b:List Int)(hb:b.length≤4294967296):sb b=some (df b,()):=by
 rw[A2,vz b hb];rfl
theorem uS(b:List Int)(hb:b.length≤1048576)(hw:Bytes b)(p:Int)(hp:-9223372036854775808≤p∧p≤9223372036854775807) :
  ∃ r q ok,vy b p=some (r,q,ok,())∧eK b p=some (r,q,ok,())∧r.List.length≤1048576∧(ok=true→0≤p∧p<q∧q≤(b.length:Int)∧r.List.length≤40):=by
 rw[KF,qE,vt b hb hw p hp,ik b hb hw p]
 simp only[aa,tr3]
 have hbd:=gE b p
 cases hg:cz b p with | mk n mo =>
 obtain⟨m,ok0⟩:=mo
 rw[hg]at hbd
 dsimp only at hbd ⊢
 obtain⟨h1,h2,h3,h4⟩:=hbd
 cases ok0 with
 | false=>exact⟨_,_,_,rfl,rfl,Nat.zero_le _,fun h=>by cases h⟩
 | true =>
  obtain⟨g1,g2,g3,g4,g5,g6⟩:=lz b hw p n m hg
  simp only[Bool.not_true,Bool.false_eq_true,if_false,ab]
  rw[ar (n:=(b.length:Int)-m),ar (n:=(b.length:Int)-m-4)]
  by_cases hn:n>(b.length:Int)-m-4
  ·simp only[bm hn];exact⟨_,_,_,rfl,rfl,Nat.zero_le _,fun h=>by cases h⟩
  ·have e1:w64 (m+n)=m+n:=ar
   have e2:w64 (m+n+4)=m+n+4:=ar
   have c1:0≤m∧m≤m+n∧m+n≤(b.length:Int):=by omega
   have c2:0≤m+n∧m+n≤m+n+4∧m+n+4≤(b.length:Int):=by omega
   have c3:0≤p∧p≤m+n+4∧m+n+4≤(b.length:Int):=by omega
   simp only[bn hn,e1,e2,bm c1,bm c2,bm c3]
   generalize hB:List.take ((m+n).toNat-m.toNat) (List.drop m.toNat b)=B
   generalize hT:List.take ((m+n+4).toNat-(m+n).toNat) (List.drop (m+n).toNat b)=T
   have hBl:(B.length:Int)=n:=by rw[← hB,aQ,aR];omega
   have hTl:T.length=4:=by rw[← hT,aQ,aR];omega
   have hBw:Bytes B:=fun x hx=>hw x (by rw[← hB]at hx;exact List.mem_of_mem_drop (List.mem_of_mem_take hx))
   have hU:List.take ((m+n+4).toNat-p.toNat) (List.drop p.toNat b)=(bU n++B)++T:=by
    rw[← List.drop_take,show(m+n+4).toNat=(m+n).toNat+((m+n+4).toNat-(m+n).toNat) by omega,List.take_add,hT,show(m+n).toNat=m.toNat+((m+n).toNat-m.toNat) by omega,List.take_add,hB,g4,
     ah,ah,List.drop_left' (by rw[aQ];omega),ah]
   rw[hU]
   obtain⟨r,s,q1,q2,r2,s2,q3,q4,q5,q6⟩:=zW B (by omega) hBw
   rw[LV B (by omega),q1,q3]
   simp only[aa]
   by_cases hs2:s2.2=true
   ·obtain⟨rfl,rfl⟩:=q5 hs2
    obtain⟨k1,k2,k3,k4⟩:=q6 hs2
    rw[jV r2 (by omega),rA r2 (by omega) q2]
    simp only[hs2,Bool.not_true,Bool.false_eq_true,if_false,aa]
    by_cases hat:s2.1=n
    ·have hbody:b6 r2=B:=by rw[← k1,hat,a9 (by omega)]
     have hat2:s2.1=(B.length:Int):=by omega
     rw[qu _ _ (by have:=iD r2;omega)]
     simp only[ac hat,ac hat2,Bool.not_true,Bool.false_eq_true,if_false,aa]
     cases hr:dA r2 with
     | false =>
      have hne:¬ bZ r2=(bU n++B)++T:=by
       unfold bZ;rw[hr];simp only[Bool.false_eq_true,if_false]
       intro h
       have:=congrArg List.length h
       simp only[ag,List.length_nil,hTl]at this
       omega
      simp only[ae hne,Bool.not_false,if_true]
      by_cases hsum:df B=T
      ·simp only[ac hsum,Bool.not_true,Bool.false_eq_true,if_false]
       exact⟨_,_,_,rfl,rfl,Nat.zero_le _,fun h=>by cases h⟩
      ·simp only[ae hsum,Bool.not_false,if_true]
       exact⟨_,_,_,rfl,rfl,Nat.zero_le _,fun h=>by cases h⟩
     | true =>
      have he:bZ r2=(bU n++B)++df B:=by
       unfold bZ;rw[hr,bm rfl,hbody,hBl]
      by_cases hsum:df B=T
      ·have h2:bZ r2=(bU n++B)++T:=by rw[he,hsum]
       simp only[ac hsum,ac h2,Bool.not_true,Bool.false_eq_true,if_false]
       exact⟨_,_,_,rfl,rfl,k4,fun _=>⟨g1,by omega,by omega,(lH hr).1⟩⟩
      ·have h2:¬ bZ r2=(bU n++B)++T:=by
        rw[he];intro h;exact hsum (List.append_cancel_left h)
       simp only[ae hsum,ae h2,Bool.not_false,if_true]
       exact⟨_,_,_,rfl,rfl,Nat.zero_le _,fun h=>by cases h⟩
    ·have hat2:¬ s2.1=(B.length:Int):=by omega
     simp only[ae hat,ae hat2,Bool.not_false,if_true]
     by_cases hsum:df B=T
     ·simp only[ac hsum,Bool.not_true,Bool.false_eq_true,if_false]
      exact⟨_,_,_,rfl,rfl,Nat.zero_le _,fun h=>by cases h⟩
     ·simp only[ae hsum,Bool.not_false,if_true]
      exact⟨_,_,_,rfl,rfl,Nat.zero_le _,fun h=>by cases h⟩
   ·have hs2':s2.2=false:=by simpa using hs2
    simp only[hs2',Bool.not_false,if_true]
    by_cases hsum:df B=T
    ·simp only[ac hsum,Bool.not_true,Bool.false_eq_true,if_false]
     by_cases hs:s.2=true
     ·obtain⟨k1,k2,k3,k4⟩:=q6 hs
      have hlong:¬ r.List.length≤40:=fun h=>hs2 (q4.2 ⟨hs,h⟩)
      have hr:dA r=false:=by
       cases h:dA r with
       | false=>rfl
       | true=>exact absurd (lH h).1 hlong
      rw[rA r (by omega) q2,hr]
      simp only[hs,Bool.not_true,Bool.false_eq_true,if_false,aa,Bool.not_false,if_true]
      by_cases hat:s.1=(B.length:Int)
      ·simp only[ac hat,Bool.not_true,Bool.false_eq_true,if_false]
       exact⟨_,_,_,rfl,rfl,Nat.zero_le _,fun h=>by cases h⟩
      ·simp only[ae hat,Bool.not_false,if_true]
       exact⟨_,_,_,rfl,rfl,Nat.zero_le _,fun h=>by cases h⟩
     ·have hs':s.2=false:=by simpa using hs
      simp only[hs',Bool.not_false,if_true]
      exact⟨_,_,_,rfl,rfl,Nat.zero_le _,fun h=>by cases h⟩
    ·simp only[ae hsum,Bool.not_false,if_true]
     exact⟨_,_,_,rfl,rfl,Nat.zero_le _,fun h=>by cases h⟩
theorem tH{b b':List Int}(hw:Bytes b){p v q:Int}(h:cz b p=(v,q,true))(hl:q≤(b'.length:Int))(he:b'.take q.toNat=b.take q.toNat):cz b' p=(v,q,true):=by
 obtain⟨h0,h1,h2,h3,h4,h5⟩:=lz b hw p v q h
 have e:bU v=dc 8 v:=by unfold bU;rw[bm ⟨h4,h5⟩]
 have ht:b'.take p.toNat=b.take p.toNat:=by
  have:=congrArg (List.take p.toNat) he
  rw[List.take_take,List.take_take,Nat.min_eq_left (by omega)]at this
  exact this
 have hd:b'.drop p.toNat=dc 8 v++b'.drop q.toNat:=by
  have e1:(b'.take q.toNat).drop p.toNat=dc 8 v:=by
   rw[he,h3,e,List.drop_left' (by rw[aQ];omega)]
  have e2:b'=b'.take q.toNat++b'.drop q.toNat:=(List.take_append_drop _ _).symm
  have e3:b'.drop p.toNat=(b'.take q.toNat++b'.drop q.toNat).drop p.toNat:=congrArg (List.drop p.toNat) e2
  rw[e3,List.drop_append_of_le_length (by rw[aQ];omega),e1]
 have hln:((dc 8 v).length:Int)=q-p:=by
  have:=congrArg List.length h3
  rw[e,ag,aQ,aQ]at this
  omega
 unfold cz
 rw[bm ⟨h0,by omega⟩]
 have:=yn b' p h0 8 0 0 v (b'.drop q.toNat) (by omega) (by simpa using hd) h4 (by omega) (by omega) (by simp) (fun h=>by omega) (by simpa using h5)
 have this':dE b' p 9 0 0=_:=this
 rw[this',hln]
 simp only[Int.zero_add,Int.pow_zero,Int.mul_one,Prod.mk.injEq,and_true,true_and]
 omega
def iW(b:List Int)(p:Int)(r:bB)(q:Int):Prop:=eK b p=some (r,q,true,())
theorem Bm{b b':List Int}{N:Nat}(he:b'.take N=b.take N)(i j:Nat)(hj:j≤N):List.take (j-i) (List.drop i b')=List.take (j-i) (List.drop i b):=by
 rw[← List.drop_take,← List.drop_take]
 have:=congrArg (List.take j) he
 rw[List.take_take,List.take_take,Nat.min_eq_left hj]at this
 rw[this]
theorem qM{b:List Int}(hb:b.length≤1048576)(hw:Bytes b){p:Int}(hp:-9223372036854775808≤p∧p≤9223372036854775807){r:bB}{q:Int}(h:iW b p r q) :
  (0≤p∧p<q∧q≤(b.length:Int)∧r.List.length≤40)∧List.take (q.toNat-p.toNat) (List.drop p.toNat b)=bZ r∧∀ b':List Int,b'.length≤1048576→Bytes b'→q≤(b'.length:Int)→b'.take q.toNat=b.take q.toNat→iW b' p r q:=by
 obtain⟨r0,q0,ok,_,e2,_,e4⟩:=uS b hb hw p hp
 have h':eK b p=some (r,q,true,()):=h
 rw[h']at e2
 have e3:=aO e2
 simp only[Prod.mk.injEq]at e3
 obtain⟨rfl,rfl,rfl,_⟩:=e3
 have hs:=e4 rfl
 refine⟨hs,?_⟩
 have hbd:=gE b p
 cases hg:cz b p with | mk n mo =>
 obtain⟨m,ok0⟩:=mo
 have eg:fm b p=some (n,m,ok0,()):=by rw[ik b hb hw p,hg];rfl
 rw[qE,eg,aa]at h'
 rw[hg]at hbd
 dsimp only at h' hbd
 cases ok0 with
 | false=>rw[bm (by decide)]at h';simp at h'
 | true =>
  obtain⟨g1,g2,g3,g4,g5,g6⟩:=lz b hw p n m hg
  rw[bn (by decide),ar (n:=(b.length:Int)-m),ar (n:=(b.length:Int)-m-4)]at h'
  by_cases hn:n>(b.length:Int)-m-4
  ·rw[ak hn]at h';simp at h'
  ·have e1:w64 (m+n)=m+n:=ar
   have e2':w64 (m+n+4)=m+n+4:=ar
   rw[aj hn,e1,e2',al]at h'
   have hBl:(List.take ((m+n).toNat-m.toNat) (List.drop m.toNat b)).length≤1048576:=by rw[aQ,aR];omega
   have hBw:Bytes (List.take ((m+n).toNat-m.toNat) (List.drop m.toNat b)):=fun x hx=>hw x (List.mem_of_mem_drop (List.mem_of_mem_take hx))
   obtain⟨r1,s1,q1,q2,r2,s2,q3,q4,q5,q6⟩:=zW _ hBl hBw
   have q3':=q3
   rw[q3,aa]at h'
   dsimp only at h'
   by_cases hs2:s2.2=true
   ·obtain⟨rfl,rfl⟩:=q5 hs2
    obtain⟨k1,k2,k3,k4⟩:=q6 hs2
    rw[hs2,bn (by decide)]at h'
    by_cases hat:s2.1=n
    ·rw[bn (by simp[hat]),jV r2 (by omega),aa,al,qu _ _ (show(bZ r2).length≤_ by have:=iD r2;omega),aa]at h'
     dsimp only at h'
     by_cases heq:bZ r2=List.take ((m+n+4).toNat-p.toNat) (List.drop p.toNat b)
     ·rw[ac heq,bn (by decide)]at h'
      have e3:=aO h'
      simp only[Prod.mk.injEq]at e3
      obtain⟨rfl,rfl,_⟩:=e3
      refine⟨heq.symm,fun b' hb' hw' hl' he=>?_⟩
      have hm:b'.take m.toNat=b.take m.toNat:=by
       have:=congrArg (List.take m.toNat) he
       rw[List.take_take,List.take_take,Nat.min_eq_left (by omega)]at this
       exact this
      show eK b' p=_
      have eg':fm b' p=some (n,m,true,()):=by rw[ik b' hb' hw' p,tH hw hg (by omega) hm];rfl
      rw[qE,eg',aa]
      dsimp only
      rw[bn (by decide),ar (n:=(b'.length:Int)-m),ar (n:=(b'.length:Int)-m-4),aq,e1,e2',al,Bm he _ _ (by omega),q3',aa]
      dsimp only
      rw[hs2,bn (by decide),bn (by simp[hat]),jV r2 (by omega),aa,al,qu _ _ (show(bZ r2).length≤_ by have:=iD r2;omega),aa,Bm he _ _ (by omega)]
      dsimp only
      rw[ac heq,bn (by decide)]
     ·rw[ae heq,bm (by decide)]at h';simp at h'
    ·rw[bm (by simp[hat])]at h';simp at h'
   ·have hs2':s2.2=false:=by simpa using hs2
    rw[hs2',bm (by decide)]at h';simp at h'
inductive Row (b:List Int):Int→List bB→Int→Prop
 | nil (p:Int):Row b p [] p
 | cons {p m q:Int} {r:bB} {l:List bB}:iW b p r m→Row b m l q→Row b p (r::l) q
theorem Row.snoc{b:List Int}{p m q:Int}{l:List bB}{r:bB}(h:Row b p l m)(hr:iW b m r q):Row b p (l++[r]) q:=by
 induction h with
 | nil p=>exact .cons hr (.nil _)
 | cons h1 _ ih=>exact .cons h1 (ih hr)
def sV(b:List Int)(p:Int):Prop:=∀ r q,¬ iW b p r q
theorem uA{b:List Int}{p:Nat}(hp:p≤b.length){n:Int}(hn:0≤n∧n≤4611686018427387903){C:List Int}(h:b.drop p=bU n++C):cz b (p:Int)=(n,((p+(bU n).length:Nat):Int),true)∧b.drop (p+(bU n).length)=C∧p+(bU n).length≤b.length:=by
 have e:bU n=dc 8 n:=by unfold bU;rw[bm hn]
 have hl:=congrArg List.length h
 rw[aR,ag]at hl
 refine⟨?_,by rw[← List.drop_drop,h,List.drop_left],by omega⟩
 unfold cz
 rw[al]
 have:=yn b (p:Int) (by omega) 8 0 0 n C (by omega) (by rw[← e];simpa using h) hn.1 (by have:=hn.2;omega) (by omega) (by simp) (fun h=>by omega) (by simpa using hn.2)
 have this':dE b (p:Int) 9 0 0=_:=this
 rw[this',e]
 simp only[Int.zero_add,Int.pow_zero,Int.mul_one,Prod.mk.injEq,and_true,true_and]
 omega
theorem iB{b:List Int}{p:Nat}(hp:p≤b.length){n:Int}(hn:0≤n∧n≤4611686018427387903){C:List Int}(h:b.drop p=bU n++C):rdN b ((p:Int),true)=(n,((p+(bU n).length:Nat):Int),true)∧b.drop (p+(bU n).length)=C∧p+(bU n).length≤b.length:=by
 obtain⟨e,h2⟩:=uA hp hn h
 refine⟨?_,h2⟩
 unfold rdN
 rw[e,bm ⟨rfl,rfl⟩]
theorem zR{b:List Int}{p:Nat}(hp:p≤b.length){t:List Int}(ht:t.length≤1000000){C:List Int}(h:b.drop p=cU t++C):rdT b ((p:Int),true)=(t,((p+(cU t).length:Nat):Int),true)∧b.drop (p+(cU t).length)=C∧p+(cU t).length≤b.length:=by
 have hl:=congrArg List.length h
 rw[aR,ag]at hl
 have h':b.drop p=bU (t.length:Int)++(t++C):=by rw[h];unfold cU;rw[ah]
 have hpl:(cU t).length=(bU (t.length:Int)).length+t.length:=by unfold cU;rw[ag]
 obtain⟨e,h2,h3⟩:=uA hp ⟨by omega,by omega⟩ h'
 refine⟨?_,by rw[← List.drop_drop,h,List.drop_left],by omega⟩
 have eT:dP b (p:Int)=(t,((p+(cU t).length:Nat):Int),true):=by
  unfold dP
  rw[e]
  dsimp only
  rw[bm ⟨rfl,by omega⟩,af,af,h2,List.take_left,hpl]
  simp only[Prod.mk.injEq,and_true,true_and]
  omega
 unfold rdT
 rw[eT,bm ⟨rfl,rfl⟩]
def sP(e:bq):Prop:=(0≤e.Term∧e.Term≤300)∧(-1≤e.C.Who∧e.C.Who≤2)∧(0≤e.C.Seq∧e.C.Seq≤100000)∧e.C.Line.length≤60
theorem Dt(a:List Int)(e:bq):dy a e=a++dy [] e:=by unfold dy;simp[ah]
theorem qc:∀ (l:List bq) (a:List Int),de l a=a++de l []
 | [],a=>by simp[de]
 | e::l,a=>by rw[de,de,qc l (dy a e),qc l (dy [] e),Dt a e,ah]
theorem Jr{b:List Int}{p:Nat}(hp:p≤b.length){e:bq}(he:sP e){C:List Int}(h:b.drop p=dy [] e++C):rdE b ((p:Int),true)=(e,((p+(dy [] e).length:Nat):Int),true)∧b.drop (p+(dy [] e).length)=C∧p+(dy [] e).length≤b.length:=by
 obtain⟨⟨a1,a2⟩,⟨b1,b2⟩,⟨c1,c2⟩,d⟩:=he
 have ew:w64 (e.C.Who+1)=e.C.Who+1:=ar
 have h1:b.drop p=bU e.Term++(bU (e.C.Who+1)++(bU e.C.Seq++(cU e.C.Line++C))):=by
  rw[h];unfold dy;rw[ew];simp[ah]
 have hl:(dy [] e).length=(bU e.Term).length+(bU (e.C.Who+1)).length+(bU e.C.Seq).length+(cU e.C.Line).length:=by
  unfold dy;rw[ew];simp only[ag,List.length_nil];omega
 obtain⟨e1,r1,p1⟩:=iB hp ⟨a1,by omega⟩ h1
 obtain⟨e2,r2,p2⟩:=iB p1 ⟨by omega,by omega⟩ r1
 obtain⟨e3,r3,p3⟩:=iB p2 ⟨c1,by omega⟩ r2
 obtain⟨e4,r4,p4⟩:=zR p3 (by omega) r3
 refine⟨?_,by rw[← r4];congr 1;omega,by omega⟩
 unfold rdE
 rw[e1]
 dsimp only
 rw[e2]
 dsimp only
 rw[e3]
 dsimp only
 rw[e4]
 dsimp only
 rw[ar (n:=e.C.Who+1-1),show e.C.Who+1-1=e.C.Who by omega,hl]
 simp only[Prod.mk.injEq,and_true,true_and]
 omega
theorem zO{b:List Int}:∀ (l:List bq) (p:Nat) (acc:List bq) (C:List Int),p≤b.length→(∀ e∈l,sP e)→b.drop p=de l []++C→rdL b l.length ((p:Int),true) acc=(acc++l,((p+(de l []).length:Nat):Int),true)∧b.drop (p+(de l []).length)=C∧p+(de l []).length≤b.length
 | [],p,acc,C,hp,_,h=>⟨by simp[rdL,de],by simpa [de]using h,by simpa [de]using hp⟩
 | e::l,p,acc,C,hp,hl,h=>by
  have eb:de (e::l) []=dy [] e++de l []:=by rw[de,qc]
  rw[eb,ah]at h
  obtain⟨e1,r1,p1⟩:=Jr hp (hl e aE) h
  obtain⟨e2,r2,p2⟩:=zO l _ (acc++[e]) C p1 (fun x hx=>hl x (aF _ hx)) r1
  rw[eb,ag,← Nat.add_assoc]
  refine⟨?_,r2,p2⟩
  rw[aS,rdL,e1]
  dsimp only
  rw[e2,ah]
  rfl
theorem zV{r:bB}(h:dA r=true):(0≤r.Kind∧r.Kind≤3)∧(0≤r.Term∧r.Term≤300)∧(-1≤r.Vote∧r.Vote≤4)∧(0≤r.Prev∧r.Prev≤300)∧r.List.length≤40∧(∀ e∈r.List,sP e)∧r.Snap.length≤30000:=by
 unfold dA at h
 split at h
 ·rename_i c
  simp only[aA,ab,Bool.not_eq_true',decide_eq_false_iff_not]at c
  obtain⟨c1,c2,c3,c4⟩:=c
  have c3':=c3
  unfold f6 at c3'
  rw[aA,ab]at c3'
  have hv:(0≤r.Kind∧r.Kind≤3)∧(-1≤r.Vote∧r.Vote≤4):=by
   split at h
   ·simp only[aA,ab]at h;omega
   ·split at h
    ·simp only[aA,ab]at h;omega
    ·split at h
     ·simp only[aA,ab]at h;omega
     ·cases h
  refine⟨hv.1,c1,hv.2,c2,by omega,fun e he=>?_,by omega⟩
  have:=List.all_eq_true.1 c3'.2 e he
  unfold fZ at this
  rw[aA,ab]at this
  obtain⟨t1,t2⟩:=this
  unfold eU at t2
  refine⟨t1,?_⟩
  by_cases hw:e.C.Who = -1
  ·rw[bm hw,aA,ab,ab]at t2
   exact⟨by omega,by omega,by rw[t2.2];simp⟩
  ·rw[bn hw]at t2
   simp only[aA,ab]at t2
   exact⟨by omega,by omega,by omega⟩
 ·cases h
theorem MA{r:bB}(h:dA r=true)(hw:Bytes (b6 r)):jW ⟨b6 r,0,false⟩=some (r,⟨b6 r,((b6 r).length:Int),false⟩,()):=by
 obtain⟨⟨k1,k2⟩,⟨t1,t2⟩,⟨v1,v2⟩,⟨q1,q2⟩,hl,he,hs⟩:=zV h
 have hbl:=lG h
 have ew:w64 (r.Vote+1)=r.Vote+1:=ar
 have h0:(b6 r).drop 0=bU r.Kind++(bU r.Term++(bU (r.Vote+1)++(bU r.Prev++(bU (r.List.length:Int)++(de r.List []++(cU r.Snap++[])))))):=by
  unfold b6
  rw[qc]
  unfold fy
  rw[ew]
  simp[ah]
 generalize hb:b6 r=b at h0 hw hbl
 obtain⟨e1,r1,p1⟩:=iB (Nat.zero_le _) ⟨k1,by omega⟩ h0
 obtain⟨e2,r2,p2⟩:=iB p1 ⟨t1,by omega⟩ r1
 obtain⟨e3,r3,p3⟩:=iB p2 ⟨by omega,by omega⟩ r2
 obtain⟨e4,r4,p4⟩:=iB p3 ⟨q1,by omega⟩ r3
 obtain⟨e5,r5,p5⟩:=iB p4 ⟨by omega,by omega⟩ r4
 obtain⟨e6,r6,p6⟩:=zO r.List _ [] _ p5 he r5
 obtain⟨e7,r7,p7⟩:=zR p6 (by omega) r6
 have hend:=congrArg List.length r7
 rw[aR,List.length_nil]at hend
 have hB:b.length≤1048576:=by omega
 have N:=fun(s:Rs)=>fp (b:=b) (s:=s) hB hw
 have s0:bH.mk b 0 false=⟨b,(((0:Nat):Int),true).1,!(((0:Nat):Int),true).2⟩:=rfl
 rw[s0,tV,N,aa,e1]
 dsimp only
 rw[show bH.mk b ((0+(bU r.Kind).length:Nat):Int) (!true)=⟨b,((((0+(bU r.Kind).length:Nat):Int),true):Rs).1,!((((0+(bU r.Kind).length:Nat):Int),true):Rs).2⟩from rfl,N,aa,e2]
 dsimp only
 generalize 0+(bU r.Kind).length+(bU r.Term).length=P2 at *
 rw[show bH.mk b (P2:Int) (!true)=⟨b,(((P2:Int),true):Rs).1,!(((P2:Int),true):Rs).2⟩from rfl,N,aa,e3]
 dsimp only
 generalize P2+(bU (r.Vote+1)).length=P3 at *
 rw[show bH.mk b (P3:Int) (!true)=⟨b,(((P3:Int),true):Rs).1,!(((P3:Int),true):Rs).2⟩from rfl,N,aa,e4]
 dsimp only
 generalize P3+(bU r.Prev).length=P4 at *
 rw[show bH.mk b (P4:Int) (!true)=⟨b,(((P4:Int),true):Rs).1,!(((P4:Int),true):Rs).2⟩from rfl,tT hB hw,e5]
 dsimp only
 rw[am,aa]
 dsimp only
 generalize P4+(bU (r.List.length:Int)).length=P5 at *
 have L:=tU hB hw (r.List.length:Int) (by omega) eN r.List.length 0 ((P5:Int),true) (bB.mk r.Kind r.Term (w64 (r.Vote+1-1)) r.Prev [] []) (by omega) (Nat.zero_le _)
 dsimp only at L
 rw[e6]at L
 unfold cM at L
 dsimp only at L
 rw[e7]at L
 dsimp only at L
 have ez:((0:Nat):Int)=0:=rfl
 rw[ez]at L
 rw[L,ar (n:=r.Vote+1-1),show r.Vote+1-1=r.Vote by omega,bg]
 congr 2
 congr 1
 congr 1
 omega
theorem lI{r:bB}(h:dA r=true)(hw:Bytes (bZ r)):iW (bZ r) 0 r ((bZ r).length:Int)∧cz (bZ r) 0=(((b6 r).length:Int),((bU ((b6 r).length:Int)).length:Int),true)∧bZ r=(bU ((b6 r).length:Int)++b6 r)++df (b6 r):=by
 have e:bZ r=(bU ((b6 r).length:Int)++b6 r)++df (b6 r):=by unfold bZ;rw[bm h]
 have hbl:=lG h
 have hrl:=iD r
 have hsl:(df (b6 r)).length=4:=rfl
 have hlen:(bZ r).length=(bU ((b6 r).length:Int)).length+(b6 r).length+4:=by rw[e,ag,ag,hsl]
 have hbw:Bytes (b6 r):=fun x hx=>hw x (by rw[e];exact au _ (av _ hx))
 have hn:cz (bZ r) 0=(((b6 r).length:Int),((bU ((b6 r).length:Int)).length:Int),true):=by
  have:=(uA (b:=bZ r) (Nat.zero_le _) (n:=((b6 r).length:Int)) ⟨by omega,by omega⟩ (C:=b6 r++df (b6 r)) (by rw[aN,e,ah])).1
  rw[Nat.zero_add]at this
  exact this
 refine⟨?_,hn,e⟩
 have hN:fm (bZ r) 0=some (((b6 r).length:Int),((bU ((b6 r).length:Int)).length:Int),true,()):=by rw[ik _ (by omega) hw 0,hn];rfl
 have hsl2:List.take (((((bU ((b6 r).length:Int)).length:Int)+((b6 r).length:Int))).toNat-((bU ((b6 r).length:Int)).length:Int).toNat) (List.drop ((bU ((b6 r).length:Int)).length:Int).toNat (bZ r))=b6 r:=by
  rw[af,e,ah,List.drop_left,List.take_left' (by omega)]
 show eK _ 0=_
 rw[qE,hN,aa]
 dsimp only
 rw[bn (by decide),ar (n:=((bZ r).length:Int)-_),ar (n:=((bZ r).length:Int)-_-4),aq,bW (n:=((bU ((b6 r).length:Int)).length:Int)+_) (by omega) (by omega),al,hsl2,MA h hbw,aa]
 dsimp only
 rw[bn (by decide),bn (by simp),jV r (by have:=(zV h).2.2.2.2.1;omega),aa,bW (n:=((bU ((b6 r).length:Int)).length:Int)+((b6 r).length:Int)+4) (by omega) (by omega),al,qu _ _ (show(bZ r).length≤_ by omega),aa]
 dsimp only
 have ht:List.take ((((bU ((b6 r).length:Int)).length:Int)+((b6 r).length:Int)+4).toNat-(0:Int).toNat) (List.drop (0:Int).toNat (bZ r))=bZ r:=a9 (by show(List.drop 0 (bZ r)).length≤_-0;rw[aN];omega)
 rw[ht,ac rfl,bn (by decide),show((bU ((b6 r).length:Int)).length:Int)+((b6 r).length:Int)+4=((bZ r).length:Int) by omega]
def tot:List Int→Int
 | []=>0
 | x::l=>x+tot l
theorem wx:∀ (l:List Int) (a c:Int),Bytes l→0≤a→a<65521→0≤c→c<65521→∃ y,kB l a c=y*65536+(a+tot l)%65521∧0≤y∧y<65521
 | [],a,c,_,a0,a1,c0,c1=>⟨c,by
   show w64 (w64 (c*65536)+a)=_
   rw[ar (n:=c*65536),ar]
   unfold tot;omega,c0,c1⟩
 | x::l,a,c,hw,a0,a1,c0,c1=>by
  have hx:=hw x aE
  show ∃ y,kB l (Int.tmod (w64 (a+w64 x)) 65521) (Int.tmod (w64 (c+Int.tmod (w64 (a+w64 x)) 65521)) 65521)=_∧_
  rw[ar (n:=x),ar (n:=a+x),Int.tmod_eq_emod_of_nonneg (a:=a+x) (by omega),ar (n:=c+(a+x)%65521),Int.tmod_eq_emod_of_nonneg (a:=c+(a+x)%65521) (by omega)]
  obtain⟨y,e,y0,y1⟩:=wx l ((a+x)%65521) ((c+(a+x)%65521)%65521) (fun z hz=>hw z (aF _ hz)) (by omega) (by omega) (by omega) (by omega)
  refine⟨y,?_,y0,y1⟩
  rw[e]
  have ht:tot (x::l)=x+tot l:=rfl
  rw[ht]
  omega
theorem MI{l m:List Int}(hl:Bytes l)(hm:Bytes m)(h:df l=df m):(1+tot l)%65521=(1+tot m)%65521:=by
 obtain⟨y,e,y0,y1⟩:=wx l 1 0 hl (by omega) (by omega) (by omega) (by omega)
 obtain⟨z,f,z0,z1⟩:=wx m 1 0 hm (by omega) (by omega) (by omega) (by omega)
 have e':gp l=y*65536+(1+tot l)%65521:=e
 have f':gp m=z*65536+(1+tot m)%65521:=f
 unfold df at h
 simp only[List.cons.injEq,and_true]at h
 obtain⟨h1,h2,_,_⟩:=h
 have sh:∀ n:Int,0≤n→n<4294967296→w8 (dC .i64 n 8)=n/256%256:=fun n n0 n1=>by
  rw[jG]
  unfold dC
  have hm:min (Int.toNat 8) IntKind.i64.bits=8:=by decide
  rw[hm,Int.fdiv_eq_ediv_of_nonneg _ (by decide)]
  rfl
 rw[jG,jG]at h1
 rw[sh _ (by omega) (by omega),sh _ (by omega) (by omega)]at h2
 omega
theorem BH:∀ (l:List Int) (i:Nat) (x:Int) (h:i<l.length),tot (l.set i x)=tot l+(x-l[i])
 | y::l,0,x,_=>by show x+tot l=y+tot l+(x-y);omega
 | y::l,i+1,x,h=>by
  have h':i<l.length:=by simpa using h
  have:=BH l i x h'
  show y+tot (l.set i x)=y+tot l+(x-l[i]'h')
  omega
theorem MQ{r:bB}(h:dA r=true)(hw:Bytes (bZ r)){i:Nat}{x:Int}(h0:(bU ((b6 r).length:Int)).length≤i)(h1:i<(bZ r).length)(hx:0≤x∧x≤255)(hne:x≠(bZ r)[i]):sV ((bZ r).set i x) 0:=by
 obtain⟨_,hn,e⟩:=lI h hw
 intro r2 q2 hr2
 have hrl:=iD r
 have hcl:((bZ r).set i x).length=(bZ r).length:=aY
 have hcw:Bytes ((bZ r).set i x):=fun y hy=>by
  rcases List.mem_or_eq_of_mem_set hy with hy | rfl
  ·exact hw y hy
  ·exact hx
 obtain⟨s1,s2,_⟩:=qM (by omega) hcw (by omega) hr2
 have hcn:=tH (b':=(bZ r).set i x) hw hn (by rw[hcl];omega) (by rw[af,List.take_set_of_le h0])
 have hr2l:=s1.2.2.2
 have hq:List.take (q2.toNat-(0:Int).toNat) (List.drop (0:Int).toNat ((bZ r).set i x))=List.take q2.toNat ((bZ r).set i x):=rfl
 rw[hq]at s2
 have hok2:dA r2=true:=by
  cases hh:dA r2 with
  | true=>rfl
  | false =>
   have hz0:bZ r2=[]:=by unfold bZ;rw[hh];rfl
   rw[hz0]at s2
   have hz:=congrArg List.length s2
   rw[aQ,List.length_nil]at hz
   omega
 have hw2:Bytes (bZ r2):=fun y hy=>hcw y (by rw[← s2]at hy;exact List.mem_of_mem_take hy)
 obtain⟨g1,gn,ge⟩:=lI hok2 hw2
 have hl2:((bZ r2).length:Int)=q2:=by rw[← s2,aQ];omega
 have gn2:=tH (b':=(bZ r).set i x) hw2 gn (by rw[hcl];have:=congrArg List.length ge;rw[ag,ag]at this;omega) (by
  have hk:(bU ((b6 r2).length:Int)).length≤(bZ r2).length:=by have:=congrArg List.length ge;rw[ag,ag]at this;omega
  rw[af,← s2,List.take_take,Nat.min_eq_left (by omega)])
 rw[hcn]at gn2
 have hbb:(b6 r).length=(b6 r2).length:=by
  have:=congrArg Prod.fst gn2
  dsimp only at this
  omega
 have hlr:=congrArg List.length e
 have hlr2:=congrArg List.length ge
 rw[ag,ag]at hlr hlr2
 have hs4:∀ l:List Int,(df l).length=4:=fun _=>rfl
 rw[hs4]at hlr hlr2
 rw[← hbb]at hlr2 ge
 have hfull:(bZ r).set i x=bZ r2:=by
  rw[← s2,a9 (by rw[hcl];omega)]
 rw[ge,e,ah,ah,List.set_append_right _ _ h0]at hfull
 have hf:=List.append_cancel_left hfull
 by_cases hi:i-(bU ((b6 r).length:Int)).length<(b6 r).length
 ·rw[List.set_append_left _ _ hi]at hf
  obtain⟨hA,hB⟩:=List.append_inj hf (by rw[aY];exact hbb)
  have hbw:Bytes (b6 r):=fun y hy=>hw y (by rw[e];exact au _ (av _ hy))
  have hbw2:Bytes (b6 r2):=fun y hy=>hw2 y (by rw[ge];exact au _ (av _ hy))
  have hsum:=MI hbw hbw2 hB
  rw[← hA,BH _ _ _ hi]at hsum
  have hget:(bZ r)[i]=(b6 r)[i-(bU ((b6 r).length:Int)).length]:=by
   have h5:i<((bU ((b6 r).length:Int)++b6 r)++df (b6 r)).length:=by rw[← e];exact h1
   have h6:(bZ r)[i]=((bU ((b6 r).length:Int)++b6 r)++df (b6 r))[i]:=by congr 1
   rw[h6,List.getElem_append_left (by rw[ag];omega),List.getElem_append_right h0]
  rw[hget]at hne
  have hy:=hbw _ (aW hi)
  omega
 ·rw[List.set_append_right _ _ (by omega)]at hf
  obtain⟨hA,hB⟩:=List.append_inj hf hbb
  rw[← hA]at hB
  have h7:i-(bU ((b6 r).length:Int)).length-(b6 r).length<(df (b6 r)).length:=by rw[hs4];omega
  have h8:((df (b6 r)).set (i-(bU ((b6 r).length:Int)).length-(b6 r).length) x)[i-(bU ((b6 r).length:Int)).length-(b6 r).length]? = (df (b6 r))[i-(bU ((b6 r).length:Int)).length-(b6 r).length]?:=by rw[hB]
  rw[List.getElem?_set_self h7,List.getElem?_eq_getElem h7]at h8
  have hget:(bZ r)[i]=(df (b6 r))[i-(bU ((b6 r).length:Int)).length-(b6 r).length]:=by
   have h5:i<((bU ((b6 r).length:Int)++b6 r)++df (b6 r)).length:=by rw[← e];exact h1
   have h6:(bZ r)[i]=((bU ((b6 r).length:Int)++b6 r)++df (b6 r))[i]:=by congr 1
   rw[h6,List.getElem_append_right (by rw[ag];omega)]
   congr 1
   rw[ag];omega
  exact hne (by rw[hget];exact aO h8)
theorem qa{b:List Int}(hl:b.length≤1048576)(hw:Bytes b)(i:Int)(h0:0≤i)(h1:i≤1000):Tot (il b i) (fun y=>0≤y.1∧y.1≤255):=by
 rw[EU]
 refine ti (fun c=>?_) (fun c=>ts ?_)
 ·rw[ab]at c
  have hi:i.toNat<b.length:=by omega
  have:=hw _ (aW hi)
  refine tc ⟨h0,c⟩ (ts ?_)
  rw[dJ hi]
  show 0≤w64 b[i.toNat]∧w64 b[i.toNat]≤255
  rw[ar];exact this
 ·have e1:w64 (i*7)=i*7:=ar
  have e2:w64 (i*7+(b.length:Int))=i*7+b.length:=ar
  show 0≤Int.tmod (w64 (w64 (i*7)+(b.length:Int))) 256∧Int.tmod (w64 (w64 (i*7)+(b.length:Int))) 256≤255
  rw[e1,e2,Int.tmod_eq_emod_of_nonneg (by omega)]
  omega
end Go.Proofs.YtacknlgegbagfaaGreat.E.TR
