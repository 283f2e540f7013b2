/- What the pure statement needs (2). No condition. -/
import Derived.Test.YtemajhlhgphhjaaGreatDoorM1
import Derived.Test.YtemajhlhgphhjaaGreatDoorTMe1
import Derived.Test.YtemajhlhgphhjaaGreatDoorTMe2
import Derived.Test.YtemajhlhgphhjaaGreatDoorTMe3
import Derived.Test.YtemajhlhgphhjaaGreatDoorTMe4
import Derived.KernelRfl
namespace Go.Proofs.YtemajhlhgphhjaaGreatDoor.E.TM
open Go.Proofs.YtemajhlhgphhjaaGreatDoor.E
set_option linter.unusedVariables false
def Ms(v:bL):Prop:=v.S.length≤100000∧Bt v.S
def uy(v:bL):List Int:=if v.Kind=1 then lK v.N else v.S
theorem Wt(v:bL):eV v=some (uy v,()):=by
 rw[Ws]
 unfold uy
 by_cases h:v.Kind=1
 ·rw[am h,bw h,VP];rfl
 ·rw[al h,bz h]
theorem Gd(b:Bool):jb b=some (if b=true then 1 else 0,()):=by rw[XH];cases b <;> rfl
end Go.Proofs.YtemajhlhgphhjaaGreatDoor.E.TM
namespace Go.Proofs.YtemajhlhgphhjaaGreatDoor.E
set_option linter.unusedVariables false
def eo(p:Nat→Bool)(n:Nat):Bool:=(List.range n).any p
theorem anyB_iff{p:Nat→Bool}{n:Nat}:eo p n=true ↔ ∃ i,i<n∧p i=true:=by
 unfold eo
 rw[List.any_eq_true]
 constructor
 ·rintro ⟨i,h,e⟩;exact⟨i,List.mem_range.1 h,e⟩
 ·rintro ⟨i,h,e⟩;exact⟨i,List.mem_range.2 h,e⟩
theorem anyB_false{p:Nat→Bool}{n:Nat}:eo p n=false ↔ ∀ i,i<n→p i=false:=by
 rw[← aX,anyB_iff]
 constructor
 ·intro h i hi
  cases e:p i with
  | false=>rfl
  | true=>exact absurd ⟨i,hi,e⟩ h
 ·rintro h ⟨i,hi,e⟩
  rw[h i hi]at e;cases e
theorem Mz(p q:Nat→Bool)(n:Nat):eo (fun i=>p i||q i) n=(eo p n||eo q n):=by
 cases h:eo p n with
 | true =>
  obtain⟨i,hi,e⟩:=anyB_iff.1 h
  rw[Bool.true_or,anyB_iff];exact⟨i,hi,by rw[e];rfl⟩
 | false =>
  rw[Bool.false_or]
  have h':=anyB_false.1 h
  cases g:eo q n with
  | true =>
   obtain⟨i,hi,e⟩:=anyB_iff.1 g
   rw[anyB_iff];exact⟨i,hi,by rw[e,Bool.or_true]⟩
  | false=>rw[anyB_false];intro i hi;rw[h' i hi,anyB_false.1 g i hi];rfl
theorem im{ρ:Type}(F:Int→Option ρ)(n:Nat)(p:Nat→Bool)(x y:Option ρ)
  (step:∀ i:Nat,i<n→F i=if p i=true then x else F ((i+1:Nat):Int)) (stop:F (n:Int)=y):F 0=if eo p n=true then x else y:=by
 have key:∀ (d i:Nat),i+d=n→(∀ j,j<i→p j=false)→F (i:Int)=if eo p n=true then x else y:=by
  intro d
  induction d with
  | zero =>
   intro i hd hj
   have hi:i=n:=by omega
   subst hi
   rw[stop,anyB_false.2 hj];rfl
  | succ d ih =>
   intro i hd hj
   rw[step i (by omega)]
   cases e:p i with
   | true=>rw[bw rfl,anyB_iff.2 ⟨i,by omega,e⟩,bw rfl]
   | false =>
    rw[bz (by simp)]
    refine ih (i+1) (by omega) fun j h=>?_
    by_cases h':j=i
    ·subst h';exact e
    ·exact hj j (by omega)
 exact key n 0 (by omega) (fun j h=>absurd h (by omega))
theorem nC{σ:Type}(F:Int→Option (Int×σ))(s:σ)(n:Nat)(p:Nat→Bool)
  (step:∀ i:Nat,i<n→F i=if p i=true then some ((i:Int),s)else F ((i+1:Nat):Int)) (stop:F (n:Int)=some (-1,s)) :
  ∃ k:Int,F 0=some (k,s)∧decide (k≥0)=eo p n∧k<n∧(0≤k→p k.toNat=true∧∀ j:Nat,(j:Int)<k→p j=false)∧(k<0→k = -1):=by
 have key:∀ (d i:Nat),i+d=n→(∀ j,j<i→p j=false)→∃ k:Int,F (i:Int)=some (k,s)∧decide (k≥0)=eo p n∧k<n∧(0≤k→p k.toNat=true∧∀ j:Nat,(j:Int)<k→p j=false)∧(k<0→k = -1):=by
  intro d
  induction d with
  | zero =>
   intro i hd hj
   have hi:i=n:=by omega
   subst hi
   exact⟨-1,stop,by rw[anyB_false.2 hj];rfl,by omega,fun h=>by omega,fun _=>rfl⟩
  | succ d ih =>
   intro i hd hj
   rw[step i (by omega)]
   cases e:p i with
   | true=>rw[bw rfl];exact⟨i,rfl,by rw[anyB_iff.2 ⟨i,by omega,e⟩];exact ac (by omega),by omega,fun _=>⟨by rw[ag];exact e,fun j h=>hj j (by omega)⟩,fun h=>by omega⟩
   | false =>
    rw[bz (by simp)]
    refine ih (i+1) (by omega) fun j h=>?_
    by_cases h':j=i
    ·subst h';exact e
    ·exact hj j (by omega)
 exact key n 0 (by omega) (fun j h=>absurd h (by omega))
theorem gp{α:Type}(l:List α)(z:α)(p:α→Bool):eo (fun i=>p (l.getD i z)) l.length=l.any p:=by
 cases h:l.any p with
 | true =>
  obtain⟨x,hx,e⟩:=List.any_eq_true.1 h
  obtain⟨i,hi,rfl⟩:=bq.1 hx
  exact anyB_iff.2 ⟨i,hi,by rw[dj hi];exact e⟩
 | false =>
  rw[anyB_false]
  intro i hi
  rw[dj hi]
  cases e:p l[i] with
  | false=>rfl
  | true =>
   have:l.any p=true:=List.any_eq_true.2 ⟨l[i],aZ hi,e⟩
   rw[h]at this;cases this
end Go.Proofs.YtemajhlhgphhjaaGreatDoor.E
namespace Go.Proofs.YtemajhlhgphhjaaGreatDoor.E.TM
open Go.Proofs.YtemajhlhgphhjaaGreatDoor.E
set_option linter.unusedVariables false
def spl:List Int→List (List Int)
 | []=>[[]]
 | c::l=>if c=32 then []::spl l else((c::(spl l).getD 0 [])::(spl l).drop 1)
def pre(w:List Int):List (List Int)→List (List Int)
 | []=>[w]
 | x::xs=>(w++x)::xs
def ne(w:List Int):Bool:=!decide (w=[])
def pf(l:List Int):List (List Int):=(spl l).filter ne
theorem uv(l:List Int):∃ x xs,spl l=x::xs:=by
 cases l with
 | nil=>exact⟨_,_,rfl⟩
 | cons c l=>rw[spl];split <;> exact⟨_,_,rfl⟩
theorem BJ{c:Int}(h:c≠32)(l:List Int):spl (c::l)=pre [c] (spl l):=by
 obtain⟨x,xs,e⟩:=uv l
 rw[spl,bz h,e];rfl
theorem UU(a b:List Int)(l:List (List Int)):pre a (pre b l)=pre (a++b) l:=by
 cases l with
 | nil=>rfl
 | cons x xs=>show(a++(b++x))::xs=_;rw[← ai];rfl
theorem Jf(l:List Int):pre [] (spl l)=spl l:=by
 obtain⟨x,xs,e⟩:=uv l
 rw[e];rfl
theorem BI:∀ l:List Int,(spl l).length=l.count 32+1
 | []=>rfl
 | c::l=>by
  by_cases h:c=32
  ·subst h;rw[spl,bw rfl,aW,BI l,List.count_cons_self]
  ·obtain⟨x,xs,e⟩:=uv l
   rw[BJ h,List.count_cons_of_ne h,← BI l,e];rfl
theorem IH{w:List Int}(h:w≠[]):ne w=true:=by unfold ne;rw[af h];rfl
theorem WA(t:List Int)(ht:t.length≤4294967290):∀ (d i f:Nat) (acc:List (List Int)),i+d=t.length→f≤i→acc.length≤i→i6 t acc (f:Int) (i:Int)=some (acc++(pre ((t.drop f).take (i-f)) (spl (t.drop i))).filter ne,()):=by
 have fin:∀ (acc:List (List Int)) (a:Int) (b:Nat),t.length<b→i6 t acc a (b:Int)=some (acc,()):=fun acc a b hb=>by rw[yA,av]
 intro d
 induction d with
 | zero =>
  intro i f acc hi hf ha
  have hw:w64 ((i:Int)+1)=((i+1:Nat):Int):=by rw[aw];omega
  rw[yA,au,av,hw,a7 (i:=i) (by omega)]
  show _=some (acc++List.filter ne [(t.drop f).take (i-f)++[]],())
  rw[aL]
  by_cases c:f<i
  ·have hne:(t.drop f).take (i-f)≠[]:=fun e=>by
    have:=congrArg List.length e
    rw[aU,aV]at this
    simp only[List.length_nil]at this
    omega
   rw[au,ap,bw (by rw[ce];omega),fin _ _ _ (by omega),List.filter_cons_of_pos (IH hne),ag,ag]
   rfl
  ·rw[av,fin _ _ _ (by omega),show i-f=0 by omega,List.take_zero,List.filter_cons_of_neg (by decide)]
   rw[List.filter_nil,aL]
 | succ d ih =>
  intro i f acc hi hf ha
  have hi':i<t.length:=by omega
  have hw:w64 ((i:Int)+1)=((i+1:Nat):Int):=cF hi' (by omega)
  rw[yA,au,au,ap,cX hi',hw,aj hi']
  have hstep:(t.drop f).take (i+1-f)=(t.drop f).take (i-f)++[t[i]]:=by
   rw[show i+1-f=(i-f)+1 by omega,List.take_add_one,List.getElem?_drop,show f+(i-f)=i by omega,List.getElem?_eq_getElem hi'];rfl
  by_cases c:t[i]=32
  ·rw[bz (by rw[c];decide),c,spl,bw rfl]
   show _=some (acc++List.filter ne (((t.drop f).take (i-f)++[])::spl (t.drop (i+1))),())
   rw[aL]
   have hrec:∀ acc:List (List Int),acc.length≤i+1→i6 t acc ((i+1:Nat):Int) ((i+1:Nat):Int)=some (acc++(spl (t.drop (i+1))).filter ne,()):=fun acc ha=>by
    have:=ih (i+1) (i+1) acc (by omega) (aK _) ha
    rwa [Nat.sub_self,List.take_zero,Jf]at this
   by_cases c2:f<i
   ·have hne:(t.drop f).take (i-f)≠[]:=fun e=>by
     have:=congrArg List.length e
     rw[aU,aV]at this
     simp only[List.length_nil]at this
     omega
    rw[au,ap,bw (by rw[ce];omega),List.filter_cons_of_pos (IH hne),ag,ag]
    have:=hrec (acc++[(t.drop f).take (i-f)]) (by simp;omega)
    rw[ai]at this
    exact this
   ·rw[av,show i-f=0 by omega,List.take_zero,List.filter_cons_of_neg (by decide)]
    exact hrec acc (by omega)
  ·rw[bw (by simp[c]),BJ c,UU,← hstep]
   exact ih (i+1) f acc (by omega) (by omega) (by omega)
theorem WB(t:List Int)(ht:t.length≤4294967290):yz t=some (pf t,()):=by
 rw[VS]
 have:=WA t ht t.length 0 0 [] (by omega) (aK _) (aK _)
 rw[aQ,Nat.sub_zero,List.take_zero,Jf,bl]at this
 exact this
theorem Ol(t:List Int):(pf t).length≤t.length+1:=by
 have hc:=List.count_le_length (a:=(32:Int)) (l:=t)
 have:=BI t
 have:=List.length_filter_le ne (spl t)
 unfold pf
 omega
theorem Lk:∀ (l:List Int) (P:Int→Prop),(∀ x∈l,P x)→∀ w∈spl l,(∀ x∈w,P x)∧w.length≤l.length
 | [],P,h,w,hw=>by rw[aN.1 hw];exact⟨fun x hx=>(by cases hx),aK _⟩
 | c::l,P,h,w,hw=>by
  have ih:=Lk l P fun x hx=>h x (aI _ hx)
  by_cases hc:c=32
  ·rw[spl,bw hc]at hw
   rcases aO.1 hw with rfl | hw
   ·exact⟨fun x hx=>(by cases hx),Nat.zero_le _⟩
   ·exact⟨(ih w hw).1,by have:=(ih w hw).2;rw[aW];omega⟩
  ·obtain⟨x,xs,e⟩:=uv l
   rw[BJ hc,e]at hw
   rcases aO.1 (show w∈([c]++x)::xs from hw)with rfl | hw
   ·obtain⟨g1,g2⟩:=ih x (by rw[e];exact aH ..)
    refine⟨fun y hy=>?_,by simp;omega⟩
    rcases aO.1 (show y∈c::x from hy)with rfl | hy
    ·exact h _ (aH ..)
    ·exact g1 y hy
   ·obtain⟨g1,g2⟩:=ih w (by rw[e];exact aI _ hw)
    exact⟨g1,by rw[aW];omega⟩
theorem Om{l:List Int}{P:Int→Prop}(h:∀ x∈l,P x){w:List Int}(hw:w∈pf l):(∀ x∈w,P x)∧w.length≤l.length:=Lk l P h w (List.mem_filter.1 hw).1
theorem eJ(a b c:Int):dB a b c=some (decide (b≤a∧a≤c),()):=by
 rw[KH]
 by_cases h:b≤a
 ·rw[bw (by simp[h])];simp[h]
 ·rw[bz (by simp[h])];simp[h]
inductive Small:bH→Prop
 | mk (x:bH):x.Kids.length≤100→(∀ k∈x.Kids,Small k)→Small x
theorem uu{x:bH}(h:x.Kids=[]):Small x:=.mk x (by rw[h];decide) (fun k hk=>by rw[h]at hk;cases hk)
theorem T5(a b:Int):mxI a b=if a>b then a else b:=by unfold mxI;split <;> split <;> omega
theorem NZ{x:bH}(h:Small x):∃ v,mG x=some (v,())∧sc x=some (v,()):=by
 induction h with
 | mk x hl hs ih =>
  rw[XU,P0]
  have key:∀ (n i:Nat) (t:Int),i+n=x.Kids.length→∃ v,mH t i x=some (v,())∧sd t x.Kids x.Kids.length i=some (v,()):=by
   intro n
   induction n with
   | zero =>
    intro i t hi
    rw[KJ,H1,av,av]
    exact⟨_,rfl,rfl⟩
   | succ n ihn =>
    intro i t hi
    have hi':i<x.Kids.length:=by omega
    obtain⟨v,e1,e2⟩:=ih x.Kids[i] (aZ hi')
    rw[KJ,au,ap,H1,au,ap,cX hi',e1,e2,aa,aa]
    dsimp only
    rw[ua,T5,cF hi' (by omega)]
    by_cases c:t>v
    ·rw[am c,bw c,aa];exact ihn (i+1) t (by omega)
    ·rw[al c,bz c,aa];exact ihn (i+1) v (by omega)
  exact key x.Kids.length 0 0 (by omega)
theorem IW{c:bT}{b:Int}(h:c.bad=true):ge c b=some (false,c,()):=by rw[z9,bz (by simp[h])]
theorem iW{S:List Int}{p:Nat}{b:Int}(h:S.length≤p):ge ⟨S,p,false⟩ b=some (false,⟨S,p,false⟩,()):=by
 rw[z9,bw (by simp),al (by simp;omega)]
theorem ml{S:List Int}{p:Nat}{b:Int}(h:p<S.length):ge ⟨S,p,false⟩ b=some (decide (S[p]=b),⟨S,p,false⟩,()):=by
 rw[z9];dsimp only
 rw[bw (by simp),au,ap,cX h]
theorem fE{r:bM}(h:r.s=[]∨r.bad=true):kG r=some (0,false,r,()):=by
 rw[H3]
 by_cases h1:r.s=[]
 ·rw[am h1]
 ·rw[al h1,bw (h.resolve_left h1)]
theorem gR{b:Int}{s:List Int}:kG ⟨b::s,false⟩=some (b,true,⟨b::s,false⟩,()):=by
 rw[H3,bz (by simp),bz (by simp),bw (by simp)]
 rfl
theorem ry(b:Int)(s:List Int):List.take ((b::s).length-1) (List.drop 1 (b::s))=s:=by simp
theorem jl{r:bM}{b:Int}(h:r.s=[]∨r.bad=true):jF r b=some (false,r,()):=by
 rw[wP,fE h,aa,bw (by simp)]
theorem mS{b:Int}{s:List Int}:jF ⟨b::s,false⟩ b=some (true,⟨s,false⟩,()):=by
 rw[wP,gR,aa,bz (by simp),bz (by simp),bw (by simp;omega)]
 dsimp only
 rw[ry]
theorem mR{a b:Int}{s:List Int}(h:a≠b):jF ⟨a::s,false⟩ b=some (false,⟨a::s,false⟩,()):=by
 rw[wP,gR,aa,bz (by simp),bw (by simp[h])]
theorem kT(r:bM):(r.s=[]∨r.bad=true)∨∃ b s,r=⟨b::s,false⟩:=by
 obtain⟨s,bad⟩:=r
 cases s with
 | nil=>exact .inl (.inl rfl)
 | cons b s=>cases bad with
  | true=>exact .inl (.inr rfl)
  | false=>exact .inr ⟨b,s,rfl⟩
def gv(f:List Bool)(j:Nat):Nat→List Bool
 | 0=>f
 | n+1=>gv (f.set j true) (j+1) n
theorem ky(n:Nat):∀ (f:List Bool) (j:Nat),(gv f j n).length=f.length:=by
 induction n with
 | zero=>intro f j;rfl
 | succ n ih=>intro f j;unfold gv;rw[ih,a8]
theorem Oo{k hi:Int}(c:bT)(z w:bH)(hh:hi≤255):∀ (n:Nat) (f:List Bool) (j:Nat),f.length=256→(hi+1-j).toNat=n→lp f k hi j c z w=iD (gv f j n) (w64 (k+1)) c z w:=by
 intro n
 induction n with
 | zero=>intro f j hf hn;rw[KN,av];rfl
 | succ n ih =>
  intro f j hf hn
  rw[KN,bw (by rw[ab];omega),ap,aw (n:=(j:Int)+1),ag]
  exact ih (f.set j true) (j+1) (by rw[a8];exact hf) (by omega)
theorem On{t:List Int}{k hi:Int}(c:bM)(z w:bH)(hh:hi≤255):∀ (n:Nat) (f:List Bool) (j:Nat),f.length=256→(hi+1-j).toNat=n→pI t f k hi j c z w=nA t (gv f j n) (w64 (k+1)) c z w:=by
 intro n
 induction n with
 | zero=>intro f j hf hn;rw[H7,av];rfl
 | succ n ih =>
  intro f j hf hn
  rw[H7,bw (by rw[ab];omega),ap,aw (n:=(j:Int)+1),ag]
  exact ih (f.set j true) (j+1) (by rw[a8];exact hf) (by omega)
def dq:Nat→List Int→List Bool→Bool→List Bool×Bool
 | 0,_,f,b=>(f,b)
 | _+1,[],f,b=>(f,b)
 | n+1,lo::t,f,b=>match t with
  | d::hi::u=>if d=45 then dq n u (gv f lo.toNat (hi+1-lo).toNat) (b||decide (hi<lo))else dq n t (gv f lo.toNat (lo+1-lo).toNat) b
  | _=>dq n t (gv f lo.toNat (lo+1-lo).toNat) b
theorem K7(n:Nat):∀ (l:List Int) (f:List Bool) (b:Bool),(dq n l f b).1.length=f.length:=by
 induction n with
 | zero=>intro l f b;rfl
 | succ n ih =>
  intro l f b
  match l with
  | []=>rfl
  | [lo]=>show(dq n [] _ b).1.length=_;rw[ih,ky]
  | [lo,d]=>show(dq n [d] _ b).1.length=_;rw[ih,ky]
  | lo::d::hi::u =>
   show(if d=45 then _ else _:List Bool×Bool).1.length=_
   split
   ·rw[ih,ky]
   ·rw[ih,ky]
def ni(f:List Bool):Nat→Nat→List Int→List Int
 | _,0,t=>t
 | j,n+1,t=>ni f (j+1) n (if f.getD j false=true then t++[w8 j]else t)
theorem NG(c:bT)(z w:bH){f:List Bool}(hf:f.length=256):∀ (n j:Nat) (t:List Int),j+n=256→t.length≤j→lm f t j c z w=some (⟨w.Op,w.C,ni f j n t,w.Not,w.Kids⟩,c,()):=by
 intro n
 induction n with
 | zero=>intro j t hj ht;rw[KM,av];rfl
 | succ n ih =>
  intro j t hj ht
  rw[KM,bw (by rw[ab];omega),ap,aw (n:=(j:Int)+1),ag]
  unfold ni
  by_cases c:f.getD j false=true
  ·rw[bw c,bw c,bw (by rw[ce];omega)]
   exact ih (j+1) _ (by omega) (by simp;omega)
  ·rw[bz c,bz c]
   exact ih (j+1) _ (by omega) (by omega)
theorem NF(c:bM)(z w:bH){f:List Bool}(hf:f.length=256):∀ (n j:Nat) (t:List Int),j+n=256→t.length≤j→kH t f 256 j c z w=some (⟨w.Op,w.C,ni f j n t,w.Not,w.Kids⟩,c,()):=by
 intro n
 induction n with
 | zero=>intro j t hj ht;rw[H6,av];rfl
 | succ n ih =>
  intro j t hj ht
  rw[H6,bw (by rw[ab];omega),ap,aw (n:=(j:Int)+1),ag]
  unfold ni
  by_cases c:f.getD j false=true
  ·rw[bw c,bw c,bw (by rw[ce];omega)]
   exact ih (j+1) _ (by omega) (by simp;omega)
  ·rw[bz c,bz c]
   exact ih (j+1) _ (by omega) (by omega)
theorem K8(n:Nat)(lo:Int)(f:List Bool)(b:Bool):∀ (t:List Int),(∀ hi u,t≠45::hi::u)→dq (n+1) (lo::t) f b=dq n t (gv f lo.toNat (lo+1-lo).toNat) b
 | [],_=>rfl
 | [_],_=>rfl
 | d::hi::u,h=>by
  show(if d=45 then _ else _:List Bool×Bool)=_
  rw[bz (fun e=>h hi u (by rw[e]))]
theorem K6(n:Nat)(lo hi:Int)(u:List Int)(f:List Bool)(b:Bool):dq (n+1) (lo::45::hi::u) f b=dq n u (gv f lo.toNat (hi+1-lo).toNat) (b||decide (hi<lo)):=by
 rw[dq]
 exact bw rfl
theorem qE(n:Nat)(f:List Bool)(b:Bool):dq n [] f b=(f,b):=by cases n <;> rfl
def n93(x:Int):Bool:=!decide (x=93)
def co(l:List Int):List Int:=l.takeWhile n93
theorem MY:co []=[]:=rfl
theorem nf{l:List Int}:co (93::l)=[]:=rfl
theorem ko{a:Int}{l:List Int}(h:a≠93):co (a::l)=a::co l:=List.takeWhile_cons_of_pos (by unfold n93;simp[h])
theorem Ge(l:List Int):(co l).length≤l.length:=(List.takeWhile_sublist _).length_le
theorem G0{k lo hi:Int}(c:bT)(z w:bH)(hh:hi≤255)(hl:0≤lo)(f:List Bool)(hf:f.length=256):lp f k hi lo c z w=iD (gv f lo.toNat (hi+1-lo).toNat) (w64 (k+1)) c z w:=by
 have:=Oo (k:=k) c z w hh _ f lo.toNat hf rfl
 rwa [Int.toNat_of_nonneg hl]at this
theorem GZ{t:List Int}{k lo hi:Int}(c:bM)(z w:bH)(hh:hi≤255)(hl:0≤lo)(f:List Bool)(hf:f.length=256):pI t f k hi lo c z w=nA t (gv f lo.toNat (hi+1-lo).toNat) (w64 (k+1)) c z w:=by
 have:=On (t:=t) (k:=k) c z w hh _ f lo.toNat hf rfl
 rwa [Int.toNat_of_nonneg hl]at this
theorem Yw(z w:bH){S:List Int}(hS:S.length≤60)(hB:∀ b∈S,0≤b∧b≤255):∀ (n p:Nat) (f:List Bool) (k:Int) (b:Bool),f.length=256→p≤S.length→(co (S.drop p)).length≤n→0≤k→k≤p →
  iD f k ⟨S,p,b⟩ z w=gf (dq n (co (S.drop p)) f b).1 ⟨S,(p+(co (S.drop p)).length:Nat),(decide (S.length≤p+(co (S.drop p)).length)||(decide (k=0)&&decide (co (S.drop p)=[])))||(dq n (co (S.drop p)) f b).2⟩ z w:=by
 intro n
 induction n with
 | zero =>
  intro p f k b hf hp hn hk hkp
  have hn0:co (S.drop p)=[]:=ba.1 (by omega)
  rw[hn0,qE,uj]
  simp only[List.length_nil,Nat.add_zero,decide_true,Bool.and_true]
  by_cases h:p<S.length
  ·have h93:S[p]=93:=by
    rw[aj h]at hn0
    apply Classical.byContradiction
    intro hne
    rw[ko hne]at hn0
    cases hn0
   rw[bw (by rw[ab];omega),ap,cX h,h93,bz (by simp),av]
   by_cases hk0:k=0
   ·rw[am hk0,ac hk0];simp
   ·rw[al hk0,af hk0,af (p:=S.length≤p) (by omega)];simp
  ·rw[av,bw (by rw[ab];omega),ac (p:=S.length≤p) (by omega)];simp
 | succ n ih =>
  intro p f k b hf hp hn hk hkp
  by_cases h:p<S.length
  ·by_cases h93:S[p]=93
   ·have hn0:co (S.drop p)=[]:=by rw[aj h,h93,nf]
    rw[hn0,qE,uj]
    simp only[List.length_nil,Nat.add_zero,decide_true,Bool.and_true]
    rw[bw (by rw[ab];omega),ap,cX h,h93,bz (by simp),av]
    by_cases hk0:k=0
    ·rw[am hk0,ac hk0];simp
    ·rw[al hk0,af hk0,af (p:=S.length≤p) (by omega)];simp
   ·have hlo:=hB _ (aZ h)
    have e0:co (S.drop p)=S[p]::co (S.drop (p+1)):=by rw[aj h,ko h93]
    have hstep:∀ (t:List Int) (q:Nat) (f':List Bool) (b':Bool),f'.length=256→q≤S.length→p<q→(co (S.drop q)).length≤n→p+(co (S.drop p)).length=q+(co (S.drop q)).length→dq (n+1) (co (S.drop p)) f b=dq n (co (S.drop q)) f' b' →
      iD f' (w64 (k+1)) ⟨S,q,b'⟩ z w=gf (dq (n+1) (co (S.drop p)) f b).1 ⟨S,(p+(co (S.drop p)).length:Nat),(decide (S.length≤p+(co (S.drop p)).length)||(decide (k=0)&&decide (co (S.drop p)=[])))||(dq (n+1) (co (S.drop p)) f b).2⟩ z w:=by
     intro t q f' b' hf' hq hpq hb he hr
     rw[hr,he,ih q f' _ b' hf' hq hb (by rw[aw];omega) (by rw[aw];omega)]
     have z1:decide (w64 (k+1)=0)=false:=by rw[aw];exact af (by omega)
     have z2:decide (co (S.drop p)=[])=false:=af (by rw[e0];exact List.cons_ne_nil _ _)
     rw[z1,z2];simp
    have hno:jg f k (w64 S[p]) (w64 S[p]) ⟨S,(w64 ((p:Int)+1)),b⟩ z w=iD (gv f S[p].toNat (S[p]+1-S[p]).toNat) (w64 (k+1)) ⟨S,(p+1:Nat),b⟩ z w:=by
     rw[aw (n:=S[p]),KK,av,KL,G0 _ z w hlo.2 hlo.1 f hf,aw (n:=(p:Int)+1)]
     rfl
    rw[uj];dsimp only
    rw[bw (by rw[ab];omega),ap,cX h,bw (by simp[h93]),ap]
    have hl1:p+(co (S.drop p)).length=p+1+(co (S.drop (p+1))).length:=by rw[e0];simp;omega
    have hn1:(co (S.drop (p+1))).length≤n:=by rw[e0]at hn;simpa using hn
    have hel:(∀ hi u,co (S.drop (p+1))≠45::hi::u)→jg f k (w64 S[p]) (w64 S[p]) ⟨S,(w64 ((p:Int)+1)),b⟩ z w=gf (dq (n+1) (co (S.drop p)) f b).1 ⟨S,(p+(co (S.drop p)).length:Nat),(decide (S.length≤p+(co (S.drop p)).length)||(decide (k=0)&&decide (co (S.drop p)=[])))||(dq (n+1) (co (S.drop p)) f b).2⟩ z w:=fun hne=>by
     rw[hno]
     exact hstep [] (p+1) _ b (by rw[ky];exact hf) (by omega) (by omega) hn1 hl1 (by rw[e0];exact K8 n _ f b _ hne)
    have w2:w64 (w64 ((p:Int)+1)+1)=((p+2:Nat):Int):=by rw[aw (n:=(p:Int)+1),aw];omega
    have w1:w64 ((p:Int)+1)=((p+1:Nat):Int):=by rw[aw (n:=(p:Int)+1)];omega
    by_cases h2:p+2<S.length
    ·have h1:p+1<S.length:=by omega
     rw[w2,bw (by rw[ab];omega),bw (by rw[w1];omega)]
     have g1:List.getD S (w64 ((p:Int)+1)).toNat 0=S[p+1]:=by rw[w1,cX h1]
     have g2:List.getD S ((p+2:Nat):Int).toNat 0=S[p+2]:=cX h2 0
     rw[g1,g2]
     by_cases c1:S[p+1]=45
     ·rw[am c1,ap]
      by_cases c2:S[p+2]=93
      ·rw[bz (by simp[c2])]
       refine hel fun hi u hu=>?_
       rw[aj h1,c1,ko (by decide),aj h2,c2,nf]at hu
       cases hu
      ·have hhi:=hB _ (aZ h2)
       rw[bw (by simp[c2]),ap]
       have e1:co (S.drop (p+1))=45::S[p+2]::co (S.drop (p+3)):=by
        rw[aj h1,c1,ko (by decide),aj h2,ko c2]
       have w3:w64 (w64 ((p:Int)+1)+2)=((p+3:Nat):Int):=by rw[w1,aw];omega
       rw[w3,aw (n:=S[p]),aw (n:=S[p+2]),KK]
       have hfin:∀ b',b'=(b||decide (S[p+2]<S[p]))→mK f k S[p] S[p+2] ⟨S,((p+3:Nat):Int),b'⟩ z w=gf (dq (n+1) (co (S.drop p)) f b).1 ⟨S,(p+(co (S.drop p)).length:Nat),(decide (S.length≤p+(co (S.drop p)).length)||(decide (k=0)&&decide (co (S.drop p)=[])))||(dq (n+1) (co (S.drop p)) f b).2⟩ z w:=fun b' hb'=>by
        rw[KL,G0 _ z w hhi.2 hlo.1 f hf]
        refine hstep [] (p+3) _ b' (by rw[ky];exact hf) (by omega) (by omega) (by rw[e1]at hn1;simp at hn1;omega) (by rw[hl1,e1];simp;omega) ?_
        rw[e0,e1,K6,hb']
       by_cases c3:S[p+2]<S[p]
       ·rw[am c3];exact hfin true (by rw[ac c3,Bool.or_true])
       ·rw[al c3];exact hfin b (by rw[af c3,Bool.or_false])
     ·rw[al c1]
      refine hel fun hi u hu=>?_
      rw[aj h1]at hu
      by_cases c9:S[p+1]=93
      ·rw[c9,nf]at hu;cases hu
      ·rw[ko c9]at hu;exact c1 (aP hu).1
    ·rw[w2,av]
     refine hel fun hi u hu=>?_
     have:=Ge (S.drop (p+1))
     rw[hu,aV]at this
     simp at this
     omega
  ·have hd:S.drop p=[]:=a7 (by omega)
   rw[hd,MY,qE,uj]
   simp only[List.length_nil,Nat.add_zero,decide_true,Bool.and_true]
   rw[av,bw (by rw[ab];omega),ac (p:=S.length≤p) (by omega)];simp
theorem Yv(z w:bH){s t:List Int}(ht:t.length≤60)(hB:∀ b∈t,0≤b∧b≤255):∀ (n i:Nat) (f:List Bool) (b:Bool),f.length=256→i≤t.length→(t.drop i).length≤n →
  nA t f i ⟨s,b⟩ z w=kH [] (dq n (t.drop i) f b).1 256 0 ⟨s,(dq n (t.drop i) f b).2⟩ z w:=by
 intro n
 induction n with
 | zero =>
  intro i f b hf hi hn
  have hd:t.drop i=[]:=ba.1 (by omega)
  rw[aV]at hn
  rw[hd,qE,wO,av,hf]
  rfl
 | succ n ih =>
  intro i f b hf hi hn
  rw[aV]at hn
  by_cases h:i<t.length
  ·have hlo:=hB _ (aZ h)
   rw[wO,bw (by rw[ab];omega),ap,ap,cX h]
   have e0:t.drop i=t[i]::t.drop (i+1):=aj h
   have hel:(∀ hi u,t.drop (i+1)≠45::hi::u)→mb t f i (w64 t[i]) (w64 t[i]) ⟨s,b⟩ z w=kH [] (dq (n+1) (t.drop i) f b).1 256 0 ⟨s,(dq (n+1) (t.drop i) f b).2⟩ z w:=fun hne=>by
    rw[H5,aw (n:=t[i]),GZ _ z w hlo.2 hlo.1 f hf,e0,K8 n _ f b _ hne,cF h (by omega)]
    exact ih (i+1) _ b (by rw[ky];exact hf) (by omega) (by rw[aV];omega)
   have w1:w64 ((i:Int)+1)=((i+1:Nat):Int):=cF h (by omega)
   have w2:w64 ((i:Int)+2)=((i+2:Nat):Int):=by rw[aw];omega
   by_cases h2:i+2<t.length
   ·have h1:i+1<t.length:=by omega
    rw[w2,bw (by rw[ab];omega),w1,ap,cX h1]
    by_cases c1:t[i+1]=45
    ·have hhi:=hB _ (aZ h2)
     rw[am c1,ap,cX h2,aw (n:=t[i]),aw (n:=t[i+2])]
     have e1:t.drop (i+1)=45::t[i+2]::t.drop (i+3):=by rw[aj h1,c1,aj h2]
     have hfin:∀ b',b'=(b||decide (t[i+2]<t[i]))→mb t f ((i+2:Nat):Int) t[i] t[i+2] ⟨s,b'⟩ z w=kH [] (dq (n+1) (t.drop i) f b).1 256 0 ⟨s,(dq (n+1) (t.drop i) f b).2⟩ z w:=fun b' hb'=>by
      rw[H5,GZ _ z w hhi.2 hlo.1 f hf,e0,e1,K6,hb',cF h2 (by omega)]
      exact ih (i+3) _ _ (by rw[ky];exact hf) (by omega) (by rw[aV];omega)
     cases b with
     | true=>rw[bw rfl];exact hfin true (by simp)
     | false=>rw[bz (by simp)];exact hfin _ (by simp)
    ·rw[al c1]
     refine hel fun hi' u hu=>c1 ?_
     rw[aj h1]at hu
     exact(aP hu).1
   ·rw[w2,av]
    refine hel fun hi' u hu=>?_
    have:=congrArg List.length hu
    rw[aV]at this
    simp at this
    omega
  ·have hd:t.drop i=[]:=a7 (by omega)
   rw[hd,qE,wO,av,hf]
   rfl
theorem Ia:∀ l:List Int,(dN l 93 = -1∧co l=l)∨(dN l 93=(co l).length∧(co l).length<l.length)
 | []=>.inl ⟨rfl,rfl⟩
 | b::l=>by
  by_cases h:b=93
  ·subst h
   refine .inr ⟨?_,?_⟩
   ·rw[dN,bw rfl,nf];rfl
   ·rw[nf];simp
  ·rw[dN,bz h,ko h]
   rcases Ia l with ⟨e1,e2⟩ | ⟨e1,e2⟩
   ·rw[bw e1,e2];exact .inl ⟨rfl,rfl⟩
   ·rw[aq,e1];refine .inr ⟨by simp,by simp;omega⟩
theorem Gf:∀ l:List Int,l.take (co l).length=co l
 | []=>rfl
 | b::l=>by
  by_cases h:b=93
  ·subst h;rw[nf];rfl
  ·rw[ko h,aW,List.take_succ_cons,Gf l]
def j3(u:List Int)(nt:Bool):bH×bM :=
 if(co u).length=u.length∨co u=[] then(⟨0,0,[],false,[]⟩,⟨u,true⟩)
 else(⟨3,0,ni (dq (co u).length (co u) (List.replicate 256 false) false).1 0 256 [],nt,[]⟩,⟨u.drop ((co u).length+1),(dq (co u).length (co u) (List.replicate 256 false) false).2⟩)
theorem H8(u:List Int)(nt:Bool)(hu:u.length≤60)(hb:∀ b∈u,0≤b∧b≤255)(s:List Int)(ht:jF ⟨s,false⟩ 94=some (nt,⟨u,false⟩,())) :
  pH ⟨s,false⟩=some ((j3 u nt).1,(j3 u nt).2,()):=by
 rw[P3,ht,aa]
 dsimp only
 rw[ZA,Zn,Zj,aa,aa,aa]
 dsimp only
 unfold j3
 rcases Ia u with ⟨e1,e2⟩ | ⟨e1,e2⟩
 ·rw[e1,e2,bw (by decide),bw (.inl rfl)]
 ·by_cases h0:co u=[]
  ·rw[e1,h0,bw (by simp),bw (.inr rfl)]
  ·have hl:0<(co u).length:=List.length_pos_iff.2 h0
   have w1:w64 (((co u).length:Int)+1)=(((co u).length+1:Nat):Int):=by rw[aw];omega
   rw[e1,av,ap,w1,ap,bz (fun h=>h.elim (by omega) h0)]
   dsimp only
   rw[ag,ag,Nat.sub_zero,aQ,Gf,bg (by simp)]
   have hi:=Yv (s:=u.drop ((co u).length+1)) (ch) ⟨3,0,[],nt,[]⟩ (t:=co u) (by omega) (fun b hx=>hb b ((List.takeWhile_sublist _).subset hx)) (co u).length 0 (List.replicate 256 false) false bf (by omega) (by rw[aQ];exact aK _)
   rw[aQ]at hi
   exact hi.trans (NF _ _ _ (by rw[K7];exact bf) 256 0 [] rfl (Nat.zero_le _))
theorem Lu(s:List Int):∃ nt,∃ k:Nat,jF ⟨s,false⟩ 94=some (nt,⟨s.drop k,false⟩,())∧((nt=true∧k=1∧∃ u,s=94::u)∨(nt=false∧k=0∧∀ u,s≠94::u)):=by
 cases s with
 | nil=>exact⟨false,0,jl (.inl rfl),.inr ⟨rfl,rfl,fun u h=>by cases h⟩⟩
 | cons b u =>
  by_cases h:b=94
  ·subst h;exact⟨true,1,mS,.inl ⟨rfl,rfl,u,rfl⟩⟩
  ·exact⟨false,0,mR h,.inr ⟨rfl,rfl,fun v hv=>h (aP hv).1⟩⟩
theorem Yu(u:List Int)(nt:Bool):(j3 u nt).2.s <:+ u∧(j3 u nt).1.Kids=[]:=by
 unfold j3
 split
 ·exact⟨bk _,rfl⟩
 ·exact⟨List.drop_suffix _ _,rfl⟩
def By(s:List Int):Prop:=s.length≤60∧∀ b∈s,0≤b∧b≤255
theorem By.suf{s t:List Int}(h:By s)(ht:t <:+ s):By t:=⟨Nat.le_trans ht.length_le h.1,fun b hb=>h.2 b (ht.subset hb)⟩
theorem P6(s:List Int)(h:By s):∃ y r,pH ⟨s,false⟩=some (y,r,())∧r.s <:+ s∧Small y:=by
 obtain⟨nt,k,e,_⟩:=Lu s
 have hu:By (s.drop k):=h.suf (List.drop_suffix _ _)
 have hr:=Yu (s.drop k) nt
 exact⟨_,_,H8 _ nt hu.1 hu.2 s e,hr.1.trans (List.drop_suffix _ _),uu hr.2⟩
def eE(F:bM→Option (bH×bM×Unit))(s:List Int)(b:Bool)(k:Nat):Prop :=
 ∃ y r,F ⟨s,b⟩=some (y,r,())∧r.s <:+ s∧r.s.length+k≤s.length∧(b=true→r.bad=true)∧Small y
theorem pb{b:Int}{s:List Int}:(⟨List.take ((b::s).length-1) (List.drop 1 (b::s)),false⟩:bM)=⟨s,false⟩:=by rw[ry]
theorem j6{b:Int}{s t:List Int}(h:t <:+ s):t <:+ b::s:=h.trans (List.suffix_cons b s)
theorem wB(b:Int)(s:List Int)(h:By (b::s))(hp:eE jD s false 0):eE nz (b::s) false 1:=by
 have hs:By s:=h.suf (List.suffix_cons b s)
 unfold eE
 rw[H2,gR,aa]
 dsimp only
 rw[bw (by simp;omega),pb]
 have leaf:∀ (x:bH) (bad:Bool),x.Kids=[]→∃ y r,some (x,(⟨s,bad⟩:bM),())=some (y,r,())∧r.s <:+ b::s∧r.s.length+1≤(b::s).length∧(false=true→r.bad=true)∧Small y :=
  fun x bad hx=>⟨_,_,rfl,List.suffix_cons b s,by simp,(fun h=>by cases h),uu hx⟩
 by_cases c1:b=40
 ·rw[am c1]
  obtain⟨y,r,e,e1,e2,e3,e4⟩:=hp
  rw[e,aa]
  dsimp only
  rcases kT r with hr | ⟨a,t,hr⟩
  ·rw[jl hr,aa];dsimp only
   rw[bw (by simp)]
   exact⟨_,_,rfl,j6 e1,by simp;omega,(fun h=>by cases h),e4⟩
  ·subst hr
   by_cases ha:a=41
   ·subst ha
    rw[mS,aa];dsimp only
    rw[bz (by simp)]
    refine⟨_,_,rfl,j6 ((List.suffix_cons 41 t).trans e1),?_,(fun h=>by cases h),e4⟩
    simp at e2 ⊢;omega
   ·rw[mR ha,aa];dsimp only
    rw[bw (by simp)]
    refine⟨_,_,rfl,j6 e1,?_,(fun h=>by cases h),e4⟩
    simp at e2 ⊢;omega
 rw[al c1]
 by_cases c2:b=46
 ·rw[am c2];exact leaf _ _ rfl
 rw[al c2]
 by_cases c3:b=94
 ·rw[am c3];exact leaf _ _ rfl
 rw[al c3]
 by_cases c4:b=36
 ·rw[am c4];exact leaf _ _ rfl
 rw[al c4]
 by_cases c5:b=91
 ·rw[am c5]
  obtain⟨y,r,e,e1,e2⟩:=P6 s hs
  rw[e,aa]
  exact⟨_,_,rfl,j6 e1,by have:=e1.length_le;simp;omega,(fun h=>by cases h),e2⟩
 rw[al c5]
 by_cases c6:b=92
 ·rw[am c6]
  cases s with
  | nil=>rw[fE (.inl rfl),aa];dsimp only;rw[bw (by simp)];exact leaf _ _ rfl
  | cons a t =>
   rw[gR,aa];dsimp only
   rw[bz (by simp),bw (by simp;omega),ry]
   exact⟨_,_,rfl,j6 (List.suffix_cons a t),by simp,(fun h=>by cases h),uu rfl⟩
 rw[al c6]
 have l1:∀ (t:Bool),∃ y r,pE b t ⟨s,false⟩ ch=some (y,r,())∧r.s <:+ b::s∧r.s.length+1≤(b::s).length∧(false=true→r.bad=true)∧Small y:=fun t=>by
  rw[pG]
  cases t with
  | true=>rw[bw rfl];exact leaf _ _ rfl
  | false=>rw[bz (by simp)];exact leaf _ _ rfl
 by_cases c7:b=42
 ·rw[am c7];exact l1 _
 rw[al c7]
 by_cases c8:b=43
 ·rw[am c8];exact l1 _
 rw[al c8]
 exact l1 _
theorem xW(b:Int):∃ v,sb b=some (v,())∧((v=8∧b=42)∨(v=9∧b=43)∨(v=10∧b=63)∨(v=0∧b≠42∧b≠43∧b≠63)):=by
 rw[PZ]
 by_cases c1:b=42
 ·rw[am c1];exact⟨_,rfl,.inl ⟨rfl,c1⟩⟩
 rw[al c1]
 by_cases c2:b=43
 ·rw[am c2];exact⟨_,rfl,.inr (.inl ⟨rfl,c2⟩)⟩
 rw[al c2]
 by_cases c3:b=63
 ·rw[am c3];exact⟨_,rfl,.inr (.inr (.inl ⟨rfl,c3⟩))⟩
 rw[al c3];exact⟨_,rfl,.inr (.inr (.inr ⟨rfl,c1,c2,c3⟩))⟩
theorem YB{x:bH}(op:Int)(h:Small x):Small ⟨op,0,[],false,[x]⟩:=.mk _ (by simp) fun k hk=>by rw[aN.1 hk];exact h
theorem PW(z:bH):∀ (n:Nat) (r:bM) (x:bH),r.s.length≤n→Small x→∃ y r',l9 r z x=some (y,r',())∧r'.s <:+ r.s∧(r.bad=true→r'.bad=true)∧Small y:=by
 intro n
 induction n with
 | zero =>
  intro r x hn hx
  rw[ma,fE (.inl (ba.1 (by omega))),aa]
  dsimp only
  rw[bw (by simp)]
  exact⟨_,_,rfl,bk _,fun h=>h,hx⟩
 | succ n ih =>
  intro r x hn hx
  rw[ma]
  rcases kT r with hr | ⟨b,s,rfl⟩
  ·rw[fE hr,aa]
   dsimp only
   rw[bw (by simp)]
   exact⟨_,_,rfl,bk _,fun h=>h,hx⟩
  ·obtain⟨v,e,hv⟩:=xW b
   rw[gR,aa]
   dsimp only
   rw[bz (by simp),e,aa]
   dsimp only
   by_cases c:v=0
   ·rw[am c];exact⟨_,_,rfl,bk _,fun h=>h,hx⟩
   ·rw[al c,bw (by simp;omega),aa]
    dsimp only
    rw[pb]
    obtain⟨y,r',e1,e2,e3,e4⟩:=ih ⟨s,false⟩ _ (by simp at hn ⊢;omega) (YB v hx)
    exact⟨y,r',e1,j6 e2,(fun h=>by cases h),e4⟩
theorem PX(z:bH):∀ (n:Nat) (r:bM) (x:bH),r.s.length≤n→∃ y r',l9 r z x=some (y,r',())∧r'.s <:+ r.s∧(r.bad=true→r'.bad=true):=by
 intro n
 induction n with
 | zero =>
  intro r x hn
  rw[ma,fE (.inl (ba.1 (by omega))),aa]
  dsimp only
  rw[bw (by simp)]
  exact⟨_,_,rfl,bk _,fun h=>h⟩
 | succ n ih =>
  intro r x hn
  rw[ma]
  rcases kT r with hr | ⟨b,s,rfl⟩
  ·rw[fE hr,aa]
   dsimp only
   rw[bw (by simp)]
   exact⟨_,_,rfl,bk _,fun h=>h⟩
  ·obtain⟨v,e,hv⟩:=xW b
   rw[gR,aa]
   dsimp only
   rw[bz (by simp),e,aa]
   dsimp only
   by_cases c:v=0
   ·rw[am c];exact⟨_,_,rfl,bk _,fun h=>h⟩
   ·rw[al c,bw (by simp;omega),aa]
    dsimp only
    rw[pb]
    obtain⟨y,r',e1,e2,e3⟩:=ih ⟨s,false⟩ _ (by simp at hn ⊢;omega)
    exact⟨y,r',e1,j6 e2,(fun h=>by cases h)⟩
theorem HZ(b:Int)(s:List Int)(h:eE nz (b::s) false 1):eE jE (b::s) false 1:=by
 obtain⟨y,r,e,e1,e2,e3,e4⟩:=h
 unfold eE
 rw[H4,e,aa]
 obtain⟨y',r',f1,f2,f3,f4⟩:=PW ch _ r y (aK _) e4
 exact⟨y',r',f1,f2.trans e1,by have:=f2.length_le;omega,(fun h=>by cases h),f4⟩
theorem Lg{l:List bH}(op:Int)(hl:l.length≤100)(h:∀ x∈l,Small x):Small ⟨op,0,[],false,l⟩:=.mk _ hl h
def jM(l:List bH):bH:=if l.length=0 then⟨11,0,[],false,[]⟩else if l.length=1 then l.getD 0 ch else⟨6,0,[],false,l⟩
def jN(l:List bH):bH:=if l.length=1 then l.getD 0 ch else⟨7,0,[],false,l⟩
theorem fk{α:Type}(l:List bH)(r:α) :
  (if(decide ((List.length l:Int)=0))=true then some ((bH.mk 11 0 [] false []),r,()) else
   if(decide ((List.length l:Int)=1))=true then if(0:Int)≤0∧(0:Int)<(List.length l:Int)then some ((List.getD l 0 ch),r,())else none
   else some ((bH.mk 6 0 [] false l),r,()))=some (jM l,r,()):=by
 unfold jM
 by_cases c:l.length=0
 ·rw[au,bw c]
 ·rw[av,bz c]
  by_cases d:l.length=1
  ·rw[au,ap,bw d]
  ·rw[av,bz d]
theorem gA{α:Type}(l:List bH)(r:α) :
  (if(decide ((List.length l:Int)=1))=true then if(0:Int)≤0∧(0:Int)<(List.length l:Int)then some ((List.getD l 0 ch),r,())else none
   else some ((bH.mk 7 0 [] false l),r,()))=some (jN l,r,()):=by
 unfold jN
 by_cases d:l.length=1
 ·rw[au,ap,bw d]
 ·rw[av,bz d]
theorem Ho{l:List bH}(h:∀ x∈l,Small x)(hl:l.length=1):Small (l.getD 0 ch):=by
 match l,hl with
 | [x],_=>exact h x (aN.2 rfl)
theorem I7{l:List bH}(hl:l.length≤100)(h:∀ x∈l,Small x):Small (jM l):=by
 unfold jM
 split
 ·exact uu rfl
 ·split
  ·exact Ho h ‹_›
  ·exact Lg 6 hl h
theorem I9{l:List bH}(hl:l.length≤100)(h:∀ x∈l,Small x):Small (jN l):=by
 unfold jN
 split
 ·exact Ho h ‹_›
 ·exact Lg 7 hl h
theorem Lf{l:List bH}{x:bH}(h:∀ y∈l,Small y)(hx:Small x):∀ y∈List.append l [x],Small y:=by
 intro y hy
 rcases aE.1 hy with hy | hy
 ·exact h y hy
 ·rw[aN.1 hy];exact hx
theorem wM(z:bH)(N:Nat)(hp:∀ b s,(b::s).length≤N→By (b::s)→eE jE (b::s) false 1):∀ (n:Nat) (r:bM) (l:List bH),r.s.length≤n→n≤N→By r.s→l.length+n≤60→(∀ x∈l,Small x) →
  ∃ y r',l5 l r z=some (y,r',())∧r'.s <:+ r.s∧(r.bad=true→r'.bad=true)∧Small y:=by
 intro n
 induction n with
 | zero =>
  intro r l hn hN hb hl hx
  rw[l6,fE (.inl (ba.1 (by omega))),aa]
  dsimp only
  rw[bw (by simp),fk]
  exact⟨_,_,rfl,bk _,fun h=>h,I7 (by omega) hx⟩
 | succ n ih =>
  intro r l hn hN hb hl hx
  rw[l6]
  have stop:∃ y r',some (jM l,r,())=some (y,r',())∧r'.s <:+ r.s∧(r.bad=true→r'.bad=true)∧Small y:=⟨_,_,rfl,bk _,fun h=>h,I7 (by omega) hx⟩
  rcases kT r with hr | ⟨b,s,rfl⟩
  ·rw[fE hr,aa]
   dsimp only
   rw[bw (by simp),fk]
   exact stop
  ·rw[gR,aa]
   dsimp only
   rw[bz (by simp)]
   by_cases c1:b=124
   ·rw[am c1,fk];exact stop
   rw[al c1]
   by_cases c2:b=41
   ·rw[am c2,fk];exact stop
   rw[al c2]
   obtain⟨y,r,e,e1,e2,e3,e4⟩:=hp b s (by have:(b::s).length≤n+1:=hn;omega) hb
   rw[e,aa]
   dsimp only
   rw[bw (by rw[ce];omega)]
   have h2:r.s.length≤n:=by simp only[aW]at e2 hn;omega
   obtain⟨y',r',f1,f2,f3,f4⟩:=ih r _ h2 (by omega) (hb.suf e1) (by show(l++[y]).length+n≤60;simp;omega) (Lf hx e4)
   exact⟨y',r',f1,f2.trans e1,(fun h=>by cases h),f4⟩
theorem HY(z:bH)(N:Nat)(hp:∀ s b,s.length≤N→By s→eE jC s b 0):∀ (n:Nat) (r:bM) (l:List bH),r.s.length≤n→n≤N→By r.s→l.length+n≤61→(∀ x∈l,Small x) →
  ∃ y r',l7 l r z=some (y,r',())∧r'.s <:+ r.s∧(r.bad=true→r'.bad=true)∧Small y:=by
 intro n
 induction n with
 | zero =>
  intro r l hn hN hb hl hx
  rw[l8,jl (.inl (ba.1 (by omega))),aa]
  dsimp only
  rw[bz (by simp),gA]
  exact⟨_,_,rfl,bk _,fun h=>h,I9 (by omega) hx⟩
 | succ n ih =>
  intro r l hn hN hb hl hx
  rw[l8]
  have stop:∃ y r',some (jN l,r,())=some (y,r',())∧r'.s <:+ r.s∧(r.bad=true→r'.bad=true)∧Small y:=⟨_,_,rfl,bk _,fun h=>h,I9 (by omega) hx⟩
  rcases kT r with hr | ⟨b,s,rfl⟩
  ·rw[jl hr,aa]
   dsimp only
   rw[bz (by simp),gA]
   exact stop
  ·by_cases c1:b=124
   ·subst c1
    rw[mS,aa]
    dsimp only
    have hbs:By s:=hb.suf (List.suffix_cons _ _)
    have hn':s.length≤n:=by simp only[aW]at hn;omega
    obtain⟨y,r,e,e1,e2,e3,e4⟩:=hp s false (by omega) hbs
    rw[bw rfl,e,aa]
    dsimp only
    rw[bw (by rw[ce];omega)]
    obtain⟨y',r',f1,f2,f3,f4⟩:=ih r _ (by omega) (by omega) (hbs.suf e1) (by show(l++[y]).length+n≤61;simp;omega) (Lf hx e4)
    exact⟨y',r',f1,j6 (f2.trans e1),(fun h=>by cases h),f4⟩
   ·rw[mR c1,aa]
    dsimp only
    rw[bz (by simp),gA]
    exact stop
theorem wV:∀ (n:Nat) (s:List Int) (b:Bool),s.length≤n→By s→eE jD s b 0:=by
 intro n
 induction n with
 | zero =>
  intro s b hn hs
  have hpart:∀ s b,s.length≤0→By s→eE jC s b 0:=fun s b h hs=>by
   unfold eE
   rw[se]
   obtain⟨y,r',f1,f2,f3,f4⟩:=wM ch 0 (fun b s h=>by simp at h) 0 ⟨s,b⟩ [] h (aK _) hs (by simp) (fun x hx=>by cases hx)
   exact⟨y,r',f1,f2,f2.length_le,f3,f4⟩
  unfold eE
  obtain⟨y,r,e,e1,e2,e3,e4⟩:=hpart s b hn hs
  rw[wN,e,aa]
  obtain⟨y',r',f1,f2,f3,f4⟩:=HY ch 0 hpart 0 r [y] (by have:=e1.length_le;omega) (aK _) (hs.suf e1) (by simp) (fun x hx=>by rw[aN.1 hx];exact e4)
  exact⟨y',r',f1,f2.trans e1,by have:=(f2.trans e1).length_le;omega,fun h=>f3 (e3 h),f4⟩
 | succ n ih =>
  intro s b hn hs
  have hpiece:∀ b s,(b::s).length≤n+1→By (b::s)→eE jE (b::s) false 1:=fun b s h hs =>
   HZ b s (wB b s hs (ih s false (by simpa using h) (hs.suf (List.suffix_cons _ _))))
  have hpart:∀ s b,s.length≤n+1→By s→eE jC s b 0:=fun s b h hs=>by
   unfold eE
   rw[se]
   obtain⟨y,r',f1,f2,f3,f4⟩:=wM ch (n+1) hpiece s.length ⟨s,b⟩ [] (aK _) h hs (by have:=hs.1;simp;omega) (fun x hx=>by cases hx)
   exact⟨y,r',f1,f2,f2.length_le,f3,f4⟩
  unfold eE
  obtain⟨y,r,e,e1,e2,e3,e4⟩:=hpart s b hn hs
  rw[wN,e,aa]
  have h60:=hs.1
  obtain⟨y',r',f1,f2,f3,f4⟩:=HY ch (n+1) hpart s.length r [y] (by have:=e1.length_le;omega) hn (hs.suf e1) (by simp;omega) (fun x hx=>by rw[aN.1 hx];exact e4)
  exact⟨y',r',f1,f2.trans e1,by have:=(f2.trans e1).length_le;omega,fun h=>f3 (e3 h),f4⟩
def Res(S:List Int)(p:Nat)(d:Int)(lo:Nat)(x:bH)(c:bT)(y:bH)(r:bM):Prop :=
 (∃ q:Nat,p+lo≤q∧q≤S.length∧c=⟨S,(q:Int),false⟩∧r=⟨S.drop q,false⟩∧x=y)∨(c.bad=true∧(r.bad=false→(r.s.length:Int)+82≤S.length+d))
def Sim(S:List Int)(p:Nat)(d:Int)(lo:Nat)(fs:Option (bH×bT×Unit))(fi:Option (bH×bM×Unit)):Prop :=
 ∃ x c y r,fs=some (x,c,())∧fi=some (y,r,())∧Res S p d lo x c y r
theorem mW{p:Nat}(h:p≤1000):w64 ((p:Int)+1)=((p+1:Nat):Int):=by rw[aw];omega
theorem K9{S:List Int}(hS:By S)(q:Nat)(hq:q≤S.length)(nt:Bool)(d:Int) :
  ∃ x c,mJ ⟨S,(q:Int),false⟩ ch ⟨3,0,[],nt,[]⟩=some (x,c,())∧Res S q d 0 x c (j3 (S.drop q) nt).1 (j3 (S.drop q) nt).2:=by
 have h60:=hS.1
 have hl:=Ge (S.drop q)
 rw[aV]at hl
 rw[XY,Yw ch _ hS.1 hS.2 (co (S.drop q)).length q _ 0 false bf hq (aK _) (Int.le_refl _) (by omega),XZ]
 dsimp only
 have hc:=fun c=>NG c ch ⟨3,0,[],nt,[]⟩ (f:=(dq (co (S.drop q)).length (co (S.drop q)) (List.replicate 256 false) false).1) (by rw[K7];exact bf) 256 0 [] rfl (Nat.zero_le _)
 rw[show((0:Nat):Int)=0 from rfl]at hc
 rw[mW (by omega),hc]
 refine⟨_,_,rfl,?_⟩
 unfold j3
 split
 ·rename_i h
  refine .inr ⟨?_,fun h=>by cases h⟩
  dsimp only
  rcases h with h | h
  ·rw[aV]at h
   rw[ac (p:=S.length≤q+(co (S.drop q)).length) (by omega)];rfl
  ·rw[h,ac (p:=(0:Int)=0) rfl,ac (p:=([]:List Int)=[]) rfl,Bool.and_true,Bool.or_true,Bool.true_or]
 ·rename_i h
  have h1:¬ (co (S.drop q)).length=(S.drop q).length:=fun e=>h (.inl e)
  have h2:¬ co (S.drop q)=[]:=fun e=>h (.inr e)
  rw[aV]at h1
  dsimp only
  rw[af (p:=S.length≤q+(co (S.drop q)).length) (by omega),af h2,Bool.and_false,Bool.or_false,Bool.false_or,List.drop_drop]
  cases (dq (co (S.drop q)).length (co (S.drop q)) (List.replicate 256 false) false).2 with
  | true=>exact .inr ⟨rfl,fun h=>by cases h⟩
  | false=>exact .inl ⟨q+(co (S.drop q)).length+1,by omega,by omega,rfl,rfl,rfl⟩
theorem Yx{S:List Int}(hS:By S)(p:Nat)(hp:p≤S.length)(d:Int):Sim S p d 0 (ox ⟨S,(p:Int),false⟩) (pH ⟨S.drop p,false⟩):=by
 have h60:=hS.1
 obtain⟨nt,k,e,hk⟩:=Lu (S.drop p)
 have hu:By ((S.drop p).drop k):=hS.suf ((List.drop_suffix _ _).trans (List.drop_suffix _ _))
 have hi:=H8 _ nt hu.1 hu.2 _ e
 rw[X0]
 rcases hk with ⟨rfl,rfl,u,hu'⟩ | ⟨rfl,rfl,hu'⟩
 ·have hlt:p<S.length:=by
   have:=congrArg List.length hu'
   rw[aV]at this
   simp at this;omega
  have h94:S[p]=94:=by
   rw[aj hlt]at hu'
   exact(aP hu').1
  rw[ml hlt,aa]
  dsimp only
  rw[am h94,mW (by omega)]
  obtain⟨x,c,e1,e2⟩:=K9 hS (p+1) (by omega) true d
  rw[List.drop_drop]at hi
  refine⟨x,c,_,_,e1,hi,?_⟩
  rcases e2 with ⟨q,a,b⟩ | h
  ·exact .inl ⟨q,by omega,b⟩
  ·exact .inr h
 ·have hn:ge ⟨S,(p:Int),false⟩ 94=some (false,⟨S,(p:Int),false⟩,()):=by
   by_cases hlt:p<S.length
   ·rw[ml hlt]
    have:¬ S[p]=94:=fun h=>hu' (S.drop (p+1)) (by rw[aj hlt,h])
    rw[af this]
   ·exact iW (by omega)
  rw[hn,aa]
  dsimp only
  rw[bz (by simp)]
  obtain⟨x,c,e1,e2⟩:=K9 hS p hp false d
  exact⟨x,c,_,_,e1,hi,e2⟩
theorem MP{S:List Int}(hS:By S)(p:Nat)(hp:p<S.length)(d:Int)(hd:0≤d)(hdp:d≤p)
  (hpat:Sim S (p+1) (d+1) 0 (jf ⟨S,((p+1:Nat):Int),false⟩ (d+1)) (jD ⟨S.drop (p+1),false⟩)) :
  Sim S p d 1 (mF ⟨S,(p:Int),false⟩ d) (nz ⟨S.drop p,false⟩):=by
 have h60:=hS.1
 have hdrop:=aj hp
 unfold Sim
 rw[XT]
 dsimp only
 rw[bz (by simp),av]
 by_cases h40:d>40
 ·rw[am h40]
  have hb:=hS.suf (List.drop_suffix p S)
  rw[hdrop]at hb ⊢
  obtain⟨y,r,e,e1,e2,e3,e4⟩:=wB S[p] _ hb (wV _ _ false (aK _) (hS.suf (List.drop_suffix (p+1) S)))
  refine⟨_,_,_,_,rfl,e,.inr ⟨rfl,fun _=>?_⟩⟩
  simp only[aW,aV]at e2
  omega
 rw[al h40,ap,cX hp,mW (by omega),aw (n:=d+1),hdrop,H2,gR,aa]
 dsimp only
 rw[bw (c:=(0:Int)≤1∧(1:Int)≤((S[p]::S.drop (p+1)).length:Int)) (by simp;omega),pb]
 by_cases c1:S[p]=40
 ·rw[am c1,am c1]
  obtain⟨x,c,y,r,e1,e2,e3⟩:=hpat
  rw[e1,e2,aa,aa]
  dsimp only
  rcases e3 with ⟨q,q1,q2,rfl,rfl,rfl⟩ | ⟨hc,hr⟩
  ·by_cases hq:q<S.length
   ·rw[ml hq,aa,aj hq]
    dsimp only
    by_cases ha:S[q]=41
    ·rw[ha,mS,aa,bz (by simp),mW (by omega)]
     dsimp only
     rw[bz (by simp)]
     exact⟨_,_,_,_,rfl,rfl,.inl ⟨q+1,by omega,by omega,rfl,rfl,rfl⟩⟩
    ·rw[mR ha,aa,bw (by simp[ha])]
     dsimp only
     rw[bw (by simp)]
     exact⟨_,_,_,_,rfl,rfl,.inr ⟨rfl,fun h=>by cases h⟩⟩
   ·rw[iW (by omega),aa,a7 (by omega),jl (.inl rfl),aa]
    dsimp only
    rw[bw (by simp),bw (by simp)]
    exact⟨_,_,_,_,rfl,rfl,.inr ⟨rfl,fun h=>by cases h⟩⟩
  ·rw[IW hc,aa]
   dsimp only
   rw[bw (by simp)]
   rcases kT r with hr' | ⟨a,t,rfl⟩
   ·rw[jl hr',aa]
    dsimp only
    rw[bw (by simp)]
    exact⟨_,_,_,_,rfl,rfl,.inr ⟨rfl,fun h=>by cases h⟩⟩
   ·have:=hr rfl
    simp only[aW]at this
    by_cases ha:a=41
    ·subst ha
     rw[mS,aa]
     dsimp only
     rw[bz (by simp)]
     exact⟨_,_,_,_,rfl,rfl,.inr ⟨rfl,fun h=>by dsimp only;omega⟩⟩
    ·rw[mR ha,aa]
     dsimp only
     rw[bw (by simp)]
     exact⟨_,_,_,_,rfl,rfl,.inr ⟨rfl,fun h=>by cases h⟩⟩
 have n1:¬ (decide (S[p]=40)=true):=by rw[ab];exact c1
 rw[bz n1,bz n1]
 have good:∀ x:bH,∃ x' c' y' r',some (x,(⟨S,((p+1:Nat):Int),false⟩:bT),())=some (x',c',())∧some (x,(⟨S.drop (p+1),false⟩:bM),())=some (y',r',())∧Res S p d 1 x' c' y' r' :=
  fun x=>⟨_,_,_,_,rfl,rfl,.inl ⟨p+1,by omega,by omega,rfl,rfl,rfl⟩⟩
 have bad:∀ (x y:bH) (a:Int) (s:List Int),∃ x' c' y' r',some (x,(⟨S,a,true⟩:bT),())=some (x',c',())∧some (y,(⟨s,true⟩:bM),())=some (y',r',())∧Res S p d 1 x' c' y' r' :=
  fun x y a s=>⟨_,_,_,_,rfl,rfl,.inr ⟨rfl,fun h=>by cases h⟩⟩
 by_cases c2:S[p]=46
 ·rw[am c2,am c2];exact good _
 have n2:¬ (decide (S[p]=46)=true):=by rw[ab];exact c2
 rw[bz n2,bz n2]
 by_cases c3:S[p]=94
 ·rw[am c3,am c3];exact good _
 have n3:¬ (decide (S[p]=94)=true):=by rw[ab];exact c3
 rw[bz n3,bz n3]
 by_cases c4:S[p]=36
 ·rw[am c4,am c4];exact good _
 have n4:¬ (decide (S[p]=36)=true):=by rw[ab];exact c4
 rw[bz n4,bz n4]
 by_cases c5:S[p]=91
 ·rw[am c5,am c5]
  obtain⟨x,c,y,r,e1,e2,e3⟩:=Yx hS (p+1) (by omega) d
  rw[e1,e2,aa,aa]
  refine⟨_,_,_,_,rfl,rfl,?_⟩
  rcases e3 with ⟨q,a,b⟩ | h
  ·exact .inl ⟨q,by omega,b⟩
  ·exact .inr h
 have n5:¬ (decide (S[p]=91)=true):=by rw[ab];exact c5
 rw[bz n5,bz n5]
 by_cases c6:S[p]=92
 ·rw[am c6,am c6]
  by_cases hq:p+1<S.length
  ·rw[av,ap,cX hq,mW (by omega),aj hq,gR,aa]
   dsimp only
   rw[bz (by simp),bw (by simp;omega),ry]
   exact⟨_,_,_,_,rfl,rfl,.inl ⟨p+1+1,by omega,by omega,rfl,rfl,rfl⟩⟩
  ·rw[au,a7 (by omega),fE (.inl rfl),aa]
   dsimp only
   rw[bw (by simp)]
   exact bad _ _ _ _
 have n6:¬ (decide (S[p]=92)=true):=by rw[ab];exact c6
 rw[bz n6,bz n6]
 by_cases c7:S[p]=42
 ·rw[am c7,am c7,am c7,uf,pG,am c7];exact bad _ _ _ _
 have n7:¬ (decide (S[p]=42)=true):=by rw[ab];exact c7
 rw[bz n7,bz n7]
 by_cases c8:S[p]=43
 ·rw[am c8,am c8,am c8,uf,pG,am c8];exact bad _ _ _ _
 have n8:¬ (decide (S[p]=43)=true):=by rw[ab];exact c8
 rw[bz n8,bz n8]
 by_cases c9:S[p]=63
 ·rw[am c9,uf,pG,am c9];exact bad _ _ _ _
 have n9:¬ (decide (S[p]=63)=true):=by rw[ab];exact c9
 rw[bz n9,uf,pG,bz n9]
 exact good _
theorem UO{c:bT}(z x:bH)(h:c.bad=true):ll c z x=some (x,c,()):=by
 rw[uh,bz (by simp[h])]
theorem UP{S:List Int}(hS:By S)(d:Int):∀ (n p:Nat) (x:bH),p≤S.length→S.length-p≤n→Sim S p d 0 (ll ⟨S,(p:Int),false⟩ ch x) (l9 ⟨S.drop p,false⟩ ch x):=by
 have h60:=hS.1
 have stop:∀ (p:Nat) (x:bH),p≤S.length→∃ x' c' y' r',some (x,(⟨S,(p:Int),false⟩:bT),())=some (x',c',())∧some (x,(⟨S.drop p,false⟩:bM),())=some (y',r',())∧Res S p d 0 x' c' y' r' :=
  fun p x hp=>⟨_,_,_,_,rfl,rfl,.inl ⟨p,by omega,hp,rfl,rfl,rfl⟩⟩
 intro n
 induction n with
 | zero =>
  intro p x hp hn
  unfold Sim
  rw[uh,bw (by simp),iW (by omega),aa]
  dsimp only
  rw[bz (by simp),iW (by omega),aa]
  dsimp only
  rw[bz (by simp),iW (by omega),aa]
  dsimp only
  rw[bz (by simp),ui,bw (by simp),ma,fE (.inl (a7 (by omega))),aa]
  dsimp only
  rw[bw (by simp)]
  exact stop p x hp
 | succ n ih =>
  intro p x hp hn
  by_cases hlt:p<S.length
  ·unfold Sim
   rw[uh,bw (by simp),ml hlt,aa]
   dsimp only
   rw[ml hlt,aa]
   dsimp only
   rw[ml hlt,aa,ma,aj hlt,gR,aa]
   dsimp only
   obtain⟨v,e,hv⟩:=xW S[p]
   rw[bz (c:=(!true)=true) (by simp),e,aa]
   dsimp only
   rw[aa]
   dsimp only
   rw[bw (c:=(0:Int)≤1∧(1:Int)≤((S[p]::S.drop (p+1)).length:Int)) (by simp;omega),pb]
   have go:∀ v:Int,v≠0→Sim S p d 0 (j0 v ⟨S,(p:Int),false⟩ ch x) (l9 ⟨S.drop (p+1),false⟩ ch ⟨v,0,[],false,[x]⟩):=fun v hv=>by
    rw[ui,al hv]
    dsimp only
    rw[mW (by omega)]
    obtain⟨x',c',y',r',f1,f2,f3⟩:=ih (p+1) ⟨v,0,[],false,[x]⟩ (by omega) (by omega)
    refine⟨x',c',y',r',f1,f2,?_⟩
    rcases f3 with ⟨q,a,b⟩ | h
    ·exact .inl ⟨q,by omega,b⟩
    ·exact .inr h
   rcases hv with ⟨rfl,h⟩ | ⟨rfl,h⟩ | ⟨rfl,h⟩ | ⟨rfl,h1,h2,h3⟩
   ·rw[am h,bz (by simp)];exact go 8 (by decide)
   ·rw[bz (by rw[h];simp),am h,bz (by simp)];exact go 9 (by decide)
   ·rw[bz (by rw[h];simp),bz (by rw[h];simp),am h,bz (by simp)];exact go 10 (by decide)
   ·rw[al h1,al h2,al h3,bw (by simp),ui,bw (by simp),← aj hlt]
    exact stop p x hp
  ·have hz:S.length-p≤0:=by omega
   unfold Sim
   rw[uh,bw (by simp),iW (by omega),aa]
   dsimp only
   rw[bz (by simp),iW (by omega),aa]
   dsimp only
   rw[bz (by simp),iW (by omega),aa]
   dsimp only
   rw[bz (by simp),ui,bw (by simp),ma,fE (.inl (a7 (by omega))),aa]
   dsimp only
   rw[bw (by simp)]
   exact stop p x hp
theorem UQ{S:List Int}(hS:By S)(p:Nat)(d:Int)(h:Sim S p d 1 (mF ⟨S,(p:Int),false⟩ d) (nz ⟨S.drop p,false⟩)) :
  Sim S p d 1 (mI ⟨S,(p:Int),false⟩ d) (jE ⟨S.drop p,false⟩):=by
 obtain⟨x,c,y,r,e1,e2,e3⟩:=h
 unfold Sim
 rw[XX,H4,e1,e2,aa,aa]
 dsimp only
 rcases e3 with ⟨q,q1,q2,rfl,rfl,rfl⟩ | ⟨hc,hr⟩
 ·obtain⟨x',c',y',r',f1,f2,f3⟩:=UP hS d _ q x q2 (aK _)
  refine⟨x',c',y',r',f1,f2,?_⟩
  rcases f3 with ⟨q',a,b⟩ | h
  ·exact .inl ⟨q',by omega,b⟩
  ·exact .inr h
 ·rw[UO _ _ hc]
  obtain⟨y',r',f1,f2,f3⟩:=PX ch _ r y (aK _)
  refine⟨_,_,_,_,rfl,f1,.inr ⟨hc,fun h=>?_⟩⟩
  have:=f2.length_le
  have hb:r.bad=false:=by
   cases hb:r.bad with
   | false=>rfl
   | true=>rw[f3 hb]at h;cases h
  have:=hr hb
  omega
theorem UF{c:bT}(d:Int)(l:List bH)(z:bH)(h:c.bad=true):lj d l c z=some (jM l,c,()):=by
 rw[Aa,bz (by simp[h]),fk]
theorem xX{S:List Int}{p p' lo:Nat}{d:Int}{x:bH}{c:bT}{y:bH}{r:bM}(lo':Nat)(h:Res S p' d lo x c y r)(hp:p+lo'≤p'+lo):Res S p d lo' x c y r:=by
 rcases h with ⟨q,a,b⟩ | h
 ·exact .inl ⟨q,by omega,b⟩
 ·exact .inr h
theorem vl{r r':bM}{S:List Int}{d:Int}(hr:r.bad=false→(r.s.length:Int)+82≤S.length+d)(hs:r'.s <:+ r.s)(hb:r.bad=true→r'.bad=true) :
  r'.bad=false→(r'.s.length:Int)+82≤S.length+d:=by
 intro h
 have:=hs.length_le
 have hb':r.bad=false:=by
  cases hb':r.bad with
  | false=>rfl
  | true=>rw[hb hb']at h;cases h
 have:=hr hb'
 omega
theorem pz(n:Nat):(∀ b s,(b::s).length≤n→By (b::s)→eE jE (b::s) false 1)∧(∀ s b,s.length≤n→By s→eE jC s b 0):=by
 have hpiece:∀ b s,(b::s).length≤n→By (b::s)→eE jE (b::s) false 1:=fun b s h hs =>
  HZ b s (wB b s hs (wV _ s false (aK _) (hs.suf (List.suffix_cons _ _))))
 refine⟨hpiece,fun s b h hs=>?_⟩
 unfold eE
 rw[se]
 obtain⟨y,r',f1,f2,f3,f4⟩:=wM ch n hpiece s.length ⟨s,b⟩ [] (aK _) h hs (by have:=hs.1;simp;omega) (fun x hx=>by cases hx)
 exact⟨y,r',f1,f2,f2.length_le,f3,f4⟩
theorem UE(z:bH)(r:bM)(hb:By r.s):∀ (l:List bH),l.length+r.s.length≤60→∃ y r',l5 l r z=some (y,r',())∧r'.s <:+ r.s∧(r.bad=true→r'.bad=true):=by
 have key:∀ (n:Nat) (r:bM) (l:List bH),r.s.length≤n→By r.s→l.length+n≤60→∃ y r',l5 l r z=some (y,r',())∧r'.s <:+ r.s∧(r.bad=true→r'.bad=true):=by
  intro n
  induction n with
  | zero =>
   intro r l hn hb hl
   rw[l6,fE (.inl (ba.1 (by omega))),aa]
   dsimp only
   rw[bw (by simp),fk]
   exact⟨_,_,rfl,bk _,fun h=>h⟩
  | succ n ih =>
   intro r l hn hb hl
   rw[l6]
   have stop:∃ y r',some (jM l,r,())=some (y,r',())∧r'.s <:+ r.s∧(r.bad=true→r'.bad=true):=⟨_,_,rfl,bk _,fun h=>h⟩
   rcases kT r with hr | ⟨b,s,rfl⟩
   ·rw[fE hr,aa]
    dsimp only
    rw[bw (by simp),fk]
    exact stop
   ·rw[gR,aa]
    dsimp only
    rw[bz (by simp)]
    by_cases c1:b=124
    ·rw[am c1,fk];exact stop
    rw[al c1]
    by_cases c2:b=41
    ·rw[am c2,fk];exact stop
    rw[al c2]
    obtain⟨y,r,e,e1,e2,e3,e4⟩:=(pz _).1 b s (aK _) hb
    rw[e,aa]
    dsimp only
    rw[bw (by rw[ce];omega)]
    have h2:r.s.length≤n:=by have:(b::s).length≤n+1:=hn;omega
    obtain⟨y',r',f1,f2,f3⟩:=ih r _ h2 (hb.suf e1) (by show(l++[y]).length+n≤60;simp;omega)
    exact⟨y',r',f1,f2.trans e1,(fun h=>by cases h)⟩
 intro l hl
 exact key _ r l (aK _) hb hl
theorem Ja(z:bH)(r:bM)(hb:By r.s):∀ (l:List bH),l.length+r.s.length≤61→∃ y r',l7 l r z=some (y,r',())∧r'.s <:+ r.s∧(r.bad=true→r'.bad=true):=by
 have key:∀ (n:Nat) (r:bM) (l:List bH),r.s.length≤n→By r.s→l.length+n≤61→∃ y r',l7 l r z=some (y,r',())∧r'.s <:+ r.s∧(r.bad=true→r'.bad=true):=by
  intro n
  induction n with
  | zero =>
   intro r l hn hb hl
   rw[l8,jl (.inl (ba.1 (by omega))),aa]
   dsimp only
   rw[bz (by simp),gA]
   exact⟨_,_,rfl,bk _,fun h=>h⟩
  | succ n ih =>
   intro r l hn hb hl
   rw[l8]
   have stop:∃ y r',some (jN l,r,())=some (y,r',())∧r'.s <:+ r.s∧(r.bad=true→r'.bad=true):=⟨_,_,rfl,bk _,fun h=>h⟩
   rcases kT r with hr | ⟨b,s,rfl⟩
   ·rw[jl hr,aa]
    dsimp only
    rw[bz (by simp),gA]
    exact stop
   ·by_cases c1:b=124
    ·subst c1
     rw[mS,aa]
     dsimp only
     have hbs:By s:=hb.suf (List.suffix_cons _ _)
     have hn':s.length≤n:=by have:(124::s).length≤n+1:=hn;simp only[aW]at this;omega
     obtain⟨y,r,e,e1,e2,e3,e4⟩:=(pz _).2 s false (aK _) hbs
     rw[bw rfl,e,aa]
     dsimp only
     rw[bw (by rw[ce];omega)]
     obtain⟨y',r',f1,f2,f3⟩:=ih r _ (by omega) (hbs.suf e1) (by show(l++[y]).length+n≤61;simp;omega)
     exact⟨y',r',f1,j6 (f2.trans e1),(fun h=>by cases h)⟩
    ·rw[mR c1,aa]
     dsimp only
     rw[bz (by simp),gA]
     exact stop
 intro l hl
 exact key _ r l (aK _) hb hl
theorem UG{S:List Int}(hS:By S)(d:Int)(m:Nat)(hp:∀ p,p<S.length→S.length-p≤m→d≤p→Sim S p d 1 (mI ⟨S,(p:Int),false⟩ d) (jE ⟨S.drop p,false⟩)) :
  ∀ (n p:Nat) (l:List bH),p≤S.length→S.length-p≤n→n≤m→d≤p→l.length+n≤60→Sim S p d 0 (lj d l ⟨S,(p:Int),false⟩ ch) (l5 l ⟨S.drop p,false⟩ ch):=by
 have h60:=hS.1
 intro n
 induction n with
 | zero =>
  intro p l h1 h2 h3 h4 h5
  unfold Sim
  rw[Aa]
  dsimp only
  rw[bw (by simp),av,fk,l6,fE (.inl (a7 (by omega))),aa]
  dsimp only
  rw[bw (by simp),fk]
  exact⟨_,_,_,_,rfl,rfl,.inl ⟨p,by omega,h1,rfl,rfl,rfl⟩⟩
 | succ n ih =>
  intro p l h1 h2 h3 h4 h5
  unfold Sim
  have stop:∃ x' c' y' r',some (jM l,(⟨S,(p:Int),false⟩:bT),())=some (x',c',())∧some (jM l,(⟨S.drop p,false⟩:bM),())=some (y',r',())∧Res S p d 0 x' c' y' r' :=
   ⟨_,_,_,_,rfl,rfl,.inl ⟨p,by omega,h1,rfl,rfl,rfl⟩⟩
  rw[Aa]
  dsimp only
  by_cases hlt:p<S.length
  ·have hd:=aj hlt
   rw[bw (by simp),au,ap,cX hlt,l6]
   obtain⟨x,c,y,r,e1,e2,e3⟩:=hp p hlt (by omega) h4
   rw[hd]at stop e2 ⊢
   rw[gR,aa]
   dsimp only
   rw[bz (c:=(!true)=true) (by simp)]
   by_cases c1:S[p]=124
   ·rw[bz (by simp[c1]),fk,am c1,fk];exact stop
   have n1:¬ (decide (S[p]=124)=true):=by rw[ab];exact c1
   rw[bw (by rw[af c1];rfl),ap,bz n1]
   by_cases c2:S[p]=41
   ·rw[bz (by simp[c2]),fk,am c2,fk];exact stop
   have n2:¬ (decide (S[p]=41)=true):=by rw[ab];exact c2
   rw[bw (by rw[af c2];rfl),bz n2,e1,e2,aa,aa]
   dsimp only
   rw[bw (by rw[ce];omega),bw (by rw[ce];omega)]
   have hl:∀ y:bH,(List.append l [y]).length=l.length+1:=fun y=>by show(l++[y]).length=_;simp
   rcases e3 with ⟨q,q1,q2,rfl,rfl,rfl⟩ | ⟨hc,hr⟩
   ·obtain⟨x',c',y',r',f1,f2,f3⟩:=ih q (List.append l [x]) q2 (by omega) (by omega) (by omega) (by rw[hl];omega)
    exact⟨x',c',y',r',f1,f2,xX 0 f3 (by omega)⟩
   ·rw[UF _ _ _ hc]
    have hb:=hS.suf (List.drop_suffix p S)
    rw[hd]at hb
    obtain⟨y2,r2,g,g1,g2,g3,g4⟩:=(pz _).1 S[p] _ (aK _) hb
    rw[e2]at g
    obtain⟨rfl,rfl⟩:y=y2∧r=r2:=by
     have:=aR g
     exact⟨congrArg Prod.fst this,congrArg (fun z=>z.2.1) this⟩
    simp only[aW,aV]at g2
    obtain⟨y',r',f1,f2,f3⟩:=UE ch r (hb.suf g1) (List.append l [y]) (by rw[hl];omega)
    exact⟨_,_,_,_,rfl,f1,.inr ⟨hc,vl hr f2 f3⟩⟩
  ·rw[bw (by simp),av,fk,l6,fE (.inl (a7 (by omega))),aa]
   dsimp only
   rw[bw (by simp),fk]
   exact stop
theorem Jb{c:bT}(d:Int)(l:List bH)(z:bH)(h:c.bad=true):lk d l c z=some (jN l,c,()):=by
 rw[ug,IW h,aa]
 dsimp only
 rw[bz (by simp),gA]
theorem UK{S:List Int}(hS:By S)(d:Int)(m:Nat)(hp:∀ p,p≤S.length→S.length-p≤m→d≤p→Sim S p d 0 (lh ⟨S,(p:Int),false⟩ d) (jC ⟨S.drop p,false⟩)) :
  ∀ (n p:Nat) (l:List bH),p≤S.length→S.length-p≤n→n≤m→d≤p→l.length+n≤61→Sim S p d 0 (lk d l ⟨S,(p:Int),false⟩ ch) (l7 l ⟨S.drop p,false⟩ ch):=by
 have h60:=hS.1
 intro n
 induction n with
 | zero =>
  intro p l h1 h2 h3 h4 h5
  unfold Sim
  rw[ug,iW (by omega),aa]
  dsimp only
  rw[bz (by simp),gA,l8,jl (.inl (a7 (by omega))),aa]
  dsimp only
  rw[bz (by simp),gA]
  exact⟨_,_,_,_,rfl,rfl,.inl ⟨p,by omega,h1,rfl,rfl,rfl⟩⟩
 | succ n ih =>
  intro p l h1 h2 h3 h4 h5
  unfold Sim
  have stop:∃ x' c' y' r',some (jN l,(⟨S,(p:Int),false⟩:bT),())=some (x',c',())∧some (jN l,(⟨S.drop p,false⟩:bM),())=some (y',r',())∧Res S p d 0 x' c' y' r' :=
   ⟨_,_,_,_,rfl,rfl,.inl ⟨p,by omega,h1,rfl,rfl,rfl⟩⟩
  by_cases hlt:p<S.length
  ·have hd:=aj hlt
   rw[ug,ml hlt,aa,l8]
   dsimp only
   rw[hd]at stop ⊢
   by_cases c1:S[p]=124
   ·rw[c1,mS,aa,bw (by simp),mW (by omega)]
    dsimp only
    rw[bw rfl]
    obtain⟨x,c,y,r,e1,e2,e3⟩:=hp (p+1) (by omega) (by omega) (by omega)
    rw[e1,e2,aa,aa]
    dsimp only
    rw[bw (by rw[ce];omega),bw (by rw[ce];omega)]
    have hl:∀ y:bH,(List.append l [y]).length=l.length+1:=fun y=>by show(l++[y]).length=_;simp
    rcases e3 with ⟨q,q1,q2,rfl,rfl,rfl⟩ | ⟨hc,hr⟩
    ·obtain⟨x',c',y',r',f1,f2,f3⟩:=ih q (List.append l [x]) q2 (by omega) (by omega) (by omega) (by rw[hl];omega)
     exact⟨x',c',y',r',f1,f2,xX 0 f3 (by omega)⟩
    ·rw[Jb _ _ _ hc]
     have hb:=hS.suf (List.drop_suffix (p+1) S)
     obtain⟨y2,r2,g,g1,g2,g3,g4⟩:=(pz _).2 _ false (aK _) hb
     rw[e2]at g
     obtain⟨rfl,rfl⟩:y=y2∧r=r2:=by
      have:=aR g
      exact⟨congrArg Prod.fst this,congrArg (fun z=>z.2.1) this⟩
     simp only[aV]at g2
     obtain⟨y',r',f1,f2,f3⟩:=Ja ch r (hb.suf g1) (List.append l [y]) (by rw[hl];omega)
     exact⟨_,_,_,_,rfl,f1,.inr ⟨hc,vl hr f2 f3⟩⟩
   ·rw[mR c1,aa,al c1,gA]
    dsimp only
    rw[bz (by simp),gA]
    exact stop
  ·rw[ug,iW (by omega),aa]
   dsimp only
   rw[bz (by simp),gA,l8,jl (.inl (a7 (by omega))),aa]
   dsimp only
   rw[bz (by simp),gA]
   exact stop
theorem Jc{S:List Int}(hS:By S)(m:Nat)(p:Nat)(d:Int)(hpat:∀ p',p'<S.length→S.length-p'≤m→d≤p'→Sim S (p'+1) (d+1) 0 (jf ⟨S,((p'+1:Nat):Int),false⟩ (d+1)) (jD ⟨S.drop (p'+1),false⟩))
  (h1:p≤S.length) (h2:S.length-p≤m) (h3:0≤d) (h4:d≤p) (hm:m≤60):Sim S p d 0 (jf ⟨S,(p:Int),false⟩ d) (jD ⟨S.drop p,false⟩):=by
 have h60:=hS.1
 have hpart:∀ p,p≤S.length→S.length-p≤m→d≤p→Sim S p d 0 (lh ⟨S,(p:Int),false⟩ d) (jC ⟨S.drop p,false⟩):=fun p a b c=>by
  rw[XV,se]
  exact UG hS d m (fun p' a' b' c'=>UQ hS p' d (MP hS p' a' d h3 c' (hpat p' a' b' c'))) m p [] a b (aK _) c (by simp;omega)
 unfold Sim
 obtain⟨x,c,y,r,e1,e2,e3⟩:=hpart p h1 h2 h4
 rw[XW,wN,e1,e2,aa,aa]
 dsimp only
 rcases e3 with ⟨q,q1,q2,rfl,rfl,rfl⟩ | ⟨hc,hr⟩
 ·obtain⟨x',c',y',r',f1,f2,f3⟩:=UK hS d m hpart m q [x] q2 (by omega) (aK _) (by omega) (by simp;omega)
  exact⟨x',c',y',r',f1,f2,xX 0 f3 (by omega)⟩
 ·rw[Jb _ _ _ hc]
  have hb:=hS.suf (List.drop_suffix p S)
  obtain⟨y2,r2,g,g1,g2,g3,g4⟩:=(pz _).2 _ false (aK _) hb
  rw[e2]at g
  obtain⟨rfl,rfl⟩:y=y2∧r=r2:=by
   have:=aR g
   exact⟨congrArg Prod.fst this,congrArg (fun z=>z.2.1) this⟩
  simp only[aV]at g2
  obtain⟨y',r',f1,f2,f3⟩:=Ja ch r (hb.suf g1) [y] (by simp;omega)
  exact⟨_,_,_,_,rfl,f1,.inr ⟨hc,vl hr f2 f3⟩⟩
theorem UL{S:List Int}(hS:By S):∀ (n p:Nat) (d:Int),p≤S.length→S.length-p≤n→0≤d→d≤p→Sim S p d 0 (jf ⟨S,(p:Int),false⟩ d) (jD ⟨S.drop p,false⟩):=by
 have h60:=hS.1
 intro n
 induction n with
 | zero =>
  intro p d h1 h2 h3 h4
  exact Jc hS 0 p d (fun p' h h' h''=>absurd h (by omega)) h1 h2 h3 h4 (by omega)
 | succ n ih =>
  intro p d h1 h2 h3 h4
  exact Jc hS (S.length-p) p d (fun p' h h' h''=>ih (p'+1) (d+1) (by omega) (by omega) (by omega) (by omega)) h1 (aK _) h3 h4 (by omega)
theorem Vi(S:List Int)(hB:∀ b∈S,0≤b∧b≤255)(hl:S.length≤9223372036854775807):∃ x ok,s_RexParse S=some (x,ok,())∧rT S=some (x,ok,()):=by
 rw[Wn,Pq]
 by_cases c:(S.length:Int)>60
 ·rw[am c,am c];exact⟨_,_,rfl,rfl⟩
 have n1:¬ (decide ((S.length:Int)>60)=true):=by rw[ab];exact c
 have hS:By S:=⟨by omega,hB⟩
 obtain⟨x,c,y,r,e1,e2,e3⟩:=UL hS S.length 0 0 (Nat.zero_le _) (by omega) (Int.le_refl _) (Int.le_refl _)
 rw[aQ]at e2
 rw[show((0:Nat):Int)=0 from rfl]at e1
 rw[bz n1,bz n1,e1,e2,aa,aa]
 dsimp only
 obtain⟨y2,r2,g,g1,g2,g3,g4⟩:=wV _ S false (aK _) hS
 rw[e2]at g
 obtain⟨rfl,rfl⟩:y=y2∧r=r2:=by
  have:=aR g
  exact⟨congrArg Prod.fst this,congrArg (fun z=>z.2.1) this⟩
 rcases e3 with ⟨q,q1,q2,rfl,rfl,rfl⟩ | ⟨hc,hr⟩
 ·dsimp only
  rw[bz (c:=false=true) (by simp),bz (c:=false=true) (by simp)]
  by_cases hq:q=S.length
  ·have a1:¬ ((!(decide ((q:Int)=(S.length:Int))))=true):=by rw[ac (by omega)];decide
   have a2:¬ ((!(decide (S.drop q=[])))=true):=by rw[ac (a7 (by omega))];decide
   obtain⟨v,d1,d2⟩:=NZ g4
   rw[bz a1,bz a2,d1,d2,aa]
   dsimp only
   by_cases hv:v>12
   ·rw[am hv];exact⟨_,_,rfl,rfl⟩
   ·rw[al hv];exact⟨_,_,rfl,rfl⟩
  ·have a1:(!(decide ((q:Int)=(S.length:Int))))=true:=by rw[af (by omega)];rfl
   have a2:(!(decide (S.drop q=[])))=true:=by
    rw[af (fun h=>by have:=congrArg List.length h;rw[aV]at this;simp at this;omega)];rfl
   rw[bw a1,bw a2];exact⟨_,_,rfl,rfl⟩
 ·rw[bw hc]
  cases hb:r.bad with
  | true=>rw[bw rfl];exact⟨_,_,rfl,rfl⟩
  | false=>have:=hr hb;have:=hS.1;omega
def fD(x:Int):Bool:=(decide (97≤x)&&decide (x≤122))||(decide (65≤x)&&decide (x≤90))
theorem HU(x:Int):wE x=some (fD x,()):=by
 rw[HT]
 unfold fD
 by_cases c1:x≥97
 ·by_cases c2:x≤122
  ·rw[am c1,am c2,ac (show 97≤x from c1),ac c2];rfl
  ·rw[am c1,al c2,au,af c2,Bool.and_false,Bool.false_or,ac (show 65≤x by omega),Bool.true_and]
 ·rw[al c1,af (show ¬ 97≤x from c1),Bool.false_and,Bool.false_or]
  by_cases c3:x≥65
  ·rw[am c3,ac (show 65≤x from c3),Bool.true_and]
  ·rw[al c3,af (show ¬ 65≤x from c3),Bool.false_and]
theorem Yg(x:Int):oA x=some (fD x,()):=by
 have:=HU x
 rw[HT]at this
 rw[Yf];exact this
theorem uF(l:List (List Int))(s:List Int)(hl:l.length≤4294967296):jh l s=some (decide (s∈l),()):=by
 rw[Yi]
 have:=im (fun i=>j1 l s i) l.length (fun i=>decide (l.getD i []=s)) (some (true,())) (some (false,())) (fun i hi=>by
  show j1 l s i=_
  rw[KS,au,ap,cF hi (by omega),ag]) (by
  show j1 l s _=_
  rw[KS,bz (by simp)])
 rw[this,gp l [] (fun x=>decide (x=s))]
 have:l.any (fun x=>decide (x=s))=decide (s∈l):=by
  rw[Bool.eq_iff_iff,List.any_eq_true,ab]
  constructor
  ·rintro ⟨x,hx,e⟩;rw[ab]at e;subst e;exact hx
  ·intro h;exact⟨s,h,ac rfl⟩
 rw[this]
 cases decide (s∈l) <;> rfl
theorem vK(l:List (List Int))(s:List Int)(hl:l.length≤4294967296):qO l s=some (decide (s∈l),()):=by
 rw[Zs,Zx]
 obtain⟨k,e,e1,_⟩:=nC (fun i=>oI l s (l.length:Int) i) () l.length (fun i=>decide (s=l.getD i [])) (fun i hi=>by
  show oI l s _ i=_
  rw[L8,au,ap,cF hi (by omega),ag]) (by
  show oI l s _ _=_
  rw[L8,bz (by simp)])
 rw[e,aa]
 dsimp only
 rw[e1,gp l [] (fun x=>decide (s=x))]
 congr 2
 rw[Bool.eq_iff_iff,List.any_eq_true,ab]
 constructor
 ·rintro ⟨x,hx,e⟩;rw[ab]at e;subst e;exact hx
 ·intro h;exact⟨s,h,ac rfl⟩
def kw1:List (List Int):=[[66,69,71,73,78],[112,114,105,110,116],[105,102],[101,108,115,101],[119,104,105,108,101],[110,101,120,116],[100,101,108,101,116,101],[78,82],[78,70]]
def kw2:List (List Int):=[[108,101,110,103,116,104],[115,117,98,115,116,114],[105,110,100,101,120],[105,110,116],[117,112,112,101,114],[108,111,119,101,114]]
def nI(s:List Int):Bool:=decide (s∈kw1)||decide (s∈kw2)
theorem Kn:mM=some (kw2,()):=Ye
theorem HQ:rV=some (kw2,()):=Px
theorem V1(s:List Int):nV s=some (nI s,()):=by
 have e:jh [[66,69,71,73,78],[112,114,105,110,116],[105,102],[101,108,115,101],[119,104,105,108,101],[110,101,120,116],[100,101,108,101,116,101],[78,82],[78,70]] s=some (decide (s∈kw1),()):=uF kw1 s (by decide)
 rw[VZ,e,aa,Kn,aa]
 dsimp only
 rw[uF kw2 s (by decide),aa]
 unfold nI
 cases decide (s∈kw1) <;> rfl
theorem O6(s:List Int)(b:Bool):iq s b=some (b||decide (s∈kw2),()):=by
 rw[O5,HQ,aa]
 dsimp only
 rw[vK kw2 s (by decide),aa]
 cases b <;> rfl
theorem O8(s:List Int):wn s=some (nI s,()):=by
 rw[O7]
 simp only[O6]
 have:decide (s∈kw1)=(decide (s=[66,69,71,73,78])||(decide (s=[112,114,105,110,116])||(decide (s=[105,102])||(decide (s=[101,108,115,101])||(decide (s=[119,104,105,108,101])||(decide (s=[110,101,120,116])||(decide (s=[100,101,108,101,116,101])||(decide (s=[78,82])||decide (s=[78,70]))))))))):=by
  rw[Bool.eq_iff_iff]
  simp only[ab,aY,kw1,aO,List.not_mem_nil,or_false]
 unfold nI
 rw[this]
 cases decide (s=[66,69,71,73,78]) <;> cases decide (s=[112,114,105,110,116]) <;> cases decide (s=[105,102]) <;> cases decide (s=[101,108,115,101]) <;> cases decide (s=[119,104,105,108,101]) <;> cases decide (s=[110,101,120,116]) <;> cases decide (s=[100,101,108,101,116,101]) <;> cases decide (s=[78,82]) <;> rfl
def ix(s:List Int):Bool:=(decide (1≤(s.length:Int)∧(s.length:Int)≤8)&&s.all fD) && !nI s
theorem KW(s:List Int)(hl:s.length≤4294967296):mO s=some (ix s,()):=by
 rw[Ym]
 have:=im (fun i=>j2 s i) s.length (fun i=>!fD (s.getD i 0)) (some (false,())) (some (decide (1≤(s.length:Int)∧(s.length:Int)≤8) && !nI s,())) (fun i hi=>by
  show j2 s i=_
  rw[KV,au,ap,cF hi (by omega),ag,Yg,aa]) (by
  show j2 s _=_
  rw[KV,bz (by simp),eJ,aa,V1,aa]
  dsimp only
  cases decide (1≤(s.length:Int)∧(s.length:Int)≤8) <;> rfl)
 rw[this,gp s 0 (fun x=>!fD x)]
 unfold ix
 have h:s.any (fun x=>!fD x) = !s.all fD:=by rw[← List.not_all_eq_any_not]
 rw[h]
 cases s.all fD <;> cases decide (1≤(s.length:Int)∧(s.length:Int)≤8) <;> rfl
theorem TE(s:List Int)(hl:s.length≤4294967296):∃ k:Int,wH s 0=some (k,())∧decide (k=(s.length:Int))=s.all fD:=by
 rw[PI]
 have key:∀ (d i:Nat),i+d=s.length→(∀ j (h:j<s.length),j<i→fD s[j]=true)→∃ k:Int,rX s 0 (i:Int)=some (k,())∧decide (k=(s.length:Int))=s.all fD:=by
  intro d
  induction d with
  | zero =>
   intro i hd hj
   have hi:i=s.length:=by omega
   subst hi
   rw[HV,aw (n:=0+(s.length:Int)),bz (by simp)]
   refine⟨_,rfl,?_⟩
   rw[ac rfl,eq_comm,List.all_eq_true]
   intro x hx
   obtain⟨j,h,rfl⟩:=bq.1 hx
   exact hj j h h
  | succ d ih =>
   intro i hd hj
   have hi:i<s.length:=by omega
   rw[HV,aw (n:=0+(i:Int)),Int.zero_add,au,ap,cX hi,HU,aa]
   dsimp only
   cases e:fD s[i] with
   | true =>
    rw[bw rfl,cF hi (by omega)]
    refine ih (i+1) (by omega) fun j h h'=>?_
    by_cases g:j=i
    ·subst g;exact e
    ·exact hj j h (by omega)
   | false =>
    rw[bz (by simp)]
    refine⟨_,rfl,?_⟩
    rw[af (by omega),eq_comm]
    cases g:s.all fD with
    | false=>rfl
    | true=>have:=List.all_eq_true.1 g s[i] (aZ hi);rw[e]at this;cases this
 exact key s.length 0 (by omega) (fun j _ h=>absurd h (by omega))
theorem PF(s:List Int)(hl:s.length≤4294967296):wF s=some (ix s,()):=by
 obtain⟨k,e,e1⟩:=TE s hl
 rw[PE,fT,aa,e,aa]
 dsimp only
 rw[e1,O8,aa]
 unfold ix
 cases s.all fD <;> cases decide (1≤(s.length:Int)∧(s.length:Int)≤8) <;> rfl
noncomputable def nT(s:List Int):Bool:=match s_RexParse s with
 | some (_,ok,_)=>ok
 | none=>false
theorem Ju(s:List Int)(hb:∀ b∈s,0≤b∧b≤255)(hl:s.length≤9223372036854775807):(∃ x,s_RexParse s=some (x,nT s,())∧rT s=some (x,nT s,())):=by
 obtain⟨x,ok,e1,e2⟩:=Vi s hb hl
 have:nT s=ok:=by unfold nT;rw[e1]
 rw[this];exact⟨x,e1,e2⟩
noncomputable def opB(o:bE)(n v c:Int):Bool :=
 if o.Code=1 then decide (-9000000000000≤o.N∧o.N≤9000000000000)&&decide (o.S=[])
 else if o.Code=2 then decide (o.N=0)
 else if o.Code=3∨o.Code=4∨o.Code=5 then(decide (o.N≥0)&&decide (o.N<v))&&decide (o.S=[])
 else if o.Code=6∨o.Code=7∨o.Code=8∨o.Code=35 then(decide (o.N≥0)&&decide (o.N<c))&&decide (o.S=[])
 else if o.Code=24∨o.Code=25 then nT o.S&&decide (o.N=0)
 else if o.Code=29 then decide (1≤o.N∧o.N≤3)&&decide (o.S∈kw2)
 else if o.Code=30∨o.Code=31 then decide (0≤o.N∧o.N≤w64 (n-1))&&decide (o.S=[])
 else if o.Code=33 then decide (0≤o.N∧o.N≤1)&&decide (o.S=[])
 else(decide (1≤o.Code∧o.Code≤36)&&decide (o.N=0))&&decide (o.S=[])
theorem JW(n:Int):eU n=some (decide (-9000000000000≤n∧n≤9000000000000),()):=by rw[JU,eJ];rfl
theorem Hx(n:Int):fh n=some (decide (-9000000000000≤n∧n≤9000000000000),()):=by rw[Hw,fT];rfl
theorem PH(s:List Int)(hb:∀ b∈s,0≤b∧b≤255)(hl:s.length≤9223372036854775807):wG s=some (nT s,()):=by
 obtain⟨x,e1,e2⟩:=Ju s hb hl
 rw[PG,e2];rfl
theorem pR(a b:Bool):(if a=true then some (b,())else some (false,()))=some (a&&b,()):=by cases a <;> rfl
theorem in4(t1:Int)(c:Int)(b:Bool)(o:bE):mD t1 c b o=some (if b=true then decide (0≤o.N∧o.N≤w64 (t1-1))&&decide (o.S=[])else if c=33 then decide (0≤o.N∧o.N≤1)&&decide (o.S=[]) else(decide (1≤o.Code∧o.Code≤36)&&decide (o.N=0))&&decide (o.S=[]),()):=by
 rw[Xa,eJ,eJ,eJ]
 simp only[aa,pR]
 cases b with
 | true=>rfl
 | false =>
  by_cases h:c=33
  ·simp[h]
  ·simp[h,a9]
theorem Xc(o:bE)(n v c:Int)(hb:∀ b∈o.S,0≤b∧b≤255)(hl:o.S.length≤9223372036854775807):om o n v c=some (opB o n v c,()):=by
 obtain⟨x,e1,e2⟩:=Ju o.S hb hl
 rw[Xb,JW]
 simp only[aa,pR,W7,W8,W9,in4,e1,Kn,eJ,uF kw2 _ (by decide)]
 unfold opB
 by_cases c1:o.Code=1
 ·simp[c1,a9]
 by_cases c2:o.Code=2
 ·simp[c2]
 by_cases c3:o.Code=3
 ·simp[c3,a9]
 by_cases c4:o.Code=4
 ·simp[c4,a9]
 by_cases c5:o.Code=5
 ·simp[c5,a9]
 by_cases c6:o.Code=6
 ·simp[c6,a9]
 by_cases c7:o.Code=7
 ·simp[c7,a9]
 by_cases c8:o.Code=8
 ·simp[c8,a9]
 by_cases c35:o.Code=35
 ·simp[c35,a9]
 by_cases c24:o.Code=24
 ·simp[c24]
 by_cases c25:o.Code=25
 ·simp[c25]
 by_cases c29:o.Code=29
 ·simp[c29,a9]
 by_cases c30:o.Code=30
 ·simp[c30,a9]
 by_cases c31:o.Code=31
 ·simp[c31,a9]
 by_cases c33:o.Code=33
 ·simp[c33,a9]
 simp[a9,c1,c2,c3,c4,c5,c6,c7,c8,c35,c24,c25,c29,c30,c31,c33]
def wb(c:Int):List Int:=if c=1 then [100]else if c=2∨c=24∨c=25 then [115]else if c=29 then [110,115]else if c=3∨c=4∨c=5∨c=6∨c=7∨c=8∨c=35∨c=30∨c=31∨c=33 then [110]else []
def opNames:List (List Int):=[[],[110,117,109],[116,101,120,116],[118,97,114],[115,101,116,118,97,114],[112,108,117,115,118,97,114],[99,101,108,108],[115,101,116,99,101,108,108],[112,108,117,115,99,101,108,108],[102,105,101,108,100],[110,114],[110,102],[97,100,100],[115,117,98],[109,117,108],[100,105,118],[109,111,100],[99,97,116],[108,101,115,115],[109,111,115,116],[109,111,114,101],[108,101,97,115,116],[115,97,109,101],[111,116,104,101,114],[102,105,116,115],[108,105,110,101],[110,111,116],[109,105,110,117,115],[98,111,111,108],[99,97,108,108],[106,117,109,112],[122,101,114,111],[112,111,112],[115,104,111,119],[101,110,100,108],[100,114,111,112],[110,101,120,116]]
theorem Uj(c:Int)(h:1≤c∧c≤36):opNames.getD c.toNat []≠[]:=by
 have:∀ n:Nat,n<37→1≤n→opNames.getD n []≠[]:=by decide
 exact this c.toNat (by omega) (by omega)
theorem Uh(c:Int)(f:List Int)(h:1≤c∧c≤36):lZ c opNames f=some (opNames.getD c.toNat [],f,()):=by
 rw[PL,bw (by show(0:Int)≤c∧c<37;omega)]
theorem Ui(c:Int):wI c=some (if 1≤c∧c≤36 then opNames.getD c.toNat []else [],if 1≤c∧c≤36 then wb c else [],()):=by
 rw[PP,fT,aa]
 dsimp only
 by_cases h:1≤c∧c≤36
 ·rw[ac h,bz (by simp),bw h,bw h]
  have e:=fun f=>Uh c f h
  unfold opNames at e ⊢
  simp only[PN,PO,e]
  unfold wb
  by_cases c1:c=1
  ·simp[c1]
  by_cases c2:c=2
  ·simp[c2]
  by_cases c24:c=24
  ·simp[c24]
  by_cases c25:c=25
  ·simp[c25]
  by_cases c29:c=29
  ·simp[c29]
  by_cases c3:c=3
  ·simp[c3]
  by_cases c4:c=4
  ·simp[c4]
  by_cases c5:c=5
  ·simp[c5]
  by_cases c6:c=6
  ·simp[c6]
  by_cases c7:c=7
  ·simp[c7]
  by_cases c8:c=8
  ·simp[c8]
  by_cases c35:c=35
  ·simp[c35]
  by_cases c30:c=30
  ·simp[c30]
  by_cases c31:c=31
  ·simp[c31]
  by_cases c33:c=33
  ·simp[c33]
  simp[c1,c2,c3,c4,c5,c6,c7,c8,c35,c24,c25,c29,c30,c31,c33]
 ·rw[af h,bw (by simp),bz h,bz h]
theorem PV(o:bE)(n v c:Int)(hb:∀ b∈o.S,0≤b∧b≤255)(hl:o.S.length≤9223372036854775807):wJ o n v c=some (opB o n v c,()):=by
 rw[PU,Ui,aa]
 dsimp only
 by_cases h:1≤o.Code∧o.Code≤36
 ·rw[bw h,bw h,al (by exact Uj _ h)]
  simp only[Hx,aa,pR,PQ,PR,PS,PT,PH o.S hb hl,HQ,fT,vK kw2 _ (by decide)]
  unfold opB wb
  by_cases c1:o.Code=1
  ·simp[c1,a9] <;> by_cases hN:o.N=0 <;> by_cases hS:o.S=[] <;> simp[hN,hS]
  by_cases c2:o.Code=2
  ·simp[c2] <;> by_cases hN:o.N=0 <;> by_cases hS:o.S=[] <;> simp[hN]
  by_cases c3:o.Code=3
  ·simp[c3,a9] <;> by_cases hN:o.N=0 <;> by_cases hS:o.S=[] <;> simp[hN,hS]
  by_cases c4:o.Code=4
  ·simp[c4,a9] <;> by_cases hN:o.N=0 <;> by_cases hS:o.S=[] <;> simp[hN,hS]
  by_cases c5:o.Code=5
  ·simp[c5,a9] <;> by_cases hN:o.N=0 <;> by_cases hS:o.S=[] <;> simp[hN,hS]
  by_cases c6:o.Code=6
  ·simp[c6,a9] <;> by_cases hN:o.N=0 <;> by_cases hS:o.S=[] <;> simp[hN,hS]
  by_cases c7:o.Code=7
  ·simp[c7,a9] <;> by_cases hN:o.N=0 <;> by_cases hS:o.S=[] <;> simp[hN,hS]
  by_cases c8:o.Code=8
  ·simp[c8,a9] <;> by_cases hN:o.N=0 <;> by_cases hS:o.S=[] <;> simp[hN,hS]
  by_cases c35:o.Code=35
  ·simp[c35,a9] <;> by_cases hN:o.N=0 <;> by_cases hS:o.S=[] <;> simp[hN,hS]
  by_cases c24:o.Code=24
  ·simp[c24] <;> by_cases hN:o.N=0 <;> by_cases hS:o.S=[] <;> simp[hN,hS]
  by_cases c25:o.Code=25
  ·simp[c25] <;> by_cases hN:o.N=0 <;> by_cases hS:o.S=[] <;> simp[hN,hS]
  by_cases c29:o.Code=29
  ·simp[c29,a9] <;> by_cases hN:o.N=0 <;> by_cases hS:o.S=[] <;> simp[hN,hS]
  by_cases c30:o.Code=30
  ·simp[c30,a9] <;> by_cases hN:o.N=0 <;> by_cases hS:o.S=[] <;> simp[hN,hS]
  by_cases c31:o.Code=31
  ·simp[c31,a9] <;> by_cases hN:o.N=0 <;> by_cases hS:o.S=[] <;> simp[hN,hS]
  by_cases c33:o.Code=33
  ·simp[c33,a9] <;> by_cases hN:o.N=0 <;> by_cases hS:o.S=[] <;> simp[hN,hS]
  simp[c1,c2,c3,c4,c5,c6,c7,c8,c35,c24,c25,c29,c30,c31,c33,h]
  by_cases hN:o.N=0 <;> by_cases hS:o.S=[] <;> simp[hN,hS]
 ·rw[bz h,bz h,bw (by simp)]
  unfold opB
  rw[aq,aq,aq,aq,aq,aq,aq,aq,af h]
  rfl
noncomputable def kJ(s:List Int):Int×Bool:=match mz s with
 | some (v,ok,_)=>(v,ok)
 | none=>(0,false)
theorem IB(s:List Int)(hs:s.length≤1000000)(hb:Bt s):mz s=some ((kJ s).1,(kJ s).2,())∧rM s=some ((kJ s).1,(kJ s).2,()):=by
 obtain⟨v,ok,e1,e2,_⟩:=NV s hs hb
 have:kJ s=(v,ok):=by unfold kJ;rw[e1]
 rw[this];exact⟨e1,e2⟩
noncomputable def dL(v:bL):Bool:=(decide (-9000000000000≤v.N∧v.N≤9000000000000) && !decide ((v.S.length:Int)>300)) &&
 (if v.Kind=0 then decide (v.N=0)&&decide (v.S=[])else if v.Kind=1 then decide (v.S=[])else if v.Kind=2 then decide (v.N=0)else if v.Kind=3 then(kJ v.S).2&&decide ((kJ v.S).1=v.N)else false)
theorem HP(v:bL)(hb:Bt v.S):rU v=some (dL v,()):=by
 rw[Pv,Hx,aa]
 dsimp only
 unfold dL
 cases decide (-9000000000000≤v.N∧v.N≤9000000000000) with
 | false=>rfl
 | true =>
  by_cases h:(v.S.length:Int)>300
  ·rw[ac h];rfl
  ·rw[af h,(IB v.S (by omega) hb).2,aa]
   dsimp only
   simp only[pR]
   by_cases c0:v.Kind=0
   ·simp[c0]
   by_cases c1:v.Kind=1
   ·simp[c1]
   by_cases c2:v.Kind=2
   ·simp[c2]
   by_cases c3:v.Kind=3
   ·simp[c3]
   simp[c0,c1,c2,c3]
theorem Km(v:bL)(hb:Bt v.S):tw v=some (dL v,()):=by
 rw[Ww,JW,eJ,aa,aa]
 dsimp only
 unfold dL
 by_cases hk:0≤v.Kind∧v.Kind≤3
 ·rw[ac hk]
  cases decide (-9000000000000≤v.N∧v.N≤9000000000000) with
  | false=>rfl
  | true =>
   by_cases h:(v.S.length:Int)>300
   ·rw[ac h];rfl
   ·rw[af h,(IB v.S (by omega) hb).1,aa]
    dsimp only
    simp only[pR]
    by_cases c0:v.Kind=0
    ·simp[c0]
    by_cases c1:v.Kind=1
    ·simp[c1]
    by_cases c2:v.Kind=2
    ·simp[c2]
    have c3:v.Kind=3:=by omega
    simp[c3]
 ·rw[af hk,bw (c:=(!false)=true) rfl,bz (c:=v.Kind=0) (by omega),bz (c:=v.Kind=1) (by omega),bz (c:=v.Kind=2) (by omega),bz (c:=v.Kind=3) (by omega),Bool.and_false]
def kp(a b:bA):Bool:=decide (a.Name<b.Name)||(decide (a.Name=b.Name)&&ltS a.Key b.Key)
theorem Kt(a:bA)(n:Int)(k:List Int):tG a n k=some (decide (a.Name<n)||(decide (a.Name=n)&&ltS a.Key k),()):=by
 rw[WM]
 cases decide (a.Name<n) <;> cases decide (a.Name=n) <;> rfl
theorem YN(a b:List Int):E8 a b=some (eh a b,()):=by
 rw[Zz,Zi,Zk];rfl
theorem Nu(a b:List Int):decide (eh a b≥0) = !ltS a b:=by
 unfold eh
 cases ltS a b with
 | true=>rfl
 | false=>cases ltS b a <;> rfl
theorem Pz(a b:bA):∃ k,wC a b=some (k,())∧decide (k≥0) = !kp a b:=by
 rw[Py,YN,aa]
 unfold kp
 by_cases h:a.Name<b.Name
 ·rw[am h,ac h];exact⟨_,rfl,rfl⟩
 ·rw[al h,af h]
  by_cases g:a.Name>b.Name
  ·rw[am g,af (by omega)];exact⟨_,rfl,rfl⟩
  ·rw[al g,ac (by omega)]
   refine⟨_,rfl,?_⟩
   rw[Nu];rfl
noncomputable def iQ(l:List bA)(c:Int)(i:Nat):Bool :=
 decide ((l.getD i cy).Name<0)||(decide ((l.getD i cy).Name≥c)||(decide (((l.getD i cy).Key.length:Int)>300)||(!dL (l.getD i cy).Val||(decide ((i:Int)>0) && !kp (l.getD (i-1) cy) (l.getD i cy)))))
noncomputable def hJ(s:bJ)(v c:Int):Bool :=
 decide ((s.Vars.length:Int)=v)&&(!s.Vars.any (fun x=>!dL x)&&(decide ((s.Cells.length:Int)≤40)&&(decide (0≤s.Nr∧s.Nr≤1000000)&&(decide (0≤s.Err∧s.Err≤7) && !eo (iQ s.Cells c) s.Cells.length))))
def m8(s:bJ):Prop:=(s.Vars.length≤2097152∧∀ v∈s.Vars,Bt v.S)∧s.Cells.length≤2097152∧∀ c∈s.Cells,Bt c.Val.S
theorem MD(l:List bL)(hl:l.length≤4294967296)(hb:∀ v∈l,Bt v.S):E4 l=some (l.any (fun x=>!dL x),()):=by
 rw[Zp,Zu]
 obtain⟨k,e,e1,_⟩:=nC (fun i=>oF l (l.length:Int) i) () l.length (fun i=>!dL (l.getD i cA)) (fun i hi=>by
  show oF l _ i=_
  rw[LZ,au,ap,cF hi (by omega),ag,Pr,HP _ (by rw[dj hi];exact hb _ (aZ hi)),aa,aa]) (by
  show oF l _ _=_
  rw[LZ,bz (by simp)])
 rw[e,aa]
 dsimp only
 rw[e1,gp l cA (fun x=>!dL x)]
theorem PA(s:bJ)(c:Int)(hl:s.Cells.length≤4294967296)(hb:∀ x∈s.Cells,Bt x.Val.S):kF c s.Cells (s.Cells.length:Int) 0 s=some (!eo (iQ s.Cells c) s.Cells.length,()):=by
 have:=im (fun i=>kF c s.Cells (s.Cells.length:Int) i s) s.Cells.length (iQ s.Cells c) (some (false,())) (some (true,())) (fun i hi=>by
  show kF c s.Cells _ i s=_
  obtain⟨k,e,e1⟩:=Pz (s.Cells.getD (i-1) cy) (s.Cells.getD i cy)
  rw[HO,au,ap,cF hi (by omega),ag,HP _ (by rw[dj hi];exact hb _ (aZ hi)),aa]
  dsimp only
  unfold iQ
  by_cases h0:(i:Int)>0
  ·have w1:w64 ((i:Int)-1)=((i-1:Nat):Int):=by rw[aw];omega
   rw[ac h0,w1,ag,bw (c:=(true=true)) rfl,bw (c:=0≤((i-1:Nat):Int)∧((i-1:Nat):Int)<(s.Cells.length:Int)) (by omega),e,aa]
   dsimp only
   rw[e1]
   cases decide ((s.Cells.getD i cy).Name<0) <;> cases decide ((s.Cells.getD i cy).Name≥c) <;> cases decide (((s.Cells.getD i cy).Key.length:Int)>300) <;> cases dL (s.Cells.getD i cy).Val <;> rfl
  ·rw[af h0,bz (c:=(false=true)) (by simp)]
   cases decide ((s.Cells.getD i cy).Name<0) <;> cases decide ((s.Cells.getD i cy).Name≥c) <;> cases decide (((s.Cells.getD i cy).Key.length:Int)>300) <;> cases dL (s.Cells.getD i cy).Val <;> rfl) (by
  show kF c s.Cells _ _ s=_
  rw[HO,bz (by simp)])
 rw[this]
 cases eo (iQ s.Cells c) s.Cells.length <;> rfl
theorem Pu(s:bJ)(v c:Int)(h:m8 s):wA s v c=some (hJ s v c,()):=by
 rw[Ps,MD s.Vars (by have:=h.1.1;omega) h.1.2,fT,fT,PA s c (by have:=h.2.1;omega) h.2.2]
 simp only[aa]
 have e:decide ((s.Cells.length:Int)>40) = !decide ((s.Cells.length:Int)≤40):=by
  by_cases g:(s.Cells.length:Int)≤40
  ·rw[ac g,af (by omega)];rfl
  ·rw[af g,ac (by omega)];rfl
 unfold hJ
 rw[e]
 cases decide ((s.Vars.length:Int)=v) <;> cases s.Vars.any (fun x=>!dL x) <;> cases decide ((s.Cells.length:Int)≤40) <;> cases decide (0≤s.Nr∧s.Nr≤1000000) <;> cases decide (0≤s.Err∧s.Err≤7) <;> rfl
theorem Wp(s:bJ)(v c:Int)(h:m8 s):yR s v c=some (hJ s v c,()):=by
 have h1:=h.1.1
 have h2:=h.2.1
 rw[Wo]
 have f2:=im (fun i=>kX v c i s) s.Cells.length (iQ s.Cells c) (some (false,())) (some (decide ((s.Vars.length:Int)=v)&&(decide ((s.Cells.length:Int)≤40)&&(decide (0≤s.Nr∧s.Nr≤1000000)&&decide (0≤s.Err∧s.Err≤7))),())) (fun i hi=>by
  show kX v c i s=_
  rw[Kl,au,ap,cF hi (by omega),ag,Km _ (by rw[dj hi];exact h.2.2 _ (aZ hi)),aa]
  dsimp only
  unfold iQ
  by_cases h0:(i:Int)>0
  ·have w1:w64 ((i:Int)-1)=((i-1:Nat):Int):=by rw[aw];omega
   rw[ac h0,w1,ag,bw (c:=(true=true)) rfl,bw (c:=0≤((i-1:Nat):Int)∧((i-1:Nat):Int)<(s.Cells.length:Int)) (by omega),Kt,aa]
   dsimp only
   unfold kp
   cases decide ((s.Cells.getD i cy).Name<0) <;> cases decide ((s.Cells.getD i cy).Name≥c) <;> cases decide (((s.Cells.getD i cy).Key.length:Int)>300) <;> cases dL (s.Cells.getD i cy).Val <;> rfl
  ·rw[af h0,bz (c:=(false=true)) (by simp)]
   cases decide ((s.Cells.getD i cy).Name<0) <;> cases decide ((s.Cells.getD i cy).Name≥c) <;> cases decide (((s.Cells.getD i cy).Key.length:Int)>300) <;> cases dL (s.Cells.getD i cy).Val <;> rfl) (by
  show kX v c _ s=_
  rw[Kl,bz (by simp),eJ,eJ,aa,aa]
  dsimp only
  cases decide ((s.Vars.length:Int)=v) <;> cases decide ((s.Cells.length:Int)≤40) <;> cases decide (0≤s.Nr∧s.Nr≤1000000) <;> rfl)
 have f1:=im (fun i=>oc v c i s) s.Vars.length (fun i=>!dL (s.Vars.getD i cA)) (some (false,())) (kX v c 0 s) (fun i hi=>by
  show oc v c i s=_
  rw[Kk,au,ap,cF hi (by omega),ag,Km _ (by rw[dj hi];exact h.1.2 _ (aZ hi)),aa]) (by
  show oc v c _ s=_
  rw[Kk,bz (by simp)])
 rw[f1,f2,gp s.Vars cA (fun x=>!dL x)]
 unfold hJ
 cases decide ((s.Vars.length:Int)=v) <;> cases s.Vars.any (fun x=>!dL x) <;> cases decide ((s.Cells.length:Int)≤40) <;> cases decide (0≤s.Nr∧s.Nr≤1000000) <;> cases decide (0≤s.Err∧s.Err≤7) <;> cases eo (iQ s.Cells c) s.Cells.length <;> rfl
def m0(l:List bE):Prop:=l.length≤2097152∧∀ o∈l,(∀ b∈o.S,0≤b∧b≤255)∧o.S.length≤2097152
def gi(p:bG):Prop:=(p.Vars.length≤2097152∧∀ s∈p.Vars,s.length≤2097152)∧(p.Cells.length≤2097152∧∀ s∈p.Cells,s.length≤2097152)∧m0 p.Start∧m0 p.Main
noncomputable def iX(l:List bE)(v c:Int):Bool :=
 decide (1≤(l.length:Int)∧(l.length:Int)≤1500)&&(decide ((l.getD (l.length-1) de).Code=36) && !l.any (fun o=>!opB o l.length v c))
theorem Kf(l:List bE)(v c:Int)(h:m0 l):mA l v c=some (iX l v c,()):=by
 have h1:=h.1
 rw[Wd,eJ,aa]
 dsimp only
 unfold iX
 by_cases g:1≤(l.length:Int)∧(l.length:Int)≤1500
 ·have w1:w64 ((l.length:Int)-1)=((l.length-1:Nat):Int):=by rw[aw];omega
  have f:=im (fun i=>jT l v c (l.length:Int) i) l.length (fun i=>!opB (l.getD i de) l.length v c) (some (false,())) (some (true,())) (fun i hi=>by
   show jT l v c _ i=_
   rw[Ke,au,ap,cF hi (by omega),ag,Xc _ _ _ _ (by rw[dj hi];exact(h.2 _ (aZ hi)).1) (by rw[dj hi];have:=(h.2 _ (aZ hi)).2;omega),aa]) (by
   show jT l v c _ _=_
   rw[Ke,bz (by simp)])
  rw[ac g,bz (by simp),w1,ap,ag,f,gp l de (fun o=>!opB o l.length v c)]
  cases decide ((l.getD (l.length-1) de).Code=36) <;> cases l.any (fun o=>!opB o l.length v c) <;> rfl
 ·rw[af g];rfl
theorem MC(l:List bE)(v c:Int)(h:m0 l):E3 l l v c=some (l.any (fun o=>!opB o l.length v c),l,v,c,()):=by
 have h1:=h.1
 rw[Zo,Zt]
 obtain⟨k,e,e1,_⟩:=nC (fun i=>oE l (l.length:Int) i l v c) (l,v,c,()) l.length (fun i=>!opB (l.getD i de) l.length v c) (fun i hi=>by
  show oE l _ i l v c=_
  rw[LX,au,ap,cF hi (by omega),ag,Pg,PV _ _ _ _ (by rw[dj hi];exact(h.2 _ (aZ hi)).1) (by rw[dj hi];have:=(h.2 _ (aZ hi)).2;omega),aa,aa]) (by
  show oE l _ _ l v c=_
  rw[LX,bz (by simp)])
 rw[e,aa]
 dsimp only
 rw[e1,gp l de (fun o=>!opB o l.length v c)]
theorem HK(l:List bE)(v c:Int)(h:m0 l):rR l v c=some (iX l v c,()):=by
 have h1:=h.1
 rw[Ph,fT,aa]
 dsimp only
 unfold iX
 by_cases g:1≤(l.length:Int)∧(l.length:Int)≤1500
 ·have w1:w64 ((l.length:Int)-1)=((l.length-1:Nat):Int):=by rw[aw];omega
  rw[ac g,bz (by simp),w1,ap,ag,MC l v c h,aa]
  cases decide ((l.getD (l.length-1) de).Code=36) <;> rfl
 ·rw[af g];rfl
def iy(l:List (List Int))(i:Nat):Bool:=!ix (l.getD i [])||(decide ((i:Int)>0) && !ltS (l.getD (i-1) []) (l.getD i []))
def kM(l:List (List Int)):Bool:=!eo (iy l) l.length&&decide ((l.length:Int)≤8)
theorem HX(l:List (List Int))(hl:l.length≤2097152)(hs:∀ s∈l,s.length≤2097152):rY l=some (kM l,()):=by
 rw[PK]
 have f:=im (fun i=>lY l l (l.length:Int) i) l.length (iy l) (some (false,())) (some (decide ((l.length:Int)≤8),())) (fun i hi=>by
  show lY l l _ i=_
  rw[HW,au,ap,cF hi (by omega),ag,PF _ (by rw[dj hi];have:=hs _ (aZ hi);omega),aa]
  dsimp only
  unfold iy
  by_cases h0:(i:Int)>0
  ·have w1:w64 ((i:Int)-1)=((i-1:Nat):Int):=by rw[aw];omega
   rw[ac h0,w1,ag,bw (c:=(true=true)) rfl,bw (c:=0≤((i-1:Nat):Int)∧((i-1:Nat):Int)<(l.length:Int)) (by omega)]
   cases ix (l.getD i []) <;> rfl
  ·rw[af h0,bz (c:=(false=true)) (by simp)]
   cases ix (l.getD i []) <;> rfl) (by
  show lY l l _ _=_
  rw[HW,bz (by simp)])
 rw[f]
 unfold kM
 cases eo (iy l) l.length <;> rfl
noncomputable def iZ(p:bG):Bool :=
 kM p.Vars&&(kM p.Cells&&(!p.Vars.any (fun s=>decide (s∈p.Cells))&&(iX p.Start p.Vars.length p.Cells.length&&iX p.Main p.Vars.length p.Cells.length)))
theorem MB(p:bG)(h:gi p):E6 p.Vars p=some (p.Vars.any (fun s=>decide (s∈p.Cells)),p,()):=by
 have h1:=h.1.1
 have h2:=h.2.1.1
 rw[Zr,Zw]
 obtain⟨k,e,e1,_⟩:=nC (fun i=>oH p.Vars (p.Vars.length:Int) i p) (p,()) p.Vars.length (fun i=>decide (p.Vars.getD i []∈p.Cells)) (fun i hi=>by
  show oH p.Vars _ i p=_
  rw[L6,au,ap,cF hi (by omega),ag,Pi,vK _ _ (by omega),aa,aa]) (by
  show oH p.Vars _ _ p=_
  rw[L6,bz (by simp)])
 rw[e,aa]
 dsimp only
 rw[e1,gp p.Vars [] (fun s=>decide (s∈p.Cells))]
theorem Pk(p:bG)(h:gi p):wx p=some (iZ p,()):=by
 rw[Pj,HX _ h.1.1 h.1.2,HX _ h.2.1.1 h.2.1.2,MB p h]
 simp only[aa]
 rw[HK _ _ _ h.2.2.1,HK _ _ _ h.2.2.2]
 unfold iZ
 cases kM p.Vars <;> cases kM p.Cells <;> cases p.Vars.any (fun s=>decide (s∈p.Cells)) <;> cases iX p.Start p.Vars.length p.Cells.length <;> rfl
theorem Wf(p:bG)(h:gi p):s_ProgOk p=some (iZ p,()):=by
 have h1:=h.1.1
 have h2:=h.2.1.1
 rw[We]
 have f2:=im (fun i=>iB i p) p.Cells.length (iy p.Cells) (some (false,())) (some (decide ((p.Vars.length:Int)≤8)&&(decide ((p.Cells.length:Int)≤8)&&(iX p.Start p.Vars.length p.Cells.length&&iX p.Main p.Vars.length p.Cells.length)),())) (fun i hi=>by
  show iB i p=_
  rw[Kh,au,ap,cF hi (by omega),ag,KW _ (by rw[dj hi];have:=h.2.1.2 _ (aZ hi);omega),aa]
  dsimp only
  unfold iy
  by_cases h0:(i:Int)>0
  ·have w1:w64 ((i:Int)-1)=((i-1:Nat):Int):=by rw[aw];omega
   rw[ac h0,w1,ag,bw (c:=(true=true)) rfl,bw (c:=0≤((i-1:Nat):Int)∧((i-1:Nat):Int)<(p.Cells.length:Int)) (by omega),bw (c:=0≤(i:Int)∧(i:Int)<(p.Cells.length:Int)) (by omega)]
   cases ix (p.Cells.getD i []) <;> rfl
  ·rw[af h0,bz (c:=(false=true)) (by simp)]
   cases ix (p.Cells.getD i []) <;> rfl) (by
  show iB _ p=_
  rw[Kh,bz (by simp),Kf _ _ _ h.2.2.1,Kf _ _ _ h.2.2.2,aa,aa]
  cases decide ((p.Vars.length:Int)≤8) <;> cases decide ((p.Cells.length:Int)≤8) <;> cases iX p.Start p.Vars.length p.Cells.length <;> rfl)
 have f1:=im (fun i=>i7 i p) p.Vars.length (fun i=>iy p.Vars i||decide (p.Vars.getD i []∈p.Cells)) (some (false,())) (iB 0 p) (fun i hi=>by
  show i7 i p=_
  rw[Kg,au,ap,cF hi (by omega),ag,KW _ (by rw[dj hi];have:=h.1.2 _ (aZ hi);omega),aa,uF _ _ (by omega),aa]
  dsimp only
  rw[bw (c:=0≤(i:Int)∧(i:Int)<(p.Vars.length:Int)) (by omega)]
  unfold iy
  by_cases h0:(i:Int)>0
  ·have w1:w64 ((i:Int)-1)=((i-1:Nat):Int):=by rw[aw];omega
   rw[ac h0,w1,ag,bw (c:=(true=true)) rfl,bw (c:=0≤((i-1:Nat):Int)∧((i-1:Nat):Int)<(p.Vars.length:Int)) (by omega),bw (c:=0≤(i:Int)∧(i:Int)<(p.Vars.length:Int)) (by omega)]
   cases ix (p.Vars.getD i []) <;> cases decide (p.Vars.getD i []∈p.Cells) <;> cases ltS (p.Vars.getD (i-1) []) (p.Vars.getD i []) <;> rfl
  ·rw[af h0,bz (c:=(false=true)) (by simp)]
   cases ix (p.Vars.getD i []) <;> cases decide (p.Vars.getD i []∈p.Cells) <;> rfl) (by
  show i7 _ p=_
  rw[Kg,bz (by simp)])
 rw[f1,f2,Mz (iy p.Vars) (fun i=>decide (p.Vars.getD i []∈p.Cells)),gp p.Vars [] (fun s=>decide (s∈p.Cells))]
 unfold iZ kM
 cases eo (iy p.Vars) p.Vars.length <;> cases eo (iy p.Cells) p.Cells.length <;> cases p.Vars.any (fun s=>decide (s∈p.Cells)) <;> cases decide ((p.Vars.length:Int)≤8) <;> cases decide ((p.Cells.length:Int)≤8) <;> rfl
noncomputable def eH(p:bG)(m:bC):Bool :=
 iZ p&&(hJ m.State p.Vars.length p.Cells.length&&(decide ((m.Done.length:Int)=3)&&(!m.Done.any (fun n=>!decide (0≤n∧n≤100000))&&decide ((m.Out.length:Int)≤1500))))
theorem MA(l:List Int)(hl:l.length≤2097152):E5 l=some (l.any (fun n=>!decide (0≤n∧n≤100000)),()):=by
 rw[Zq,Zv]
 obtain⟨k,e,e1,_⟩:=nC (fun i=>oG l (l.length:Int) i) () l.length (fun i=>!decide (0≤l.getD i 0∧l.getD i 0≤100000)) (fun i hi=>by
  show oG l _ i=_
  rw[L4,au,ap,cF hi (by omega),ag,Pe,fT,aa,aa]) (by
  show oG l _ _=_
  rw[L4,bz (by simp)])
 rw[e,aa]
 dsimp only
 rw[e1,gp l 0 (fun n=>!decide (0≤n∧n≤100000))]
theorem kE(p:bG)(m:bC)(hp:gi p)(hs:m8 m.State)(hd:m.Done.length≤2097152):lX p m=some (eH p m,()):=by
 rw[Pf,Pk p hp,Pu _ _ _ hs,MA _ hd]
 simp only[aa]
 unfold eH
 cases iZ p <;> cases hJ m.State p.Vars.length p.Cells.length <;> cases decide ((m.Done.length:Int)=3) <;> cases m.Done.any (fun n=>!decide (0≤n∧n≤100000)) <;> rfl
theorem yI(p:bG)(m:bC)(hp:gi p)(hs:m8 m.State)(hd:m.Done.length≤2097152):tl p m=some (eH p m,()):=by
 rw[V8]
 have f:=im (fun i=>nY i p m) m.Done.length (fun i=>!decide (0≤m.Done.getD i 0∧m.Done.getD i 0≤100000)) (some (false,())) (some (iZ p&&(hJ m.State p.Vars.length p.Cells.length&&(decide ((m.Done.length:Int)=3)&&decide ((m.Out.length:Int)≤1500))),())) (fun i hi=>by
  show nY i p m=_
  rw[J6,au,ap,cF hi (by omega),ag,eJ,aa]) (by
  show nY _ p m=_
  rw[J6,bz (by simp),Wf p hp,Wp _ _ _ hs,aa,aa]
  cases iZ p <;> cases hJ m.State p.Vars.length p.Cells.length <;> cases decide ((m.Done.length:Int)=3) <;> rfl)
 rw[f,gp m.Done 0 (fun n=>!decide (0≤n∧n≤100000))]
 unfold eH
 cases iZ p <;> cases hJ m.State p.Vars.length p.Cells.length <;> cases decide ((m.Done.length:Int)=3) <;> cases m.Done.any (fun n=>!decide (0≤n∧n≤100000)) <;> rfl
def Dc(n:Int):Prop:=-9000000000000≤n∧n≤9000000000000
def VG(v:bL):Prop:=dL v=true∧Bt v.S
theorem VG.bd{v:bL}(h:VG v):Dc v.N∧v.S.length≤300:=by
 have h1:=h.1
 unfold dL at h1
 rw[aD,aD,ab,Bool.not_eq_true',decide_eq_false_iff_not]at h1
 exact⟨h1.1.1,by have:=h1.1.2;omega⟩
theorem VG.drawn{v:bL}(h:VG v):Ms v:=⟨by have:=h.bd.2;omega,h.2⟩
theorem vM(n:Nat):Bt (ff n):=fun x hx=>by have:=(GN n).1 x hx;omega
theorem YZ(c:Int)(l:List Int):∀ x∈fK c l,x∈l:=fun x hx=>by
 unfold fK at hx
 rw[List.mem_reverse]at hx
 have:=(List.dropWhile_sublist _).subset hx
 rwa [List.mem_reverse]at this
theorem NX(n:Int):Bt (lK n):=by
 intro x hx
 unfold lK at hx
 split at hx
 ·rcases aE.1 hx with hx | hx
  ·split at hx
   ·rw[aN.1 hx];omega
   ·cases hx
  ·unfold o8 at hx
   rcases aE.1 hx with hx | hx
   ·exact vM _ x hx
   ·unfold pl at hx
    split at hx
    ·rcases aO.1 hx with rfl | hx
     ·omega
     ·exact vM _ x (List.mem_of_mem_drop (YZ _ _ x hx))
    ·cases hx
 ·cases hx
def atP(n:Int)(k:List Int)(c:bA):Bool:=decide (c.Name=n)&&decide (c.Key=k)
theorem atP_iff{n:Int}{k:List Int}{c:bA}:atP n k c=true↔c.Name=n∧c.Key=k:=by
 unfold atP;rw[aD,ab,ab]
def atV(l:List bA)(n:Int)(k:List Int):Int:=if l.any (atP n k)=true then(l.findIdx (atP n k):Int)else -1
theorem Or{α:Type}{l:List α}{p:α→Bool}{z:α}{k:Int}(h0:0≤k)(hl:k<(l.length:Int))(h1:p (l.getD k.toNat z)=true)(h2:∀ j:Nat,(j:Int)<k→p (l.getD j z)=false):(l.findIdx p:Int)=k:=by
 have hk:k.toNat<l.length:=by omega
 have h3:l.findIdx p=k.toNat:=by
  rw[List.findIdx_eq hk]
  refine⟨by rw[← dj hk z];exact h1,fun j hj=>?_⟩
  rw[← dj (by omega) z]
  exact h2 j (by omega)
 rw[h3];omega
theorem Wx(s:bJ)(n:Int)(k:List Int)(hl:s.Cells.length≤100000):od s n k=some (atV s.Cells n k,()):=by
 obtain⟨v,e1,e2,e3,e4,e5⟩:=nC (fun i=>jU n k i s) () s.Cells.length (fun i=>atP n k (s.Cells.getD i cy))
  (fun i hi=>by
   show jU n k _ s=_
   rw[tA,au,ap,cX hi,dj hi,cF hi (by omega)]
   unfold atP
   by_cases c:s.Cells[i].Name=n
   ·rw[ac c,bw rfl,ap,Bool.true_and]
   ·rw[af c,bz (by decide),Bool.false_and,bz (by decide)])
  (by show jU n k _ s=_;rw[tA,bz (by simp)])
 have e1':jU n k 0 s=some (v,()):=e1
 rw[Ko,e1']
 congr 2
 unfold atV
 rw[gp s.Cells cy (atP n k)]at e2
 by_cases c:0≤v
 ·rw[← e2,am c]
  exact(Or c e3 (e4 c).1 (e4 c).2).symm
 ·rw[← e2,al c]
  exact e5 (by omega)
theorem MM(l:List bA)(n:Int)(k:List Int):(atV l n k = -1∧∀ c∈l,¬ (c.Name=n∧c.Key=k))∨(0≤atV l n k∧atV l n k<(l.length:Int)):=by
 unfold atV
 by_cases c:l.any (atP n k)=true
 ·rw[bw c]
  have:=List.findIdx_lt_length_of_exists (xs:=l) (p:=atP n k) (by obtain⟨x,hx,e⟩:=List.any_eq_true.1 c;exact⟨x,hx,e⟩)
  exact .inr (by omega)
 ·rw[bz c]
  refine .inl ⟨rfl,fun x hx h=>c (List.any_eq_true.2 ⟨x,hx,atP_iff.2 h⟩)⟩
def nQ(l:List bA)(c:bA):Nat:=l.findIdx fun x=>!kp x c
def qe(l:List bA)(n:Int)(k:List Int)(v:bL):Option (List bA) :=
 if 0≤atV l n k then some (l.set (atV l n k).toNat ⟨(l.getD (atV l n k).toNat cy).Name,(l.getD (atV l n k).toNat cy).Key,v⟩)
 else if 40≤l.length then none else some (me l (nQ l ⟨n,k,v⟩) [⟨n,k,v⟩])
theorem GF{s:bJ}(hv:s.Vars.length≤100000)(hc:s.Cells.length≤100000):jV s=some (s,()):=by
 rw[WG,bw (by rw[ce];omega),bw (by rw[ce];omega)];rfl
theorem U5(s:bJ)(n:Int)(k:List Int)(v:bL)(hv:s.Vars.length≤100000)(hl:s.Cells.length≤100000) :
  qm s n k v=some (match qe s.Cells n k v with | some C=>(⟨s.Vars,C,s.Nr,s.Err⟩,true,()) | none=>(s,false,())):=by
 rw[VC,GF hv hl,Wx s n k hl,aa,aa]
 dsimp only
 unfold qe
 rcases MM s.Cells n k with ⟨h,hno⟩ | h
 ·rw[av,bz (c:=0≤atV s.Cells n k) (by omega)]
  by_cases c:40≤s.Cells.length
  ·rw[au,bw c]
  ·rw[av,bz c]
   have fin:∀ i:Nat,i≤s.Cells.length→(List.append (List.append (List.append [] (List.take ((i:Int).toNat-0) (List.drop 0 s.Cells))) [(bA.mk n k v)]) (List.take ((List.length s.Cells)-(i:Int).toNat) (List.drop (i:Int).toNat s.Cells)))=me s.Cells i [⟨n,k,v⟩]:=fun i hi=>by
    unfold me
    simp only[ag,Nat.sub_zero,aQ]
    rw[bg (i:=s.Cells.length-i) (by rw[aV];omega)]
    show([]++s.Cells.take i)++[(⟨n,k,v⟩:bA)]++s.Cells.drop i=_
    simp
   have key:∀ (d i:Nat),i+d=s.Cells.length→(∀ j,j<i→kp (s.Cells.getD j cy) ⟨n,k,v⟩=true)→sW n k (i:Int) s v cG s=some (⟨s.Vars,me s.Cells (nQ s.Cells ⟨n,k,v⟩) [⟨n,k,v⟩],s.Nr,s.Err⟩,true,()):=by
    intro d
    induction d with
    | zero =>
     intro i hi hj
     have hp:nQ s.Cells ⟨n,k,v⟩=i:=by
      rw[show i=s.Cells.length by omega]
      unfold nQ
      rw[List.findIdx_eq_length]
      intro x hx
      obtain⟨j,hj',rfl⟩:=bq.1 hx
      have:=hj j (by omega)
      rw[dj hj']at this
      rw[this];rfl
     rw[JM,av,ap,bw (by rw[ce];simp;omega),bw (by rw[ce];simp;omega),ap,bw (by rw[ce];simp;omega),fin i (by omega),hp]
    | succ d ih =>
     intro i hi hj
     have hi':i<s.Cells.length:=by omega
     rw[JM,au,ap,cX hi',Kt,aa]
     dsimp only
     rw[show(decide (s.Cells[i].Name<n)||(decide (s.Cells[i].Name=n)&&ltS s.Cells[i].Key k))=kp s.Cells[i] ⟨n,k,v⟩from rfl]
     cases c3:kp s.Cells[i] ⟨n,k,v⟩ with
     | true =>
      rw[bw rfl,cF hi' (by omega)]
      refine ih (i+1) (by omega) fun j hji=>?_
      by_cases e:j=i
      ·subst e;rw[dj hi'];exact c3
      ·exact hj j (by omega)
     | false =>
      have hp:nQ s.Cells ⟨n,k,v⟩=i:=by
       unfold nQ
       rw[List.findIdx_eq hi']
       refine⟨by rw[c3];rfl,fun j hji=>?_⟩
       have:=hj j hji
       rw[dj (by omega)]at this
       rw[this];rfl
      rw[bz (by decide),ap,bw (by rw[ce];simp;omega),bw (by rw[ce];simp;omega),ap,bw (by rw[ce];simp;omega),fin i (by omega),hp]
   exact key s.Cells.length 0 (by omega) fun j hj=>absurd hj (by omega)
 ·rw[au,bw h,bw h.1]
mutual
def IQ:bH→Nat
 | ⟨_,_,_,_,ks⟩=>1+IR ks
def IR:List bH→Nat
 | []=>0
 | k::ks=>IQ k+IR ks
end
def fW(f:List Bool)(j n:Nat):List Int:=((List.range' j n).filter fun i=>f.getD i false).map Int.ofNat
theorem marks_mem{f:List Bool}{j n:Nat}{x:Int}:x∈fW f j n ↔ ∃ i:Nat,x=i∧j≤i∧i<j+n∧f.getD i false=true:=by
 unfold fW
 rw[List.mem_map]
 constructor
 ·rintro ⟨i,hi,rfl⟩
  rw[List.mem_filter,List.mem_range'_1]at hi
  exact⟨i,rfl,hi.1.1,hi.1.2,hi.2⟩
 ·rintro ⟨i,rfl,h1,h2,h3⟩
  exact⟨i,List.mem_filter.2 ⟨List.mem_range'_1.2 ⟨h1,h2⟩,h3⟩,rfl⟩
theorem TZ(f:List Bool)(j n:Nat):(fW f j n).length≤n:=by
 unfold fW
 rw[bn]
 exact Nat.le_trans (List.length_filter_le ..) (by rw[List.length_range'];exact aK _)
theorem T0(f:List Bool)(j n m:Nat):fW f j (n+m)=fW f j n++fW f (j+n) m:=by
 unfold fW
 rw[← List.range'_append_1,List.filter_append,List.map_append]
theorem Id(t:List Int):∀ l:List Int,0≤dZ l t↔t <:+: l
 | []=>by
  unfold dZ
  cases t with
  | nil=>simp
  | cons a t=>simp
 | b::l=>by
  have ih:=Id t l
  have hb:=sf l t
  unfold dZ
  rw[List.infix_cons_iff]
  by_cases c:t.isPrefixOf (b::l)=true
  ·rw[bw c];exact⟨fun _=>.inl (List.isPrefixOf_iff_prefix.1 c),fun _=>Int.le_refl _⟩
  ·rw[bz c]
   have c':¬ t <+: b::l:=fun h=>c (List.isPrefixOf_iff_prefix.2 h)
   by_cases d:dZ l t = -1
   ·rw[bw d]
    exact⟨fun h=>by omega,fun h=>by rcases h with h | h;exact absurd h c';exact absurd (ih.2 h) (by omega)⟩
   ·rw[bz d]
    exact⟨fun h=>.inr (ih.1 (by omega)),fun h=>by rcases h with h | h;exact absurd h c';have:=ih.2 h;omega⟩
theorem P9{l t:List Int}(h:l.length<t.length):dZ l t = -1:=by
 have hb:=sf l t
 have:=(Id t l).1
 by_cases c:0≤dZ l t
 ·have:=(this c).length_le;omega
 ·omega
theorem WD(s t:List Int)(hs:s.length≤300)(ht:t.length≤300):∀ (d i:Nat),i+d=s.length→tK s t (i:Int)=some (if dZ (s.drop i) t = -1 then 0 else(i:Int)+dZ (s.drop i) t+1,()):=by
 intro d
 induction d with
 | zero =>
  intro i hi
  have hw:w64 ((i:Int)+(t.length:Int))=((i+t.length:Nat):Int):=by rw[aw];omega
  have hd:s.drop i=[]:=a7 (by omega)
  rw[Kv,hw,hd]
  cases t with
  | nil =>
   rw[am (by simp;omega),bw (by simp;omega)]
   rw[bw (by simp[hd]),aw]
   simp[dZ]
  | cons c t =>
   rw[bz (by rw[ab,aW];omega)]
   simp[dZ]
 | succ d ih =>
  intro i hi
  have hi':i<s.length:=by omega
  have hw:w64 ((i:Int)+(t.length:Int))=((i+t.length:Nat):Int):=by rw[aw];omega
  rw[Kv,hw]
  by_cases c:i+t.length≤s.length
  ·have hpre:(t.isPrefixOf (s.drop i)=true)↔(s.drop i).take t.length=t:=by
    rw[List.isPrefixOf_iff_prefix,List.prefix_iff_eq_take];exact eq_comm
   have hcons:=aj hi'
   rw[au,ap,ag,ag,show i+t.length-i=t.length by omega,cF hi' (by omega)]
   by_cases c2:(s.drop i).take t.length=t
   ·have e:dZ (s.drop i) t=0:=by rw[hcons]at hpre c2 ⊢;unfold dZ;rw[bw (hpre.2 c2)]
    rw[am c2,e,bz (by decide)]
    congr 2
   ·have hn:¬ t.isPrefixOf (s.drop i)=true:=fun h=>c2 (hpre.1 h)
    have e:dZ (s.drop i) t=if dZ (s.drop (i+1)) t = -1 then -1 else dZ (s.drop (i+1)) t+1:=by rw[hcons]at hn ⊢;exact(by rw[dZ,bz hn])
    have hb:=sf (s.drop (i+1)) t
    rw[al c2,ih (i+1) (by omega),e]
    by_cases c3:dZ (s.drop (i+1)) t = -1
    ·rw[bw c3,bw c3,bw rfl]
    ·rw[bz c3,bz c3,aq]
     congr 2;omega
  ·rw[av,bw (P9 (by rw[aV];omega))]
theorem WE(s t:List Int)(hs:s.length≤300)(ht:t.length≤300):zk s t=some (dZ s t+1,()):=by
 rw[WV]
 have:=WD s t hs ht s.length 0 (by omega)
 rw[aQ]at this
 rw[show(0:Int)=((0:Nat):Int)from rfl,this]
 have hb:=sf s t
 congr 2
 split <;> omega
def Tot{α:Type}(x:Option α)(P:α→Prop):Prop:=∃ y,x=some y∧P y
theorem tb{α β:Type}{x:Option α}{P:α→Prop}{f:α→Option β}{Q:β→Prop}(h:Tot x P)(k:∀ y,P y→Tot (f y) Q):Tot (x.bind f) Q:=by
 obtain⟨y,rfl,hy⟩:=h;exact k y hy
theorem ts{α:Type}{y:α}{Q:α→Prop}(h:Q y):Tot (some y) Q:=⟨y,rfl,h⟩
theorem ti{α:Type}{c:Prop}[Decidable c]{a b:Option α}{Q:α→Prop}(h:c→Tot a Q)(k:¬ c→Tot b Q):Tot (if c then a else b) Q:=by
 by_cases hc:c
 ·rw[bw hc];exact h hc
 ·rw[bz hc];exact k hc
theorem tc{α:Type}{c:Prop}[Decidable c]{a b:Option α}{Q:α→Prop}(hc:c)(h:Tot a Q):Tot (if c then a else b) Q:=by rw[bw hc];exact h
theorem tn{α:Type}{c:Prop}[Decidable c]{a b:Option α}{Q:α→Prop}(hc:¬ c)(h:Tot b Q):Tot (if c then a else b) Q:=by rw[bz hc];exact h
theorem te{α:Type}{x:Option α}{y:α}{P:α→Prop}(h:x=some y)(hp:P y):Tot x P:=⟨y,h,hp⟩
def TW(t:List Int):Prop:=t.length≤300∧Bt t
def VW(v:bL):Prop:=TW v.S
theorem qL:TW []:=⟨by simp,fun x hx=>by cases hx⟩
theorem lt(k n:Int):VW ⟨k,n,[]⟩:=qL
theorem EX:VW cA:=qL
theorem Y2{v:bL}(h:VW v):TW (uy v):=by
 unfold uy
 split
 ·have:=NY v.N;exact⟨by omega,NX _⟩
 ·exact h
theorem fx{v:bL}(h:VW v):Tot (eV v) (fun y=>TW y.1):=te (Wt v) (Y2 h)
theorem dD{l:List bL}(h:∀ v∈l,VW v)(n:Nat):VW (l.getD n cA):=by
 by_cases c:n<l.length
 ·rw[dj c];exact h _ (aZ c)
 ·rw[List.getD_eq_getElem?_getD,List.getElem?_eq_none (by omega)];exact EX
theorem nu(p:Int)(b:Bool)(n m:Int)(N:Int)(h0:0≤p)(h1:p≤N):Tot (eT p b n m) (fun y=>0≤y.2.1∧y.2.1≤N):=by
 rw[JQ]
 refine ti (fun _=>ts ⟨Int.le_refl _,?_⟩) (fun _=>ti (fun _=>ts ⟨Int.le_refl _,?_⟩) (fun _=>ti (fun _=>ts ⟨h0,h1⟩) (fun _=>ts ⟨h0,h1⟩))) <;> exact Int.le_trans h0 h1
theorem OI(s:List Int)(hs:s.length≤1000)(b:Bool):∀ (d i:Nat) (n m u:Int),i+d=s.length→Tot (i5 s (i:Int) b n m u) (fun y=>0≤y.2.1∧y.2.1≤(s.length:Int)):=by
 intro d
 induction d with
 | zero =>
  intro i n m u hd
  rw[s7,av]
  exact nu _ _ _ _ _ (by omega) (by omega)
 | succ d ih =>
  intro i n m u hd
  have hi:i<s.length:=by omega
  rw[s7,au,ap,cX hi,nJ,aa,cF hi (by omega)]
  exact ti (fun _=>tc (by omega) (ih (i+1) _ _ _ (by omega))) (fun _=>nu _ _ _ _ _ (by omega) (by omega))
theorem OH(s:List Int)(hs:s.length≤1000)(b:Bool):∀ (d i:Nat) (n m:Int),i+d=s.length→Tot (jR s (i:Int) b n m) (fun y=>0≤y.2.1∧y.2.1≤(s.length:Int)):=by
 intro d
 induction d with
 | zero =>
  intro i n m hd
  rw[sZ,av,aw (n:=(i:Int)+1),av]
  exact nu _ _ _ _ _ (by omega) (by omega)
 | succ d ih =>
  intro i n m hd
  have hi:i<s.length:=by omega
  rw[sZ,au,ap,cX hi,nJ,aa,cF hi (by omega)]
  refine ti (fun _=>ti (fun _=>tc (by omega) (ih (i+1) _ _ (by omega))) (fun _=>ih (i+1) _ _ (by omega))) (fun _=>ti (fun h=>?_) (fun _=>nu _ _ _ _ _ (by omega) (by omega)))
  rw[ab]at h
  refine tc (by omega) (ti (fun _=>tc (by omega) ?_) (fun _=>nu _ _ _ _ _ (by omega) (by omega)))
  rw[nJ,aa]
  exact ti (fun _=>OI s hs b _ (i+1) _ _ _ (show i+1+(s.length-(i+1))=s.length by omega)) (fun _=>nu _ _ _ _ _ (by omega) (by omega))
theorem rI(s:List Int)(hs:s.length≤1000)(b:Bool)(i:Nat)(hi:i≤s.length):Tot (em s (i:Int) b) (fun y=>0≤y.2.1∧y.2.1≤(s.length:Int)):=by
 rw[JP];exact OH s hs b (s.length-i) i 0 0 (by omega)
theorem OG(s:List Int)(hs:s.length≤1000):∀ (d i:Nat),i+d=s.length→Tot (kW s (i:Int)) (fun y=>0≤y.2.1∧y.2.1≤(s.length:Int)):=by
 intro d
 induction d with
 | zero =>
  intro i hd
  have e:¬ (i:Int)<(s.length:Int):=by omega
  rw[sY]
  simp only[ab,bz e]
  exact rI s hs _ i (by omega)
 | succ d ih =>
  intro i hd
  have hi:i<s.length:=by omega
  have e:(i:Int)<(s.length:Int):=by omega
  have e2:(0:Int)≤(i:Int)∧(i:Int)<(s.length:Int):=by omega
  rw[sY,cF hi (by omega)]
  simp only[ab,bw e,bw e2]
  refine ti (fun _=>ih (i+1) (by omega)) (fun _=>ti (fun _=>rI s hs _ (i+1) (by omega)) (fun _=>ti (fun _=>rI s hs _ (i+1) (by omega)) (fun _=>rI s hs _ i (by omega))))
theorem Hl(s:List Int)(hs:s.length≤1000):Tot (jQ s) (fun y=>0≤y.2.1∧y.2.1≤(s.length:Int)):=by
 rw[JR];exact OG s hs s.length 0 (by omega)
theorem fH{v:bL}(h:VW v):Tot (fm v) (fun _=>True):=by
 have key:∀ b:Bool,Tot (tu v.Kind b v) (fun _=>True):=fun b=>by
  rw[Wq]
  exact ti (fun _=>ts trivial) (fun _=>ti (fun _=>tb (Hl v.S (by have:=h.1;omega)) (fun _ _=>ts trivial)) (fun _=>ts trivial))
 rw[Wr]
 exact ti (fun _=>key _) (fun _=>key _)
theorem TO(s:List Int)(hs:s.length≤1000):Tot (mz s) (fun _=>True):=by
 have key:∀ (d i:Nat) (n:Int),i+d=s.length→Tot (qo s n (i:Int)) (fun _=>True):=by
  intro d
  induction d with
  | zero =>
   intro i n hd
   rw[s8,av];exact ts trivial
  | succ d ih =>
   intro i n hd
   have hi:i<s.length:=by omega
   rw[s8,au,ap,cF hi (by omega)]
   exact ti (fun _=>ts trivial) (fun _=>ih (i+1) n (by omega))
 rw[JT]
 refine tb (Hl s hs) (fun y hy=>ti (fun _=>ts trivial) (fun _=>?_))
 obtain⟨k,hk⟩:=Int.eq_ofNat_of_zero_le hy.1
 rw[hk]
 exact key (s.length-k) k _ (by have:=hy.2;omega)
theorem sM{s:List Int}(hs:s.length≤1000)(hb:Bt s):Tot (oa s) (fun y=>VW y.1):=by
 have key:∀ (t:List Int),TW t→Tot (tt t cA) (fun y=>VW y.1):=fun t ht=>by
  rw[Wl]
  exact tb (TO t (by have:=ht.1;omega)) (fun y _=>ti (fun _=>ts ht) (fun _=>ts ht))
 rw[Wm]
 refine ti (fun h=>?_) (fun h=>key s ?_)
 ·rw[ab]at h
  refine tc (by omega) (key _ ⟨by rw[aU];omega,fun x hx=>?_⟩)
  rw[aQ]at hx
  exact hb x (List.mem_of_mem_take hx)
 ·rw[ab]at h
  exact⟨by omega,hb⟩
theorem jS(n:Int):Tot (eU n) (fun _=>True):=te (JV n) trivial
theorem mu(n:Int):Tot (jZ n) (fun _=>True):=by
 rw[XP]
 exact tb (jS _) (fun _ _=>ti (fun _=>ts trivial) (fun _=>ts trivial))
theorem Mu(a b:Int):Tot (yp a b) (fun _=>True):=by
 rw[VH]
 exact tb (jS _) (fun _ _=>ti (fun _=>ts trivial) (fun _=>tb (jS _) (fun _ _=>ti (fun _=>ts trivial) (fun _=>tb (mu _) (fun _ _=>ts trivial)))))
theorem YO(a b:Int):Tot (yt a b) (fun _=>True):=by
 rw[VL]
 exact tb (jS _) (fun _ _=>ti (fun _=>ts trivial) (fun _=>tb (jS _) (fun _ _=>ti (fun _=>ts trivial) (fun _=>tb (mu _) (fun _ _=>ts trivial)))))
theorem FF(a:Int):Tot (ow a) (fun _=>True):=by
 rw[KG];exact ti (fun _=>ts trivial) (fun _=>ts trivial)
theorem T4(a b:Int):Tot (yr a b) (fun _=>True):=by
 rw[VK]
 refine tb (jS _) (fun _ _=>ti (fun _=>ts trivial) (fun _=>tb (jS _) (fun _ _=>ti (fun _=>ts trivial) (fun _=>tb (FF _) (fun _ _=>tb (FF _) (fun y _=>ti (fun h=>tc ?_ (ti (fun _=>ts trivial) (fun _=>?_))) (fun _=>?_)))))))
 ·rw[ab]at h;omega
 ·exact ti (fun _=>tb (mu _) (fun _ _=>ts trivial)) (fun _=>tb (mu _) (fun _ _=>ts trivial))
 ·exact ti (fun _=>tb (mu _) (fun _ _=>ts trivial)) (fun _=>tb (mu _) (fun _ _=>ts trivial))
theorem N3(a b:Int):Tot (yq a b) (fun _=>True):=by
 rw[VI]
 refine tb (jS _) (fun _ _=>ti (fun _=>ts trivial) (fun _=>tb (jS _) (fun _ _=>ti (fun _=>ts trivial) (fun _=>ti (fun _=>ts trivial) (fun h=>tc ?_ (tb (mu _) (fun _ _=>ts trivial)))))))
 rw[ab]at h;exact h
theorem ES(v:bL):Tot (qw v) (fun _=>True):=by
 have key:∀ b:Bool,Tot (tv v.Kind b v) (fun _=>True):=fun b=>by
  rw[Wu]
  exact ti (fun _=>ts trivial) (fun _=>ti (fun _=>ts trivial) (fun _=>ts trivial))
 rw[Wv]
 exact ti (fun _=>key _) (fun _=>key _)
theorem uC(b:Bool):Tot (oe b) (fun y=>VW y.1):=by
 rw[WN,Gd,aa,Kw,aa];exact ts (lt _ _)
theorem j9(n:Int):Tot (gX n) (fun y=>VW y.1):=by rw[Kw];exact ts (lt _ _)
theorem vt(b:Bool):Tot (jb b) (fun _=>True):=te (Gd b) trivial
theorem NI{a b:bL}(ha:VW a)(hb:VW b):Tot (ym a b) (fun _=>True):=by
 rw[VF]
 refine tb (fx ha) (fun _ _=>tb (fx hb) (fun _ _=>tb (fx ha) (fun _ _=>tb (fx hb) (fun _ _=>ti (fun _=>ti (fun _=>tb (fH ha) (fun _ _=>tb (fH hb) (fun _ _=>tb (fH ha) (fun _ _=>tb (fH hb) (fun _ _=>ti (fun _=>ts trivial) (fun _=>tb (vt _) (fun _ _=>ts trivial))))))) (fun _=>?_)) (fun _=>?_)))))
 ·exact ti (fun _=>ts trivial) (fun _=>tb (vt _) (fun _ _=>ts trivial))
 ·exact ti (fun _=>ts trivial) (fun _=>tb (vt _) (fun _ _=>ts trivial))
theorem Ur{op:Int}(h0:0≤op∧op<6){a b:bL}(ha:VW a)(hb:VW b):Tot (zl op a b) (fun y=>VW y.1):=by
 rw[W0]
 exact tb (NI ha hb) (fun _ _=>tc h0 (tb (uC _) (fun _ h=>ts h)))
theorem sk{v:bL}(h:VW v):Tot (oj v) (fun y=>TW y.1):=by
 rw[WX]
 refine tb (fx h) (fun y hy=>ti (fun c=>?_) (fun _=>ts hy))
 rw[ab]at c
 have:=hy.1
 omega
theorem UH{l:List bL}(h:∀ v∈l,VW v)(h2:2≤l.length):Tot (zm l) (fun y=>TW y.1):=by
 have key:∀ (t:List Int) (f u:Int),TW t→u≤t.length→Tot (tL t f u) (fun y=>TW y.1):=fun t f u ht hu=>by
  rw[W1]
  have hm:Tot (jc f 1) (fun y=>1≤y.1):=by
   rw[ua]
   exact ti (fun c=>ts (by rw[ab]at c;show 1≤f;omega)) (fun _=>ts (Int.le_refl 1))
  refine tb hm (fun y hy=>ti (fun _=>ts qL) (fun c=>?_))
  rw[ab]at c
  have hl:=ht.1
  have e:w64 (y.1-1)=y.1-1:=aw
  rw[e]
  refine tc (by omega) (ts ⟨?_,fun x hx=>ht.2 x (List.mem_of_mem_drop (List.mem_of_mem_take hx))⟩)
  rw[aU,aV];omega
 rw[W2]
 refine tc (by omega) (tb (fx (dD h _)) (fun y hy=>tc (by omega) (tb (fH (dD h _)) (fun n _=>ti (fun c=>?_) (fun _=>key _ _ _ hy (by omega))))))
 rw[ab]at c
 refine tc (by omega) (tb (fH (dD h _)) (fun m _=>tb (P:=fun z=>z.1≤(y.1.length:Int)) ?_ (fun z hz=>key _ _ _ hy hz)))
 rw[z8]
 exact ti (fun c=>ts (Int.le_refl _)) (fun c=>ts (by rw[ab]at c;show _≤_;omega))
theorem Gq(a b:Int)(t:List Int)(ht:TW t):Tot (tH t a b) (fun y=>TW y.1):=by
 have key:∀ (d i:Nat) (t:List Int),TW t→i+d=t.length→Tot (oi a b t (i:Int)) (fun y=>TW y.1):=by
  intro d
  induction d with
  | zero =>
   intro i t ht hd
   rw[Ku,av];exact ts ht
  | succ d ih =>
   intro i t ht hd
   have hi:i<t.length:=by omega
   have hl:=ht.1
   rw[Ku,au,ap,cF hi (by omega)]
   refine ti (fun _=>tc (by omega) (ti (fun _=>tc (by omega) (tc (by omega) (ih (i+1) _ ⟨by rw[a8];omega,fun x hx=>?_⟩ (by rw[a8];omega)))) (fun _=>ih (i+1) t ht (by omega)))) (fun _=>ih (i+1) t ht (by omega))
   rcases List.mem_or_eq_of_mem_set hx with hx | rfl
   ·exact ht.2 x hx
   ·exact LI _
 rw[WP]
 exact tc (by have:=ht.1;rw[ce];omega) (key t.length 0 t ht (by omega))
theorem rm{l:List bL}(h:∀ v∈l,VW v)(h2:1≤l.length)(nm:List Int)(hn:nm=[105,110,100,101,120]∨nm=[115,117,98,115,116,114]→2≤l.length)(hk:nm∈[[108,101,110,103,116,104],[105,110,116],[105,110,100,101,120],[117,112,112,101,114],[108,111,119,101,114],[115,117,98,115,116,114]]):Tot (oh nm l) (fun y=>VW y.1):=by
 rw[WO]
 refine ti (fun _=>tc (by omega) (tb (fx (dD h _)) (fun _ _=>tb (j9 _) (fun _ q=>ts q)))) (fun n1=>ti (fun _=>tc (by omega) (tb (fH (dD h _)) (fun y _=>?_))) (fun n2=>ti (fun c=>?_) (fun n3=>ti (fun _=>tc (by omega) (tb (fx (dD h _)) (fun y hy=>tb (Gq _ _ _ hy) (fun _ q=>ts q)))) (fun n4=>ti (fun _=>tc (by omega) (tb (fx (dD h _)) (fun y hy=>tb (Gq _ _ _ hy) (fun _ q=>ts q)))) (fun n5=>?_)))))
 ·rw[VJ,aa];exact tb (j9 _) (fun _ q=>ts q)
 ·rw[ab]at c
  have:=hn (.inl c)
  refine tc (by omega) (tb (fx (dD h _)) (fun y hy=>tc (by omega) (tb (fx (dD h _)) (fun z hz=>?_))))
  rw[WE _ _ hy.1 hz.1,aa]
  exact tb (j9 _) (fun _ q=>ts q)
 ·rw[ab]at n1 n2 n3 n4 n5
  have:nm=[115,117,98,115,116,114]:=by simpa [n1,n2,n3,n4,n5]using hk
  exact tb (UH h (hn (.inr this))) (fun _ q=>ts q)
theorem Nf{l:List bL}(h:∀ v∈l,VW v)(h2:1≤l.length)(h3:l.length≤100)(nm:List Int)(hk:nm∈[[108,101,110,103,116,104],[105,110,116],[105,110,100,101,120],[117,112,112,101,114],[108,111,119,101,114],[115,117,98,115,116,114]]):Tot (zJ nm l) (fun y=>VW y.1):=by
 have hv:∀ v∈List.append (List.append [] l) [bL.mk 0 0 []],VW v:=fun v hv=>by
  rcases aE.1 (show v∈l++[bL.mk 0 0 []]from hv)with hv | hv
  ·exact h v hv
  ·rw[aN.1 hv];exact lt _ _
 have hl:(List.append (List.append [] l) [bL.mk 0 0 []]).length=l.length+1:=by show(l++[bL.mk 0 0 []]).length=_;simp
 have hl0:(List.append [] l).length=l.length:=rfl
 rw[Xg]
 refine ti (fun c=>ti (fun _=>tc (by rw[ce];omega) (tc (by rw[ce,hl0];omega) (tb (rm hv (by omega) nm (fun _=>by omega) hk) (fun _ q=>ts q)))) (fun n1=>ti (fun _=>tc (by rw[ce];omega) (tc (by rw[ce,hl0];omega) (tb (rm hv (by omega) nm (fun _=>by omega) hk) (fun _ q=>ts q)))) (fun n2=>tb (rm h h2 nm (fun e=>?_) hk) (fun _ q=>ts q)))) (fun c=>tb (rm h h2 nm (fun _=>?_) hk) (fun _ q=>ts q))
 ·rw[ab]at n1 n2;exact(e.elim n1 n2).elim
 ·rw[ab]at c;omega
def adj(l:List bF)(b e:Bool)(k:Nat):List Int :=
 if(l.getD k cN).Op=6 then [(l.getD k cN).A]else if(l.getD k cN).Op=7 then [(l.getD k cN).A,(l.getD k cN).B]
 else if(l.getD k cN).Op=4 then(if b=true then [(k:Int)+1]else [])else if(l.getD k cN).Op=5 then(if e=true then [(k:Int)+1]else [])else []
theorem Mv(l:List bF)(b e:Bool)(k:Nat):(adj l b e k).length≤2:=by
 unfold adj
 split
 ·simp
 ·split
  ·simp
  ·split
   ·split <;> simp
   ·split
    ·split <;> simp
    ·simp
inductive Rch (l:List bF) (at_:List Int) (b e:Bool):Int→Prop
 | base {i:Int}:i∈at_→0≤i→i<(l.length:Int)→Rch l at_ b e i
 | step {k j:Int}:Rch l at_ b e k→j∈adj l b e k.toNat→0≤j→j<(l.length:Int)→Rch l at_ b e j
theorem Rch.bd{l:List bF}{at_:List Int}{b e:Bool}{i:Int}(h:Rch l at_ b e i):0≤i∧i<(l.length:Int):=by
 cases h with
 | base _ h1 h2=>exact⟨h1,h2⟩
 | step _ _ h1 h2=>exact⟨h1,h2⟩
def St(l:List bF)(seen:List Bool)(out:List Int):Prop:=seen.length=l.length∧(∀ i:Nat,i<l.length→seen.getD i false=decide ((i:Int)∈out))∧(∀ x∈out,0≤x∧x<(l.length:Int))∧out.Nodup
theorem GG:∀ (f:List Bool) (k:Nat),k<f.length→f.getD k false=false→(f.set k true).count false+1=f.count false
 | [],k,h,_=>absurd h (by simp)
 | a::f,0,h,e=>by
  have:a=false:=e
  subst this
  rw[List.set_cons_zero,List.count_cons,List.count_cons];simp
 | a::f,k+1,h,e=>by
  have:=GG f k (by simpa using h) e
  rw[List.set_cons_succ,List.count_cons,List.count_cons];omega
def Mk(l:List bF)(at_:List Int)(b e:Bool)(f:List Bool)(todo:List Int):Prop:=f.length=l.length∧(∀ k:Nat,f.getD k false=true→Rch l at_ b e k)∧(∀ y∈todo,0≤y→y<(l.length:Int)→Rch l at_ b e y) ∧
 ∀ k:Nat,f.getD k false=true→∀ y∈adj l b e k,0≤y→y<(l.length:Int)→f.getD y.toNat false=true∨y∈todo
theorem Wy{l:List bF}(hl:l.length≤1000)(at_:List Int)(b e:Bool):∀ (d:Nat) (f:List Bool) (todo:List Int),3*f.count false+todo.length≤d→d≤100000→Mk l at_ b e f todo →
  ∃ f',fJ l f b e todo=some (f',())∧Mk l at_ b e f' []∧(∀ k:Nat,f.getD k false=true→f'.getD k false=true)∧∀ y∈todo,0≤y→y<(l.length:Int)→f'.getD y.toNat false=true:=by
 intro d
 induction d with
 | zero =>
  intro f todo hd hd2 h
  have ht:todo=[]:=ba.1 (by omega)
  subst ht
  rw[Ah,bz (by simp)]
  exact⟨f,rfl,h,fun k hk=>hk,fun y hy=>by cases hy⟩
 | succ d ih =>
  intro f todo hd hd2 h
  obtain⟨h1,h2,h3,h4⟩:=h
  by_cases ht:todo.length=0
  ·have ht:todo=[]:=ba.1 ht
   subst ht
   rw[Ah,bz (by simp)]
   exact⟨f,rfl,⟨h1,h2,h3,h4⟩,fun k hk=>hk,fun y hy=>by cases hy⟩
  ·have w:w64 ((todo.length:Int)-1)=((todo.length-1:Nat):Int):=by rw[aw];omega
   have hlt:todo.length-1<todo.length:=by omega
   rw[Ah,au,w,ap,ap,cX hlt,ag]
   have hsplit:todo=todo.take (todo.length-1)++[todo[todo.length-1]]:=BH (n:=todo.length-1) (by omega)
   have hrl:(todo.take (todo.length-1)).length=todo.length-1:=by rw[aU];omega
   generalize todo.take (todo.length-1)=rest at hsplit hrl
   generalize todo[todo.length-1]=v at hsplit
   have hmem:∀ y,y∈todo↔y∈rest∨y=v:=fun y=>by rw[hsplit,aE,aN]
   have skip:(0≤v→v<(l.length:Int)→f.getD v.toNat false=true)→∃ f',fJ l f b e rest=some (f',())∧Mk l at_ b e f' []∧(∀ k:Nat,f.getD k false=true→f'.getD k false=true)∧∀ y∈todo,0≤y→y<(l.length:Int)→f'.getD y.toNat false=true:=fun hv=>by
    obtain⟨f',e1,e2,e3,e4⟩:=ih f rest (by omega) (by omega) ⟨h1,h2,fun y hy=>h3 y ((hmem y).2 (.inl hy)),fun k hk y hy y0 y1=>by
     rcases h4 k hk y hy y0 y1 with h | h
     ·exact .inl h
     ·rcases(hmem y).1 h with h | h
      ·exact .inr h
      ·subst h;exact .inl (hv y0 y1)⟩
    refine⟨f',e1,e2,e3,fun y hy y0 y1=>?_⟩
    rcases(hmem y).1 hy with h | h
    ·exact e4 y h y0 y1
    ·subst h;exact e3 _ (hv y0 y1)
   by_cases c1:v≥(l.length:Int)
   ·rw[am c1];exact skip fun _ h=>absurd h (by omega)
   rw[al c1]
   by_cases c2:v<0
   ·rw[am c2];exact skip fun h=>absurd h (by omega)
   rw[al c2,ap]
   by_cases c3:f.getD v.toNat false=true
   ·rw[bw c3];exact skip fun _ _=>c3
   rw[bz c3,ap,ap]
   have hvn:v.toNat<f.length:=by omega
   have hvr:Rch l at_ b e v:=h3 v ((hmem v).2 (.inr rfl)) (by omega) (by omega)
   have hcount:=GG f v.toNat hvn (by simpa using c3)
   have hw:w64 (v+1)=((v.toNat:Nat):Int)+1:=by rw[aw];omega
   have go:∃ f',fJ l (f.set v.toNat true) b e (rest++adj l b e v.toNat)=some (f',())∧Mk l at_ b e f' []∧(∀ k:Nat,f.getD k false=true→f'.getD k false=true)∧∀ y∈todo,0≤y→y<(l.length:Int)→f'.getD y.toNat false=true:=by
    have hal:=Mv l b e v.toNat
    have hget:∀ k:Nat,(f.set v.toNat true).getD k false=true↔f.getD k false=true∨k=v.toNat:=fun k=>by
     by_cases hk:v.toNat=k
     ·subst hk;rw[OL hvn];simp
     ·rw[List.getD_eq_getElem?_getD,List.getElem?_set_ne hk,← List.getD_eq_getElem?_getD]
      exact⟨.inl,fun h=>h.elim id fun h=>absurd h.symm hk⟩
    obtain⟨f',e1,e2,e3,e4⟩:=ih (f.set v.toNat true) (rest++adj l b e v.toNat) (by rw[ah];omega) (by omega) ⟨by rw[a8];exact h1,fun k hk=>by
      rcases(hget k).1 hk with h | h
      ·exact h2 k h
      ·subst h;rw[Int.toNat_of_nonneg (by omega)];exact hvr,
     fun y hy y0 y1=>by
      rcases aE.1 hy with hy | hy
      ·exact h3 y ((hmem y).2 (.inl hy)) y0 y1
      ·exact .step hvr hy y0 y1,
     fun k hk y hy y0 y1=>by
      rcases(hget k).1 hk with h | h
      ·rcases h4 k h y hy y0 y1 with h | h
       ·exact .inl ((hget _).2 (.inl h))
       ·rcases(hmem y).1 h with h | h
        ·exact .inr (ax _ h)
        ·exact .inl ((hget _).2 (.inr (by rw[h])))
      ·subst h;exact .inr (ay _ hy)⟩
    refine⟨f',e1,e2,fun k hk=>e3 k ((hget k).2 (.inl hk)),fun y hy y0 y1=>?_⟩
    rcases(hmem y).1 hy with h | h
    ·exact e4 y (ax _ h) y0 y1
    ·exact e3 _ ((hget _).2 (.inr (by rw[h])))
   have hnil:rest++[]=rest:=aL _
   unfold adj at go
   revert go
   generalize l.getD v.toNat cN=p
   intro go
   by_cases c6:p.Op=6
   ·rw[bw c6]at go
    rw[am c6,bw (by rw[ce];omega)]
    exact go
   rw[bz c6]at go
   rw[al c6]
   by_cases c7:p.Op=7
   ·rw[bw c7]at go
    rw[am c7,bw (by rw[ce];omega)]
    exact go
   rw[bz c7]at go
   rw[al c7]
   by_cases c4:p.Op=4
   ·rw[bw c4]at go
    rw[am c4]
    cases b with
    | true =>
     rw[bw rfl]at go
     rw[bw rfl,bw (by rw[ce];omega),hw]
     exact go
    | false =>
     rw[bz (by decide),hnil]at go
     rw[bz (by decide)]
     exact go
   rw[bz c4]at go
   rw[al c4]
   by_cases c5:p.Op=5
   ·rw[bw c5]at go
    rw[am c5]
    cases e with
    | true =>
     rw[bw rfl]at go
     rw[bw rfl,bw (by rw[ce];omega),hw]
     exact go
    | false =>
     rw[bz (by decide),hnil]at go
     rw[bz (by decide)]
     exact go
   rw[bz c5,hnil]at go
   rw[al c5]
   exact go
theorem Yn(f:List Bool)(hf:f.length≤1000):Ai f=some (fW f 0 f.length,()):=by
 have key:∀ (d i:Nat) (t:List Int),i+d=f.length→t.length≤i→qC f t (i:Int)=some (t++fW f i d,()):=by
  intro d
  induction d with
  | zero =>
   intro i t hi ht
   rw[KP,av]
   show _=some (t++[],())
   rw[aL]
  | succ d ih =>
   intro i t hi ht
   have hi':i<f.length:=by omega
   rw[KP,au,ap,cF hi' (by omega),ag,show d+1=1+d by omega,T0]
   have hm:fW f i 1=if f.getD i false=true then [(i:Int)]else []:=by
    unfold fW
    rw[show List.range' i 1=[i]from rfl,List.filter_cons]
    split <;> rfl
   rw[hm]
   by_cases c:f.getD i false=true
   ·rw[bw c,bw c,bw (by rw[ce];omega)]
    have:=ih (i+1) (t++[(i:Int)]) (by omega) (by simp;omega)
    rw[ai]at this
    exact this
   ·rw[bz c,bz c,bl]
    exact ih (i+1) t (by omega) (by omega)
 rw[X2]
 have:=key f.length 0 [] (by omega) (aK _)
 rwa [bl]at this
theorem Wz{l:List bF}(hl:l.length≤1000)(at_:List Int)(hat:at_.length≤1000000)(b e:Bool):∃ f:List Bool,qn l at_ b e=some (fW f 0 l.length,())∧∀ k:Nat,k<l.length→(f.getD k false=true↔Rch l at_ b e k):=by
 have key:∀ (d i:Nat) (f:List Bool),i+d=at_.length→Mk l at_ b e f []→(∀ (j:Nat) (hj:j<at_.length),j<i→0≤at_[j]→at_[j]<(l.length:Int)→f.getD at_[j].toNat false=true) →
   ∃ g:List Bool,sX l at_ b e f (i:Int)=some (fW g 0 l.length,())∧∀ k:Nat,k<l.length→(g.getD k false=true↔Rch l at_ b e k):=by
  intro d
  induction d with
  | zero =>
   intro i f hi h ha
   obtain⟨h1,h2,h3,h4⟩:=h
   rw[JN,av,Yn f (by omega),aa,h1]
   refine⟨f,rfl,fun k hk=>⟨h2 k,fun hx=>?_⟩⟩
   have all:∀ y:Int,Rch l at_ b e y→f.getD y.toNat false=true:=fun y hy=>by
    induction hy with
    | base g1 g2 g3 =>
     obtain⟨j,hj,rfl⟩:=bq.1 g1
     exact ha j hj (by omega) g2 g3
    | step g0 g1 g2 g3 ih =>
     rcases h4 _ ih _ g1 g2 g3 with h | h
     ·exact h
     ·cases h
   have:=all k hx
   rwa [ag]at this
  | succ d ih =>
   intro i f hi h ha
   have hi':i<at_.length:=by omega
   obtain⟨h1,h2,h3,h4⟩:=h
   rw[JN,au,ap,cX hi',X1]
   have hc:=List.count_le_length (a:=false) (l:=f)
   obtain⟨f',e1,e2,e3,e4⟩:=Wy hl at_ b e (3*f.count false+1) f [at_[i]] (by simp) (by omega) ⟨h1,h2,fun y hy y0 y1=>.base (by rw[aN.1 hy];exact aZ hi') y0 y1,fun k hk y hy y0 y1=>(h4 k hk y hy y0 y1).imp id fun h=>by cases h⟩
   rw[e1,aa]
   dsimp only
   rw[cF hi' (by omega)]
   refine ih (i+1) f' (by omega) e2 fun j hj hji x0 x1=>?_
   by_cases hj':j=i
   ·subst hj';exact e4 _ (aN.2 rfl) x0 x1
   ·exact e3 _ (ha j hj (by omega) x0 x1)
 rw[VD,bw ⟨by omega,by omega,by rw[ce];omega⟩,ag]
 have hno:∀ k:Nat,(List.replicate l.length false).getD k false=false:=fun k=>by
  rw[List.getD_eq_getElem?_getD,List.getElem?_replicate];split <;> rfl
 exact key at_.length 0 _ (by omega) ⟨bf,fun k hk=>(by rw[hno]at hk;cases hk),fun y hy=>(by cases hy),fun k hk=>(by rw[hno]at hk;cases hk)⟩ (fun j hj h=>absurd h (by omega))
def plB(p:bF)(n:Int):Bool :=
 if p.Op=1 then decide (0≤p.C∧p.C≤255)&&((decide (p.Set=[]) && !p.Not)&&(decide (p.A=0)&&decide (p.B=0)))
 else if p.Op=3 then decide (p.C=0)&&(decide (p.A=0)&&decide (p.B=0))
 else if p.Op=6 then decide (p.C=0)&&((decide (p.Set=[]) && !p.Not)&&(decide (0≤p.A∧p.A≤w64 (n-1))&&decide (p.B=0)))
 else if p.Op=7 then decide (p.C=0)&&((decide (p.Set=[]) && !p.Not)&&(decide (0≤p.A∧p.A≤w64 (n-1))&&decide (0≤p.B∧p.B≤w64 (n-1))))
 else if p.Op=2∨p.Op=4∨p.Op=5∨p.Op=8 then decide (p.C=0)&&((decide (p.Set=[]) && !p.Not)&&(decide (p.A=0)&&decide (p.B=0)))
 else false
theorem Yo(p:bF)(n:Int):Ap p n=some (plB p n,()):=by
 rw[X8]
 simp only[X3,X4,X5,X6,X7,eJ,aa]
 unfold plB
 generalize w64 (n-1)=m
 by_cases c1:p.Op=1
 ·by_cases hC:0≤p.C∧p.C≤255
  ·by_cases hs:p.Set=[] <;> by_cases hn:p.Not <;> by_cases hA:p.A=0 <;> by_cases hB:p.B=0 <;> simp[c1,hC,hs,hn,hA,hB]
  ·have hC':p.C≠0:=fun h=>hC (by omega)
   by_cases hs:p.Set=[] <;> by_cases hn:p.Not <;> by_cases hA:p.A=0 <;> by_cases hB:p.B=0 <;> simp[c1,hC,hC',hs,hn,hA,hB]
 by_cases hC:p.C=0
 ·by_cases c3:p.Op=3
  ·by_cases hA:p.A=0 <;> by_cases hB:p.B=0 <;> simp[c3,hC,hA,hB]
  by_cases c6:p.Op=6
  ·by_cases hs:p.Set=[] <;> by_cases hn:p.Not <;> by_cases hA:0≤p.A∧p.A≤m <;> by_cases hB:p.B=0 <;> simp[c6,hC,hs,hn,hA,hB]
  by_cases c7:p.Op=7
  ·by_cases hs:p.Set=[] <;> by_cases hn:p.Not <;> by_cases hA:0≤p.A∧p.A≤m <;> by_cases hB:0≤p.B∧p.B≤m <;> simp[c7,hC,hs,hn,hA,hB]
  by_cases c2:p.Op=2
  ·by_cases hs:p.Set=[] <;> by_cases hn:p.Not <;> by_cases hA:p.A=0 <;> by_cases hB:p.B=0 <;> simp[c2,hC,hs,hn,hA,hB]
  by_cases c4:p.Op=4
  ·by_cases hs:p.Set=[] <;> by_cases hn:p.Not <;> by_cases hA:p.A=0 <;> by_cases hB:p.B=0 <;> simp[c4,hC,hs,hn,hA,hB]
  by_cases c5:p.Op=5
  ·by_cases hs:p.Set=[] <;> by_cases hn:p.Not <;> by_cases hA:p.A=0 <;> by_cases hB:p.B=0 <;> simp[c5,hC,hs,hn,hA,hB]
  by_cases c8:p.Op=8
  ·by_cases hs:p.Set=[] <;> by_cases hn:p.Not <;> by_cases hA:p.A=0 <;> by_cases hB:p.B=0 <;> simp[c8,hC,hs,hn,hA,hB]
  have hno:¬ (1≤p.Op∧p.Op≤8):=by omega
  simp[c1,c2,c3,c4,c5,c6,c7,c8,hno]
 ·have e5:(decide (p.C=0))=false:=af hC
  by_cases c3:p.Op=3
  ·simp[c3,hC]
  by_cases c6:p.Op=6
  ·simp[c6,hC]
  by_cases c7:p.Op=7
  ·simp[c7,hC]
  simp[c1,c3,c6,c7,hC]
theorem MF(l:List Int)(c:Int):(l.any fun x=>decide (x=c))=decide (c∈l):=by
 cases h:decide (c∈l) with
 | true=>exact List.any_eq_true.2 ⟨c,of_decide_eq_true h,by simp⟩
 | false =>
  have h:=of_decide_eq_false h
  rw[← aX]
  intro e
  obtain⟨x,hx,e⟩:=List.any_eq_true.1 e
  exact h (by rw[← of_decide_eq_true e];exact hx)
theorem Ya(l:List Int)(c:Int)(hl:l.length≤4294967296):Ar l c=some (decide (c∈l),()):=by
 rw[X9]
 have h:=im (fun i=>mL l c i) l.length (fun i=>decide (l.getD i 0=c)) (some (true,())) (some (false,()))
  (fun i hi=>by show mL l c _=_;rw[KQ,au,ap,cX hi,dj hi,cF hi (by omega)])
  (by show mL l c _=_;rw[KQ,bz (by simp)])
 have h':mL l c 0=_:=h
 rw[h',gp l 0 (fun x=>decide (x=c)),MF]
 by_cases d:c∈l
 ·rw[ac d,bw rfl]
 ·rw[af d,bz (by decide)]
inductive R
 | err (e:Int)
 | stop
 | go (a:Int) (V:List bL) (C:List bA) (out:List Int) (st:List bL)
def dd(o:bE):Int :=
 if o.Code=4∨o.Code=5∨o.Code=6∨o.Code=9∨o.Code=24∨o.Code=26∨o.Code=27∨o.Code=28∨o.Code=31∨o.Code=32∨o.Code=33∨o.Code=35 then 1
 else if o.Code=7∨o.Code=8 then 2 else if o.Code=29 then o.N else if 12≤o.Code∧o.Code≤23 then 2 else 0
abbrev WTy:=bJ×(List (List Int)×(List (List Int)×(List Int×(List (List Int)×(List Int×(Int×(Bool×Unit)))))))
def ClW(c:bA):Prop:=TW c.Key∧VW c.Val
def SW(nv:Nat)(s:bJ):Prop:=(s.Vars.length=nv∧∀ v∈s.Vars,VW v)∧(s.Cells.length≤40∧∀ c∈s.Cells,ClW c)
def FW(line:List Int)(fs:List (List Int)):Prop:=(line.length≤1000∧Bt line)∧(fs.length≤2000∧∀ f∈fs,f.length≤1000∧Bt f)
def OW(o:List Int):Prop:=o.length≤600∧Bt o
def WW(nv:Nat)(x:WTy):Prop:=SW nv x.1∧FW x.2.2.2.1 x.2.2.2.2.1∧OW x.2.2.2.2.2.1
def StW(st:List bL):Prop:=st.length≤64∧∀ v∈st,VW v
theorem iT{nv:Nat}{s:bJ}{vs:List (List Int)}{cs:List (List Int)}{line:List Int}{fs:List (List Int)}{out:List Int}{fuel:Int}{done:Bool}(hs:SW nv s)(hf:FW line fs)(ho:OW out)(e:Int):Tot (gW s vs cs line fs out fuel done e) (fun y=>WW nv y.1):=by
 rw[WS]
 exact ti (fun _=>ts ⟨hs,hf,ho⟩) (fun _=>ts ⟨hs,hf,ho⟩)
theorem uq{nv:Nat}{s:bJ}{vs:List (List Int)}{cs:List (List Int)}{line:List Int}{fs:List (List Int)}{out:List Int}{fuel:Int}{done:Bool}(hs:SW nv s)(hf:FW line fs)(ho:OW out)(t:List Int)(ht:TW t):Tot (ol s vs cs line fs out fuel done t) (fun y=>WW nv y.1):=by
 rw[W3]
 have h1:=ho.1
 have h2:=ht.1
 rw[aw]
 refine ti (fun _=>tb (iT hs hf ho _) (fun _ h=>ts h)) (fun c=>tc (by omega) (ts ⟨hs,hf,?_,fun x hx=>?_⟩))
 ·rw[ab]at c
  show(out++t).length≤600
  rw[ah];omega
 ·rcases aE.1 hx with hx | hx
  ·exact ho.2 x hx
  ·exact ht.2 x hx
theorem nP{nv:Nat}{s:bJ}{vs:List (List Int)}{cs:List (List Int)}{line:List Int}{fs:List (List Int)}{out:List Int}{fuel:Int}{done:Bool}(hs:SW nv s)(hf:FW line fs)(ho:OW out){st:List bL}(hst:StW st){v:bL}(hv:VW v):Tot (la ⟨(),st⟩ s vs cs line fs out fuel done v) (fun y=>StW y.1.stack∧WW nv y.2.1):=by
 rw[Xj]
 refine ti (fun _=>tb (iT hs hf ho _) (fun _ h=>ts ⟨hst,h⟩)) (fun c=>tc (by have:=hst.1;rw[ce];show st.length+1≤_;omega) (ts ⟨⟨?_,fun x hx=>?_⟩,hs,hf,ho⟩))
 ·rw[ab]at c
  have c':¬ (st.length:Int)=64:=c
  have:=hst.1
  show(st++[v]).length≤64
  rw[ah,bo];omega
 ·rcases aE.1 (show x∈st++[v]from hx)with hx | hx
  ·exact hst.2 x hx
  ·rw[aN.1 hx];exact hv
theorem xr{nv:Nat}{s:bJ}{vs:List (List Int)}{cs:List (List Int)}{line:List Int}{fs:List (List Int)}{out:List Int}{fuel:Int}{done:Bool}(hs:SW nv s)(hf:FW line fs)(ho:OW out)(op a b:Int):Tot (qx s vs cs line fs out fuel done op a b) (fun y=>VW y.1∧WW nv y.2.1):=by
 have L1:∀ (n:Int) (ok:Bool),Tot (mB n ok (bO.mk s vs cs line fs out fuel done) cA) (fun y=>VW y.1∧WW nv y.2.1):=fun n ok=>by
  rw[WY]
  exact ti (fun _=>tb (iT hs hf ho _) (fun _ h=>tb (j9 _) (fun _ q=>ts ⟨q,h⟩))) (fun _=>tb (j9 _) (fun _ q=>ts ⟨q,hs,hf,ho⟩))
 rw[WZ]
 refine ti (fun _=>tb (Mu _ _) (fun _ _=>L1 _ _)) (fun _=>ti (fun _=>tb (YO _ _) (fun _ _=>L1 _ _)) (fun _=>ti (fun _=>tb (T4 _ _) (fun _ _=>L1 _ _)) (fun _=>ti (fun _=>tb (iT hs hf ho _) (fun _ h=>ts ⟨lt _ _,h⟩)) (fun c=>tb (N3 _ _) (fun _ _=>ti (fun _=>tc ?_ (L1 _ _)) (fun _=>L1 _ _))))))
 rw[ab]at c;exact c
theorem Oj{nv:Nat}{s:bJ}{vs:List (List Int)}{cs:List (List Int)}{line:List Int}{fs:List (List Int)}{out:List Int}{fuel:Int}{done:Bool}(hs:SW nv s)(hf:FW line fs)(ho:OW out){v:bL}(hv:VW v):Tot (zj s vs cs line fs out fuel done v) (fun y=>VW y.1∧WW nv y.2.1):=by
 rw[WT]
 refine tb (fH hv) (fun n _=>ti (fun _=>tb (sM hf.1.1 hf.1.2) (fun _ h=>ts ⟨h,hs,hf,ho⟩)) (fun c=>?_))
 rw[eJ,aa]
 refine ti (fun _=>tb (sM (s:=[]) (by simp) (fun x hx=>by cases hx)) (fun _ h=>ts ⟨h,hs,hf,ho⟩)) (fun d=>?_)
 have d':1≤w64 (Int.tdiv n.1 1000000)∧w64 (Int.tdiv n.1 1000000)≤(fs.length:Int):=by simpa using d
 have hl:=hf.2.1
 rw[aw (n:=w64 (Int.tdiv n.1 1000000)-1)]
 have hi:(w64 (Int.tdiv n.1 1000000)-1).toNat<fs.length:=by omega
 refine tc (by omega) (tb (P:=fun y=>VW y.1) ?_ (fun _ h=>ts ⟨h,hs,hf,ho⟩))
 rw[dj hi]
 have:=hf.2.2 _ (aZ hi)
 exact sM this.1 this.2
theorem Ni{nv:Nat}{s:bJ}{vs:List (List Int)}{cs:List (List Int)}{line:List Int}{fs:List (List Int)}{out:List Int}{fuel:Int}{done:Bool}(hs:SW nv s)(hf:FW line fs)(ho:OW out){a b:bL}(ha:VW a)(hb:VW b):Tot (zi s vs cs line fs out fuel done a b) (fun y=>VW y.1∧WW nv y.2.1):=by
 rw[WQ]
 refine tb (fx ha) (fun x hx=>tb (fx hb) (fun y hy=>tc (by have:=hx.1;have:=hy.1;omega) (ti (fun _=>tb (iT hs hf ho _) (fun _ h=>ts ⟨lt _ _,h⟩)) (fun c=>ts ⟨⟨?_,fun z hz=>?_⟩,hs,hf,ho⟩))))
 ·rw[ab]at c
  show(x.1++y.1).length≤300
  omega
 ·rcases aE.1 (show z∈x.1++y.1 from hz)with hz | hz
  ·exact hx.2 z hz
  ·exact hy.2 z hz
theorem FV{nv:Nat}{s:bJ}(hs:SW nv s)(n:Int)(k:List Int):Tot (od s n k) (fun y=>y.1<(s.Cells.length:Int)):=by
 have key:∀ (d i:Nat),i+d=s.Cells.length→Tot (jU n k (i:Int) s) (fun y=>y.1<(s.Cells.length:Int)):=by
  intro d
  have hl:=hs.2.1
  induction d with
  | zero =>
   intro i hd
   rw[tA,av];exact ts (show(-1:Int)<_ by omega)
  | succ d ih =>
   intro i hd
   have hi:i<s.Cells.length:=by omega
   rw[tA,au,ap,cF hi (by omega)]
   exact ti (fun _=>tc (by omega) (ti (fun _=>ts (show(i:Int)<_ by omega)) (fun _=>ih (i+1) (by omega)))) (fun _=>ih (i+1) (by omega))
 rw[Ko];exact key s.Cells.length 0 (by omega)
theorem o7{nv:Nat}{s:bJ}(hs:SW nv s)(hn:nv≤100):jV s=some (s,()):=GF (by have:=hs.1.1;omega) (by have:=hs.2.1;omega)
theorem GJ{nv:Nat}{s:bJ}(hs:SW nv s)(i:Nat):ClW (s.Cells.getD i cy):=by
 by_cases c:i<s.Cells.length
 ·rw[dj c];exact hs.2.2 _ (aZ c)
 ·rw[List.getD_eq_getElem?_getD,List.getElem?_eq_none (by omega)];exact⟨qL,qL⟩
theorem Hp{nv:Nat}{s:bJ}(hs:SW nv s)(n:Int)(k:List Int):Tot (sV s n k) (fun y=>VW y.1):=by
 rw[VB]
 refine tb (FV hs n k) (fun y hy=>ti (fun _=>ts (lt _ _)) (fun c=>?_))
 rw[ab]at c
 exact tc (by omega) (ts (GJ hs _).2)
theorem Jk{nv:Nat}{s:bJ}(hs:SW nv s)(hn:nv≤100)(n:Int){k:List Int}(hk:TW k){v:bL}(hv:VW v):Tot (qm s n k v) (fun y=>SW nv y.1):=by
 have hv1:=hs.1.1
 have hl:=hs.2.1
 rw[U5 s n k v (by omega) (by omega)]
 have hp:∀ C,qe s.Cells n k v=some C→C.length≤40∧∀ c∈C,ClW c:=by
  intro C hC
  unfold qe at hC
  split at hC
  ·cases hC
   refine⟨by rw[a8];exact hl,fun c hc=>?_⟩
   rcases List.mem_or_eq_of_mem_set hc with hc | rfl
   ·exact hs.2.2 c hc
   ·exact⟨(GJ hs _).1,hv⟩
  ·split at hC
   ·cases hC
   ·cases hC
    have ins:∀ (p:Nat) (x:bA),ClW x→(me s.Cells p [x]).length≤40∧∀ c∈me s.Cells p [x],ClW c:=by
     intro p x hx
     unfold me
     refine⟨?_,fun c hc=>?_⟩
     ·simp only[ah,aU,aV,bo];omega
     ·rcases aE.1 hc with hc | hc
      ·exact hs.2.2 c (List.mem_of_mem_take hc)
      ·rcases aE.1 hc with hc | hc
       ·rw[aN.1 hc];exact hx
       ·exact hs.2.2 c (List.mem_of_mem_drop hc)
    exact ins _ _ ⟨hk,hv⟩
 cases e:qe s.Cells n k v with
 | none=>exact ts hs
 | some C=>exact ts ⟨hs.1,hp C e⟩
theorem N7{nv:Nat}{s:bJ}(hs:SW nv s)(hn:nv≤100)(n:Int)(k:List Int):Tot (yf s n k) (fun y=>SW nv y.1):=by
 have hl:=hs.2.1
 rw[VA,o7 hs hn,aa]
 refine tb (FV hs n k) (fun y hy=>ti (fun c=>?_) (fun _=>ts hs))
 rw[ab]at c
 rw[aw (n:=y.1+1)]
 refine tc (by omega) (tc (by rw[ce,aU];omega) (tc (by omega) (tc ?_ (ts ⟨hs.1,?_,fun c hc=>?_⟩))))
 ·show(List.take _ (List.drop 0 s.Cells)).length+_≤_
  rw[ce,aU,aU,aV,aV];omega
 ·show(List.take (y.1.toNat-0) (List.drop 0 s.Cells)++List.take _ (List.drop _ s.Cells)).length≤40
  rw[ah,aU,aU,aV,aV];omega
 ·rcases aE.1 (show c∈List.take (y.1.toNat-0) (List.drop 0 s.Cells)++List.take _ (List.drop _ s.Cells)from hc)with hc | hc
  ·exact hs.2.2 c (List.mem_of_mem_drop (List.mem_of_mem_take hc))
  ·exact hs.2.2 c (List.mem_of_mem_drop (List.mem_of_mem_take hc))
theorem Gr{nv:Nat}{s:bJ}{vs:List (List Int)}{cs:List (List Int)}{line:List Int}{fs:List (List Int)}{out:List Int}{fuel:Int}{done:Bool}(hs:SW nv s)(hn:nv≤100)(hf:FW line fs)(ho:OW out){st:List bL}(hst:StW st)(n:Int){k:List Int}(hk:TW k){v:bL}(hv:VW v):Tot (tN ⟨(),st⟩ s vs cs line fs out fuel done n k v) (fun y=>StW y.1.stack∧WW nv y.2.1):=by
 rw[Xh]
 exact tb (Jk hs hn n hk hv) (fun y hy=>ti (fun _=>tb (iT hs hf ho _) (fun _ h=>ts ⟨hst,h⟩)) (fun _=>tb (nP hy hf ho hst hv) (fun _ h=>ts h)))
theorem T6{nv:Nat}{s:bJ}{vs:List (List Int)}{cs:List (List Int)}{line:List Int}{fs:List (List Int)}{out:List Int}{fuel:Int}{done:Bool}(hs:SW nv s)(hn:nv≤100)(hf:FW line fs)(ho:OW out){st l:List bL}(hst:StW st)(hl:∀ v∈l,VW v){o:bE}(hN:(o.Code=3∨o.Code=4∨o.Code=5)→0≤o.N∧o.N<nv)
  (h1:(o.Code=4∨o.Code=5∨o.Code=6∨o.Code=35)→1≤l.length) (h2:(o.Code=7∨o.Code=8)→2≤l.length):Tot (zL ⟨(),st⟩ s vs cs line fs out fuel done o l) (fun y=>StW y.1.stack∧WW nv y.2.1):=by
 have hv1:=hs.1.1
 have setW:∀ {s':bJ} (hs':SW nv s') (i:Nat) {v:bL},VW v→∀ (n e:Int),SW nv ⟨List.set s'.Vars i v,s'.Cells,n,e⟩:=fun {s'} hs' i {v} hv n e=>⟨⟨by rw[← hs'.1.1];exact a8,fun x hx=>by
  rcases List.mem_or_eq_of_mem_set hx with hx | rfl
  ·exact hs'.1.2 x hx
  ·exact hv⟩,hs'.2⟩
 rw[Xi]
 refine ti (fun c=>?_) (fun c3=>ti (fun c=>?_) (fun c4=>ti (fun c=>?_) (fun c5=>ti (fun c=>?_) (fun c6=>ti (fun c=>?_) (fun c7=>ti (fun c=>?_) (fun c8=>ti (fun c=>?_) (fun _=>ts ⟨hst,hs,hf,ho⟩)))))))
 ·rw[ab]at c
  have:=hN (.inl c)
  exact tc (by omega) (tb (nP hs hf ho hst (dD hs.1.2 _)) (fun _ h=>ts h))
 ·rw[ab]at c
  have:=hN (.inr (.inl c))
  have:=h1 (.inl c)
  exact tc (by omega) (tc (by omega) (tc (by omega) (tb (nP (setW hs _ (dD hl _) _ _) hf ho hst (dD hl _)) (fun _ h=>ts h))))
 ·rw[ab]at c
  have:=hN (.inr (.inr c))
  have:=h1 (.inr (.inl c))
  refine tc (by omega) (tb (fH (dD hs.1.2 _)) (fun _ _=>tc (by omega) (tb (fH (dD hl _)) (fun _ _=>tb (xr hs hf ho _ _ _) (fun y hy=>ti (fun _=>tc ?_ (tb (nP (setW hy.2.1 _ hy.1 _ _) hy.2.2.1 hy.2.2.2 hst hy.1) (fun _ h=>ts h))) (fun _=>ts ⟨hst,hy.2⟩))))))
  have:=hy.2.1.1.1
  omega
 ·rw[ab]at c
  have:=h1 (.inr (.inr (.inl c)))
  exact tc (by omega) (tb (sk (dD hl _)) (fun k hk=>tb (Hp hs _ _) (fun v hv=>tb (nP hs hf ho hst hv) (fun _ h=>ts h))))
 ·rw[ab]at c
  have:=h2 (.inl c)
  exact tc (by omega) (tb (sk (dD hl _)) (fun k hk=>tc (by omega) (tb (Gr hs hn hf ho hst _ hk (dD hl _)) (fun _ h=>ts h))))
 ·rw[ab]at c
  have:=h2 (.inr c)
  exact tc (by omega) (tb (sk (dD hl _)) (fun k hk=>tb (Hp hs _ _) (fun v hv=>tb (fH hv) (fun _ _=>tc (by omega) (tb (fH (dD hl _)) (fun _ _=>tb (xr hs hf ho _ _ _) (fun y hy=>ti (fun _=>tb (Gr hy.2.1 hn hy.2.2.1 hy.2.2.2 hst _ hk hy.1) (fun _ h=>ts h)) (fun _=>ts ⟨hst,hy.2⟩))))))))
 ·rw[ab]at c
  have:=h1 (.inr (.inr (.inr c)))
  exact tc (by omega) (tb (sk (dD hl _)) (fun k hk=>tb (N7 hs hn _ _) (fun v hv=>ts ⟨hst,hv,hf,ho⟩)))
theorem Yl(l:List Int)(hl:l.length≤9223372036854775807):oB l=some (!decide ((10:Int)∈l),()):=by
 rw[Yk]
 have key:∀ (d i:Nat),i+d=l.length→mN l i=some (!decide ((10:Int)∈l.drop i),()):=by
  intro d
  induction d with
  | zero =>
   intro i hd
   rw[KU,av,a7 (by omega)];simp
  | succ d ih =>
   intro i hd
   have hi:i<l.length:=by omega
   rw[KU,au,ap,cX hi,cF hi hl,ih (i+1) (by omega),aj hi]
   by_cases h:l[i]=10
   ·rw[am h,h];simp
   ·rw[al h]
    have h':¬ (10:Int)=l[i]:=fun e=>h e.symm
    simp only[aO,h',false_or]
 have:=key l.length 0 (by omega)
 simpa using this
def ng(c:bB):Bool :=
 if c.Who = -1 then decide (c.Seq=0)&&decide (c.Line=[])
 else decide (0≤c.Who∧c.Who≤2)&&(decide (1≤c.Seq∧c.Seq≤100000)&&(decide ((c.Line.length:Int)≤60) && !decide ((10:Int)∈c.Line)))
theorem JO(c:bB)(hl:c.Line.length≤9223372036854775807):yl c=some (ng c,()):=by
 rw[VE]
 unfold ng
 simp only[eJ,Yl _ hl,aa,ab]
 by_cases h1:c.Who = -1
 ·simp only[bw h1]
  by_cases h2:c.Seq=0
  ·simp only[bw h2,ac h2,Bool.true_and]
  ·simp only[bz h2,af h2,Bool.false_and]
 ·simp only[bz h1]
  by_cases h2:0≤c.Who∧c.Who≤2
  ·simp only[bw h2,ac h2,Bool.true_and]
   by_cases h3:1≤c.Seq∧c.Seq≤100000
   ·simp only[bw h3,ac h3,Bool.true_and]
    by_cases h4:(c.Line.length:Int)≤60
    ·simp only[bw h4,ac h4,Bool.true_and]
    ·simp only[bz h4,af h4,Bool.false_and]
   ·simp only[bz h3,af h3,Bool.false_and]
  ·simp only[bz h2,af h2,Bool.false_and]
def lA(m:bC):Prop:=m8 m.State∧m.Done.length≤2097152∧m.Out.length≤2097152
def dV:Nat→Int→List Int
 | 0,n=>[n%256]
 | d+1,n=>if n>127 then(n%128+128)::dV d (n/128)else [n%256]
theorem U4(d:Nat):∀ n:Int,(dV d n).length≤d+1:=by
 induction d with
 | zero=>intro n;simp[dV]
 | succ d ih =>
  intro n;unfold dV;split
  ·have:=ih (n/128);simp;omega
  ·simp
theorem uE(n:Int):w8 n=n%256:=IntKind.wrap_u8 n
theorem Yy{n:Int}(h:0≤n):j4 .i64 n 7=n/128:=by
 show n.fdiv (2 ^ 7)=n/128
 rw[Int.fdiv_eq_ediv_of_nonneg n (by decide)];rfl
theorem Wi(d:Nat):∀ (n:Int) (out:List Int),0≤n→n<128 ^ (d+1)→n≤9223372036854775807→out.length+d≤1000→tr n out=some (out++dV d n,()):=by
 induction d with
 | zero =>
  intro n out h0 h1 h2 h3
  rw[Ki,al (by simp at h1;omega),bw (by rw[ce];omega),uE];rfl
 | succ d ih =>
  intro n out h0 h1 h2 h3
  rw[Ki]
  unfold dV
  have c1:out.length+1≤room:=by rw[ce];omega
  by_cases h:n>127
  ·have e:=ih (n/128) (out++[n%128+128]) (by omega) (by rw[Int.pow_succ]at h1;omega) (by omega) (by simp;omega)
   rw[ai,List.singleton_append]at e
   rw[bw h,am h,bw c1,bh h0,Int.tmod_eq_emod_of_nonneg h0,aw (n:=n/128),aw (n:=n%128+128),uD (n:=n%128+128) (by omega) (by omega)]
   exact e
  ·rw[bz h,al h,bw c1,uE];rfl
theorem Pn(d:Nat):∀ (n:Int) (out:List Int),0≤n→n<128 ^ (d+1)→n≤9223372036854775807→out.length+d≤1000→rS n out=some (out++dV d n,()):=by
 induction d with
 | zero =>
  intro n out h0 h1 h2 h3
  rw[HM,al (by simp at h1;omega),bw (by rw[ce];omega),uE];rfl
 | succ d ih =>
  intro n out h0 h1 h2 h3
  rw[HM]
  unfold dV
  have c1:out.length+1≤room:=by rw[ce];omega
  by_cases h:n>127
  ·have e:=ih (n/128) (out++[n%128+128]) (by omega) (by rw[Int.pow_succ]at h1;omega) (by omega) (by simp;omega)
   rw[ai,List.singleton_append]at e
   rw[bw h,am h,bw c1,Yy h0,FP h0 (by omega),Uq (by omega) (by omega),uD (n:=n%128+128) (by omega) (by omega)]
   exact e
  ·rw[bz h,al h,bw c1,uE];rfl
def cz(n:Int):List Int:=if 0≤n∧n≤4611686018427387903 then dV 8 n else []
theorem eS(n:Int):(cz n).length≤9:=by
 unfold cz;split
 ·exact U4 8 n
 ·simp
theorem i9(n:Int):gV n=some (cz n,()):=by
 rw[Wj,eJ,aa]
 unfold cz
 by_cases h:0≤n∧n≤4611686018427387903
 ·rw[bw h,bz (by simp[h])]
  exact Wi 8 n [] h.1 (by have:=h.2;omega) (by omega) (by simp)
 ·rw[bz h,bw (by simp[h])]
theorem iU(n:Int):gP n=some (cz n,()):=by
 rw[Po,fT,aa]
 unfold cz
 by_cases h:0≤n∧n≤4611686018427387903
 ·rw[bw h,bz (by simp[h])]
  exact Pn 8 n [] h.1 (by have:=h.2;omega) (by omega) (by simp)
 ·rw[bz h,bw (by simp[h])]
def dA(s:List Int):List Int:=cz s.length++s
theorem jO(s:List Int):(dA s).length≤9+s.length:=by
 unfold dA;rw[ah];have:=eS s.length;omega
theorem yP(s:List Int)(h:s.length≤4000000000):qv s=some (dA s,()):=by
 have:=eS s.length
 rw[Wk,i9,aa]
 dsimp only
 rw[bw (by rw[ce];omega),bw (by rw[ce];omega)];rfl
theorem wz(s:List Int)(h:s.length≤4000000000):pw s=some (dA s,()):=by
 have:=eS s.length
 rw[Pp,iU,aa]
 dsimp only
 rw[bw (by rw[ce];omega)];rfl
def er(b:List Int)(p:Int):Nat→Int→Int→Int×Int×Bool
 | 0,_,_=>(0,0,false)
 | d+1,n,k =>
  if p+k<(b.length:Int) then
   (let x:=b.getD (p+k).toNat 0
    let m:=bits .or .i64 n (ez .i64 (x%128) (7*k))
    if 127<x then er b p d m (k+1)
    else if(x=0∧0<k)∨¬ (0≤m∧m≤4611686018427387903) then(0,0,false)
    else(m,p+k+1,true))
  else(0,0,false)
def tr3(x:Int×Int×Bool):Int×Int×Bool×Unit:=(x.1,x.2.1,x.2.2,())
theorem vw{b:List Int}(hw:∀ x∈b,0≤x∧x≤255){p:Int}(h0:0≤p)(h:p<(b.length:Int)):0≤b.getD p.toNat 0∧b.getD p.toNat 0≤255:=by
 rw[dj (by omega)]
 exact hw _ (aZ _)
theorem VV(b:List Int)(hb:b.length≤1048576)(hw:∀ x∈b,0≤x∧x≤255)(p:Int)(hp:0≤p)(hp2:p≤(b.length:Int))(d:Nat):∀ (n k:Int),0≤k→k+d=9→td b p n k=some (tr3 (er b p d n k)):=by
 induction d with
 | zero =>
  intro n k h0 hd
  rw[yD,av];rfl
 | succ d ih =>
  intro n k h0 hd
  have w1:w64 ((b.length:Int)-k)=(b.length:Int)-k:=aw
  have w2:w64 (p+k)=p+k:=aw
  have w3:w64 (7*k)=7*k:=aw
  have w4:w64 (k+1)=k+1:=aw
  have w5:w64 (p+k+1)=p+k+1:=aw
  rw[yD,au,av,w1,w2,w3,w4,w5]
  unfold er
  by_cases h:p+k<(b.length:Int)
  ·have hx:=vw hw (show 0≤p+k by omega) h
   have w6:w64 (b.getD (p+k).toNat 0)=b.getD (p+k).toNat 0:=aw
   have t1:Int.tmod (b.getD (p+k).toNat 0) 128=b.getD (p+k).toNat 0%128:=Int.tmod_eq_emod_of_nonneg hx.1
   rw[av,ap,ap,bw h,w6,t1]
   dsimp only
   generalize hm:bits .or .i64 n (ez .i64 (b.getD (p+k).toNat 0%128) (7*k))=m
   by_cases h2:127<b.getD (p+k).toNat 0
   ·rw[bw h2,av]
    exact ih m (k+1) (by omega) (by omega)
   ·rw[bz h2,au]
    simp only[ab]
    split
    ·split
     ·rw[ap];rfl
     ·split
      ·rw[ap];rfl
      ·split
       ·rw[ap];rfl
       ·rw[aq];rfl
    ·split
     ·rw[ap];rfl
     ·split
      ·rw[ap];rfl
      ·rw[aq];rfl
  ·rw[bz h,au];rfl
theorem O2(b:List Int)(hb:b.length≤1048576)(hw:∀ x∈b,0≤x∧x≤255)(p:Int)(hp:0≤p)(hp2:p≤(b.length:Int))(d:Nat):∀ (n k:Int),0≤k→k+d=9→rP b p n k=some (tr3 (er b p d n k)):=by
 induction d with
 | zero =>
  intro n k h0 hd
  rw[Hy,av];rfl
 | succ d ih =>
  intro n k h0 hd
  have w2:w64 (p+k)=p+k:=aw
  have w3:w64 (7*k)=7*k:=aw
  have w4:w64 (k+1)=k+1:=aw
  have w5:w64 (p+k+1)=p+k+1:=aw
  rw[Hy,au,w2,w3,w4,w5]
  unfold er
  by_cases h:p+k<(b.length:Int)
  ·have hx:=vw hw (show 0≤p+k by omega) h
   have w6:w64 (b.getD (p+k).toNat 0)=b.getD (p+k).toNat 0:=aw
   have t1:bits .and .i64 (b.getD (p+k).toNat 0) 127=b.getD (p+k).toNat 0%128:=FP hx.1 (by omega)
   rw[am h,ap,ap,bw h,w6,t1]
   dsimp only
   generalize hm:bits .or .i64 n (ez .i64 (b.getD (p+k).toNat 0%128) (7*k))=m
   by_cases h2:127<b.getD (p+k).toNat 0
   ·rw[bw h2,au]
    exact ih m (k+1) (by omega) (by omega)
   ·rw[bz h2,av]
    simp only[ab,fT,aa,Bool.not_eq_true',decide_eq_false_iff_not]
    split
    ·split
     ·rw[ap];rfl
     ·split
      ·rw[ap];rfl
      ·rw[aq];rfl
    ·split
     ·rw[ap];rfl
     ·rw[aq];rfl
  ·rw[bz h,av];rfl
def cU(b:List Int)(p:Int):Int×Int×Bool:=if 0≤p∧p≤(b.length:Int)then er b p 9 0 0 else(0,0,false)
theorem pp(b:List Int)(hb:b.length≤1048576)(hw:∀ x∈b,0≤x∧x≤255)(p:Int):po b p=some (tr3 (cU b p)):=by
 rw[O3,fT,aa]
 unfold cU
 by_cases h:0≤p∧p≤(b.length:Int)
 ·rw[bw h,bz (by simp[h])];exact O2 b hb hw p h.1 h.2 9 0 0 (by omega) (by omega)
 ·rw[bz h,bw (by simp[h])];rfl
theorem qr(b:List Int)(hb:b.length≤1048576)(hw:∀ x∈b,0≤x∧x≤255)(p:Int)(hp:-9223372036854775808≤p∧p≤9223372036854775807):qq b p=some (tr3 (cU b p)):=by
 rw[VX]
 unfold cU
 by_cases h:0≤p∧p≤(b.length:Int)
 ·rw[bw h];exact VV b hb hw p h.1 h.2 9 0 0 (by omega) (by omega)
 ·rw[bz h,yD,bw (by decide)]
  by_cases h1:p<0
  ·rw[bw (by simp[h1])];rfl
  ·rw[bz (by simp[h1]),aw,au];rfl
theorem OM(b:List Int)(p:Int)(hp:0≤p)(hp2:p≤(b.length:Int))(d:Nat):∀ n k:Int,0≤k→k+d=9→0≤(er b p d n k).1∧(er b p d n k).1≤4611686018427387903∧0≤(er b p d n k).2.1∧(er b p d n k).2.1≤(b.length:Int):=by
 induction d with
 | zero=>intro n k h0 hd;simp[er]
 | succ d ih =>
  intro n k h0 hd
  unfold er
  split
  ·dsimp only;split
   ·exact ih _ _ (by omega) (by omega)
   ·split
    ·simp
    ·rename_i h1 _ h2
     dsimp only;omega
  ·simp
theorem nw(b:List Int)(p:Int):0≤(cU b p).1∧(cU b p).1≤4611686018427387903∧0≤(cU b p).2.1∧(cU b p).2.1≤(b.length:Int):=by
 unfold cU;split
 ·rename_i h;exact OM b p h.1 h.2 9 0 0 (by omega) (by omega)
 ·simp
theorem sE{n y:Int}{k:Nat}(h0:0≤n)(h1:n<128 ^ k)(y0:0≤y)(y1:y<128)(hk:k≤8):bits .or .i64 n (ez .i64 y (7*(k:Int)))=n+y*128 ^ k:=by
 obtain⟨a,rfl⟩:=Int.eq_ofNat_of_zero_le h0
 obtain⟨c,rfl⟩:=Int.eq_ofNat_of_zero_le y0
 have e128:(128:Nat) ^ k=2 ^ (7*k):=by rw[Nat.pow_mul]
 have ha:a<2 ^ (7*k):=by rw[← e128];exact_mod_cast h1
 have hc:c<128:=by omega
 have hp:2 ^ (7*k)*c+a<2 ^ 63:=by
  have h1:2 ^ (7*k)*c+a<2 ^ (7*k)*128:=by
   have:2 ^ (7*k)*c+2 ^ (7*k)≤2 ^ (7*k)*128:=by
    rw[← Nat.mul_succ];exact Nat.mul_le_mul_left _ (by omega)
   omega
  have h2:2 ^ (7*k)*128=2 ^ (7*k+7):=by rw[Nat.pow_add]
  have h3:(2:Nat) ^ (7*k+7)≤2 ^ 63:=Nat.pow_le_pow_right (by omega) (by omega)
  omega
 have hcp:c*2 ^ (7*k)<2 ^ 63:=by rw[Nat.mul_comm];omega
 have hs:ez .i64 (c:Int) (7*(k:Int))=((c*2 ^ (7*k):Nat):Int):=by
  unfold ez
  have ht:(7*(k:Int)).toNat=7*k:=by omega
  have hm:min (7*(k:Int)).toNat IntKind.i64.bits=7*k:=by rw[ht];show min (7*k) 64=7*k;omega
  rw[hm]
  have e:(c:Int)*2 ^ (7*k)=((c*2 ^ (7*k):Nat):Int):=by rw[Int.natCast_mul,Int.natCast_pow];rfl
  rw[e]
  have e2:(2:Nat) ^ 63=9223372036854775808:=by decide
  exact b8 (by omega) (by have:=hcp;omega)
 rw[hs]
 have hb:=(bits_nat .i64 63 (by decide) (EZ 63 (by omega)) a (c*2 ^ (7*k)) (by omega) hcp).2
 rw[hb,Nat.or_comm,Nat.mul_comm,← Nat.two_pow_add_eq_or_of_lt ha c,Int.natCast_add,Int.natCast_mul,Int.natCast_pow,Int.add_comm,Int.mul_comm]
 congr 2
 rw[Int.pow_mul];rfl
theorem N6{b:List Int}{p:Int}(h0:0≤p)(h:p<(b.length:Int)):b.drop p.toNat=b.getD p.toNat 0::b.drop (p+1).toNat:=by
 rw[aj (show p.toNat<b.length by omega),dj (by omega),show(p+1).toNat=p.toNat+1 by omega]
theorem sI(d:Nat){n:Int}(h:n>127):dV (d+1) n=(n%128+128)::dV d (n/128):=by show(if n>127 then _ else _)=_;rw[bw h]
theorem ON(b:List Int)(hw:∀ x∈b,0≤x∧x≤255)(p:Int)(hp:0≤p)(hp2:p≤(b.length:Int))(v q:Int):∀ (d k:Nat) (n:Int),k+d=9→0≤n→n<128 ^ k→er b p d n k=(v,q,true) →
  ∃ w,0≤w∧v=n+w*128 ^ k∧p+k<q∧q≤(b.length:Int)∧(b.drop (p+k).toNat).take (q-(p+k)).toNat=dV (d-1) w∧(0<k→0<w):=by
 intro d
 induction d with
 | zero=>intro k n hd h0 h1 h;simp[er]at h
 | succ d ih =>
  intro k n hd h0 h1 h
  unfold er at h
  by_cases hlt:p+k<(b.length:Int)
  ·rw[bw hlt]at h
   dsimp only at h
   have hx:=vw hw (show 0≤p+k by omega) hlt
   have hdr:=N6 (b:=b) (p:=p+k) (by omega) hlt
   generalize b.getD (p+k).toNat 0=x at h hx hdr
   rw[sE h0 h1 (by omega) (by omega) (by omega)]at h
   by_cases h2:127<x
   ·rw[bw h2]at h
    have hpow:(0:Int)<128 ^ k:=Int.pow_pos (by omega)
    have hps:(128:Int) ^ (k+1)=128 ^ k*128:=Int.pow_succ ..
    obtain⟨w,w0,e1,e2,e3,e4,e5⟩:=ih (k+1) (n+x%128*128 ^ k) (by omega) (Int.add_nonneg h0 (Int.mul_nonneg (by omega) (by omega))) (by
     have:x%128*128 ^ k≤127*128 ^ k:=Int.mul_le_mul_of_nonneg_right (by omega) (by omega)
     rw[hps];omega) (by rw[show((k+1:Nat):Int)=(k:Int)+1 by omega];exact h)
    have w5:=e5 (by omega)
    rw[show p+((k+1:Nat):Int)=p+k+1 by omega]at e2 e4
    refine⟨x%128+128*w,by omega,?_,by omega,e3,?_,fun _=>by omega⟩
    ·rw[e1,hps,Int.add_mul,Int.add_assoc,Int.mul_assoc 128 w,Int.mul_comm 128 (w*128 ^ k),Int.mul_assoc w]
    ·rw[hdr,show(q-(p+k)).toNat=(q-(p+k+1)).toNat+1 by omega,List.take_succ_cons,e4]
     cases d with
     | zero=>simp[er]at h
     | succ d =>
      show _=dV (d+1) _
      rw[sI _ (by omega),show(x%128+128*w)%128+128=x by omega,show(x%128+128*w)/128=w by omega]
      rfl
   ·rw[bz h2]at h
    by_cases h3:(x=0∧(0:Int)<k)∨¬ (0≤n+x%128*128 ^ k∧n+x%128*128 ^ k≤4611686018427387903)
    ·rw[bw h3]at h;simp at h
    ·rw[bz h3]at h
     simp only[Prod.mk.injEq,and_true]at h
     obtain⟨e1,e2⟩:=h
     have hxm:x%128=x:=by omega
     refine⟨x,hx.1,by rw[← e1,hxm],by omega,by omega,?_,fun hk=>by omega⟩
     rw[hdr,show(q-(p+k)).toNat=0+1 by omega,List.take_succ_cons,List.take_zero]
     cases d with
     | zero=>show _=[x%256];rw[show x%256=x by omega]
     | succ d =>
      show _=dV (d+1) x
      unfold dV
      rw[aq,show x%256=x by omega]
  ·rw[bz hlt]at h;simp at h
theorem xz(b:List Int)(hw:∀ x∈b,0≤x∧x≤255)(p v q:Int)(h:cU b p=(v,q,true)):0≤p∧p<q∧q≤(b.length:Int)∧b.take q.toNat=b.take p.toNat++cz v∧0≤v∧v≤4611686018427387903:=by
 have hbd:=nw b p
 unfold cU at h hbd
 by_cases hc:0≤p∧p≤(b.length:Int)
 ·rw[bw hc]at h hbd
  rw[h]at hbd
  obtain⟨w,w0,e1,e2,e3,e4,_⟩:=ON b hw p hc.1 hc.2 v q 9 0 0 rfl (by omega) (by simp) h
  have ev:v=w:=by rw[e1];simp
  have hv:0≤v∧v≤4611686018427387903:=⟨hbd.1,hbd.2.1⟩
  refine⟨hc.1,by omega,e3,?_,hv.1,hv.2⟩
  have e4':(b.drop p.toNat).take (q-p).toNat=dV 8 w:=by simpa using e4
  have ep:cz v=dV 8 w:=by unfold cz;rw[bw hv,ev]
  rw[ep,← e4',show q.toNat=p.toNat+(q-p).toNat by omega,List.take_add]
 ·rw[bz hc]at h;simp at h
def Bytes(b:List Int):Prop:=∀ x∈b,0≤x∧x≤255
def ew(b:List Int)(p:Int):List Int×Int×Bool :=
 if(cU b p).2.2=true∧(cU b p).1≤(b.length:Int)-(cU b p).2.1 then((b.drop (cU b p).2.1.toNat).take (cU b p).1.toNat,(cU b p).2.1+(cU b p).1,true) else([],0,false)
def trT(x:List Int×Int×Bool):List Int×Int×Bool×Unit:=(x.1,x.2.1,x.2.2,())
theorem LA(b:List Int)(g:Int×Int×Bool)(h1:0≤g.1)(h2:g.1≤4611686018427387903)(h3:0≤g.2.1)(h4:g.2.1≤(b.length:Int))(hb:b.length≤1048576) :
  (if(!g.2.2)=true then some (([]:List Int),(0:Int),false,())else if(decide (g.1>w64 ((b.length:Int)-g.2.1)))=true then some ([],0,false,()) else
   if(0:Int)≤g.2.1∧g.2.1≤w64 (g.2.1+g.1)∧w64 (g.2.1+g.1)≤(b.length:Int)then some (List.take ((w64 (g.2.1+g.1)).toNat-g.2.1.toNat) (List.drop g.2.1.toNat b),w64 (g.2.1+g.1),true,())else none) =
  some (trT (if g.2.2=true∧g.1≤(b.length:Int)-g.2.1 then((b.drop g.2.1.toNat).take g.1.toNat,g.2.1+g.1,true) else([],0,false))):=by
 obtain⟨n,q,ok⟩:=g
 dsimp only at *
 cases ok with
 | false=>simp[trT]
 | true =>
  rw[aw (n:=(b.length:Int)-q),aw (n:=q+n)]
  simp only[Bool.not_true,Bool.false_eq_true,if_false,true_and,ab]
  by_cases h:n>(b.length:Int)-q
  ·rw[bw h,aq];rfl
  ·rw[bz h,ap,ap,show(q+n).toNat-q.toNat=n.toNat by omega];rfl
theorem yF(b:List Int)(hb:b.length≤1048576)(hw:Bytes b)(p:Int)(hp:-9223372036854775808≤p∧p≤9223372036854775807):yE b p=some (trT (ew b p)):=by
 obtain⟨h1,h2,h3,h4⟩:=nw b p
 rw[VY,qr b hb hw p hp,aa]
 exact LA b (cU b p) h1 h2 h3 h4 hb
theorem wm(b:List Int)(hb:b.length≤1048576)(hw:Bytes b)(p:Int):wl b p=some (trT (ew b p)):=by
 obtain⟨h1,h2,h3,h4⟩:=nw b p
 rw[O4,pp b hb hw p,aa]
 exact LA b (cU b p) h1 h2 h3 h4 hb
theorem YX(b:List Int)(hw:Bytes b)(p q:Int)(t:List Int)(h:ew b p=(t,q,true)):0≤p∧p<q∧q≤(b.length:Int)∧b.take q.toNat=b.take p.toNat++dA t∧t.length≤b.length:=by
 unfold ew at h
 have hbd:=nw b p
 cases hg:cU b p with | mk n mo =>
 obtain⟨m,ok⟩:=mo
 rw[hg]at h hbd
 dsimp only at h hbd
 by_cases hc:ok=true∧n≤(b.length:Int)-m
 ·obtain⟨rfl,hc2⟩:=hc
  rw[bw ⟨rfl,hc2⟩]at h
  simp only[Prod.mk.injEq,and_true]at h
  obtain⟨rfl,rfl⟩:=h
  obtain⟨c1,c2,c3,c4,c5,c6⟩:=xz b hw p n m hg
  have hl:((b.drop m.toNat).take n.toNat).length=n.toNat:=by rw[aU,aV];omega
  refine⟨c1,by omega,by omega,?_,by rw[hl];omega⟩
  rw[show(m+n).toNat=m.toNat+n.toNat by omega,List.take_add,c4,ai]
  unfold dA
  rw[hl,show((n.toNat:Nat):Int)=n by omega]
 ·rw[bz hc]at h;simp at h
theorem vP{b r:List Int}{n:Nat}{x:Int}(h:b.drop n=x::r):n<b.length∧b.getD n 0=x∧b.drop (n+1)=r:=by
 have hl:n<b.length:=by
  have:=congrArg List.length h
  rw[aV]at this
  simp only[aW]at this
  omega
 rw[aj hl]at h
 simp only[List.cons.injEq]at h
 exact⟨hl,by rw[dj hl];exact h.1,h.2⟩
theorem OO(b:List Int)(p:Int)(hp:0≤p):∀ (d k:Nat) (acc w:Int) (rest:List Int),k+d=8→b.drop (p+k).toNat=dV d w++rest→0≤w→w<128 ^ (d+1)→0≤acc→acc<128 ^ k→(0<k→0<w)→acc+w*128 ^ k≤4611686018427387903 →
  er b p (d+1) acc k=(acc+w*128 ^ k,p+k+(dV d w).length,true):=by
 intro d
 induction d with
 | zero =>
  intro k acc w rest hd hb w0 w1 a0 a1 hk hm
  have w1':w<128:=by simpa using w1
  have hb':b.drop (p+k).toNat=(w%256)::rest:=hb
  obtain⟨g1,g2,g3⟩:=vP hb'
  rw[show w%256=w by omega]at g2
  unfold er
  have hpow:(0:Int)≤w*128 ^ k:=Int.mul_nonneg w0 (Int.le_of_lt (Int.pow_pos (by omega)))
  rw[ap,g2]
  dsimp only
  rw[show w%128=w by omega,sE a0 a1 w0 w1' (by omega),aq,bz (by rintro (h | h) <;> omega)]
  rfl
 | succ d ih =>
  intro k acc w rest hd hb w0 w1 a0 a1 hk hm
  by_cases h:w>127
  ·rw[sI d h]at hb
   obtain⟨g1,g2,g3⟩:=vP hb
   have hpow:(0:Int)<128 ^ k:=Int.pow_pos (by omega)
   have hps:(128:Int) ^ (k+1)=128 ^ k*128:=Int.pow_succ ..
   have hwd:w*128 ^ k=w%128*128 ^ k+w/128*(128 ^ k*128):=by
    have e:w=w%128+128*(w/128):=by omega
    have e2:w*128 ^ k=(w%128+128*(w/128))*128 ^ k:=by rw[← e]
    rw[e2,Int.add_mul,Int.mul_comm (128 ^ k) 128,← Int.mul_assoc,Int.mul_comm 128 (w/128)]
   have hmm:w%128*128 ^ k≤127*128 ^ k:=Int.mul_le_mul_of_nonneg_right (by omega) (by omega)
   have hnn:0≤w%128*128 ^ k:=Int.mul_nonneg (by omega) (by omega)
   have e:=ih (k+1) (acc+w%128*128 ^ k) (w/128) rest (by omega) (by rw[show(p+((k+1:Nat):Int)).toNat=(p+k).toNat+1 by omega];exact g3) (by omega) (by rw[Int.pow_succ]at w1;omega) (by omega) (by rw[hps];omega) (fun _=>by omega) (by rw[hps];omega)
   have hp2:dV (d+1) w=(w%128+128)::dV d (w/128):=sI d h
   rw[er,ap,g2]
   dsimp only
   rw[show(w%128+128)%128=w%128 by omega,sE a0 a1 (by omega) (by omega) (by omega),ap,show(k:Int)+1=((k+1:Nat):Int) by omega,e,hp2,hps,Int.add_assoc,← hwd]
   simp only[aW,Prod.mk.injEq,and_true,true_and]
   omega
  ·have hp2:dV (d+1) w=[w%256]:=by show(if w>127 then _ else _)=_;rw[bz h]
   rw[hp2]at hb
   obtain⟨g1,g2,g3⟩:=vP hb
   rw[show w%256=w by omega]at g2
   have hpow:(0:Int)≤w*128 ^ k:=Int.mul_nonneg w0 (Int.le_of_lt (Int.pow_pos (by omega)))
   rw[er,ap,g2]
   dsimp only
   rw[show w%128=w by omega,sE a0 a1 w0 (by omega) (by omega),aq,bz (by rintro (h | h) <;> omega),hp2]
   rfl
theorem U3(d:Nat):∀ n:Int,0≤n→∀ x∈dV d n,0≤x∧x≤255:=by
 induction d with
 | zero=>intro n h x hx;rw[aN.1 (show x∈[n%256]from hx)];omega
 | succ d ih =>
  intro n h x hx
  by_cases hb:n>127
  ·rw[sI d hb]at hx
   rcases aO.1 hx with rfl | hx
   ·omega
   ·exact ih _ (by omega) x hx
  ·have hp2:dV (d+1) n=[n%256]:=by show(if n>127 then _ else _)=_;rw[bz hb]
   rw[hp2]at hx
   rw[aN.1 hx];omega
theorem U2(n:Int):Bytes (cz n):=by
 unfold cz
 split
 ·rename_i h;exact U3 8 n h.1
 ·intro x hx;cases hx
def zig(n:Int):Int:=if n<0 then -2*n-1 else 2*n
def zag(n:Int):Int:=if n%2=1 then -(n/2)-1 else n/2
def InZ(n:Int):Prop:=-2305843009213693951≤n∧n≤2305843009213693951
instance (n:Int):Decidable (InZ n):=inferInstanceAs (Decidable (_∧_))
def eI(n:Int):List Int:=if InZ n then cz (zig n)else []
theorem Pm(n:Int):wy n=some (eI n,()):=by
 rw[Pl,fT,aa]
 unfold eI
 by_cases h:InZ n
 ·have hh:=h
  unfold InZ at hh
  rw[bw h,bz (by simp[hh])]
  unfold zig
  by_cases h2:n<0
  ·rw[am h2,bw h2,aw (n:=-2*n),aw,iU];rfl
  ·rw[al h2,bz h2,aw,iU];rfl
 ·have hh:=h
  unfold InZ at hh
  rw[bz h,bw (by simp[hh])]
theorem Wh(n:Int):yO n=some (eI n,()):=by
 rw[Wg,eJ,aa]
 unfold eI
 by_cases h:InZ n
 ·have hh:=h
  unfold InZ at hh
  rw[bw h,bz (by simp[hh])]
  unfold zig
  by_cases h2:n<0
  ·rw[am h2,bw h2,aw (n:=-2*n),aw,i9];rfl
  ·rw[al h2,bz h2,aw,i9];rfl
 ·have hh:=h
  unfold InZ at hh
  rw[bz h,bw (by simp[hh])]
def dH(b:List Int)(p:Int):Int×Int×Bool :=
 if(cU b p).2.2=true∧InZ (zag (cU b p).1) then(zag (cU b p).1,(cU b p).2.1,true) else(0,0,false)
theorem PD(q:Int)(ok:Bool)(v:Int):rN q ok v=some (tr3 (if ok=true∧InZ v then(v,q,true) else(0,0,false))):=by
 rw[O0]
 cases ok with
 | false=>rfl
 | true =>
  rw[bz (by simp),fT,aa]
  by_cases h:InZ v
  ·have hh:=h
   unfold InZ at hh
   rw[ac hh,bz (by simp),bw ⟨rfl,h⟩];rfl
  ·have hh:=h
   unfold InZ at hh
   rw[af hh,bw (by simp),bz (fun x=>h x.2)];rfl
theorem WF(q v:Int):ta q v=some (tr3 (if true=true∧InZ v then(v,q,true) else(0,0,false))):=by
 rw[VT,eJ,aa]
 by_cases h:InZ v
 ·have hh:=h
  unfold InZ at hh
  rw[ac hh,bz (by simp),bw ⟨rfl,h⟩];rfl
 ·have hh:=h
  unfold InZ at hh
  rw[af hh,bw (by simp),bz (fun x=>h x.2)];rfl
theorem rO(b:List Int)(hb:b.length≤1048576)(hw:Bytes b)(p:Int):wk b p=some (tr3 (dH b p)):=by
 obtain⟨h1,h2,h3,h4⟩:=nw b p
 rw[O1,pp b hb hw p,aa]
 unfold dH
 generalize cU b p=g at *
 obtain⟨n,q,ok⟩:=g
 simp only[tr3]at *
 simp only[Int.tmod_eq_emod_of_nonneg h1,bh h1,ab,PD,tr3]
 unfold zag
 by_cases h:n%2=1
 ·rw[bw h,bw h,aw (n:=n/2),aw (n:=n/2+1),aw,show 0-(n/2+1) = -(n/2)-1 by omega]
 ·rw[bz h,bz h,aw]
theorem yC(b:List Int)(hb:b.length≤1048576)(hw:Bytes b)(p:Int)(hp:-9223372036854775808≤p∧p≤9223372036854775807):yB b p=some (tr3 (dH b p)):=by
 obtain⟨h1,h2,h3,h4⟩:=nw b p
 rw[VU,qr b hb hw p hp,aa]
 unfold dH
 generalize cU b p=g at *
 obtain⟨n,q,ok⟩:=g
 simp only[tr3]at *
 cases ok with
 | false=>simp
 | true =>
  simp only[Int.tmod_eq_emod_of_nonneg h1,bh h1,ab,WF,tr3]
  rw[bz (by simp)]
  unfold zag
  by_cases h:n%2=1
  ·rw[bw h,bw h,aw (n:=n/2),aw,show -1-n/2 = -(n/2)-1 by omega]
  ·rw[bz h,bz h,aw]
theorem Qf(b:List Int)(hw:Bytes b)(p v q:Int)(h:dH b p=(v,q,true)):0≤p∧p<q∧q≤(b.length:Int)∧b.take q.toNat=b.take p.toNat++eI v:=by
 unfold dH at h
 cases hg:cU b p with | mk n mo =>
 obtain⟨m,ok⟩:=mo
 rw[hg]at h
 dsimp only at h
 by_cases hc:ok=true∧InZ (zag n)
 ·obtain⟨rfl,hz⟩:=hc
  rw[bw ⟨rfl,hz⟩]at h
  simp only[Prod.mk.injEq,and_true]at h
  obtain⟨rfl,rfl⟩:=h
  obtain⟨c1,c2,c3,c4,c5,c6⟩:=xz b hw p n m hg
  refine⟨c1,c2,c3,?_⟩
  have hzz:zig (zag n)=n:=by
   unfold zag
   by_cases h2:n%2=1
   ·rw[bw h2];unfold zig;rw[ap];omega
   ·rw[bz h2];unfold zig;rw[aq];omega
  unfold eI
  rw[bw hz,hzz];exact c4
 ·rw[bz hc]at h;simp at h
theorem nq{α β ρ:Type}(F:β→Int→Option ρ)(g:β→α→β)(l:List α)(P:Nat→β→Prop)
  (step:∀ (i:Nat) (h:i<l.length) (acc:β),P i acc→F acc i=F (g acc l[i]) ((i+1:Nat):Int)∧P (i+1) (g acc l[i])) (acc:β) (h0:P 0 acc) :
  F acc 0=F (l.foldl g acc) (l.length:Int)∧P l.length (l.foldl g acc):=by
 have key:∀ (d i:Nat) (acc:β),i+d=l.length→P i acc→F acc i=F ((l.drop i).foldl g acc) (l.length:Int)∧P l.length ((l.drop i).foldl g acc):=by
  intro d
  induction d with
  | zero =>
   intro i acc hd hp
   have hi:i=l.length:=by omega
   subst hi
   rw[List.drop_length];exact⟨rfl,hp⟩
  | succ d ih =>
   intro i acc hd hp
   have hi:i<l.length:=by omega
   obtain⟨e1,e2⟩:=step i hi acc hp
   rw[e1,aj hi,List.foldl_cons]
   exact ih (i+1) _ (by omega) e2
 exact key l.length 0 acc (by omega) h0
theorem xN(n:Int):(eI n).length≤9:=by
 unfold eI
 split
 ·exact eS _
 ·simp
def dW(v:bL):List Int:=(cz v.Kind++eI v.N)++dA v.S
theorem oD(v:bL):(dW v).length≤27+v.S.length:=by
 unfold dW
 have h1:=eS v.Kind
 have h2:=xN v.N
 have h3:=jO v.S
 rw[ah,ah];omega
theorem eZ{α:Type}(a b:List α):(List.append a b).length=a.length+b.length:=ah
theorem KF(v:bL)(h:v.S.length≤2097152):tY v=some (dW v,()):=by
 have h1:=eS v.Kind
 have h2:=xN v.N
 have h3:=jO v.S
 rw[XF,i9,Wh,yP _ (by omega),aa,aa]
 dsimp only
 rw[bw (by rw[ce];omega),aa,bw (by rw[ce,eZ];dsimp only;omega)]
 rfl
theorem H0(out:List Int)(v:bL)(ho:out.length≤2000000000)(h:v.S.length≤2097152):sa out v=some (out++dW v,()):=by
 have h1:=eS v.Kind
 have h2:=xN v.N
 have h3:=jO v.S
 rw[PY,iU,Pm,wz _ (by omega),aa,aa]
 dsimp only
 rw[bw (by rw[ce];omega),bw (by rw[ce,eZ];omega),aa,bw (by rw[ce,eZ,eZ];dsimp only;omega)]
 unfold dW
 rw[← ai,← ai]
 rfl
def ib(a:List Int)(v:bL):List Int:=a++dW v
def gn(a:List Int)(c:bA):List Int:=((a++cz c.Name)++dA c.Key)++dW c.Val
def jr(a:List Int)(n:Int):List Int:=a++cz n
def gr(m:bC):List Int:=m.State.Vars.foldl ib (cz (m.State.Vars.length:Int))++cz (m.State.Cells.length:Int)
def gq(m:bC):List Int:=((m.State.Cells.foldl gn (gr m))++cz m.State.Nr)++cz m.State.Err
def eQ(m:bC):List Int:=m.Done.foldl jr (gq m)++dA m.Out
def lF(m:bC):Prop :=
 m.State.Vars.length≤8∧(∀ v∈m.State.Vars,v.S.length≤300)∧m.State.Cells.length≤40∧(∀ c∈m.State.Cells,c.Key.length≤300∧c.Val.S.length≤300)∧m.Done.length=3∧m.Out.length≤1500
theorem and_iff'{a b:Bool}:(a&&b)=true↔a=true∧b=true:=by cases a <;> cases b <;> simp
theorem EU{v:bL}(h:dL v=true):v.S.length≤300:=by
 unfold dL at h
 have h1:=(and_iff'.1 (and_iff'.1 h).1).2
 by_cases c:(v.S.length:Int)>300
 ·rw[ac c]at h1;cases h1
 ·omega
theorem IV{a:Bool}(h:(!a)=true):a=false:=by cases a with
 | true=>cases h
 | false=>rfl
theorem MG{α:Type}{l:List α}{p:α→Bool}(h:l.any p=false):∀ x∈l,p x=false:=by
 intro x hx
 cases e:p x with
 | false=>rfl
 | true =>
  have:l.any p=true:=List.any_eq_true.2 ⟨x,hx,e⟩
  rw[h]at this;cases this
theorem YH{s:bJ}{v c:Int}(h:hJ s v c=true):(s.Vars.length:Int)=v∧(∀ x∈s.Vars,dL x=true)∧s.Cells.length≤40∧(∀ x∈s.Cells,x.Key.length≤300∧dL x.Val=true∧0≤x.Name∧x.Name<c)∧(0≤s.Nr∧s.Nr≤1000000)∧(0≤s.Err∧s.Err≤7):=by
 unfold hJ at h
 obtain⟨a1,h⟩:=and_iff'.1 h
 obtain⟨a2,h⟩:=and_iff'.1 h
 obtain⟨a3,h⟩:=and_iff'.1 h
 obtain⟨a4,h⟩:=and_iff'.1 h
 obtain⟨a5,a6⟩:=and_iff'.1 h
 have a3':=of_decide_eq_true a3
 refine⟨of_decide_eq_true a1,fun x hx=>?_,by omega,fun x hx=>?_,of_decide_eq_true a4,of_decide_eq_true a5⟩
 ·have:=MG (IV a2) x hx
  cases e:dL x with
  | true=>rfl
  | false=>rw[e]at this;cases this
 ·obtain⟨i,hi,rfl⟩:=bq.1 hx
  have:=anyB_false.1 (IV a6) i hi
  unfold iQ at this
  rw[dj hi,Bool.or_eq_false_iff,Bool.or_eq_false_iff,Bool.or_eq_false_iff,Bool.or_eq_false_iff]at this
  obtain⟨b1,b2,b3,b4,_⟩:=this
  have b1':=of_decide_eq_false b1
  have b2':=of_decide_eq_false b2
  have b3':=of_decide_eq_false b3
  refine⟨by omega,?_,by omega,by omega⟩
  cases e:dL s.Cells[i].Val with
  | true=>rfl
  | false=>rw[e]at b4;cases b4
theorem mi{p:bG}{m:bC}(h:eH p m=true):lF m:=by
 unfold eH at h
 obtain⟨h1,h⟩:=and_iff'.1 h
 obtain⟨h2,h⟩:=and_iff'.1 h
 obtain⟨h3,h⟩:=and_iff'.1 h
 obtain⟨h4,h5⟩:=and_iff'.1 h
 obtain⟨s1,s2,s3,s4,s5⟩:=YH h2
 unfold iZ kM at h1
 have hv:=of_decide_eq_true (and_iff'.1 (and_iff'.1 h1).1).2
 have h3':=of_decide_eq_true h3
 have h5':=of_decide_eq_true h5
 exact⟨by omega,fun v hv=>EU (s2 v hv),s3,fun c hc=>⟨(s4 c hc).1,EU (s4 c hc).2.1⟩,by omega,by omega⟩
theorem OC(l:List bL)(h:∀ v∈l,v.S.length≤300):∀ acc:List Int,(l.foldl ib acc).length≤acc.length+327*l.length:=by
 induction l with
 | nil=>intro acc;simp
 | cons v l ih =>
  intro acc
  have h1:=ih (fun x hx=>h x (aI _ hx)) (ib acc v)
  have h2:=oD v
  have h3:=h v (aH ..)
  have h4:(ib acc v).length=acc.length+(dW v).length:=by unfold ib;rw[ah]
  rw[List.foldl_cons,aW];omega
theorem vj(a:List Int)(c:bA)(h:c.Key.length≤300∧c.Val.S.length≤300):(gn a c).length≤a.length+645:=by
 unfold gn
 have h1:=eS c.Name
 have h2:=jO c.Key
 have h3:=oD c.Val
 rw[ah,ah,ah];omega
theorem OB(l:List bA)(h:∀ c∈l,c.Key.length≤300∧c.Val.S.length≤300):∀ acc:List Int,(l.foldl gn acc).length≤acc.length+645*l.length:=by
 induction l with
 | nil=>intro acc;simp
 | cons v l ih =>
  intro acc
  have h1:=ih (fun x hx=>h x (aI _ hx)) (gn acc v)
  have h2:=vj acc v (h v (aH ..))
  rw[List.foldl_cons,aW];omega
theorem wa(l:List Int):∀ acc:List Int,(l.foldl jr acc).length≤acc.length+9*l.length:=by
 induction l with
 | nil=>intro acc;simp
 | cons v l ih =>
  intro acc
  have h1:=ih (jr acc v)
  have h2:=eS v
  have h4:(jr acc v).length=acc.length+(cz v).length:=by unfold jr;rw[ah]
  rw[List.foldl_cons,aW];omega
theorem vy{m:bC}(h:lF m):(gr m).length≤2700:=by
 obtain⟨h1,h2,h3,h4,h5,h6⟩:=h
 unfold gr
 have a1:=OC _ h2 (cz (m.State.Vars.length:Int))
 have a2:=eS (m.State.Vars.length:Int)
 have a3:=eS (m.State.Cells.length:Int)
 rw[ah];omega
theorem vx{m:bC}(h:lF m):(gq m).length≤28600:=by
 have hv:=vy h
 obtain⟨h1,h2,h3,h4,h5,h6⟩:=h
 unfold gq
 have a1:=OB _ h4 (gr m)
 have a2:=eS m.State.Nr
 have a3:=eS m.State.Err
 rw[ah,ah];omega
theorem XD(m:bC)(h:lF m):zX m=some (eQ m,()):=by
 have hv:=vy h
 have hc:=vx h
 obtain⟨h1,h2,h3,h4,h5,h6⟩:=h
 rw[XC,i9,aa]
 dsimp only
 have a2:=eS (m.State.Vars.length:Int)
 obtain⟨f1,_⟩:=nq (fun acc i=>oq acc i m m.State) ib m.State.Vars (fun i acc=>acc.length≤9+400*i) (fun i hi acc hp=>by
  have hS:=h2 _ (aZ hi)
  have hv:=oD m.State.Vars[i]
  refine⟨?_,by show(acc++dW m.State.Vars[i]).length≤_;rw[ah];omega⟩
  show oq acc i m m.State=oq _ _ m m.State
  rw[KB,au,ap,cX hi,KF _ (by omega),aa,bw (by rw[ce];dsimp only;omega),cF hi (by omega)]
  rfl) (cz (m.State.Vars.length:Int)) (by omega)
 rw[f1,KB,bz (by simp),i9,aa]
 dsimp only
 have e1:List.append (m.State.Vars.foldl ib (cz (m.State.Vars.length:Int))) (cz (m.State.Cells.length:Int))=gr m:=rfl
 rw[bw (by have:=congrArg List.length e1;rw[eZ]at this;rw[ce];omega),e1]
 obtain⟨f2,_⟩:=nq (fun acc i=>ot acc i m m.State) gn m.State.Cells (fun i acc=>acc.length≤2700+700*i) (fun i hi acc hp=>by
  have hS:=h4 _ (aZ hi)
  have hp':acc.length≤2700+700*i:=hp
  refine⟨?_,Nat.le_trans (vj acc _ hS) (by omega)⟩
  show ot acc i m m.State=ot _ _ m m.State
  have q1:=eS m.State.Cells[i].Name
  have q2:=jO m.State.Cells[i].Key
  have q3:=oD m.State.Cells[i].Val
  have hb:(0:Int)≤(i:Int)∧(i:Int)<(m.State.Cells.length:Int):=by omega
  rw[KC,au,cX hi]
  simp only[bw hb]
  rw[i9,aa,bw (by rw[ce];dsimp only;omega),yP _ (by omega),aa,bw (by rw[ce,eZ];dsimp only;omega),KF _ (by omega),aa,bw (by rw[ce,eZ,eZ];dsimp only;omega),cF hi (by omega)]
  rfl) (gr m) (by omega)
 rw[f2,KC,bz (by simp),i9,aa]
 dsimp only
 have e2:List.append (List.append (m.State.Cells.foldl gn (gr m)) (cz m.State.Nr)) (cz m.State.Err)=gq m:=rfl
 have e2l:=congrArg List.length e2
 rw[eZ,eZ]at e2l
 rw[bw (by rw[ce];omega),i9,aa]
 dsimp only
 rw[bw (by rw[ce,eZ];omega),e2]
 obtain⟨f3,_⟩:=nq (fun acc i=>ou acc i m) jr m.Done (fun i acc=>acc.length≤28600+9*i) (fun i hi acc hp=>by
  have q1:=eS m.Done[i]
  refine⟨?_,by show(acc++cz m.Done[i]).length≤_;rw[ah];omega⟩
  show ou acc i m=ou _ _ m
  rw[KD,au,ap,cX hi,i9,aa,bw (by rw[ce];dsimp only;omega),cF hi (by omega)]
  rfl) (gq m) (by omega)
 have q4:=jO m.Out
 have q5:=wa m.Done (gq m)
 rw[f3,KD,bz (by simp),yP _ (by omega),aa,bw (by rw[ce];dsimp only;omega)]
 rfl
theorem IC{m:bC}(h:lF m):(eQ m).length≤30200:=by
 have hc:=vx h
 obtain⟨h1,h2,h3,h4,h5,h6⟩:=h
 unfold eQ
 have q4:=jO m.Out
 have q5:=wa m.Done (gq m)
 rw[ah];omega
theorem Pw(m:bC)(h:lF m):lU (cz (m.State.Vars.length:Int)) m.State.Vars (m.State.Vars.length:Int) 0 m=some (eQ m,()):=by
 have hv:=vy h
 have hc:=vx h
 obtain⟨h1,h2,h3,h4,h5,h6⟩:=h
 have a2:=eS (m.State.Vars.length:Int)
 obtain⟨f1,_⟩:=nq (fun acc i=>lU acc m.State.Vars (m.State.Vars.length:Int) i m) ib m.State.Vars (fun i acc=>acc.length≤9+400*i) (fun i hi acc hp=>by
  have hS:=h2 _ (aZ hi)
  have hv:=oD m.State.Vars[i]
  refine⟨?_,by show(acc++dW m.State.Vars[i]).length≤_;rw[ah];omega⟩
  show lU acc m.State.Vars _ i m=lU _ _ _ _ m
  rw[HD,au,ap,cX hi,H0 _ _ (by omega) (by omega),aa,cF hi (by omega)]
  rfl) (cz (m.State.Vars.length:Int)) (by omega)
 rw[f1,HD,bz (by simp),iU,aa]
 dsimp only
 have e1:List.append (m.State.Vars.foldl ib (cz (m.State.Vars.length:Int))) (cz (m.State.Cells.length:Int))=gr m:=rfl
 rw[bw (by have:=congrArg List.length e1;rw[eZ]at this;rw[ce];omega),e1]
 obtain⟨f2,_⟩:=nq (fun acc i=>nx acc m.State.Cells (m.State.Cells.length:Int) i m) gn m.State.Cells (fun i acc=>acc.length≤2700+700*i) (fun i hi acc hp=>by
  have hS:=h4 _ (aZ hi)
  have hp':acc.length≤2700+700*i:=hp
  refine⟨?_,Nat.le_trans (vj acc _ hS) (by omega)⟩
  show nx acc m.State.Cells _ i m=nx _ _ _ _ m
  have q1:=eS m.State.Cells[i].Name
  have q2:=jO m.State.Cells[i].Key
  have q3:=oD m.State.Cells[i].Val
  rw[HE,au,ap,cX hi,iU,aa,bw (by rw[ce];dsimp only;omega),wz _ (by omega),aa,bw (by rw[ce,eZ];dsimp only;omega),H0 _ _ (by rw[eZ,eZ];dsimp only;omega) (by omega),aa,cF hi (by omega)]
  rfl) (gr m) (by omega)
 rw[f2,HE,bz (by simp),iU,aa]
 dsimp only
 have e2:List.append (List.append (m.State.Cells.foldl gn (gr m)) (cz m.State.Nr)) (cz m.State.Err)=gq m:=rfl
 have e2l:=congrArg List.length e2
 rw[eZ,eZ]at e2l
 rw[bw (by rw[ce];omega),iU,aa]
 dsimp only
 rw[bw (by rw[ce,eZ];omega),e2]
 obtain⟨f3,_⟩:=nq (fun acc i=>ny acc m.Done (m.Done.length:Int) i m) jr m.Done (fun i acc=>acc.length≤28600+9*i) (fun i hi acc hp=>by
  have q1:=eS m.Done[i]
  refine⟨?_,by show(acc++cz m.Done[i]).length≤_;rw[ah];omega⟩
  show ny acc m.Done _ i m=ny _ _ _ _ m
  rw[HF,au,ap,cX hi,iU,aa,bw (by rw[ce];dsimp only;omega),cF hi (by omega)]
  rfl) (gq m) (by omega)
 have q4:=jO m.Out
 have q5:=wa m.Done (gq m)
 rw[f3,HF,bz (by simp),wz _ (by omega),aa,bw (by rw[ce];dsimp only;omega)]
 rfl
noncomputable def gy(p:bG)(m:bC):List Int:=if eH p m=true then eQ m else []
theorem HG(p:bG)(m:bC)(hp:gi p)(hm:lA m):pt p m=some (gy p m,()):=by
 rw[Pc,kE p m hp hm.1 hm.2.1,aa]
 dsimp only
 unfold gy
 cases h:eH p m with
 | false=>rfl
 | true =>
  have hf:=mi h
  rw[bz (c:=(!true)=true) (by simp),bw (c:=true=true) rfl,iU,aa]
  exact Pw m hf
theorem J4(p:bG)(m:bC)(hp:gi p)(hm:lA m):tk p m=some (gy p m,()):=by
 rw[V7,yI p m hp hm.1 hm.2.1,aa]
 dsimp only
 unfold gy
 cases h:eH p m with
 | false=>rfl
 | true =>
  have hf:=mi h
  rw[bz (c:=(!true)=true) (by simp),bw (c:=true=true) rfl,XD m hf,aa]
theorem Gv{l:List bF}(hl:l.length≤1000)(at_:List Int)(hat:at_.length≤1000000)(b e:Bool):Tot (qn l at_ b e) (fun y=>y.1.length≤1000∧∀ x∈y.1,0≤x∧x<(l.length:Int)):=by
 obtain⟨f,e4,_⟩:=Wz hl at_ hat b e
 refine te e4 ⟨Nat.le_trans (TZ _ _ _) hl,fun x hx=>?_⟩
 obtain⟨i,rfl,h1,h2,_⟩:=marks_mem.1 hx
 omega
theorem T7(l:List bF)(hl:l.length≤1000):Tot (yM l) (fun _=>True):=by
 have key:∀ (d i:Nat),i+d=l.length→Tot (tq l (l.length:Int) (i:Int)) (fun _=>True):=by
  intro d
  induction d with
  | zero =>
   intro i hd
   rw[Kd,av,eJ,aa];exact ts trivial
  | succ d ih =>
   intro i hd
   have hi:i<l.length:=by omega
   rw[Kd,au,ap,Yo,aa,cF hi (by omega)]
   exact ti (fun _=>ts trivial) (fun _=>tc (by omega) (ti (fun _=>ts trivial) (fun _=>ih (i+1) (by omega))))
 rw[Wc];exact key l.length 0 (by omega)
theorem YU(p:bF)(c:Int)(hl:p.Set.length≤1000):Tot (As p c) (fun _=>True):=by
 rw[Yb]
 refine ti (fun _=>ts trivial) (fun _=>ti (fun _=>ts trivial) (fun _=>ti (fun _=>?_) (fun _=>ts trivial)))
 rw[Ya _ _ (by omega),aa];exact ts trivial
theorem T1{l:List bF}(hl:l.length≤1000)(hS:∀ p∈l,p.Set.length≤1000){s:List Int}(hs:s.length≤1000000)(p:Nat)(hp:p≤s.length):Tot (yJ l s (p:Int)) (fun _=>True):=by
 have L1:∀ (d p:Nat),p+d=s.length→∀ (m:List Int) (best:Int),m.length≤1000→(∀ x∈m,0≤x∧x<(l.length:Int))→Tot (tm l s m best (p:Int)) (fun _=>True):=by
  intro d
  induction d with
  | zero =>
   intro p hd m best hm hb
   have L2:∀ best,Tot (qt l s m best (p:Int)) (fun _=>True):=fun best=>by
    rw[J9,au];exact ts trivial
   rw[J8]
   refine ti (fun c=>?_) (fun _=>ts trivial)
   rw[ab]at c
   rw[aw (n:=(m.length:Int)-1)]
   exact tc (by omega) (ti (fun _=>L2 _) (fun _=>L2 _))
  | succ d ih =>
   intro p hd m best hm hb
   have hp:p<s.length:=by omega
   have L3:∀ (best:Int) (e i:Nat) (t:List Int),i+e=m.length→t.length≤i→Tot (qu l s m best (p:Int) t (i:Int)) (fun _=>True):=by
    intro best e
    induction e with
    | zero =>
     intro i t hi ht
     rw[Ka,av,cF hp (by omega)]
     exact tb (Gv hl t (by omega) _ _) (fun y hy=>ih (p+1) (by omega) y.1 best hy.1 hy.2)
    | succ e ihe =>
     intro i t hi ht
     have hi':i<m.length:=by omega
     have hv:=hb _ (aZ hi')
     have hvn:m[i].toNat<l.length:=by omega
     rw[Ka,au,ap,cX hi',ap,ap,dj hvn,cF hi' (by omega)]
     exact tb (YU _ _ (hS _ (aZ hvn))) (fun y _=>ti (fun _=>tc (by omega) (tc (by rw[ce];omega) (ihe (i+1) _ (by omega) (by show(t++[_]).length≤_;rw[ah,bo];omega)))) (fun _=>ihe (i+1) t (by omega) (by omega)))
   have L2:∀ best,Tot (qt l s m best (p:Int)) (fun _=>True):=fun best=>by
    rw[J9,av]
    exact L3 best m.length 0 [] (by omega) (by simp)
   rw[J8]
   refine ti (fun c=>?_) (fun _=>ts trivial)
   rw[ab]at c
   rw[aw (n:=(m.length:Int)-1)]
   exact tc (by omega) (ti (fun _=>L2 _) (fun _=>L2 _))
 rw[V9]
 refine tb (T7 l hl) (fun _ _=>ti (fun _=>ts trivial) (fun _=>?_))
 rw[eJ,aa]
 exact ti (fun _=>ts trivial) (fun _=>tb (Gv hl [0] (by simp) _ _) (fun y hy=>L1 (s.length-p) p (by omega) y.1 (-1) hy.1 hy.2))
def vg(pat:List Int):Prop:=∃ r ok l,s_RexParse pat=some (r,ok,())∧s_NfaOf r=some (l,())∧l.length≤1000∧∀ p∈l,p.Set.length≤1000
theorem G8{pat:List Int}(hp:vg pat)(s:List Int)(hs:s.length≤1000):Tot (tJ pat s) (fun y=>VW y.1):=by
 obtain⟨r,ok,l,e1,e2,hl,hS⟩:=hp
 have key:∀ (d p:Nat),p+d=s.length+1→Tot (tp l s (p:Int)) (fun _=>True):=by
  intro d
  induction d with
  | zero =>
   intro p hd
   rw[Kc,av];exact ts trivial
  | succ d ih =>
   intro p hd
   rw[Kc,au,aw (n:=(p:Int)+1)]
   exact tb (T1 hl hS (by omega) p (by omega)) (fun _ _=>ti (fun _=>ts trivial) (fun _=>ih (p+1) (by omega)))
 rw[WU,e1,aa]
 dsimp only
 rw[Wa,e2,aa]
 dsimp only
 rw[Wb]
 exact tb (P:=fun _=>True) (tb (key (s.length+1) 0 (by omega)) (fun _ _=>ts trivial)) (fun(y:Bool×Unit) _=>tb (uC _) (fun _ h=>ts h))
structure OpW (nv len at_:Int) (o:bE):Prop where
 code:1≤o.Code∧o.Code≤36
 text:TW o.S
 var:(o.Code=3∨o.Code=4∨o.Code=5)→0≤o.N∧o.N<nv
 call:o.Code=29→(1≤o.N∧o.N≤3)∧o.S∈[[108,101,110,103,116,104],[105,110,116],[105,110,100,101,120],[117,112,112,101,114],[108,111,119,101,114],[115,117,98,115,116,114]]
 pat:(o.Code=24∨o.Code=25)→vg o.S
 jump:(o.Code=30∨o.Code=31)→0≤o.N∧o.N<len
 next:o.Code≠36→at_+1<len
theorem Ue{o:bE}(h:1≤o.Code∧o.Code≤36):zP o=some (dd o,()):=by
 rw[Xr]
 simp only[Xq,eJ,aa]
 unfold dd
 by_cases hr:12≤o.Code∧o.Code≤23
 ·have n:∀ k:Int,(k<12∨23<k)→¬ o.Code=k:=fun k h1 h2=>by omega
  simp[n,hr.1,hr.2]
 ·have ee:o.Code=1∨o.Code=2∨o.Code=3∨o.Code=4∨o.Code=5∨o.Code=6∨o.Code=7∨o.Code=8∨o.Code=9∨o.Code=10∨o.Code=11∨o.Code=24∨o.Code=25∨o.Code=26∨o.Code=27∨o.Code=28∨o.Code=29∨o.Code=30∨o.Code=31∨o.Code=32∨o.Code=33∨o.Code=34∨o.Code=35∨o.Code=36:=by omega
  rcases ee with e | e | e | e | e | e | e | e | e | e | e | e | e | e | e | e | e | e | e | e | e | e | e | e <;> simp[e]
theorem fL{nv:Nat}{s:bJ}{vs:List (List Int)}{cs:List (List Int)}{line:List Int}{fs:List (List Int)}{out:List Int}{fuel:Int}{done:Bool}(hs:SW nv s)(hf:FW line fs)(ho:OW out){st:List bL}(hst:StW st){v:bL}(hv:VW v):Tot (fp ⟨(),st⟩ s vs cs line fs out fuel done v) (fun y=>StW y.1.stack∧WW nv y.2.1):=by
 rw[Xs]
 exact ti (fun _=>tb (nP hs hf ho hst hv) (fun _ h=>ts h)) (fun _=>ts ⟨hst,hs,hf,ho⟩)
theorem Za{nv:Nat}{s:bJ}{vs:List (List Int)}{cs:List (List Int)}{line:List Int}{fs:List (List Int)}{out:List Int}{fuel:Int}{done:Bool}(hs:SW nv s)(hf:FW line fs)(ho:OW out){st l:List bL}(hst:StW st)(hl:∀ v∈l,VW v){o:bE}{len at_:Int}(hO:OpW nv len at_ o)(hlen:(l.length:Int)=dd o)(hc:o.Code≤29)
  (hn:¬ (o.Code=3∨o.Code=4∨o.Code=5∨o.Code=6∨o.Code=7∨o.Code=8)):Tot (zQ ⟨(),st⟩ s vs cs line fs out fuel done o l) (fun y=>StW y.1.stack∧WW nv y.2.1):=by
 have hcd:=hO.code
 rw[Xt]
 refine ti (fun c=>tb (j9 _) (fun _ h=>fL hs hf ho hst h)) (fun c1=>ti (fun c=>ti (fun _=>tb (iT hs hf ho _) (fun _ h=>fL h.1 h.2.1 h.2.2 hst hO.text)) (fun _=>fL hs hf ho hst hO.text)) (fun c2=>ti (fun c=>?_) (fun c9=>ti (fun c=>tb (j9 _) (fun _ h=>fL hs hf ho hst h)) (fun c10=>ti (fun c=>tb (j9 _) (fun _ h=>fL hs hf ho hst h)) (fun c11=>ti (fun c=>?_) (fun c17=>ti (fun c=>?_) (fun c24=>ti (fun c=>?_) (fun c25=>ti (fun c=>?_) (fun c26=>ti (fun c=>?_) (fun c27=>ti (fun c=>?_) (fun c28=>ti (fun c=>?_) (fun c29=>?_))))))))))))
 ·rw[ab]at c
  have hk:dd o=1:=by unfold dd;simp[c]
  exact tc (by omega) (tb (Oj hs hf ho (dD hl _)) (fun _ h=>fL h.2.1 h.2.2.1 h.2.2.2 hst h.1))
 ·rw[ab]at c
  have hk:dd o=2:=by unfold dd;simp[c]
  exact tc (by omega) (tc (by omega) (tb (Ni hs hf ho (dD hl _) (dD hl _)) (fun _ h=>fL h.2.1 h.2.2.1 h.2.2.2 hst h.1)))
 ·rw[ab]at c
  have hk:dd o=1:=by unfold dd;simp[c]
  exact tc (by omega) (tb (fx (dD hl _)) (fun y hy=>tb (G8 (hO.pat (.inl c)) _ (by have:=hy.1;omega)) (fun _ h=>fL hs hf ho hst h)))
 ·rw[ab]at c
  exact tb (G8 (hO.pat (.inr c)) _ hf.1.1) (fun _ h=>fL hs hf ho hst h)
 ·rw[ab]at c
  have hk:dd o=1:=by unfold dd;simp[c]
  exact tc (by omega) (tb (ES _) (fun _ _=>tb (uC _) (fun _ h=>fL hs hf ho hst h)))
 ·rw[ab]at c
  have hk:dd o=1:=by unfold dd;simp[c]
  exact tc (by omega) (tb (fH (dD hl _)) (fun _ _=>tb (j9 _) (fun _ h=>fL hs hf ho hst h)))
 ·rw[ab]at c
  have hk:dd o=1:=by unfold dd;simp[c]
  exact tc (by omega) (tb (ES _) (fun _ _=>tb (uC _) (fun _ h=>fL hs hf ho hst h)))
 ·rw[ab]at c
  have hk:dd o=o.N:=by unfold dd;simp[c]
  obtain⟨q1,q2⟩:=hO.call c
  exact tb (Nf hl (by omega) (by omega) _ q2) (fun _ h=>fL hs hf ho hst h)
 ·rw[ab]at c1 c2 c9 c10 c11 c17 c24 c25 c26 c27 c28 c29
  have hk:dd o=2:=by
   have hr:12≤o.Code∧o.Code≤23:=by omega
   unfold dd
   rw[aq,aq,bz c29,bw hr]
  refine ti (fun c=>tc (by omega) (tb (fH (dD hl _)) (fun _ _=>tc (by omega) (tb (fH (dD hl _)) (fun _ _=>tb (xr hs hf ho _ _ _) (fun _ h=>fL h.2.1 h.2.2.1 h.2.2.2 hst h.1)))))) (fun c=>?_)
  rw[ab]at c
  rw[aw (n:=o.Code-18)]
  exact tc (by omega) (tc (by omega) (tb (Ur (by omega) (dD hl _) (dD hl _)) (fun _ h=>fL hs hf ho hst h)))
theorem YL{nv:Nat}{s:bJ}{vs:List (List Int)}{cs:List (List Int)}{line:List Int}{fs:List (List Int)}{out:List Int}{fuel:Int}{done:Bool}(hs:SW nv s)(hn:nv≤100)(hf:FW line fs)(ho:OW out){st:List bL}(hst:StW st){o:bE}{len at_:Int}(hO:OpW nv len at_ o)(ha:0≤at_)(hlen:len≤100000)(ha2:at_<len) :
  Tot (zO ⟨(),st⟩ s vs cs line fs out fuel done o at_) (fun y=>(y.2.1=true→0≤y.1∧y.1<len)∧StW y.2.2.1.stack∧WW nv y.2.2.2.1):=by
 have hcd:=hO.code
 have hst1:=hst.1
 have htk:0≤dd o∧dd o≤3:=by
  unfold dd
  split
  ·omega
  ·split
   ·omega
   ·split
    ·rename_i c
     have:=(hO.call c).1;omega
    ·split <;> omega
 have hw:w64 ((st.length:Int)-dd o)=(st.length:Int)-dd o:=aw
 rw[Xp,Ue hcd,aa]
 dsimp only
 rw[hw]
 refine ti (fun _=>tb (iT hs hf ho _) (fun _ h=>ts ⟨(fun e=>by cases e),hst,h⟩)) (fun c=>?_)
 rw[ab]at c
 have hlist:∀ v∈List.append [] (List.take (st.length-((st.length:Int)-dd o).toNat) (List.drop ((st.length:Int)-dd o).toNat st)),VW v:=fun v hv=>hst.2 v (List.mem_of_mem_drop (List.mem_of_mem_take (show v∈List.take _ _ from hv)))
 have hll:((List.append [] (List.take (st.length-((st.length:Int)-dd o).toNat) (List.drop ((st.length:Int)-dd o).toNat st))).length:Int)=dd o:=by
  show((List.take _ (List.drop _ st)).length:Int)=_
  rw[aU,aV];omega
 have hst':StW (List.take ((st.length:Int)-dd o).toNat st):=⟨by rw[aU];omega,fun v hv=>hst.2 v (List.mem_of_mem_take hv)⟩
 generalize List.append [] (List.take (st.length-((st.length:Int)-dd o).toNat) (List.drop ((st.length:Int)-dd o).toNat st))=l at hlist hll ⊢
 generalize List.take ((st.length:Int)-dd o).toNat st=st' at hst' ⊢
 refine tc (by omega) (tc (by rw[ce,aU,aV];omega) (tc (by omega) ?_))
 have L1:∀ {s':bJ} {vs' cs':List (List Int)} {line':List Int} {fs':List (List Int)} {out':List Int} {fuel':Int} {done':Bool} {st2:List bL},o.Code≠36→SW nv s'→FW line' fs'→OW out'→StW st2→Tot (jX at_ () st2 s' vs' cs' line' fs' out' fuel' done') (fun y=>(y.2.1=true→0≤y.1∧y.1<len)∧StW y.2.2.1.stack∧WW nv y.2.2.2.1):=fun {s' vs' cs' line' fs' out' fuel' done' st2} h36 a1 a2 a3 a4=>by
  have:=hO.next h36
  rw[Xn,aw (n:=at_+1)]
  exact ts ⟨fun _=>⟨by show 0≤at_+1;omega,this⟩,a4,a1,a2,a3⟩
 refine ti (fun c=>ts ⟨(fun e=>by cases e),hst',hs,hf,ho⟩) (fun c36=>ti (fun c=>?_) (fun c30=>ti (fun c=>?_) (fun c31=>ti (fun c=>L1 (by rw[ab]at c36;exact c36) hs hf ho hst') (fun c32=>ti (fun c=>?_) (fun c33=>ti (fun c=>tb (uq hs hf ho _ ?_) (fun _ h=>L1 (by rw[ab]at c36;exact c36) h.1 h.2.1 h.2.2 hst')) (fun c34=>?_))))))
 ·rw[ab]at c
  exact ts ⟨fun _=>hO.jump (.inl c),hst',hs,hf,ho⟩
 ·rw[ab]at c c36
  have hk:dd o=1:=by unfold dd;simp[c]
  exact tc (by omega) (tb (ES _) (fun _ _=>ti (fun _=>ts ⟨fun _=>hO.jump (.inr c),hst',hs,hf,ho⟩) (fun _=>L1 c36 hs hf ho hst')))
 ·rw[ab]at c c36
  have hk:dd o=1:=by unfold dd;simp[c]
  refine ti (fun _=>tb (uq hs hf ho _ ⟨by simp,fun x hx=>by rw[aN.1 hx];omega⟩) (fun _ h=>tc (by omega) (tb (fx (dD hlist _)) (fun t ht=>tb (uq h.1 h.2.1 h.2.2 _ ht) (fun _ q=>L1 c36 q.1 q.2.1 q.2.2 hst'))))) (fun _=>tc (by omega) (tb (fx (dD hlist _)) (fun t ht=>tb (uq hs hf ho _ ht) (fun _ q=>L1 c36 q.1 q.2.1 q.2.2 hst'))))
 ·exact⟨by simp,fun x hx=>by rw[aN.1 hx];omega⟩
 ·rw[ab]at c36 c30 c31 c32 c33 c34
  have N:∀ b:Bool,(o.Code=3∨o.Code=4∨o.Code=5∨o.Code=6∨o.Code=7∨o.Code=8∨o.Code=35↔b=true)→Tot (jY at_ l b (bQ.mk () st') (bO.mk s vs cs line fs out fuel done) o) (fun y=>(y.2.1=true→0≤y.1∧y.1<len)∧StW y.2.2.1.stack∧WW nv y.2.2.2.1):=fun b hb=>by
   rw[Xo]
   refine ti (fun e=>tb (T6 hs hn hf ho hst' hlist hO.var (fun h=>?_) (fun h=>?_)) (fun _ h=>L1 c36 h.2.1 h.2.2.1 h.2.2.2 h.1)) (fun e=>tb (Za hs hf ho hst' hlist hO hll ?_ ?_) (fun _ h=>L1 c36 h.2.1 h.2.2.1 h.2.2.2 h.1))
   ·have hk:dd o=1:=by unfold dd;rcases h with h | h | h | h <;> simp[h]
    omega
   ·have hk:dd o=2:=by unfold dd;rcases h with h | h <;> simp[h]
    omega
   ·exact Classical.byContradiction fun hh=>e (hb.1 (by omega))
   ·intro h;exact e (hb.1 (by omega))
  refine ti (fun c=>N _ ?_) (fun d3=>ti (fun c=>N _ ?_) (fun d4=>ti (fun c=>N _ ?_) (fun d5=>ti (fun c=>N _ ?_) (fun d6=>ti (fun c=>N _ ?_) (fun d7=>ti (fun c=>N _ ?_) (fun d8=>N _ ?_)))))) <;> (simp only[ab]at *;omega)
def rc(nv:Int)(l:List bE):Prop:=(0<l.length∧l.length≤100000)∧∀ (i:Nat) (h:i<l.length),OpW nv l.length i l[i]
theorem Hr{nv:Nat}(hn:nv≤100){l:List bE}(hl:rc nv l):∀ (d n:Nat) (a:Int) (w:bO) (st:List bL),n+d=20000→0≤a→a<l.length→SW nv w.s→FW w.line w.fields→OW w.out→StW st →
  Tot (tO l a (n:Int) w (bQ.mk () st)) (fun y=>WW nv y.1):=by
 intro d
 induction d with
 | zero =>
  intro n a w st hd h0 h1 hs hf ho hst
  rw[Kx]
  exact ti (fun _=>tc (ac (by omega)) (tb (iT hs hf ho _) (fun _ h=>ts h))) (fun _=>ts ⟨hs,hf,ho⟩)
 | succ d ih =>
  intro n a w st hd h0 h1 hs hf ho hst
  have hi:a.toNat<l.length:=by omega
  have hO:=hl.2 a.toNat hi
  rw[Int.toNat_of_nonneg h0]at hO
  have hl2:=hl.1.2
  rw[Kx,dj hi,aw (n:=(n:Int)+1)]
  refine ti (fun _=>tn (by rw[ab];omega) (tc (by omega) (tb (YL hs hn hf ho hst hO h0 (by omega) h1) (fun y hy=>ti (fun _=>ts hy.2.2) (fun c=>?_))))) (fun _=>ts ⟨hs,hf,ho⟩)
  have hon:=hy.1 (by simpa using c)
  exact ih (n+1) y.1 _ _ (by omega) hon.1 hon.2 hy.2.2.1 hy.2.2.2.1 hy.2.2.2.2 hy.2.1
theorem GU{nv:Nat}(hn:nv≤100){a:bJ}{b c:List (List Int)}{d:List Int}{e:List (List Int)}{o:List Int}{f:Int}{g:Bool}{s:bJ}(hw:SW nv a)(ho:OW o)(hs:SW nv s):Tot (tI a b c d e o f g s) (fun y=>SW nv y.1∧OW y.2.1):=by
 rw[WR,o7 hs hn,aa]
 exact ti (fun _=>ts ⟨hs,by simp,fun x hx=>by cases hx⟩) (fun _=>ts ⟨hw,ho⟩)
structure PrW (p:bG):Prop where
 names:p.Vars.length≤8
 start:rc (p.Vars.length:Int) p.Start
 main:rc (p.Vars.length:Int) p.Main
 right:∃ b,s_ProgOk p=some (b,())
theorem Vq{p:bG}(hp:PrW p){s:bJ}(hs:SW p.Vars.length s){line:List Int}(hl:line.length≤1000)(hb:Bt line):Tot (zM p s line) (fun y=>SW p.Vars.length y.1∧OW y.2.1):=by
 have hn:=hp.names
 have hf:FW line (pf line):=⟨⟨hl,hb⟩,by have:=Ol line;omega,fun f h=>by
  have:=Om (P:=fun x=>0≤x∧x≤255) hb h
  exact⟨by omega,this.1⟩⟩
 have ho:OW []:=⟨by simp,fun x hx=>by cases hx⟩
 have L1:∀ (w:bO),SW p.Vars.length w.s→FW w.line w.fields→OW w.out→Tot (tQ p s cG w) (fun y=>SW p.Vars.length y.1∧OW y.2.1):=fun w a1 a2 a3=>by
  rw[Xk,Ky]
  exact tb (Hr (by omega) hp.main 20000 0 0 _ [] (by omega) (by omega) (by have:=hp.main.1.1;omega) a1 a2 a3 ⟨by simp,fun x hx=>by cases hx⟩) (fun y hy=>tb (GU (by omega) hy.1 hy.2.2 hs) (fun _ h=>ts h))
 rw[Xl,o7 hs (by omega),aa,WB _ (by omega),aa]
 dsimp only
 have hs2:SW p.Vars.length ⟨s.Vars,s.Cells,w64 (s.Nr+1),s.Err⟩:=hs
 exact ti (fun _=>tb (iT hs2 hf ho _) (fun y hy=>L1 _ hy.1 hy.2.1 hy.2.2)) (fun _=>L1 _ hs2 hf ho)
theorem Lq(n:Nat)(hn:n≤8):Tot (ob (n:Int)) (fun y=>SW n y.1):=by
 have e1:qA (n:Int) 8=some ((n:Int),()):=by
  rw[z8]
  by_cases c:(n:Int)<8
  ·rw[am c]
  ·rw[al c,show(8:Int)=(n:Int) by omega]
 have e2:jc 0 (n:Int)=some ((n:Int),()):=by
  rw[ua]
  by_cases c:(0:Int)>n
  ·omega
  ·rw[al c]
 rw[Kj,e1,aa]
 dsimp only
 rw[e2,aa]
 dsimp only
 refine tc ⟨by omega,by omega,by rw[ce];omega⟩ (ts ⟨⟨?_,fun v hv=>?_⟩,by simp,fun c hc=>by cases hc⟩)
 ·show(List.replicate _ _).length=n
  rw[bf];omega
 ·rw[List.eq_of_mem_replicate hv];exact EX
theorem YG{p:bG}(hp:PrW p):Tot (zN p) (fun y=>SW p.Vars.length y.1∧OW y.2.1):=by
 have hn:=hp.names
 have hf:FW [] []:=⟨⟨by simp,fun x hx=>by cases hx⟩,by simp,fun f h=>by cases h⟩
 have ho:OW []:=⟨by simp,fun x hx=>by cases hx⟩
 rw[Xm]
 refine tb (Lq _ hn) (fun r hr=>?_)
 rw[o7 hr (by omega),aa,Ky]
 exact tb (Hr (by omega) hp.start 20000 0 0 _ [] (by omega) (by omega) (by have:=hp.start.1.1;omega) hr hf ho ⟨by simp,fun x hx=>by cases hx⟩) (fun y hy=>tb (GU (by omega) hy.1 hy.2.2 hr) (fun _ h=>ts h))
def McW(nv:Nat)(m:bC):Prop:=SW nv m.State∧m.Done.length=3∧(m.Out.length≤1500∧Bt m.Out)
theorem IJ{p:bG}(hp:PrW p):Tot (zW p) (fun y=>McW p.Vars.length y.1):=by
 rw[XB]
 refine tb (YG hp) (fun y hy=>ti (fun _=>tb (Lq _ hp.names) (fun z hz=>ts ⟨hz,rfl,by simp,fun x hx=>by cases hx⟩)) (fun c=>ts ⟨hy.1,rfl,?_,hy.2.2⟩))
 have:=hy.2.1
 show y.2.1.length≤1500
 omega
theorem GR{p:bG}(hp:PrW p){m:bC}(hm:McW p.Vars.length m){c:bB}(hc:c.Who<3)(hl:c.Line.length≤1000)(hb:Bt c.Line):Tot (zS p m c) (fun y=>McW p.Vars.length y.1):=by
 have hn:=hp.names
 have hcp:zR m=some (m,()):=by
  rw[Xu,o7 hm.1 (by omega),aa,bw (by have:=hm.2.1;rw[ce];omega)];rfl
 have h3:=hm.2.1
 have ho:=hm.2.2.1
 rw[Xv,hcp,aa]
 refine ti (fun _=>ts hm) (fun c0=>?_)
 rw[ab]at c0
 have hset:∀ x:Int,(List.set m.Done c.Who.toNat x).length=3:=fun x=>by rw[a8];exact h3
 refine tc (by omega) (ti (fun _=>ts hm) (fun _=>tc (by dsimp only;omega) (ti (fun _=>ts ⟨hm.1,hset _,hm.2.2⟩) (fun _=>tb (Vq hp hm.1 hl hb) (fun y hy=>?_)))))
 have hy2:=hy.2.1
 rw[aw]
 refine ti (fun _=>ts ⟨hm.1,hset _,hm.2.2⟩) (fun d=>tc (by omega) (ts ⟨hy.1,hset _,?_,fun x hx=>?_⟩))
 ·rw[ab]at d
  show(m.Out++y.2.1).length≤1500
  rw[ah];omega
 ·rcases aE.1 hx with hx | hx
  ·exact hm.2.2.2 x hx
  ·exact hy.2.2 x hx
def IU:bC:=⟨cG,[],[]⟩
theorem TR{p:bG}(hp:PrW p){cs:List bB}(hl:cs.length≤1000)(hc:∀ c∈cs,c.Line.length≤1000∧Bt c.Line):Tot (th p cs) (fun y=>y.1=IU∨McW p.Vars.length y.1):=by
 have key:∀ (d i:Nat) (m:bC),i+d=cs.length→McW p.Vars.length m→Tot (nW cs (i:Int) p cQ m) (fun y=>y.1=IU∨McW p.Vars.length y.1):=by
  intro d
  induction d with
  | zero =>
   intro i m hd hm
   rw[tj,av];exact ts (.inr hm)
  | succ d ih =>
   intro i m hd hm
   have hi:i<cs.length:=by omega
   obtain⟨h1,h2⟩:=hc _ (aZ hi)
   rw[tj,au,ap,cX hi,JO _ (by omega),aa,cF hi (by omega)]
   refine ti (fun c=>tc (by omega) (tb (GR hp hm ?_ h1 h2) (fun y hy=>ih (i+1) _ (by omega) hy))) (fun _=>ih (i+1) m (by omega) hm)
   have c':ng cs[i]=true:=c
   unfold ng at c'
   by_cases e:(cs[i].Who) = -1
   ·omega
   ·simp[e]at c';omega
 obtain⟨b,hb⟩:=hp.right
 rw[J3,hb,aa]
 exact ti (fun _=>ts (.inl rfl)) (fun _=>tb (IJ hp) (fun y hy=>key cs.length 0 _ (by omega) hy))
theorem re(y:Int)(m:Nat)(hm:m<9223372036854775808):0≤Go.bits .and .i64 y m∧Go.bits .and .i64 y m≤m:=by
 have h:Go.bits .and .i64 y m=IntKind.i64.wrap (((BitVec.ofInt 64 y).toNat &&& m:Nat):Int):=by
  simp only[Go.bits,BitVec.toNat_and,BitVec.ofInt_natCast]
  congr 3
  exact Nat.mod_eq_of_lt (by show m<2 ^ 64;omega)
 have h2:(BitVec.ofInt 64 y).toNat &&& m≤m:=Nat.and_le_right
 rw[h,IntKind.wrap_i64]
 omega
def cq(c:bS):Prop:=0≤c.i∧c.b.length≤1048576
theorem oX{c:bS}(h:cq c):∃ x c',mE c=some (x,c',())∧cq c'∧0≤x∧x≤255:=by
 obtain⟨h1,h2⟩:=h
 rw[XI]
 by_cases hi:c.i<(c.b.length:Int)
 ·rw[am hi,bw ⟨h1,hi⟩]
  refine⟨_,_,rfl,⟨?_,h2⟩,(re _ 255 (by decide)).1,(re _ 255 (by decide)).2⟩
  show 0≤w64 (c.i+1)
  rw[aw];omega
 ·rw[al hi]
  exact⟨_,_,rfl,⟨h1,h2⟩,(re _ 255 (by decide)).1,(re _ 255 (by decide)).2⟩
theorem rg{c:bS}(h:cq c)(n:Int):∃ x c',dI c n=some (x,c',())∧cq c'∧0≤x∧(0<n→x<n)∧(n≤0→x=0):=by
 rw[XG]
 by_cases h0:n≤0
 ·rw[am h0]
  exact⟨0,c,rfl,h,by omega,fun h=>by omega,fun _=>rfl⟩
 ·rw[al h0]
  have hn:0<n:=by omega
  by_cases h1:n≤256
  ·rw[am h1]
   obtain⟨x,c',e,k1,k2,k3⟩:=oX h
   simp only[e,aa]
   rw[ap]
   exact⟨_,_,rfl,k1,Int.tmod_nonneg _ k2,fun _=>Int.tmod_lt_of_pos _ hn,fun h=>by omega⟩
  ·rw[al h1]
   obtain⟨x1,c1,e1,k1,a1,b1⟩:=oX h
   obtain⟨x2,c2,e2,k2,a2,b2⟩:=oX k1
   obtain⟨x3,c3,e3,k3,a3,b3⟩:=oX k2
   obtain⟨x4,c4,e4,k4,a4,b4⟩:=oX k3
   simp only[e1,e2,e3,e4,aa]
   rw[ap]
   refine⟨_,_,rfl,k4,Int.tmod_nonneg _ ?_,fun _=>Int.tmod_lt_of_pos _ hn,fun h=>by omega⟩
   rw[aw (n:=x1*16777216),aw (n:=x2*65536),aw (n:=x3*256)]
   rw[aw (n:=x1*16777216+x2*65536),aw (n:=x1*16777216+x2*65536+x3*256)]
   rw[aw];omega
theorem UM{c:bS}(h:cq c)(l:List Int)(hl:l≠[]):∃ x c',g7 c l=some (x,c',())∧cq c'∧x∈l:=by
 have hp:0<l.length:=List.length_pos_iff.2 hl
 rw[XN]
 obtain⟨x,c',e,k1,k2,k3,_⟩:=rg h (l.length:Int)
 have k3:=k3 (by omega)
 simp only[e,aa]
 rw[bw ⟨k2,k3⟩]
 obtain⟨i,rfl⟩:=Int.eq_ofNat_of_zero_le k2
 have hi:i<l.length:=by omega
 exact⟨_,_,rfl,k1,by rw[cX hi];exact aZ hi⟩
theorem xG{c:bS}(h:cq c)(l:List (List Int))(hl:l≠[]):∃ x c',gZ c l=some (x,c',())∧cq c'∧x∈l:=by
 have hp:0<l.length:=List.length_pos_iff.2 hl
 rw[XO]
 obtain⟨x,c',e,k1,k2,k3,_⟩:=rg h (l.length:Int)
 have k3:=k3 (by omega)
 simp only[e,aa]
 rw[bw ⟨k2,k3⟩]
 obtain⟨i,rfl⟩:=Int.eq_ofNat_of_zero_le k2
 have hi:i<l.length:=by omega
 exact⟨_,_,rfl,k1,by rw[cX hi];exact aZ hi⟩
theorem II(b:List Int)(h:b.length≤1048576):∃ c,ub b=some (((),c),())∧cq c:=by
 rw[XL]
 have key:∀ (d i:Nat) (k:Int),i+d=b.length→∃ c,uc b k (i:Int)=some (((),c),())∧cq c:=by
  intro d
  induction d with
  | zero =>
   intro i k hd
   rw[KI,av]
   exact⟨_,rfl,Int.le_refl 0,h⟩
  | succ d ih =>
   intro i k hd
   rw[KI,au]
   by_cases h4:(i:Int)<4000
   ·rw[am h4,ap,cF (n:=b.length) (by omega) (by omega)]
    exact ih (i+1) _ (by omega)
   ·rw[al h4]
    exact⟨_,rfl,Int.le_refl 0,h⟩
 exact key b.length 0 _ (by omega)
theorem MT(b:List Int):xf b=some (decide ((b.length:Int)>1048576),()):=Qu b
set_option maxRecDepth 1000000
def twC(t:List Int):Bool:=decide (t.length≤300)&&t.all fun x=>decide (0≤x∧x≤255)
theorem Y1{t:List Int}(h:twC t=true):TW t:=by
 unfold twC at h
 rw[aD,ab]at h
 exact⟨h.1,fun x hx=>of_decide_eq_true (List.all_eq_true.1 h.2 x hx)⟩
def xF(t:List Int):Bool:=match (nl 300).s_RexParse t with
 | some (r,_,_)=>(match (nl 300).s_NfaOf r with
  | some (l,_)=>decide (l.length≤1000)&&l.all fun p=>decide (p.Set.length≤1000)
  | none=>false)
 | none=>false
theorem UJ{t:List Int}(h:xF t=true):vg t:=by
 unfold xF at h
 split at h
 ·rename_i r ok u e
  split at h
  ·rename_i l u2 e2
   rw[aD,ab]at h
   exact⟨r,ok,l,(bZ 300).s_RexParse _ _ e,(bZ 300).s_NfaOf _ _ e2,h.1,fun p hp=>of_decide_eq_true (List.all_eq_true.1 h.2 p hp)⟩
  ·cases h
 ·cases h
def opC(nv len at_:Int)(o:bE):Bool :=
 (decide (1≤o.Code∧o.Code≤36)&&twC o.S)&&((decide ((o.Code=3∨o.Code=4∨o.Code=5)→0≤o.N∧o.N<nv)&&decide (o.Code=29→(1≤o.N∧o.N≤3)∧o.S∈[[108,101,110,103,116,104],[105,110,116],[105,110,100,101,120],[117,112,112,101,114],[108,111,119,101,114],[115,117,98,115,116,114]])) &&
  ((if o.Code=24∨o.Code=25 then xF o.S else true)&&(decide ((o.Code=30∨o.Code=31)→0≤o.N∧o.N<len)&&decide (o.Code≠36→at_+1<len))))
theorem Ug{nv len at_:Int}{o:bE}(h:opC nv len at_ o=true):OpW nv len at_ o:=by
 unfold opC at h
 simp only[aD]at h
 obtain⟨⟨h1,h2⟩,⟨h3,h4⟩,h5,h6,h7⟩:=h
 exact⟨of_decide_eq_true h1,Y1 h2,of_decide_eq_true h3,of_decide_eq_true h4,fun c=>by rw[bw c]at h5;exact UJ h5,of_decide_eq_true h6,of_decide_eq_true h7⟩
def qi(nv len:Int):Int→List bE→Bool
 | _,[]=>true
 | i,o::l=>opC nv len i o&&qi nv len (i+1) l
theorem ya{nv len:Int}:∀ (l:List bE) (i:Int),qi nv len i l=true→∀ (j:Nat) (h:j<l.length),OpW nv len (i+j) l[j]
 | [],_,_,j,hj=>by cases hj
 | o::l,i,h,j,hj=>by
  unfold qi at h
  rw[aD]at h
  cases j with
  | zero=>rw[show i+((0:Nat):Int)=i by omega];exact Ug h.1
  | succ j =>
   have:=ya l (i+1) h.2 j (by simpa using hj)
   rw[show i+((j+1:Nat):Int)=i+1+j by omega]
   exact this
def xK(p:bG):Bool:=(decide (p.Vars.length≤8)&&decide (0<p.Start.length∧p.Start.length≤100000))&&((qi p.Vars.length p.Start.length 0 p.Start&&(decide (0<p.Main.length∧p.Main.length≤100000)&&qi p.Vars.length p.Main.length 0 p.Main))&&(match (nl 300).s_ProgOk p with
  | some (true,_)=>true
  | _=>false))
theorem UW{p:bG}(h:xK p=true):PrW p∧s_ProgOk p=some (true,()):=by
 unfold xK at h
 simp only[aD]at h
 obtain⟨⟨h1,h2⟩,⟨h3,h4,h5⟩,h6⟩:=h
 have hr:s_ProgOk p=some (true,()):=by
  split at h6
  ·rename_i u e;exact(bZ 300).s_ProgOk _ _ e
  ·cases h6
 refine⟨⟨of_decide_eq_true h1,⟨of_decide_eq_true h2,fun i hi=>?_⟩,⟨of_decide_eq_true h4,fun i hi=>?_⟩,⟨_,hr⟩⟩,hr⟩
 ·have:=ya _ 0 h3 i hi
  rwa [Int.zero_add]at this
 ·have:=ya _ 0 h5 i hi
  rwa [Int.zero_add]at this
def BK(s:List Int):Bool:=match (nl 300).s_Build s with
 | some (p,_,_)=>xK p
 | none=>false
theorem YD{s:List Int}(h:BK s=true):Tot (s_Build s) (fun y=>PrW y.1∧s_ProgOk y.1=some (true,())):=by
 unfold BK at h
 split at h
 ·rename_i p c u e
  exact te ((bZ 300).s_Build _ _ e) (UW h)
 ·cases h
def srcs:List (List Int):=[[123,32,110,32,43,61,32,49,59,32,115,91,36,49,93,32,43,61,32,36,50,59,32,112,114,105,110,116,32,110,44,32,36,49,44,32,115,91,36,49,93,59,32,125,10],[66,69,71,73,78,32,123,32,112,114,105,110,116,32,34,115,116,97,114,116,34,59,32,125,10,47,94,97,47,32,123,32,97,32,43,61,32,49,59,32,112,114,105,110,116,32,34,97,34,44,32,97,59,32,110,101,120,116,59,32,125,10,36,49,32,62,32,53,32,123,32,112,114,105,110,116,32,36,49,32,42,32,50,32,47,32,51,59,32,125,10,78,82,32,60,32,51,32,123,32,112,114,105,110,116,32,78,70,32,34,58,34,32,36,48,59,32,125,10],[123,32,105,32,61,32,49,59,32,119,104,105,108,101,32,40,105,32,60,61,32,78,70,41,32,123,32,119,91,36,105,93,32,43,61,32,49,59,32,112,114,105,110,116,32,36,105,32,34,61,34,32,119,91,36,105,93,59,32,105,32,43,61,32,49,59,32,125,32,125,10],[108,101,110,103,116,104,40,36,48,41,32,62,32,51,32,38,38,32,33,40,36,49,32,126,32,47,98,43,99,47,41,32,123,32,112,114,105,110,116,32,115,117,98,115,116,114,40,36,48,44,32,50,44,32,51,41,44,32,117,112,112,101,114,40,36,49,41,44,32,105,110,100,101,120,40,36,48,44,32,34,97,34,41,59,32,125,10,123,32,105,102,32,40,36,49,32,61,61,32,34,120,34,41,32,123,32,100,101,108,101,116,101,32,107,91,36,50,93,59,32,125,32,101,108,115,101,32,123,32,107,91,36,50,93,32,61,32,107,91,36,50,93,32,43,32,49,59,32,125,32,112,114,105,110,116,32,107,91,36,50,93,32,43,32,48,59,32,125,10],[123,32,116,32,61,32,116,32,36,49,32,34,46,34,59,32,112,114,105,110,116,32,116,44,32,45,36,49,32,37,32,51,44,32,105,110,116,40,36,49,32,47,32,50,41,59,32,105,102,32,40,108,101,110,103,116,104,40,116,41,32,62,32,49,50,41,32,123,32,116,32,61,32,34,34,59,32,125,32,125,10],[36,49,32,123,32,112,114,105,110,116,32,49,32,47,32,40,36,49,32,45,32,52,41,59,32,125,10,123,32,119,104,105,108,101,32,40,49,41,32,123,32,105,32,43,61,32,49,59,32,125,32,125,10],[78,82,32,61,61,32,49,123,32,112,114,105,110,116,32,34,102,105,114,115,116,34,59,32,125,10]]
theorem YF:(srcs.all BK)=true:=by kernel_rfl
theorem Gj{s:List Int}(h:s∈srcs):Tot (s_Build s) (fun y=>PrW y.1∧s_ProgOk y.1=some (true,())):=YD (List.all_eq_true.1 YF s h)
theorem Lp:AD=some (srcs,()):=Yh
theorem NJ{s:List Int}(h:s∈srcs):Tot (nZ s) (fun y=>Tot (my y.1) (fun z=>PrW z.1∧s_ProgOk z.1=some (true,()))):=by
 obtain⟨⟨p,code,u⟩,e,hp⟩:=Gj h
 rw[Vz]at e
 obtain⟨r,e1,e2⟩:=Option.bind_eq_some_iff.1 e
 refine te e1 ?_
 by_cases c:r.2.1≥0
 ·rw[am c]at e2
  have e3:=aR e2
  simp only[Prod.mk.injEq]at e3
  have:=hp.1.start.1.1
  dsimp only at this
  rw[← e3.1]at this
  cases this
 ·rw[al c]at e2
  obtain⟨q,e4,e5⟩:=Option.bind_eq_some_iff.1 e2
  have e3:=aR e5
  simp only[Prod.mk.injEq]at e3
  refine te e4 ?_
  rw[e3.1];exact hp
end Go.Proofs.YtemajhlhgphhjaaGreatDoor.E.TM
