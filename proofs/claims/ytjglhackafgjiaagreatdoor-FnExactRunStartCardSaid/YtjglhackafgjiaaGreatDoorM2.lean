/- What the pure statement needs (2). No condition. -/
import Derived.Test.YtjglhackafgjiaaGreatDoorM1
import Derived.Test.YtjglhackafgjiaaGreatDoorTBe1
import Derived.Test.YtjglhackafgjiaaGreatDoorTBe2
import Derived.Test.YtjglhackafgjiaaGreatDoorTBe3
namespace Go.Proofs.YtjglhackafgjiaaGreatDoor.E.TB
open Go.Proofs.YtjglhackafgjiaaGreatDoor.E
set_option linter.unusedVariables false
mutual
def bc:aq→Nat
 | ⟨_,_,_,_,ks⟩=>1+aY ks
def aY:List aq→Nat
 | []=>0
 | k::ks=>bc k+aY ks
end
def tN(st:List Int)(nt:Bool):Prop:=st.Pairwise (· < ·)∧(93∈st→∃ a b,st=a++([92,93,94]++b))∧st≠[]∧(nt=true∨st≠[94])∧st.length≤256∧∀ b∈st,0≤b∧b≤255
mutual
def SG:aq→Prop
 | ⟨op,_,st,nt,ks⟩=>((op=3∧tN st nt)∨(op≠3∧st=[]∧nt=false))∧SGL ks
def SGL:List aq→Prop
 | []=>True
 | k::ks=>SG k∧SGL ks
end
theorem wF:∀ (l m:List aq),aY (l++m)=aY l+aY m
 | [],m=>by simp[aY]
 | k::l,m=>by rw[List.cons_append,aY,aY,wF l m];omega
theorem tL:∀ (l m:List aq),SGL (l++m)↔SGL l∧SGL m
 | [],m=>by simp[SGL]
 | k::l,m=>by rw[List.cons_append,SGL,SGL,tL l m,and_assoc]
theorem pY:∀ {l:List aq} {x:aq},SGL l→x∈l→SG x
 | k::l,x,h,hx=>by
  rw[SGL]at h
  rcases List.mem_cons.1 hx with rfl | hx
  ·exact h.1
  ·exact pY h.2 hx
theorem oJ:∀ {l:List aq} {x:aq},x∈l→bc x≤aY l
 | k::l,x,hx=>by
  rw[aY]
  rcases List.mem_cons.1 hx with rfl | hx
  ·omega
  ·have:=oJ hx;omega
theorem kO(x:aq):1≤bc x:=by obtain⟨a,b,c,d,ks⟩:=x;rw[bc];omega
theorem oH:∀ (l:List aq),l.length≤aY l
 | []=>Nat.zero_le _
 | k::l=>by rw[aY,List.length_cons];have:=oH l;have:=kO k;omega
theorem nN(n:Nat):∀ (f:List Bool) (j i:Nat),i<f.length→(cS f j n).getD i false=(decide (j≤i∧i<j+n)||f.getD i false):=by
 induction n with
 | zero=>intro f j i hi;rw[show decide (j≤i∧i<j+0)=false from ae (by omega)];rfl
 | succ n ih =>
  intro f j i hi
  unfold cS
  rw[ih _ _ _ (by rw[List.length_set];exact hi)]
  by_cases h:j=i
  ·subst h
   rw[lP hi,Bool.or_true,show decide (j≤j∧j<j+(n+1))=true from ac (by omega),Bool.true_or]
  ·rw[List.getD_eq_getElem?_getD,List.getElem?_set_ne h,← List.getD_eq_getElem?_getD]
   congr 1
   exact decide_eq_decide.2 (by omega)
theorem Qh(n:Nat):∀ (l:List Int) (f:List Bool) (b:Bool) (i:Nat),i<f.length→f.getD i false=true→(bz n l f b).1.getD i false=true:=by
 induction n with
 | zero=>intro l f b i hi h;exact h
 | succ n ih =>
  intro l f b i hi h
  have go:∀ (t:List Int) (j k:Nat) (b':Bool),(bz n t (cS f j k) b').1.getD i false=true:=fun t j k b' =>
   ih _ _ _ _ (by rw[fD];exact hi) (by rw[nN _ _ _ _ hi,h,Bool.or_true])
  match l with
  | []=>exact h
  | [lo]=>exact go _ _ _ _
  | [lo,d]=>exact go _ _ _ _
  | lo::d::hi'::u =>
   show(if d=45 then _ else _:List Bool×Bool).1.getD i false=true
   split
   ·exact go _ _ _ _
   ·exact go _ _ _ _
theorem Qf(n:Nat):∀ (l:List Int) (f:List Bool),(bz n l f true).2=true:=by
 induction n with
 | zero=>intro l f;rfl
 | succ n ih =>
  intro l f
  match l with
  | []=>rfl
  | [lo]=>exact ih _ _
  | [lo,d]=>exact ih _ _
  | lo::d::hi'::u =>
   show(if d=45 then _ else _:List Bool×Bool).2=true
   split
   ·exact ih _ _
   ·exact ih _ _
theorem Qg(n:Nat)(lo:Int)(t:List Int)(f:List Bool)(hf:f.length=256)(h0:0≤lo)(h1:lo≤255)(hb:(bz (n+1) (lo::t) f false).2=false):(bz (n+1) (lo::t) f false).1.getD lo.toNat false=true:=by
 have go:∀ (t:List Int) (k:Nat) (b':Bool),0<k→(bz n t (cS f lo.toNat k) b').1.getD lo.toNat false=true:=fun t k b' hk =>
  Qh n _ _ _ _ (by rw[fD];omega) (by rw[nN _ _ _ _ (by omega),ac (by omega),Bool.true_or])
 match t,hb with
 | [],hb=>exact go _ _ _ (by omega)
 | [d],hb=>exact go _ _ _ (by omega)
 | d::hi::u,hb =>
  by_cases c:d=45
  ·subst c
   rw[sO]at hb ⊢
   by_cases c2:hi<lo
   ·rw[ac c2,Bool.or_true,Qf]at hb;cases hb
   ·exact go _ _ _ (by omega)
  ·rw[sP _ _ _ _ _ (fun hi' u' e=>c (List.cons.inj e).1)]at hb ⊢
   exact go _ _ _ (by omega)
def Nb(f:List Bool):Prop:=f.getD 93 false=true→f.getD 92 false=true∧f.getD 94 false=true
theorem I3{f:List Bool}(hf:f.length=256)(h:Nb f){lo hi:Int}(h0:0≤lo)(h1:lo≠93)(h2:hi≠93):Nb (cS f lo.toNat (hi+1-lo).toNat):=by
 intro h3
 rw[nN _ _ _ _ (by omega),Bool.or_eq_true,ab]at h3
 rw[nN _ _ _ _ (by omega),nN _ _ _ _ (by omega)]
 rcases h3 with h3 | h3
 ·rw[ac (by omega),ac (by omega)];exact⟨rfl,rfl⟩
 ·rw[(h h3).1,(h h3).2,Bool.or_true,Bool.or_true];exact⟨rfl,rfl⟩
theorem Qi(n:Nat):∀ (l:List Int) (f:List Bool) (b:Bool),f.length=256→(∀ x∈l,0≤x∧x≠93)→Nb f→Nb (bz n l f b).1:=by
 induction n with
 | zero=>intro l f b hf hl h;exact h
 | succ n ih =>
  intro l f b hf hl h
  have go:∀ (lo hi:Int) (t:List Int) (b':Bool),lo∈l→hi∈l→(∀ x∈t,x∈l)→Nb (bz n t (cS f lo.toNat (hi+1-lo).toNat) b').1:=fun lo hi t b' h1 h2 h3 =>
   ih _ _ _ (by rw[fD];exact hf) (fun x hx=>hl x (h3 x hx)) (I3 hf h (hl _ h1).1 (hl _ h1).2 (hl _ h2).2)
  match l with
  | []=>exact h
  | [lo]=>exact go lo lo _ _ (by simp) (by simp) (by simp)
  | [lo,d]=>exact go lo lo _ _ (by simp) (by simp) (by simp)
  | lo::d::hi'::u =>
   by_cases c:d=45
   ·subst c
    rw[sO]
    exact go lo hi' _ _ (by simp) (by simp) (fun x hx=>by simp[hx])
   ·rw[sP _ _ _ _ _ (fun hi'' u' e=>c (List.cons.inj e).1)]
    exact go lo lo _ _ (by simp) (by simp) (fun x hx=>List.mem_cons_of_mem _ hx)
def marks(f:List Bool)(j n:Nat):List Int:=((List.range' j n).filter fun i=>f.getD i false).map Int.ofNat
theorem Ig(f:List Bool):∀ (n j:Nat) (t:List Int),j+n≤256→iS f j n t=t++marks f j n:=by
 intro n
 induction n with
 | zero=>intro j t h;show t=t++[];simp
 | succ n ih =>
  intro j t h
  unfold iS
  rw[ih _ _ (by omega)]
  unfold marks
  rw[List.range'_succ,List.filter_cons]
  split
  ·rw[List.map_cons,yl (by omega) (by omega),ah];rfl
  ·rfl
theorem marks_mem{f:List Bool}{j n:Nat}{x:Int}:x∈marks f j n ↔ ∃ i:Nat,x=i∧j≤i∧i<j+n∧f.getD i false=true:=by
 unfold marks
 rw[List.mem_map]
 constructor
 ·rintro ⟨i,hi,rfl⟩
  rw[List.mem_filter,List.mem_range'_1]at hi
  exact⟨i,rfl,hi.1.1,hi.1.2,hi.2⟩
 ·rintro ⟨i,rfl,h1,h2,h3⟩
  exact⟨i,List.mem_filter.2 ⟨List.mem_range'_1.2 ⟨h1,h2⟩,h3⟩,rfl⟩
theorem CO(f:List Bool)(j n:Nat):(marks f j n).length≤n:=by
 unfold marks
 rw[List.length_map]
 exact Nat.le_trans (List.length_filter_le ..) (by rw[List.length_range'];exact Nat.le_refl _)
theorem wA(f:List Bool)(j n:Nat):(marks f j n).Pairwise (· < ·):=by
 unfold marks
 rw[List.pairwise_map]
 exact((List.pairwise_lt_range' (s:=j) (n:=n)).filter _).imp fun h=>by show(_:Int)<_;exact Int.ofNat_lt.2 h
theorem wB(f:List Bool)(j n m:Nat):marks f j (n+m)=marks f j n++marks f (j+n) m:=by
 unfold marks
 rw[← List.range'_append_1,List.filter_append,List.map_append]
theorem Qd{u:List Int}{nt:Bool}(hb:∀ b∈u,0≤b∧b≤255)(hn:nt=false→∀ v,u≠94::v)(hg:(dK u nt).2.bad=false):bc (dK u nt).1=1∧SG (dK u nt).1∧(dK u nt).2.s.length+2≤u.length:=by
 unfold dK at hg ⊢
 by_cases c:(aM u).length=u.length∨aM u=[]
 ·rw[if_pos c]at hg;cases hg
 ·rw[if_neg c]at hg ⊢
  have c1:¬ (aM u).length=u.length:=fun h=>c (.inl h)
  have c2:aM u≠[]:=fun h=>c (.inr h)
  have hl:=tX u
  have hl1:0<(aM u).length:=List.length_pos_iff.2 c2
  refine⟨rfl,?_,by rw[List.length_drop];omega⟩
  rw[SG]
  refine⟨.inl ⟨rfl,?_⟩,trivial⟩
  rw[Ig _ _ _ _ (by omega),List.nil_append]
  have hbB:∀ x∈aM u,0≤x∧x≤255:=fun x hx=>hb x ((List.takeWhile_sublist _).subset hx)
  have h93:∀ x∈aM u,x≠93:=fun x hx=>by
   have:=List.all_eq_true.1 (List.all_takeWhile (p:=n93) (l:=u)) x hx
   unfold n93 at this
   simpa using this
  have hnb:=Qi (aM u).length (aM u) (List.replicate 256 false) false List.length_replicate (fun x hx=>⟨(hbB x hx).1,h93 x hx⟩) (fun h=>absurd h (by decide))
  obtain⟨lo,t,e⟩:=List.exists_cons_of_ne_nil c2
  have hfirst:(bz (aM u).length (aM u) (List.replicate 256 false) false).1.getD lo.toNat false=true:=by
   rw[e,List.length_cons]
   have hlo:=hbB lo (by rw[e];exact List.mem_cons_self ..)
   refine Qg _ _ _ _ List.length_replicate hlo.1 hlo.2 ?_
   rw[e,List.length_cons]at hg
   exact hg
  generalize (bz (aM u).length (aM u) (List.replicate 256 false) false).1=f at hnb hfirst
  have hlo:=hbB lo (by rw[e];exact List.mem_cons_self ..)
  have hlom:lo∈marks f 0 256:=marks_mem.2 ⟨lo.toNat,by omega,by omega,by omega,hfirst⟩
  refine⟨wA _ _ _,fun h=>?_,(fun h=>by rw[h]at hlom;cases hlom),?_,CO _ _ _,fun b hb=>by obtain⟨i,rfl,h1,h2,_⟩:=marks_mem.1 hb;omega⟩
  ·obtain⟨i,e1,_,_,e2⟩:=marks_mem.1 h
   have:i=93:=by omega
   subst this
   have h2:=hnb e2
   refine⟨marks f 0 92,marks f 95 161,?_⟩
   rw[show 256=92+(3+161)from rfl,wB,wB]
   congr 1
   congr 1
   unfold marks
   simp only[List.range',List.filter_cons,h2.1,h2.2,e2,if_true]
   rfl
  ·cases nt with
   | true=>exact .inl rfl
   | false =>
    refine .inr fun h=>?_
    rw[h,List.mem_singleton]at hlom
    subst hlom
    have:u=94::u.drop 1:=by
     match u,e with
     | a::u',e =>
      by_cases ha:a=93
      ·rw[ha,ke]at e;cases e
      ·rw[gH ha]at e;rw[(List.cons.inj e).1];rfl
    exact hn rfl _ this
theorem K7(s:List Int)(h:By s){x:aq}{r:av}(e:lY ⟨s,false⟩=some (x,r,()))(hg:r.bad=false):bc x=1∧SG x∧r.s.length+2≤s.length:=by
 obtain⟨nt,k,e1,hk⟩:=yd s
 have hu:By (s.drop k):=h.suf (List.drop_suffix _ _)
 have e2:=vD _ nt hu.1 hu.2 s e1
 rw[e2]at e
 obtain⟨rfl,rfl⟩:(dK (s.drop k) nt).1=x∧(dK (s.drop k) nt).2=r:=by
  have:=Option.some.inj e
  exact⟨congrArg Prod.fst this,congrArg (fun z=>z.2.1) this⟩
 have h3:=Qd hu.2 (fun hn v hv=>by
  rcases hk with ⟨h1,_⟩ | ⟨_,h2,h3⟩
  ·rw[hn]at h1;cases h1
  ·subst h2;exact h3 v hv) hg
 exact⟨h3.1,h3.2.1,by have:=h3.2.2;rw[List.length_drop]at this;omega⟩
def GP(F:av→Option (aq×av×Unit))(s:List Int)(k:Nat):Prop :=
 ∀ x r,F ⟨s,false⟩=some (x,r,())→r.bad=false→bc x+2*r.s.length+2*k≤2*s.length+1∧SG x
theorem dE{α β:Type}{a a':α}{b b':β}(h:some (a,b,())=some (a',b',())):a=a'∧b=b':=by
 have:=Option.some.inj h
 exact⟨congrArg Prod.fst this,congrArg (fun z=>z.2.1) this⟩
theorem j6{op c:Int}(h:op≠3):SG ⟨op,c,[],false,[]⟩:=by rw[SG];exact⟨.inr ⟨h,rfl,rfl⟩,trivial⟩
theorem C0{op c:Int}{st:List Int}{nt:Bool}:bc ⟨op,c,st,nt,[]⟩=1:=rfl
theorem Kd(b:Int)(s:List Int)(h:By (b::s))(hp:GP eA s 0)(ht:cq eA s false 0):GP gX (b::s) 1:=by
 have hs:By s:=h.suf (List.suffix_cons b s)
 intro x r e hg
 rw[vw,dH,aa]at e
 dsimp only at e
 rw[if_pos (by simp;omega),kp]at e
 have leaf:∀ (y:aq) (bad:Bool),some (y,(⟨s,bad⟩:av),())=some (x,r,())→(bad=false→bc y=1∧SG y)→bc x+2*r.s.length+2*1≤2*(b::s).length+1∧SG x:=fun y bad e1 h1=>by
  obtain⟨rfl,rfl⟩:=dE e1
  obtain⟨h2,h3⟩:=h1 hg
  rw[h2,List.length_cons]
  exact⟨by dsimp only;omega,h3⟩
 by_cases c1:b=40
 ·rw[ak c1]at e
  obtain⟨y,r1,f,f1,f2,f3,f4⟩:=ht
  have hp1:=hp y r1 f
  rw[f,aa]at e
  dsimp only at e
  rcases fa r1 with hr | ⟨a,t,hr⟩
  ·rw[eJ hr,aa]at e;dsimp only at e
   rw[if_pos (by simp)]at e
   obtain⟨rfl,rfl⟩:=dE e
   cases hg
  ·subst hr
   by_cases ha:a=41
   ·subst ha
    rw[iy,aa]at e;dsimp only at e
    rw[if_neg (by simp)]at e
    obtain⟨rfl,rfl⟩:=dE e
    obtain⟨g1,g2⟩:=hp1 rfl
    refine⟨?_,g2⟩
    simp only[List.length_cons]at g1 ⊢;omega
   ·rw[ix ha,aa]at e;dsimp only at e
    rw[if_pos (by simp)]at e
    obtain⟨rfl,rfl⟩:=dE e
    cases hg
 rw[aj c1]at e
 by_cases c2:b=46
 ·rw[ak c2]at e;exact leaf _ _ e fun _=>⟨rfl,j6 (by decide)⟩
 rw[aj c2]at e
 by_cases c3:b=94
 ·rw[ak c3]at e;exact leaf _ _ e fun _=>⟨rfl,j6 (by decide)⟩
 rw[aj c3]at e
 by_cases c4:b=36
 ·rw[ak c4]at e;exact leaf _ _ e fun _=>⟨rfl,j6 (by decide)⟩
 rw[aj c4]at e
 by_cases c5:b=91
 ·rw[ak c5]at e
  obtain⟨y,r1,f,f1,f2⟩:=BP s hs
  have hp1:=K7 s hs f
  rw[f,aa]at e
  dsimp only at e
  obtain⟨rfl,rfl⟩:=dE e
  obtain⟨g1,g2,g3⟩:=hp1 hg
  refine⟨?_,g2⟩
  rw[g1,List.length_cons];omega
 rw[aj c5]at e
 by_cases c6:b=92
 ·rw[ak c6]at e
  cases s with
  | nil =>
   rw[cO (.inl rfl),aa]at e;dsimp only at e;rw[if_pos (by simp)]at e
   exact leaf _ _ e fun h=>by cases h
  | cons a t =>
   rw[dH,aa]at e;dsimp only at e
   rw[if_neg (by simp),if_pos (by simp;omega),nI]at e
   obtain⟨rfl,rfl⟩:=dE e
   exact⟨by rw[C0];simp only[List.length_cons];omega,j6 (by decide)⟩
 rw[aj c6]at e
 have l1:∀ (t:Bool),lW b t ⟨s,false⟩ aL=some (x,r,())→bc x+2*r.s.length+2*1≤2*(b::s).length+1∧SG x:=fun t e=>by
  rw[lX]at e
  cases t with
  | true=>rw[if_pos rfl]at e;exact leaf _ _ e fun h=>by cases h
  | false=>rw[if_neg (by simp)]at e;exact leaf _ _ e fun _=>⟨rfl,j6 (by decide)⟩
 by_cases c7:b=42
 ·rw[ak c7]at e;exact l1 _ e
 rw[aj c7]at e
 by_cases c8:b=43
 ·rw[ak c8]at e;exact l1 _ e
 rw[aj c8]at e
 exact l1 _ e
theorem Hb{x:aq}{op:Int}(h:op≠3)(hx:SG x):SG ⟨op,0,[],false,[x]⟩:=by rw[SG,SGL,SGL];exact⟨.inr ⟨h,rfl,rfl⟩,hx,trivial⟩
theorem KQ(z:aq):∀ (n:Nat) (r r':av) (x y:aq),r.s.length≤n→jj r z x=some (y,r',())→r'.bad=false→SG x→bc y+2*r'.s.length≤bc x+2*r.s.length∧SG y:=by
 intro n
 induction n with
 | zero =>
  intro r r' x y hn e hg hx
  rw[g7,cO (.inl (List.length_eq_zero_iff.1 (by omega))),aa]at e
  dsimp only at e
  rw[if_pos (by simp)]at e
  obtain⟨rfl,rfl⟩:=dE e
  exact⟨Nat.le_refl _,hx⟩
 | succ n ih =>
  intro r r' x y hn e hg hx
  rw[g7]at e
  rcases fa r with hr | ⟨b,s,rfl⟩
  ·rw[cO hr,aa]at e
   dsimp only at e
   rw[if_pos (by simp)]at e
   obtain⟨rfl,rfl⟩:=dE e
   exact⟨Nat.le_refl _,hx⟩
  ·obtain⟨v,e0,hv⟩:=rN b
   rw[dH,aa]at e
   dsimp only at e
   rw[if_neg (by simp),e0,aa]at e
   dsimp only at e
   by_cases c:v=0
   ·rw[ak c]at e
    obtain⟨rfl,rfl⟩:=dE e
    exact⟨Nat.le_refl _,hx⟩
   ·rw[aj c,if_pos (by simp;omega),aa]at e
    dsimp only at e
    rw[kp]at e
    obtain⟨g1,g2⟩:=ih ⟨s,false⟩ r' _ y (by simp at hn ⊢;omega) e hg (Hb (by rcases hv with h | h | h | h <;> omega) hx)
    refine⟨?_,g2⟩
    rw[bc,aY,aY]at g1
    simp only[List.length_cons]at g1 ⊢;omega
theorem KT(b:Int)(s:List Int)(h:GP gX (b::s) 1)(ht:cq gX (b::s) false 1):GP eB (b::s) 1:=by
 intro x r e hg
 obtain⟨y,r1,f,f1,f2,f3,f4⟩:=ht
 rw[vx,f,aa]at e
 have hb:r1.bad=false:=by
  obtain⟨y',r',q1,q2,q3⟩:=BE aL _ r1 y (Nat.le_refl _)
  rw[q1]at e
  obtain⟨rfl,rfl⟩:=dE e
  cases hb:r1.bad with
  | false=>rfl
  | true=>rw[q3 hb]at hg;cases hg
 obtain⟨g1,g2⟩:=h y r1 f hb
 obtain⟨g3,g4⟩:=KQ aL _ r1 r y x (Nat.le_refl _) e hg g2
 exact⟨by omega,g4⟩
theorem Ax{l:List aq}(hl:l.length=1):l=[l.getD 0 aL]:=by
 match l,hl with
 | [x],_=>rfl
theorem Dd{l:List aq}(h:SGL l):bc (eH l)≤aY l+1∧SG (eH l):=by
 unfold eH
 by_cases c:l.length=0
 ·rw[if_pos c];exact⟨by rw[C0];omega,j6 (by decide)⟩
 ·rw[if_neg c]
  by_cases d:l.length=1
  ·rw[if_pos d]
   have e:=Ax d
   have e1:aY l=bc (l.getD 0 aL):=by rw[e,aY,aY];rfl
   exact⟨by omega,by rw[e,SGL]at h;exact h.1⟩
  ·rw[if_neg d];exact⟨by rw[bc];omega,by rw[SG];exact⟨.inr ⟨by decide,rfl,rfl⟩,h⟩⟩
theorem Dh{l:List aq}(hl:1≤l.length)(h:SGL l):bc (ef l)≤aY l+1∧(2≤l.length∨bc (ef l)=aY l)∧SG (ef l):=by
 unfold ef
 by_cases d:l.length=1
 ·rw[if_pos d]
  have e:=Ax d
  have e1:aY l=bc (l.getD 0 aL):=by rw[e,aY,aY];rfl
  exact⟨by omega,.inr e1.symm,by rw[e,SGL]at h;exact h.1⟩
 ·rw[if_neg d];exact⟨by rw[bc];omega,.inl (by omega),by rw[SG];exact⟨.inr ⟨by decide,rfl,rfl⟩,h⟩⟩
theorem tT{a b:Bool}(h:a=true→b=true)(hb:b=false):a=false:=by
 cases a with
 | false=>rfl
 | true=>rw[h rfl]at hb;cases hb
theorem KN(z:aq)(N:Nat)(hp:∀ b s,(b::s).length≤N→By (b::s)→GP eB (b::s) 1)(S:Nat) :
  ∀ (n:Nat) (r r':av) (l:List aq) (y:aq),r.s.length≤n→n≤N→By r.s→l.length+n≤60→jh l r z=some (y,r',())→r'.bad=false→SGL l→aY l+l.length+2*r.s.length≤2*S→bc y+2*r'.s.length≤2*S+1∧SG y:=by
 intro n
 induction n with
 | zero =>
  intro r r' l y hn hN hb hl e hg hx hs
  rw[gY,cO (.inl (List.length_eq_zero_iff.1 (by omega))),aa]at e
  dsimp only at e
  rw[if_pos (by simp),cC]at e
  obtain⟨rfl,rfl⟩:=dE e
  obtain⟨g1,g3⟩:=Dd hx
  exact⟨by omega,g3⟩
 | succ n ih =>
  intro r r' l y hn hN hb hl e hg hx hs
  rw[gY]at e
  have stop:∀ r,some (eH l,r,())=some (y,r',())→aY l+l.length+2*r.s.length≤2*S→bc y+2*r'.s.length≤2*S+1∧SG y:=fun r e hs=>by
   obtain⟨rfl,rfl⟩:=dE e
   obtain⟨g1,g3⟩:=Dd hx
   exact⟨by omega,g3⟩
  rcases fa r with hr | ⟨b,s,rfl⟩
  ·rw[cO hr,aa]at e
   dsimp only at e
   rw[if_pos (by simp),cC]at e
   exact stop _ e hs
  ·rw[dH,aa]at e
   dsimp only at e
   rw[if_neg (by simp)]at e
   by_cases c1:b=124
   ·rw[ak c1,cC]at e;exact stop _ e hs
   rw[aj c1]at e
   by_cases c2:b=41
   ·rw[ak c2,cC]at e;exact stop _ e hs
   rw[aj c2]at e
   obtain⟨x1,r1,f,f1,f2,f3,f4⟩:=(je _).1 b s (Nat.le_refl _) hb
   have g:=hp b s (by have:(b::s).length≤n+1:=hn;omega) hb x1 r1 f
   rw[f,aa]at e
   dsimp only at e
   rw[if_pos (by rw[aN];omega)]at e
   have hn':(b::s).length≤n+1:=hn
   have h2:r1.s.length≤n:=by omega
   have hll:(List.append l [x1]).length=l.length+1:=by show(l++[x1]).length=_;simp
   obtain⟨y2,r2,q1,q2,q3⟩:=Df z r1 (hb.suf f1) (List.append l [x1]) (by omega)
   rw[q1]at e
   obtain⟨rfl,rfl⟩:=dE e
   obtain⟨g1,g2⟩:=g (tT q3 hg)
   refine ih r1 r2 _ y2 h2 (by omega) (hb.suf f1) (by omega) q1 hg ((tL l [x1]).2 ⟨hx,by rw[SGL];exact⟨g2,trivial⟩⟩) ?_
   rw[hll,show aY (List.append l [x1])=aY l+(bc x1+0)from wF l [x1]]
   have hs':aY l+l.length+2*(b::s).length≤2*S:=hs
   omega
theorem KO(z:aq)(N:Nat)(hp:∀ s,s.length≤N→By s→GP eU s 0)(S:Nat) :
  ∀ (n:Nat) (r r':av) (l:List aq) (y:aq),r.s.length≤n→n≤N→By r.s→1≤l.length→l.length+n≤61→ji l r z=some (y,r',())→r'.bad=false→SGL l→aY l+(l.length-1)+2*r.s.length≤2*S+1→bc y+2*r'.s.length≤2*S+1∧SG y:=by
 intro n
 induction n with
 | zero =>
  intro r r' l y hn hN hb h1 hl e hg hx hs
  rw[gZ,eJ (.inl (List.length_eq_zero_iff.1 (by omega))),aa]at e
  dsimp only at e
  rw[if_neg (by simp),dI]at e
  obtain⟨rfl,rfl⟩:=dE e
  obtain⟨g1,g2,g3⟩:=Dh h1 hx
  exact⟨by omega,g3⟩
 | succ n ih =>
  intro r r' l y hn hN hb h1 hl e hg hx hs
  rw[gZ]at e
  have stop:∀ r,some (ef l,r,())=some (y,r',())→aY l+(l.length-1)+2*r.s.length≤2*S+1→bc y+2*r'.s.length≤2*S+1∧SG y:=fun r e hs=>by
   obtain⟨rfl,rfl⟩:=dE e
   obtain⟨g1,g2,g3⟩:=Dh h1 hx
   exact⟨by omega,g3⟩
  rcases fa r with hr | ⟨b,s,rfl⟩
  ·rw[eJ hr,aa]at e
   dsimp only at e
   rw[if_neg (by simp),dI]at e
   exact stop _ e hs
  ·by_cases c1:b=124
   ·subst c1
    rw[iy,aa]at e
    dsimp only at e
    have hbs:By s:=hb.suf (List.suffix_cons _ _)
    have hn':s.length≤n:=by have:(124::s).length≤n+1:=hn;simp only[List.length_cons]at this;omega
    obtain⟨x1,r1,f,f1,f2,f3,f4⟩:=(je _).2 s false (Nat.le_refl _) hbs
    have g:=hp s (by omega) hbs x1 r1 f
    rw[if_pos rfl,f,aa]at e
    dsimp only at e
    rw[if_pos (by rw[aN];omega)]at e
    have hll:(List.append l [x1]).length=l.length+1:=by show(l++[x1]).length=_;simp
    obtain⟨y2,r2,q1,q2,q3⟩:=rH z r1 (hbs.suf f1) (List.append l [x1]) (by omega)
    rw[q1]at e
    obtain⟨rfl,rfl⟩:=dE e
    obtain⟨g1,g2⟩:=g (tT q3 hg)
    refine ih r1 r2 _ y2 (by omega) (by omega) (hbs.suf f1) (by omega) (by omega) q1 hg ((tL l [x1]).2 ⟨hx,by rw[SGL];exact⟨g2,trivial⟩⟩) ?_
    rw[hll,show aY (List.append l [x1])=aY l+(bc x1+0)from wF l [x1]]
    have hs':aY l+(l.length-1)+2*(s.length+1)≤2*S+1:=hs
    omega
   ·rw[ix c1,aa]at e
    dsimp only at e
    rw[if_neg (by simp),dI]at e
    exact stop _ e hs
theorem BB(N:Nat)(hp:∀ b s,(b::s).length≤N→By (b::s)→GP eB (b::s) 1)(s:List Int)(h:s.length≤N)(hs:By s):GP eU s 0:=by
 intro x r e hg
 rw[ol]at e
 obtain⟨g1,g2⟩:=KN aL N hp s.length s.length ⟨s,false⟩ r [] x (Nat.le_refl _) h hs (by have:=hs.1;simp;omega) e hg trivial (by simp[aY])
 exact⟨by omega,g2⟩
theorem BD(N:Nat)(hp:∀ s,s.length≤N→By s→GP eU s 0)(s:List Int)(h:s.length≤N)(hs:By s):GP eA s 0:=by
 intro x r e hg
 have h60:=hs.1
 obtain⟨x1,r1,f,f1,f2,f3,f4⟩:=(je _).2 s false (Nat.le_refl _) hs
 rw[qX,f,aa]at e
 dsimp only at e
 obtain⟨y2,r2,q1,q2,q3⟩:=rH aL r1 (hs.suf f1) [x1] (by simp;omega)
 rw[q1]at e
 obtain⟨rfl,rfl⟩:=dE e
 obtain⟨g1,g2⟩:=hp s h hs x1 r1 f (tT q3 hg)
 obtain⟨g3,g4⟩:=KO aL N hp s.length r1.s.length r1 r2 [x1] y2 (Nat.le_refl _) (by omega) (hs.suf f1) (Nat.le_refl _) (by simp;omega) q1 hg (by rw[SGL];exact⟨g2,trivial⟩) (by rw[aY,aY];simp;omega)
 exact⟨by omega,g4⟩
theorem KP:∀ (n:Nat) (s:List Int),s.length≤n→By s→GP eA s 0:=by
 intro n
 induction n with
 | zero =>
  intro s hn hs
  exact BD 0 (fun s h hs=>BB 0 (fun b s h=>by simp at h) s h hs) s hn hs
 | succ n ih =>
  intro s hn hs
  have hpiece:∀ b s,(b::s).length≤n+1→By (b::s)→GP eB (b::s) 1:=fun b s h hs=>by
   have hs':By s:=hs.suf (List.suffix_cons _ _)
   have ht:=ov _ s false (Nat.le_refl _) hs'
   exact KT b s (Kd b s hs (ih s (by simpa using h) hs') ht) (qL b s hs ht)
  exact BD (n+1) (fun s h hs=>BB (n+1) hpiece s h hs) s hn hs
theorem N0(S:List Int)(hB:∀ b∈S,0≤b∧b≤255)(hl:S.length≤9223372036854775807):∃ x ok,kY S=some (x,ok,())∧lT S=some (x,ok,())∧bc x≤121∧SG x∧Small x∧∃ v,v≤12∧gx x=some (v,())∧gh x=some (v,()):=by
 obtain⟨x,ok,e1,e2⟩:=DH S hB hl
 refine⟨x,ok,e1,e2,?_⟩
 have hz:bc aL≤121∧SG aL∧Small aL:=⟨by decide,j6 (by decide),pu rfl⟩
 have hzd:∃ v,v≤12∧gx aL=some (v,())∧gh aL=some (v,()):=by
  obtain⟨v,d1,d2⟩:=uo hz.2.2
  refine⟨v,?_,d1,d2⟩
  rw[EB,xN,if_neg (by decide)]at d1
  have:=congrArg Prod.fst (Option.some.inj d1)
  revert this
  show(w64 (0+1)=v→v≤12)
  rw[aF (by omega) (by omega)];omega
 rw[Bd]at e2
 by_cases c:(S.length:Int)>60
 ·rw[ak c]at e2
  have:=congrArg Prod.fst (Option.some.inj e2)
  dsimp only at this
  rw[← this];exact⟨hz.1,hz.2.1,hz.2.2,hzd⟩
 have n1:¬ (decide ((S.length:Int)>60)=true):=by rw[ab];exact c
 have hS:By S:=⟨by omega,hB⟩
 obtain⟨y,r,g,g1,g2,g3,g4⟩:=ov _ S false (Nat.le_refl _) hS
 have gg:=KP _ S (Nat.le_refl _) hS y r g
 rw[if_neg n1,g,aa]at e2
 dsimp only at e2
 have zz:∀ ok',some (aL,ok',())=some (x,ok,())→bc x≤121∧SG x∧Small x∧∃ v,v≤12∧gx x=some (v,())∧gh x=some (v,()):=fun ok' h=>by
  have:=congrArg Prod.fst (Option.some.inj h)
  dsimp only at this
  rw[← this];exact⟨hz.1,hz.2.1,hz.2.2,hzd⟩
 by_cases c1:r.bad=true
 ·rw[if_pos c1]at e2;exact zz _ e2
 rw[if_neg c1]at e2
 by_cases c2:(!(decide (r.s=[])))=true
 ·rw[if_pos c2]at e2;exact zz _ e2
 obtain⟨v,d1,d2⟩:=uo g4
 rw[if_neg c2,d2,aa]at e2
 dsimp only at e2
 by_cases hv:v>12
 ·rw[ak hv]at e2;exact zz _ e2
 ·rw[aj hv]at e2
  have:=congrArg Prod.fst (Option.some.inj e2)
  dsimp only at this
  subst this
  obtain⟨h1,h2⟩:=gg (by simpa using c1)
  exact⟨by have:=hS.1;omega,h2,g4,v,by omega,d1,d2⟩
theorem vP(t:List Int):∀ l:List Int,0≤ba l t↔t <:+: l
 | []=>by
  unfold ba
  cases t with
  | nil=>simp
  | cons a t=>simp
 | b::l=>by
  have ih:=vP t l
  have hb:=jp l t
  unfold ba
  rw[List.infix_cons_iff]
  by_cases c:t.isPrefixOf (b::l)=true
  ·rw[if_pos c];exact⟨fun _=>.inl (List.isPrefixOf_iff_prefix.1 c),fun _=>Int.le_refl _⟩
  ·rw[if_neg c]
   have c':¬ t <+: b::l:=fun h=>c (List.isPrefixOf_iff_prefix.2 h)
   by_cases d:ba l t = -1
   ·rw[if_pos d]
    exact⟨fun h=>by omega,fun h=>by rcases h with h | h;exact absurd h c';exact absurd (ih.2 h) (by omega)⟩
   ·rw[if_neg d]
    exact⟨fun h=>.inr (ih.1 (by omega)),fun h=>by rcases h with h | h;exact absurd h c';have:=ih.2 h;omega⟩
theorem zF(l t:List Int)(h:l.length≤1000000):tp l t=some (decide (t <:+: l),()):=by
 rw[RD,yA,if_pos (by omega),aa]
 dsimp only
 congr 2
 exact decide_eq_decide.2 (vP t l)
mutual
def dp:aq→Nat
 | ⟨_,_,_,_,ks⟩=>1+dpL ks
def dpL:List aq→Nat
 | []=>0
 | k::ks=>max (dp k) (dpL ks)
end
theorem uv(x:aq):dp x=1+dpL x.Kids:=by obtain⟨a,b,c,d,ks⟩:=x;rw[dp]
theorem oI(x:aq):bc x=1+aY x.Kids:=by obtain⟨a,b,c,d,ks⟩:=x;rw[bc]
theorem tM(x:aq):SG x↔((x.Op=3∧tN x.Set x.Not)∨(x.Op≠3∧x.Set=[]∧x.Not=false))∧SGL x.Kids:=by obtain⟨a,b,c,d,ks⟩:=x;rw[SG]
theorem uu:∀ {l:List aq} {x:aq},x∈l→dp x≤dpL l
 | k::l,x,hx=>by
  rw[dpL]
  rcases List.mem_cons.1 hx with rfl | hx
  ·omega
  ·have:=uu hx;omega
theorem IG:∀ (n:Nat) (x:aq),bc x≤n→n≤1000000→gh x=some ((dp x:Int),()):=by
 intro n
 induction n with
 | zero=>intro x h;have:=kO x;omega
 | succ n ih =>
  intro x h hn
  rw[oI]at h
  have hlen:=oH x.Kids
  have hdp:∀ l:List aq,dpL l≤aY l:=fun l=>by
   have:∀ (m:Nat),(∀ x:aq,bc x≤m→dp x≤bc x)∧∀ l:List aq,aY l≤m→dpL l≤aY l:=by
    intro m
    induction m with
    | zero=>exact⟨fun x h=>by have:=kO x;omega,fun l h=>by cases l with | nil=>exact Nat.le_refl _ | cons k l=>rw[aY]at h;have:=kO k;omega⟩
    | succ m ihm =>
     have h1:∀ x:aq,bc x≤m+1→dp x≤bc x:=fun x h=>by
      rw[oI]at h ⊢;rw[uv];have:=ihm.2 x.Kids (by omega);omega
     refine⟨h1,fun l=>?_⟩
     induction l with
     | nil=>intro h;exact Nat.le_refl _
     | cons k l ihl=>intro h;rw[aY]at h;rw[aY,dpL];have:=h1 k (by omega);have:=ihl (by omega);omega
   exact(this _).2 l (Nat.le_refl _)
  have key:∀ (d i:Nat) (t:Nat),i+d=x.Kids.length→t≤1000000→oj (t:Int) x.Kids (x.Kids.length:Int) (i:Int)=some (((max t (dpL (x.Kids.drop i))+1:Nat):Int),()):=by
   intro d
   induction d with
   | zero =>
    intro i t hi ht
    rw[qW,aj (by omega),List.drop_eq_nil_of_le (by omega),dpL,aF (by omega) (by omega)]
    congr 2;omega
   | succ d ihd =>
    intro i t hi ht
    have hi':i<x.Kids.length:=by omega
    have hm:=List.getElem_mem hi'
    have hk:=oJ hm
    have h1:=ih x.Kids[i] (by omega) (by omega)
    have h2:=uu hm
    have h3:=hdp x.Kids
    rw[qW,ak (by omega),if_pos (by omega),aS hi',h1,aa]
    dsimp only
    rw[aR hi' (by omega),show mxI (t:Int) (dp x.Kids[i]:Int)=((max t (dp x.Kids[i]):Nat):Int) by rw[CV];split <;> omega,ihd (i+1) _ (by omega) (by omega),ai hi',dpL]
    congr 3;omega
  rw[BI,uv]
  have:=key x.Kids.length 0 0 (by omega) (by omega)
  rw[List.drop_zero]at this
  rw[show(0:Int)=((0:Nat):Int)from rfl,this]
  congr 2;omega
def kN(x:aq):Bool :=
 if x.Op=1 then decide (0≤x.C∧x.C≤255)&&decide (x.Kids.length=0)
 else if x.Op=2∨x.Op=3∨x.Op=4∨x.Op=5∨x.Op=11 then decide (x.C=0)&&decide (x.Kids.length=0)
 else if x.Op=6∨x.Op=7 then decide (x.C=0)&&decide (2≤x.Kids.length)
 else if x.Op=8∨x.Op=9∨x.Op=10 then decide (x.C=0)&&decide (x.Kids.length=1)
 else false
mutual
def rx:aq→Bool
 | ⟨a,b,c,d,ks⟩=>kN ⟨a,b,c,d,ks⟩&&rxL ks
def rxL:List aq→Bool
 | []=>true
 | k::ks=>rx k&&rxL ks
end
theorem xd(x:aq):rx x=(kN x&&rxL x.Kids):=by obtain⟨a,b,c,d,ks⟩:=x;rw[rx]
theorem xc:∀ l:List aq,rxL l = !l.any fun x=>!rx x
 | []=>rfl
 | k::l=>by rw[rxL,xc l,List.any_cons];cases rx k <;> simp
theorem FW{st:List Int}(h:st.Pairwise (· < ·)){i:Nat}(h0:0<i)(h1:i<st.length):st[i-1]<st[i] :=
 List.pairwise_iff_getElem.1 h (i-1) i (by omega) h1 (by omega)
theorem Qa{st:List Int}(h:st.Pairwise (· < ·))(hl:st.length≤256):xS st=some (true,()):=by
 have key:∀ (d i:Nat),i+d=st.length→0<i→sI st (i:Int)=some (true,()):=by
  intro d
  induction d with
  | zero=>intro i hi h0;rw[xT,aj (by omega)]
  | succ d ih =>
   intro i hi h0
   have hi':i<st.length:=by omega
   have:=FW h h0 hi'
   have w:w64 ((i:Int)-1)=((i-1:Nat):Int):=by rw[aF (by omega) (by omega)];omega
   rw[xT,ak (by omega),w,if_pos (by omega),if_pos (by omega),aS hi',aS (by omega),aj (by omega),aR hi' (by omega)]
   exact ih (i+1) (by omega) (by omega)
 rw[PN]
 by_cases c:st.length=0
 ·rw[xT,aj (by omega)]
 ·exact key (st.length-1) 1 (by omega) (by omega)
theorem K6{x:aq}(h:tN x.Set x.Not):vC x=some (true,()):=by
 obtain⟨h1,h2,h3,h4,h5,h6⟩:=h
 have key:∀ (d i:Nat),i+d=x.Set.length→ot (x.Set.length:Int) (i:Int) x=some (true,()):=by
  intro d
  induction d with
  | zero =>
   intro i hi
   rw[BO,aj (by omega),zF _ _ (by omega),zF _ _ (by omega),aa,aa]
   dsimp only
   have fin:(if(!(decide (x.Set=[])))=true then(if x.Not=true then some (true,())else some ((!(decide (x.Set=[94]))),()))else some (false,()))=some (true,()):=by
    rw[if_pos (by simp[h3])]
    rcases h4 with h4 | h4
    ·rw[if_pos h4]
    ·cases x.Not with
     | true=>rfl
     | false=>rw[if_neg (by decide),ae h4];rfl
   by_cases c:[93] <:+: x.Set
   ·rw[ak c]
    obtain⟨a,b,e⟩:=h2 (List.singleton_sublist.1 (List.IsInfix.sublist c))
    rw[ac (p:=[92,93,94] <:+: x.Set) ⟨a,b,by rw[e,ah]⟩,if_neg (by decide)]
    exact fin
   ·rw[aj c]
    exact fin
  | succ d ih =>
   intro i hi
   have hi':i<x.Set.length:=by omega
   rw[BO,ak (by omega),aR hi' (by omega)]
   by_cases c:0<i
   ·have:=FW h1 c hi'
    have w:w64 ((i:Int)-1)=((i-1:Nat):Int):=by rw[aF (by omega) (by omega)];omega
    rw[ak (by omega),w,if_pos (by omega),if_pos (by omega),aS hi',aS (by omega),aj (by omega)]
    exact ih (i+1) (by omega)
   ·rw[aj (by omega)]
    exact ih (i+1) (by omega)
 rw[K5]
 exact key x.Set.length 0 (by omega)
theorem NY(l:List aq)(d:Int)(hl:l.length≤4294967296)(h:∀ x∈l,oo x (w64 (d-1))=some (rx x,())):tl l d=some (!rxL l,d,()):=by
 rw[Rm,Rv]
 obtain⟨k,e1,e2,_⟩:=g9 (fun i=>ly l (l.length:Int) i d) (d,()) l.length (fun i=>!rx (l.getD i aL))
  (fun i hi=>by
   show ly l _ _ d=_
   rw[GE,ak (by omega),if_pos (by omega),aS hi,KZ,h _ (List.getElem_mem hi),aa,aa,aR hi (by omega),bj hi])
  (by show ly l _ _ d=_;rw[GE,if_neg (by simp)])
 have e1':ly l (l.length:Int) 0 d=some (k,d,()):=e1
 rw[e1',aa]
 dsimp only
 rw[e2,er l aL (fun x=>!rx x),xc,Bool.not_not]
theorem K2:∀ (n:Nat) (x:aq),bc x≤n→n≤1000000→SG x→∀ d:Int,(dp x:Int)≤d→d≤12→oo x d=some (rx x,()):=by
 intro n
 induction n with
 | zero=>intro x h;have:=kO x;omega
 | succ n ih =>
  intro x h hn hs d hd hd2
  rw[oI]at h
  rw[uv]at hd
  have hlen:=oH x.Kids
  obtain⟨hs1,hs2⟩:=(tM x).1 hs
  have hk:tl x.Kids d=some (!rxL x.Kids,d,()):=NY _ d (by omega) fun y hy=>by
   have h1:=oJ hy
   have h2:=uu hy
   exact ih y (by omega) (by omega) (pY hs2 hy) _ (by rw[aF (by omega) (by omega)];omega) (by rw[aF (by omega) (by omega)];omega)
  have hL1:∀ b:Bool,cL b x d=some (b&&rxL x.Kids,()):=fun b=>by
   rw[K0,hk,aa]
   cases b with
   | true=>rw[if_pos rfl,Bool.not_not,Bool.true_and]
   | false=>rw[if_neg (by decide),Bool.false_and]
  rw[K1,aj (by omega),xd]
  rw[ey]
  have e0:decide ((List.length x.Kids:Int)=0)=decide (x.Kids.length=0):=decide_eq_decide.2 (by omega)
  have e1:decide ((List.length x.Kids:Int)=1)=decide (x.Kids.length=1):=decide_eq_decide.2 (by omega)
  have e2:decide ((List.length x.Kids:Int)>1)=decide (2≤x.Kids.length):=decide_eq_decide.2 (by omega)
  unfold kN
  rcases hs1 with ⟨h3,hset⟩ | ⟨h3,hst,hnt⟩
  ·have hsr:=K6 hset
   by_cases hc:x.C=0
   ·simp[h3,hc,fJ,hsr,hL1,e0]
   ·simp[h3,hc]
  ·by_cases c1:x.Op=1
   ·simp only[c1,hst,hnt,aa,decide_true,Bool.not_true,Bool.not_false,decide_false,if_true,Bool.false_eq_true,if_false,hL1,e0,(by decide:decide ((1:Int)=3)=false)]
    by_cases hc:0≤x.C∧x.C≤255
    ·simp[hc]
    ·simp[hc]
   ·by_cases hc:x.C=0
    ·by_cases c2:x.Op=2
     ·simp[c2,hc,hst,hnt,fJ,hL1,e0]
     by_cases c4:x.Op=4
     ·simp[c4,hc,hst,hnt,fJ,hL1,e0]
     by_cases c5:x.Op=5
     ·simp[c5,hc,hst,hnt,fJ,hL1,e0]
     by_cases c11:x.Op=11
     ·simp[c11,hc,hst,hnt,fJ,hL1,e0]
     by_cases c6:x.Op=6
     ·simp[c6,hc,hst,hnt,fJ,l5,hL1,e2]
     by_cases c7:x.Op=7
     ·simp[c7,hc,hst,hnt,fJ,l5,hL1,e2]
     by_cases c8:x.Op=8
     ·simp[c8,hc,hst,hnt,fJ,l5,hL1,e1]
     by_cases c9:x.Op=9
     ·simp[c9,hc,hst,hnt,fJ,l5,hL1,e1]
     by_cases c10:x.Op=10
     ·simp[c10,hc,hst,hnt,fJ,l5,hL1,e1]
     simp[c1,h3,c2,c4,c5,c6,c7,c8,c9,c10,c11,hc,hst,hnt,fJ,l5,hL1]
    ·simp[c1,hc]
theorem PI:∀ (n:Nat) (x:aq),bc x≤n→n≤1000000→SG x→sC x=some (rx x,()):=by
 intro n
 induction n with
 | zero=>intro x h;have:=kO x;omega
 | succ n ih =>
  intro x h hn hs
  rw[oI]at h
  have hlen:=oH x.Kids
  obtain⟨hs1,hs2⟩:=(tM x).1 hs
  have key:∀ (d i:Nat),i+d=x.Kids.length→sD (i:Int) x=some (kN x&&rxL (x.Kids.drop i),()):=by
   intro d
   induction d with
   | zero =>
    intro i hi
    rw[EC,aj (by omega),List.drop_eq_nil_of_le (by omega),rxL,Bool.and_true,cP]
    have e0:decide ((List.length x.Kids:Int)=0)=decide (x.Kids.length=0):=decide_eq_decide.2 (by omega)
    have e1:decide ((List.length x.Kids:Int)=1)=decide (x.Kids.length=1):=decide_eq_decide.2 (by omega)
    have e2:decide ((List.length x.Kids:Int)≥2)=decide (2≤x.Kids.length):=decide_eq_decide.2 (by omega)
    unfold kN
    rcases hs1 with ⟨h3,hset⟩ | ⟨h3,hst,hnt⟩
    ·have hsr:=Qa hset.1 hset.2.2.2.2.1
     have hne:=hset.2.2.1
     by_cases hc:x.C=0
     ·simp[h3,hc,hsr,hne,e0]
     ·simp[h3,hc]
    ·by_cases c1:x.Op=1
     ·by_cases hc:0≤x.C∧x.C≤255
      ·simp[c1,hst,hnt,hc,e0]
      ·simp[c1,hst,hnt,hc,e0]
     ·have hin:cw x.Op 2 11=some (decide (2≤x.Op∧x.Op≤11),()):=cP ..
      by_cases hc:x.C=0
      ·by_cases c2:x.Op=2
       ·simp[c2,hc,hst,hnt,fT,ip,e0,cP]
       by_cases c4:x.Op=4
       ·simp[c4,hc,hst,hnt,fT,ip,e0,cP]
       by_cases c5:x.Op=5
       ·simp[c5,hc,hst,hnt,fT,ip,e0,cP]
       by_cases c11:x.Op=11
       ·simp[c11,hc,hst,hnt,fT,ip,e0,cP]
       by_cases c6:x.Op=6
       ·simp[c6,hc,hst,hnt,fT,e2]
       by_cases c7:x.Op=7
       ·simp[c7,hc,hst,hnt,fT,e2]
       by_cases c8:x.Op=8
       ·simp[c8,hc,hst,hnt,fT,ip,e1]
       by_cases c9:x.Op=9
       ·simp[c9,hc,hst,hnt,fT,ip,e1]
       by_cases c10:x.Op=10
       ·simp[c10,hc,hst,hnt,fT,ip,e1]
       have hno:¬ (2≤x.Op∧x.Op≤11):=by omega
       simp[c1,h3,c2,c4,c5,c6,c7,c8,c9,c10,c11,fT,ip,cP,hno]
      ·simp only[c1,h3,decide_false,Bool.false_eq_true,if_false,fT,ip,cP,hc,aa,Bool.false_and]
       simp
   | succ d ihd =>
    intro i hi
    have hi':i<x.Kids.length:=by omega
    have hm:=List.getElem_mem hi'
    have hk:=oJ hm
    rw[EC,ak (by omega),if_pos (by omega),aS hi',ih _ (by omega) (by omega) (pY hs2 hm),aa]
    dsimp only
    rw[aR hi' (by omega),ihd (i+1) (by omega),ai hi',rxL]
    cases rx x.Kids[i] with
    | true=>rw[if_neg (by decide),Bool.true_and]
    | false=>rw[if_pos (by decide),Bool.false_and,Bool.and_false]
  rw[PH,xd]
  have:=key x.Kids.length 0 (by omega)
  rwa [List.drop_zero]at this
theorem NZ{x:aq}(hn:bc x≤121)(hs:SG x)(hd:∃ v,v≤12∧gx x=some (v,())∧gh x=some (v,())):uZ x=some (rx x,())∧xu x=some (rx x,()):=by
 obtain⟨v,hv,e1,e2⟩:=hd
 have e3:=IG 121 x hn (by decide)
 rw[e2]at e3
 have e4:=congrArg Prod.fst (Option.some.inj e3)
 dsimp only at e4
 constructor
 ·rw[J7,K2 121 x hn (by decide) hs 12 (by omega) (by omega)];rfl
 ·rw[OQ,e1,aa]
  dsimp only
  rw[ak hv,PI 121 x hn (by decide) hs];rfl
def iz(a b c:Int):Int:=if c≥a∧c<w8 (a+26)then w8 (w8 (c-a)+b)else c
def fe(a b:Int)(t:List Int):List Int:=t.map (iz a b)
theorem FR{a b:Int}{t:List Int}(h:Bt t):Bt (fe a b t):=fun x hx=>by
 obtain⟨c,hc,rfl⟩:=List.mem_map.1 hx
 unfold iz
 split
 ·exact QW _
 ·exact h c hc
theorem Qn{α:Type}{t:List α}{i:Nat}(h:i<t.length)(x:α):(t.set i x).take (i+1)=t.take i++[x]:=by
 rw[List.take_add_one,List.take_set_of_le (Nat.le_refl _),List.getElem?_set_self h];rfl
theorem QG{α:Type}{t:List α}{i:Nat}(h:i<t.length):t.take (i+1)=t.take i++[t[i]]:=by
 rw[List.take_add_one,List.getElem?_eq_getElem h];rfl
theorem QO(a b:Int)(n:Nat)(hn:n≤4294967296):∀ (d i:Nat) (t:List Int),t.length=n→i+d=n→l8 a b t (n:Int) (i:Int)=some (t.take i++fe a b (t.drop i),())∧mI a b t (i:Int)=some (t.take i++fe a b (t.drop i),()):=by
 intro d
 induction d with
 | zero =>
  intro i t ht hi
  rw[BX,El,aj (by omega),aj (by omega),List.take_of_length_le (by omega),List.drop_eq_nil_of_le (by omega)]
  unfold fe
  rw[List.map_nil,List.append_nil];exact⟨rfl,rfl⟩
 | succ d ih =>
  intro i t ht hi
  have hi':i<t.length:=by omega
  have hin:(0:Int)≤(i:Int)∧(i:Int)<(t.length:Int):=by omega
  have hdrop:fe a b (t.drop i)=iz a b t[i]::fe a b (t.drop (i+1)):=by rw[ai hi'];rfl
  obtain⟨k1,k2⟩:=ih (i+1) t ht (by omega)
  obtain⟨s1,s2⟩:=ih (i+1) (t.set i (w8 (w8 (t[i]-a)+b))) (by rw[List.length_set];exact ht) (by omega)
  rw[Qn hi',List.drop_set_of_lt (by omega),ah]at s1 s2
  rw[QG hi',ah]at k1 k2
  rw[BX,El,ak (by omega),ak hin.2,hdrop]
  simp only[if_pos hin,aR hi' (by omega),af,bj hi']
  by_cases c1:t[i]≥a
  ·simp only[ac c1,if_true]
   by_cases c2:t[i]<w8 (a+26)
   ·have e:iz a b t[i]=w8 (w8 (t[i]-a)+b):=by unfold iz;rw[if_pos ⟨c1,c2⟩]
    simp only[ac c2,if_true]
    rw[e];exact⟨s1,s2⟩
   ·have e:iz a b t[i]=t[i]:=by unfold iz;rw[if_neg (fun h=>c2 h.2)]
    simp only[ae c2,Bool.false_eq_true,if_false]
    rw[e];exact⟨k1,k2⟩
  ·have e:iz a b t[i]=t[i]:=by unfold iz;rw[if_neg (fun h=>c1 h.1)]
   simp only[ae c1,Bool.false_eq_true,if_false]
   rw[e];exact⟨k1,k2⟩
theorem s4(a b:Int)(t:List Int)(ht:t.length≤300):q8 t a b=some (fe a b t,())∧sf t a b=some (fe a b t,()):=by
 obtain⟨e1,e2⟩:=QO a b t.length (by omega) t.length 0 t rfl (by omega)
 rw[List.take_zero,List.drop_zero,List.nil_append]at e1 e2
 rw[Li,O7,if_pos (by rw[aN];omega),if_pos (by rw[aN];omega)]
 exact⟨e1,e2⟩
theorem Ll{l t:List Int}(h:l.length<t.length):ba l t = -1:=by
 have hb:=jp l t
 have:=(vP t l).1
 by_cases c:0≤ba l t
 ·have:=(this c).length_le;omega
 ·omega
theorem O0(s t:List Int)(hs:s.length≤300)(ht:t.length≤300):∀ (d i:Nat),i+d=s.length→sg s t (i:Int)=some (if ba (s.drop i) t = -1 then 0 else(i:Int)+ba (s.drop i) t+1,()):=by
 intro d
 induction d with
 | zero =>
  intro i hi
  have hw:w64 ((i:Int)+(t.length:Int))=((i+t.length:Nat):Int):=by rw[aF (by omega) (by omega)];omega
  have hd:s.drop i=[]:=List.drop_eq_nil_of_le (by omega)
  rw[Eq,hw,hd]
  cases t with
  | nil =>
   rw[ak (by simp;omega),if_pos (by simp;omega)]
   rw[if_pos (by simp[hd]),aF (by omega) (by omega)]
   simp[ba]
  | cons c t =>
   rw[if_neg (by rw[ab,List.length_cons];omega)]
   simp[ba]
 | succ d ih =>
  intro i hi
  have hi':i<s.length:=by omega
  have hw:w64 ((i:Int)+(t.length:Int))=((i+t.length:Nat):Int):=by rw[aF (by omega) (by omega)];omega
  rw[Eq,hw]
  by_cases c:i+t.length≤s.length
  ·have hpre:(t.isPrefixOf (s.drop i)=true)↔(s.drop i).take t.length=t:=by
    rw[List.isPrefixOf_iff_prefix,List.prefix_iff_eq_take];exact eq_comm
   have hcons:=ai hi'
   rw[ak (by omega),if_pos (by omega),af,af,show i+t.length-i=t.length by omega,aR hi' (by omega)]
   by_cases c2:(s.drop i).take t.length=t
   ·have e:ba (s.drop i) t=0:=by rw[hcons]at hpre c2 ⊢;unfold ba;rw[if_pos (hpre.2 c2)]
    rw[ak c2,e,if_neg (by decide)]
    congr 2
   ·have hn:¬ t.isPrefixOf (s.drop i)=true:=fun h=>c2 (hpre.1 h)
    have e:ba (s.drop i) t=if ba (s.drop (i+1)) t = -1 then -1 else ba (s.drop (i+1)) t+1:=by rw[hcons]at hn ⊢;exact(by rw[ba,if_neg hn])
    have hb:=jp (s.drop (i+1)) t
    rw[aj c2,ih (i+1) (by omega),e]
    by_cases c3:ba (s.drop (i+1)) t = -1
    ·rw[if_pos c3,if_pos c3,if_pos rfl]
    ·rw[if_neg c3,if_neg c3,if_neg (by omega)]
     congr 2;omega
  ·rw[aj (by omega),if_pos (Ll (by rw[List.length_drop];omega))]
theorem O1(s t:List Int)(hs:s.length≤300)(ht:t.length≤300):xC s t=some (ba s t+1,()):=by
 rw[Pb]
 have:=O0 s t hs ht s.length 0 (by omega)
 rw[List.drop_zero]at this
 rw[show(0:Int)=((0:Nat):Int)from rfl,this]
 have hb:=jp s t
 congr 2
 split <;> omega
def jC(s:List Int)(f t:Int):List Int:=if mnI t s.length<mxI f 1 then []else List.take ((mnI t s.length).toNat-(mxI f 1-1).toNat) (List.drop (mxI f 1-1).toNat s)
theorem Nq{s:List Int}(hs:s.length≤300)(hb:Bt s)(f t:Int):(jC s f t).length≤300∧Bt (jC s f t):=by
 unfold jC
 split
 ·exact⟨Nat.zero_le _,fun x hx=>by cases hx⟩
 ·exact⟨by rw[List.length_take,List.length_drop];omega,fun x hx=>hb x (List.mem_of_mem_drop (List.mem_of_mem_take hx))⟩
theorem BF(s:List Int)(f t:Int)(hs:s.length≤300)(hf:-9000000≤f∧f≤9000000):qU s f t=some (jC s f t,()):=by
 have h1:1≤mxI f 1∧mxI f 1≤9000000:=by unfold mxI;split <;> omega
 have h2:mnI t s.length≤(s.length:Int):=by unfold mnI;split <;> omega
 rw[KS]
 unfold jC
 by_cases c:mxI f 1>mnI t s.length
 ·rw[ak c,if_pos c]
 ·rw[aj c,if_neg c,aF (by omega) (by omega),if_pos (c:=_∧_) (by omega)]
theorem ER(s:List Int)(f t:Int)(hs:s.length≤300)(hf:-9000000≤f∧f≤9000000):si s f (mnI t s.length)=some (jC s f t,()):=by
 have hm:mO f 1=some (mxI f 1,()):=by
  rw[xM]
  unfold mxI
  by_cases c:f>1
  ·rw[ak c,if_neg (by omega)]
  ·rw[aj c]
   split
   ·rfl
   ·congr 2;omega
 rw[Pf,hm,aa]
 dsimp only
 unfold jC
 by_cases c:mnI t s.length<mxI f 1
 ·rw[ak c,if_pos c]
 ·have h1:1≤mxI f 1∧mxI f 1≤9000000:=by unfold mxI;split <;> omega
  have h2:mnI t s.length≤(s.length:Int):=by unfold mnI;split <;> omega
  rw[aj c,if_neg c,aF (by omega) (by omega),if_pos (by omega)]
noncomputable def ga(name:List Int)(l:List au):au :=
 if name=[108,101,110,103,116,104] then⟨1,((aW (l.getD 0 aD)).length:Int)*1000000,[]⟩
 else if name=[105,110,116] then⟨1,Int.tdiv (bm (l.getD 0 aD)) 1000000*1000000,[]⟩
 else if name=[117,112,112,101,114] then⟨2,0,fe 97 65 (aW (l.getD 0 aD))⟩
 else if name=[108,111,119,101,114] then⟨2,0,fe 65 97 (aW (l.getD 0 aD))⟩
 else if name=[105,110,100,101,120] then⟨1,(ba (aW (l.getD 0 aD)) (aW (l.getD 1 aD))+1)*1000000,[]⟩
 else⟨2,0,jC (aW (l.getD 0 aD)) (bX (l.getD 1 aD)) (if 2<l.length then bX (l.getD 1 aD)+bX (l.getD 2 aD)-1 else((aW (l.getD 0 aD)).length:Int))⟩
theorem bF{l:List au}(h:∀ v∈l,VG v)(i:Nat):VG (l.getD i aD):=by
 by_cases c:i<l.length
 ·rw[bj c];exact h _ (List.getElem_mem c)
 ·rw[List.getD_eq_getElem?_getD,List.getElem?_eq_none (by omega)];exact ny
theorem HW{l:List au}(h:∀ v∈l,VG v)(name:List Int):VG (ga name l):=by
 obtain⟨t1,t2⟩:=dl (bF h 0)
 obtain⟨u1,u2⟩:=dl (bF h 1)
 unfold ga
 split
 ·exact fv (by unfold Dc;omega)
 split
 ·exact fv (qk (bW (bF h 0)).2.2).2.2
 split
 ·exact nz (by unfold fe;rw[List.length_map];exact t1) (FR t2)
 split
 ·exact nz (by unfold fe;rw[List.length_map];exact t1) (FR t2)
 split
 ·have:=jp (aW (l.getD 0 aD)) (aW (l.getD 1 aD))
  exact fv (by unfold Dc;omega)
 ·obtain⟨p1,p2⟩:=Nq t1 t2 (bX (l.getD 1 aD)) (if 2<l.length then bX (l.getD 1 aD)+bX (l.getD 2 aD)-1 else((aW (l.getD 0 aD)).length:Int))
  exact nz p1 p2
theorem Bi{l:List au}(h:∀ v∈l,VG v)(h2:2≤l.length)(h3:l.length≤3)(name:List Int):qM name l aD=some (ga name l,()):=by
 obtain⟨t1,t2⟩:=dl (bF h 0)
 obtain⟨u1,u2⟩:=dl (bF h 1)
 obtain⟨w1,w2,w3⟩:=mZ (bF h 1)
 obtain⟨x1,x2,x3⟩:=mZ (bF h 2)
 obtain⟨n1,n2,n3⟩:=bW (bF h 0)
 have hix:=jp (aW (l.getD 0 aD)) (aW (l.getD 1 aD))
 rw[Bh,aj (by omega),if_pos (by omega),dQ,aa]
 dsimp only
 unfold ga
 by_cases c1:name=[108,101,110,103,116,104]
 ·rw[ak c1,if_pos c1,wo,aF (by omega) (by omega),eT];rfl
 rw[aj c1,if_neg c1]
 by_cases c2:name=[105,110,116]
 ·rw[ak c2,if_pos c2,if_pos (by omega),n1,aa]
  dsimp only
  rw[(qk n3).1,aa,eT];rfl
 rw[aj c2,if_neg c2]
 by_cases c3:name=[117,112,112,101,114]
 ·rw[ak c3,if_pos c3,(s4 97 65 _ t1).1,aa,jo];rfl
 rw[aj c3,if_neg c3]
 by_cases c4:name=[108,111,119,101,114]
 ·rw[ak c4,if_pos c4,(s4 65 97 _ t1).1,aa,jo];rfl
 rw[aj c4,if_neg c4]
 by_cases c5:name=[105,110,100,101,120]
 ·rw[ak c5,if_pos c5,if_pos (by omega),dQ,aa]
  dsimp only
  rw[yA,if_pos (by omega),aa]
  dsimp only
  rw[aF (n:=ba (aW (l.getD 0 aD)) (aW (l.getD 1 aD))+1) (by omega) (by omega),aF (by omega) (by omega),eT];rfl
 rw[aj c5,if_neg c5,if_pos (by omega),w1,aa]
 dsimp only
 by_cases c6:2<l.length
 ·rw[ak (by omega),if_pos (by omega),x1,aa]
  dsimp only
  rw[aF (n:=bX (l.getD 1 aD)+bX (l.getD 2 aD)) (by omega) (by omega),aF (by omega) (by omega),BF _ _ _ t1 w3,aa,jo,if_pos c6];rfl
 ·rw[aj (by omega),BF _ _ _ t1 w3,aa,jo,if_neg c6];rfl
theorem Kg{l:List au}(h:∀ v∈l,VG v)(h1:1≤l.length)(h3:l.length≤3)(name:List Int):u9 name l=some (ga name l,()):=by
 rw[Kf]
 by_cases c:2≤l.length
 ·exact Bi h c h3 name
 ·obtain⟨v,e⟩:=List.length_eq_one_iff.1 (show l.length=1 by omega)
  subst e
  have h2:=Bi (l:=[v,aD]) (fun w hw=>by
   rcases List.mem_cons.1 hw with rfl | hw
   ·exact h _ (List.mem_cons_self ..)
   ·rw[List.mem_singleton.1 hw];exact ny) (by simp) (by simp) name
  rw[Bh,if_pos (by simp),Gu,if_neg (c:=Nat.beq (List.length [v]) 0=true) (show ¬ Nat.beq 1 0=true by decide),if_pos (by rw[aN];simp),aa]
  dsimp only
  rw[if_pos (by rw[aN];show 2≤4294967296;decide)]
  exact h2
theorem OW{l:List au}(h:∀ v∈l,VG v)(h1:1≤l.length)(h3:l.length≤3)(name:List Int)(hn:name∈kw2):xF name l=some (ga name l,()):=by
 have main:∀ l:List au,(∀ v∈l,VG v)→1≤l.length→l.length≤3→(2≤l.length∨(name≠[105,110,100,101,120]∧name≠[115,117,98,115,116,114]))→kZ name l=some (ga name l,()):=by
  intro l h h1 h3 h2
  obtain⟨t1,t2⟩:=dl (bF h 0)
  obtain⟨u1,u2⟩:=dl (bF h 1)
  obtain⟨w1,w2,w3⟩:=mZ (bF h 1)
  obtain⟨x1,x2,x3⟩:=mZ (bF h 2)
  obtain⟨n1,n2,n3⟩:=bW (bF h 0)
  have hix:=jp (aW (l.getD 0 aD)) (aW (l.getD 1 aD))
  rw[O6]
  unfold ga
  by_cases c1:name=[108,101,110,103,116,104]
  ·rw[ak c1,if_pos c1,if_pos (by omega),dY,aa]
   dsimp only
   rw[aF (by omega) (by omega),eh,Int.mul_comm];rfl
  rw[aj c1,if_neg c1]
  by_cases c2:name=[105,110,116]
  ·rw[ak c2,if_pos c2,if_pos (by omega),n2,aa]
   dsimp only
   rw[(qk n3).2.1,aa,eh];rfl
  rw[aj c2,if_neg c2]
  by_cases c5:name=[105,110,100,101,120]
  ·have hl2:2≤l.length:=h2.elim id fun h=>absurd c5 h.1
   rw[ak c5,if_pos (by omega),dY,aa,if_pos (by omega),dY,aa]
   dsimp only
   rw[O1 _ _ t1 u1,aa]
   dsimp only
   rw[aF (by omega) (by omega),eh,if_neg (by rw[c5];decide),if_neg (by rw[c5];decide),if_pos c5,Int.mul_comm];rfl
  rw[aj c5]
  by_cases c3:name=[117,112,112,101,114]
  ·rw[ak c3,if_pos c3,if_pos (by omega),dY,aa]
   dsimp only
   rw[(s4 97 65 _ t1).2];rfl
  rw[aj c3,if_neg c3]
  by_cases c4:name=[108,111,119,101,114]
  ·rw[ak c4,if_pos c4,if_pos (by omega),dY,aa]
   dsimp only
   rw[(s4 65 97 _ t1).2];rfl
  rw[aj c4,if_neg c4,if_neg c5]
  have hsub:name=[115,117,98,115,116,114]:=by
   unfold kw2 at hn
   simp only[List.mem_cons,List.not_mem_nil,or_false]at hn
   rcases hn with h | h | h | h | h | h
   ·exact absurd h c1
   ·exact h
   ·exact absurd h c5
   ·exact absurd h c2
   ·exact absurd h c3
   ·exact absurd h c4
  have hl2:2≤l.length:=h2.elim id fun h=>absurd hsub h.2
  obtain⟨m1,m2,m3⟩:=bW (bF h 1)
  obtain⟨k1,k2,k3⟩:=bW (bF h 2)
  rw[Pg,if_pos (by omega),dY,aa,if_pos (by omega),m2,aa]
  dsimp only
  by_cases c6:2<l.length
  ·rw[ak (by omega),if_pos (by omega),k2,aa]
   dsimp only
   rw[w2,x2,aF (n:=bX (l.getD 1 aD)+bX (l.getD 2 aD)) (by omega) (by omega),aF (by omega) (by omega),if_pos c6]
   have hmin:o8 ((aW (l.getD 0 aD)).length:Int) (bX (l.getD 1 aD)+bX (l.getD 2 aD)-1)=some (mnI (bX (l.getD 1 aD)+bX (l.getD 2 aD)-1) ((aW (l.getD 0 aD)).length:Int),()):=by
    rw[EA]
    unfold mnI
    by_cases c7:((aW (l.getD 0 aD)).length:Int)<bX (l.getD 1 aD)+bX (l.getD 2 aD)-1
    ·rw[ak c7,if_pos c7]
    ·rw[aj c7,if_neg c7]
   rw[hmin,aa]
   dsimp only
   rw[ER _ _ _ t1 w3];rfl
  ·rw[aj (by omega),w2,if_neg c6]
   have hmm:((aW (l.getD 0 aD)).length:Int)=mnI ((aW (l.getD 0 aD)).length:Int) ((aW (l.getD 0 aD)).length:Int):=by unfold mnI;split <;> rfl
   have:=ER (aW (l.getD 0 aD)) (bX (l.getD 1 aD)) ((aW (l.getD 0 aD)).length:Int) t1 w3
   rw[← hmm]at this
   rw[this];rfl
 rw[Po]
 by_cases c:2≤l.length
 ·rw[aj (by omega),main l h h1 h3 (.inl c)];rfl
 ·obtain⟨v,e⟩:=List.length_eq_one_iff.1 (show l.length=1 by omega)
  subst e
  have h2:=main [v,aD] (fun w hw=>by
   rcases List.mem_cons.1 hw with rfl | hw
   ·exact h _ (List.mem_cons_self ..)
   ·rw[List.mem_singleton.1 hw];exact ny) (by simp) (by simp) (.inl (by simp))
  have h2':kZ name (List.append (List.append [] [v]) [(au.mk 0 0 [])])=some (ga name [v],()):=h2
  rw[if_pos (by simp)]
  by_cases c5:name=[105,110,100,101,120]
  ·rw[ak c5,if_pos (by rw[aN];simp),if_pos (by rw[aN];show 2≤4294967296;decide),h2'];rfl
  ·rw[aj c5]
   by_cases c7:name=[115,117,98,115,116,114]
   ·rw[ak c7,if_pos (by rw[aN];simp),if_pos (by rw[aN];show 2≤4294967296;decide),h2'];rfl
   ·rw[aj c7,main [v] h h1 h3 (.inr ⟨c5,c7⟩)];rfl
theorem ir{α:Type}(l r:List α)(p q:α):(l++p::r).set l.length q=l++q::r:=by
 rw[List.set_append_right _ _ (Nat.le_refl _),Nat.sub_self];rfl
theorem gP{α:Type}(l r:List α)(p z:α):(l++p::r).getD l.length z=p:=by
 rw[List.getD_eq_getElem?_getD,List.getElem?_append_right (Nat.le_refl _),Nat.sub_self];rfl
def SP(l:List an):Prop:=∀ p∈l,p.Set.length≤256
theorem nw{l m:List an}(h:SP l)(g:SP m):SP (l++m):=fun p hp=>(List.mem_append.1 hp).elim (h p) (g p)
theorem iK{a:an}{l:List an}(h:a.Set.length≤256)(g:SP l):SP (a::l):=fun p hp=>(List.mem_cons.1 hp).elim (fun e=>by rw[e];exact h) (g p)
theorem j7:SP []:=fun p hp=>by cases hp
theorem Hd{l:List an}(h:SP l){i:Nat}{a:an}(g:a.Set.length≤256):SP (l.set i a):=fun p hp=>(List.mem_or_eq_of_mem_set hp).elim (h p) fun e=>by rw[e];exact g
theorem Hc{l:List an}(h:SP l)(i:Nat):(l.getD i aK).Set.length≤256:=by
 by_cases c:i<l.length
 ·rw[bj c];exact h _ (List.getElem_mem c)
 ·rw[List.getD_eq_getElem?_getD,List.getElem?_eq_none (by omega)];decide
def Plc(x:aq)(f:Nat→List an)(L:Nat):Prop:=(∀ n,(f n).length=L)∧L+2≤4*bc x∧(∀ n,SP (f n)) ∧
 ∀ out:List an,out.length+4*bc x≤100000→dR out x=some (out++f out.length,())∧d4 out x=some (out++f out.length,())
def G9(ks:List aq)(g:Nat→List an)(L i d:Nat):Prop:=(∀ n,(g n).length=L)∧L+2*d≤4*aY (ks.drop i)∧(∀ n,SP (g n)) ∧
 ∀ out:List an,out.length+4*aY (ks.drop i)≤100000→oh out ks (ks.length:Int) (i:Int)=some (out++g out.length,())∧∀ x:aq,x.Kids=ks→pi out (i:Int) x=some (out++g out.length,())
theorem HZ(ks:List aq)(h:∀ k∈ks,∃ f L,Plc k f L)(hl:ks.length≤1000):∀ d i,i+d=ks.length→∃ g L,G9 ks g L i d:=by
 intro d
 induction d with
 | zero =>
  intro i hi
  refine⟨fun _=>[],0,fun _=>rfl,by omega,fun _=>j7,fun out ho=>⟨?_,fun x hx=>?_⟩⟩
  ·rw[BH,aj (by omega),oi,List.append_nil]
  ·rw[EJ,hx,aj (by omega),pj,List.append_nil]
 | succ d ih =>
  intro i hi
  have hi':i<ks.length:=by omega
  obtain⟨g,L,g1,g2,gs,g3⟩:=ih (i+1) (by omega)
  obtain⟨f,M,f1,f2,fs,f3⟩:=h _ (List.getElem_mem hi')
  have hd:aY (ks.drop i)=bc ks[i]+aY (ks.drop (i+1)):=by rw[ai hi',aY]
  refine⟨fun n=>f n++g (n+M),M+L,fun n=>by rw[ag,f1,g1],by omega,fun n=>nw (fs n) (gs _),fun out ho=>?_⟩
  obtain⟨e1,e2⟩:=f3 out (by omega)
  have hlen:(out++f out.length).length=out.length+M:=by rw[ag,f1]
  obtain⟨e3,e4⟩:=g3 (out++f out.length) (by omega)
  rw[hlen]at e3 e4
  refine⟨?_,fun x hx=>?_⟩
  ·rw[BH,ak (by omega),if_pos (by omega),aS hi',e1,aa]
   dsimp only
   rw[aR hi' (by omega),e3,ah]
  ·have e5:=e4 x hx
   rw[EJ,hx,ak (by omega),if_pos (by omega),aS hi',e2,aa]
   dsimp only
   rw[aR hi' (by omega),e5,ah]
def ym(p:an)(a:Int):an:=⟨p.Op,p.C,p.Set,p.Not,a,p.B⟩
def gN(n:Nat)(tot:Int):List Int→List an→List an
 | [],t=>t
 | j::js,t=>gN n tot js (t.set (j.toNat-n) (ym (t.getD (j.toNat-n) aK) tot))
theorem Aj(n:Nat)(tot:Int):∀ (js:List Int) (t:List an),(gN n tot js t).length=t.length
 | [],t=>rfl
 | j::js,t=>by rw[gN,Aj n tot js,List.length_set]
theorem Ai(n:Nat)(tot:Int):∀ (js:List Int) (t:List an),SP t→SP (gN n tot js t)
 | [],t,h=>h
 | j::js,t,h=>by rw[gN];exact Ai n tot js _ (Hd h (Hc h _))
theorem Ne(pre:List an)(js:List Int)(hjl:js.length≤1000):∀ (d i:Nat) (t:List an),i+d=js.length→(∀ j∈js,(pre.length:Int)≤j∧j<((pre.length+t.length:Nat):Int))→pre.length+t.length≤200000 →
  oe (pre++t) js (js.length:Int) (i:Int)=some (pre++gN pre.length ((pre.length+t.length:Nat):Int) (js.drop i) t,()) ∧
  pn (pre++t) js (i:Int)=some (pre++gN pre.length ((pre.length+t.length:Nat):Int) (js.drop i) t,()):=by
 intro d
 induction d with
 | zero =>
  intro i t hi hj hb
  rw[Bz,EM,aj (by omega),aj (by omega),List.drop_eq_nil_of_le (by omega)]
  exact⟨rfl,rfl⟩
 | succ d ih =>
  intro i t hi hj hb
  have hi':i<js.length:=by omega
  have hji:=hj _ (List.getElem_mem hi')
  have hlen:(pre++t).length=pre.length+t.length:=ag
  have hge:pre.length≤js[i].toNat:=by omega
  have hget:(pre++t).getD js[i].toNat aK=t.getD (js[i].toNat-pre.length) aK:=by
   rw[List.getD_eq_getElem?_getD,List.getElem?_append_right hge,← List.getD_eq_getElem?_getD]
  have hset:∀ q,(pre++t).set js[i].toNat q=pre++t.set (js[i].toNat-pre.length) q:=fun q=>List.set_append_right _ _ hge
  obtain⟨e1,e2⟩:=ih (i+1) (t.set (js[i].toNat-pre.length) (ym (t.getD (js[i].toNat-pre.length) aK) ((pre.length+t.length:Nat):Int))) (by omega) (by rw[List.length_set];exact hj) (by rw[List.length_set];exact hb)
  rw[List.length_set]at e1 e2
  rw[ai hi',gN]
  unfold ym at e1 e2 ⊢
  constructor
  ·rw[Bz,ak (by omega),if_pos (by omega),aS hi',if_pos (by rw[hlen];omega)]
   dsimp only
   rw[hget,hset,hlen,aR hi' (by omega)]
   exact e1
  ·rw[EM,ak (by omega),if_pos (by omega),aS hi',if_pos (by rw[hlen];omega)]
   dsimp only
   rw[hget,hset,hlen,aR hi' (by omega)]
   exact e2
def OrL(ks:List aq)(g:Nat→List an)(h:Nat→List Int)(L i d:Nat):Prop:=(∀ n,(g n).length=L)∧L+2≤4*aY (ks.drop i)∧(∀ n,SP (g n))∧(∀ n,(h n).length=d∧∀ j∈h n,(n:Int)≤j∧j<((n+L:Nat):Int)) ∧
 ∀ (out:List an) (js:List Int),js.length+d≤1000→out.length+4*aY (ks.drop i)≤100000 →
  od out ks js (ks.take (ks.length-1)) ((ks.length-1:Nat):Int) (i:Int)=oe (out++g out.length) (js++h out.length) ((js++h out.length).length:Int) 0 ∧
  pl out ks js (i:Int)=pn (out++g out.length) (js++h out.length) 0
theorem Nf(ks:List aq)(h:∀ k∈ks,∃ f L,Plc k f L)(hl:ks.length≤1000)(h1:1≤ks.length):∀ d i,i+d+1=ks.length→∃ g h L,OrL ks g h L i d:=by
 have hw:w64 ((ks.length:Int)-1)=((ks.length-1:Nat):Int):=by rw[aF (by omega) (by omega)];omega
 have htl:(ks.take (ks.length-1)).length=ks.length-1:=by rw[List.length_take];omega
 intro d
 induction d with
 | zero =>
  intro i hi
  have hi':i<ks.length:=by omega
  obtain⟨f,M,f1,f2,fs,f3⟩:=h _ (List.getElem_mem hi')
  have hd:aY (ks.drop i)=bc ks[i]+aY (ks.drop (i+1)):=by rw[ai hi',aY]
  refine⟨f,fun _=>[],M,f1,by omega,fs,fun n=>⟨rfl,fun j hj=>by cases hj⟩,fun out js hjs ho=>?_⟩
  obtain⟨e1,e2⟩:=f3 out (by omega)
  have hwi:w64 ((ks.length:Int)-1)=(i:Int):=by rw[hw];omega
  constructor
  ·rw[Bx,aj (by omega),hwi,if_pos (by omega),aS hi',e1,aa,List.append_nil]
  ·rw[EL,hwi,aj (by omega),if_pos (by omega),aS hi',e2,aa,List.append_nil]
 | succ d ih =>
  intro i hi
  have hi':i<ks.length:=by omega
  obtain⟨g,h',L,g1,g2,gs,g3,g4⟩:=ih (i+1) (by omega)
  obtain⟨f,M,f1,f2,fs,f3⟩:=h _ (List.getElem_mem hi')
  have hd:aY (ks.drop i)=bc ks[i]+aY (ks.drop (i+1)):=by rw[ai hi',aY]
  refine⟨fun n=>⟨7,0,[],false,((n+1:Nat):Int),((n+1+M+1:Nat):Int)⟩::(f (n+1)++(⟨6,0,[],false,0,0⟩::g (n+1+M+1))),fun n=>((n+1+M:Nat):Int)::h' (n+1+M+1),L+M+2,fun n=>?_,by omega,fun n=>iK (Nat.zero_le _) (nw (fs _) (iK (Nat.zero_le _) (gs _))),fun n=>⟨?_,?_⟩,fun out js hjs ho=>?_⟩
  ·rw[List.length_cons,ag,List.length_cons,f1,g1];omega
  ·rw[List.length_cons,(g3 _).1]
  ·intro j hj
   rcases List.mem_cons.1 hj with rfl | hj
   ·omega
   ·have:=(g3 _).2 j hj;omega
  ·have hw1:w64 ((out.length:Int)+1)=((out.length+1:Nat):Int):=by rw[aF (by omega) (by omega)];omega
   have fork:∀ p:an,dR (List.append out [p]) ks[i]=some (out++p::f (out.length+1),())∧d4 (List.append out [p]) ks[i]=some (out++p::f (out.length+1),()):=fun p=>by
    have hlp:(out++[p]).length=out.length+1:=by simp
    have:=f3 (out++[p]) (by omega)
    rw[hlp,ah]at this
    exact this
   have hv:∀ p q:an,List.append (out++p::f (out.length+1)) [q]=out++p::(f (out.length+1)++[q]):=fun p q=>by simp
   have hvl:∀ p q:an,(out++p::(f (out.length+1)++[q])).length=out.length+1+M+1:=fun p q=>by simp[f1];omega
   have hml:∀ p:an,(out++p::f (out.length+1)).length=out.length+1+M:=fun p=>by simp[f1];omega
   have hrest:∀ p q:an,out++p::(f (out.length+1)++[q])++g (out.length+1+M+1)=out++(p::(f (out.length+1)++(q::g (out.length+1+M+1)))):=fun p q=>by simp
   obtain⟨e1,e2⟩:=g4 (out++⟨7,0,[],false,((out.length+1:Nat):Int),((out.length+1+M+1:Nat):Int)⟩::(f (out.length+1)++[⟨6,0,[],false,0,0⟩])) (List.append js [((out.length+1+M:Nat):Int)]) (by show(js++[_]).length+_≤_;simp;omega) (by rw[hvl];omega)
   rw[hvl,hrest]at e1 e2
   have hjs':∀ a b:List Int,∀ c:Int,List.append a [c]++b=a++c::b:=fun a b c=>by simp
   rw[hjs']at e1 e2
   constructor
   ·rw[Bx,ak (by omega),if_pos (by rw[htl];omega),if_pos (by rw[aN];omega),aS (by rw[htl];omega),List.getElem_take,(fork _).1,aa]
    dsimp only
    rw[if_pos (by rw[aN];omega),hml,if_pos (by rw[aN];omega),hv,hvl,if_pos (by omega),af,gP,ir]
    dsimp only
    rw[hw1,aR hi' (by omega)]
    exact e1
   ·rw[EL,hw,ak (by omega),jR,if_pos (by rw[aN];omega),aa]
    dsimp only
    rw[if_pos (by omega),aS hi',(fork _).2,aa]
    dsimp only
    rw[if_pos (by rw[aN];omega),jR,hml,if_pos (by rw[aN];omega),aa]
    dsimp only
    rw[hv,hvl,if_pos (by omega),af,gP,ir,hvl,if_pos (by omega),gP,ir]
    dsimp only
    rw[hw1,aR hi' (by omega)]
    exact e2
theorem Oh{x:aq}(h:rx x=true):(∀ k∈x.Kids,rx k=true)∧kN x=true:=by
 rw[xd,Bool.and_eq_true,xc,Bool.not_eq_true',List.any_eq_false]at h
 exact⟨fun k hk=>by have:=h.2 k hk;simpa using this,h.1⟩
theorem Dn:∀ (n:Nat) (x:aq),bc x≤n→n≤1000→SG x→rx x=true→∃ f L,Plc x f L:=by
 intro n
 induction n with
 | zero=>intro x h;have:=kO x;omega
 | succ n ih =>
  intro x h hn hsg hx
  obtain⟨hs1,hs2⟩:=(tM x).1 hsg
  have hnx:=oI x
  rw[hnx]at h
  have hlen:=oH x.Kids
  obtain⟨hk,hB⟩:=Oh hx
  have hks:∀ k∈x.Kids,∃ f L,Plc k f L:=fun k hk'=>ih k (by have:=oJ hk';omega) (by omega) (pY hs2 hk') (hk k hk')
  unfold kN at hB
  have one:∀ p:an,p.Set.length≤256→(∀ out:List an,out.length+4*bc x≤100000→dR out x=some (List.append out [p],())∧d4 out x=some (List.append out [p],()))→∃ f L,Plc x f L:=fun p hps hp =>
   ⟨fun _=>[p],1,fun _=>rfl,by omega,fun _=>iK hps j7,hp⟩
  by_cases c1:x.Op=1
  ·refine one ⟨1,x.C,[],false,0,0⟩ (Nat.zero_le _) fun out ho=>?_
   rw[fI,fV,ak c1,ak c1,if_pos (by rw[aN];omega)]
   exact⟨rfl,rfl⟩
  have m1:¬ decide (x.Op=1)=true:=by rw[ab];exact c1
  by_cases c2:x.Op=2
  ·refine one ⟨2,0,[],false,0,0⟩ (Nat.zero_le _) fun out ho=>?_
   rw[fI,fV,if_neg m1,if_neg m1,ak c2,ak c2,jR,if_pos (by rw[aN];omega)]
   exact⟨rfl,rfl⟩
  have m2:¬ decide (x.Op=2)=true:=by rw[ab];exact c2
  by_cases c3:x.Op=3
  ·refine one ⟨3,0,x.Set,x.Not,0,0⟩ (hs1.elim (fun h=>h.2.2.2.2.2.1) fun h=>absurd c3 h.1) fun out ho=>?_
   rw[fI,fV,if_neg m1,if_neg m1,if_neg m2,if_neg m2,ak c3,ak c3,if_pos (by rw[aN];omega)]
   exact⟨rfl,rfl⟩
  have m3:¬ decide (x.Op=3)=true:=by rw[ab];exact c3
  by_cases c4:x.Op=4
  ·refine one ⟨4,0,[],false,0,0⟩ (Nat.zero_le _) fun out ho=>?_
   rw[fI,fV,if_neg m1,if_neg m1,if_neg m2,if_neg m2,if_neg m3,if_neg m3,ak c4,ak c4,jR,if_pos (by rw[aN];omega)]
   exact⟨rfl,rfl⟩
  have m4:¬ decide (x.Op=4)=true:=by rw[ab];exact c4
  by_cases c5:x.Op=5
  ·refine one ⟨5,0,[],false,0,0⟩ (Nat.zero_le _) fun out ho=>?_
   rw[fI,fV,if_neg m1,if_neg m1,if_neg m2,if_neg m2,if_neg m3,if_neg m3,if_neg m4,if_neg m4,ak c5,ak c5,jR,if_pos (by rw[aN];omega)]
   exact⟨rfl,rfl⟩
  have m5:¬ decide (x.Op=5)=true:=by rw[ab];exact c5
  have start:∀ out,dR out x=(if(decide (x.Op=6))=true then oh out x.Kids (List.length x.Kids:Int) 0 else dR out x)∧d4 out x=(if(decide (x.Op=6))=true then pi out 0 x else d4 out x):=fun out=>by
   by_cases c6:x.Op=6
   ·rw[ak c6,ak c6,fI,fV,if_neg m1,if_neg m1,if_neg m2,if_neg m2,if_neg m3,if_neg m3,if_neg m4,if_neg m4,if_neg m5,if_neg m5,ak c6,ak c6]
    exact⟨rfl,rfl⟩
   ·rw[aj c6,aj c6];exact⟨rfl,rfl⟩
  by_cases c6:x.Op=6
  ·obtain⟨g,L,g1,g2,gs,g3⟩:=HZ x.Kids hks (by omega) x.Kids.length 0 (by omega)
   rw[List.drop_zero]at g2 g3
   refine⟨g,L,g1,by omega,gs,fun out ho=>?_⟩
   obtain⟨e1,e2⟩:=g3 out (by omega)
   rw[(start out).1,(start out).2,ak c6,ak c6]
   exact⟨e1,e2 x rfl⟩
  have m6:¬ decide (x.Op=6)=true:=by rw[ab];exact c6
  by_cases c7:x.Op=7
  ·have h2:2≤x.Kids.length:=by
    simp[c7]at hB;exact hB.2
   obtain⟨g,js,L,g1,g2,gs,g3,g4⟩:=Nf x.Kids hks (by omega) (by omega) (x.Kids.length-1) 0 (by omega)
   rw[List.drop_zero]at g2 g4
   refine⟨fun n=>gN n ((n+L:Nat):Int) (js n) (g n),L,fun n=>by rw[Aj,g1],by omega,fun n=>Ai _ _ _ _ (gs n),fun out ho=>?_⟩
   obtain⟨e1,e2⟩:=g4 out [] (by simp;omega) (by omega)
   obtain⟨e3,e4⟩:=Ne out (js out.length) (by rw[(g3 _).1];omega) (js out.length).length 0 (g out.length) (by omega) (by rw[g1];exact(g3 _).2) (by rw[g1];omega)
   rw[List.nil_append]at e1 e2
   rw[List.drop_zero,g1]at e3 e4
   have hw:w64 ((x.Kids.length:Int)-1)=((x.Kids.length-1:Nat):Int):=by rw[aF (by omega) (by omega)];omega
   have ht:List.take (((x.Kids.length-1:Nat):Int).toNat-0) (List.drop 0 x.Kids)=x.Kids.take (x.Kids.length-1):=by rw[af,Nat.sub_zero,List.drop_zero]
   have htl:(x.Kids.take (x.Kids.length-1)).length=x.Kids.length-1:=by rw[List.length_take];omega
   rw[fI,fV,if_neg m1,if_neg m1,if_neg m2,if_neg m2,if_neg m3,if_neg m3,if_neg m4,if_neg m4,if_neg m5,if_neg m5,if_neg m6,if_neg m6,ak c7,ak c7,KL,PQ,hw,if_pos (by omega),ht,htl]
   have e1':od out x.Kids [] (x.Kids.take (x.Kids.length-1)) ((x.Kids.length-1:Nat):Int) 0=_:=e1.trans e3
   have e2':pl out x.Kids [] 0=_:=e2.trans e4
   rw[e1',e2']
   exact⟨rfl,rfl⟩
  have m7:¬ decide (x.Op=7)=true:=by rw[ab];exact c7
  have hone:x.Op=8∨x.Op=9∨x.Op=10→∃ k,x.Kids=[k]:=fun ho=>by
   have:x.Kids.length=1:=by
    rcases ho with ho | ho | ho <;> (simp[ho]at hB;exact hB.2)
   exact List.length_eq_one_iff.1 this
  have hw1:∀ out:List an,out.length≤100000→w64 ((out.length:Int)+1)=((out.length+1:Nat):Int):=fun out ho=>by rw[aF (by omega) (by omega)];omega
  by_cases c8:x.Op=8
  ·obtain⟨k,hk1⟩:=hone (.inl c8)
   obtain⟨f,M,f1,f2,fs,f3⟩:=hks k (by rw[hk1];exact List.mem_singleton.2 rfl)
   have hnk:bc x=1+bc k:=by rw[hnx,hk1,aY,aY];omega
   refine⟨fun n=>⟨7,0,[],false,((n+1:Nat):Int),((n+1+M+1:Nat):Int)⟩::(f (n+1)++[⟨6,0,[],false,(n:Int),0⟩]),M+2,fun n=>by simp[f1],by omega,fun n=>iK (Nat.zero_le _) (nw (fs _) (iK (Nat.zero_le _) j7)),fun out ho=>?_⟩
   have fork:∀ p:an,dR (List.append out [p]) k=some (out++p::f (out.length+1),())∧d4 (List.append out [p]) k=some (out++p::f (out.length+1),()):=fun p=>by
    have hlp:(out++[p]).length=out.length+1:=by simp
    have:=f3 (out++[p]) (by omega)
    rw[hlp,ah]at this
    exact this
   have hv:∀ p q:an,List.append (out++p::f (out.length+1)) [q]=out++p::(f (out.length+1)++[q]):=fun p q=>by simp
   have hvl:∀ p q:an,(out++p::(f (out.length+1)++[q])).length=out.length+1+M+1:=fun p q=>by simp[f1];omega
   have hml:∀ p:an,(out++p::f (out.length+1)).length=out.length+1+M:=fun p=>by simp[f1];omega
   rw[fI,fV,if_neg m1,if_neg m1,if_neg m2,if_neg m2,if_neg m3,if_neg m3,if_neg m4,if_neg m4,if_neg m5,if_neg m5,if_neg m6,if_neg m6,if_neg m7,if_neg m7,ak c8,ak c8,hk1]
   constructor
   ·rw[if_pos (by rw[aN];omega),if_pos (by simp),show List.getD [k] 0 aL=k from rfl,(fork _).1,aa]
    dsimp only
    rw[hml,if_pos (by rw[aN];omega),hv,hvl,if_pos (by omega),af,gP,ir]
    dsimp only
    rw[hw1 out (by omega),oi]
   ·rw[jR,if_pos (by rw[aN];omega),aa,if_pos (by simp),show List.getD [k] 0 aL=k from rfl]
    dsimp only
    rw[(fork _).2,aa]
    dsimp only
    rw[hml,if_pos (by rw[aN];omega),hv,hvl,if_pos (by omega),af,gP,ir,hvl,if_pos (by omega),gP,ir]
    dsimp only
    rw[hw1 out (by omega),pj]
  have m8:¬ decide (x.Op=8)=true:=by rw[ab];exact c8
  by_cases c9:x.Op=9
  ·obtain⟨k,hk1⟩:=hone (.inr (.inl c9))
   obtain⟨f,M,f1,f2,fs,f3⟩:=hks k (by rw[hk1];exact List.mem_singleton.2 rfl)
   have hnk:bc x=1+bc k:=by rw[hnx,hk1,aY,aY];omega
   refine⟨fun n=>f n++[⟨7,0,[],false,(n:Int),((n+M+1:Nat):Int)⟩],M+1,fun n=>by simp[f1],by omega,fun n=>nw (fs _) (iK (Nat.zero_le _) j7),fun out ho=>?_⟩
   obtain⟨e1,e2⟩:=f3 out (by omega)
   have hml:(out++f out.length).length=out.length+M:=by simp[f1]
   have hw2:w64 (((out.length+M:Nat):Int)+1)=((out.length+M+1:Nat):Int):=by rw[aF (by omega) (by omega)];omega
   rw[fI,fV,if_neg m1,if_neg m1,if_neg m2,if_neg m2,if_neg m3,if_neg m3,if_neg m4,if_neg m4,if_neg m5,if_neg m5,if_neg m6,if_neg m6,if_neg m7,if_neg m7,if_neg m8,if_neg m8,ak c9,ak c9,hk1]
   constructor
   ·rw[if_pos (by simp),show List.getD [k] 0 aL=k from rfl,e1,aa]
    dsimp only
    rw[hml,if_pos (by rw[aN];omega),hw2,oi,← ah]
    rfl
   ·rw[if_pos (by simp),show List.getD [k] 0 aL=k from rfl,e2,aa]
    dsimp only
    rw[hml,if_pos (by rw[aN];omega),hw2,pj,← ah]
    rfl
  have m9:¬ decide (x.Op=9)=true:=by rw[ab];exact c9
  by_cases c10:x.Op=10
  ·obtain⟨k,hk1⟩:=hone (.inr (.inr c10))
   obtain⟨f,M,f1,f2,fs,f3⟩:=hks k (by rw[hk1];exact List.mem_singleton.2 rfl)
   have hnk:bc x=1+bc k:=by rw[hnx,hk1,aY,aY];omega
   refine⟨fun n=>⟨7,0,[],false,((n+1:Nat):Int),((n+1+M:Nat):Int)⟩::f (n+1),M+1,fun n=>by simp[f1],by omega,fun n=>iK (Nat.zero_le _) (fs _),fun out ho=>?_⟩
   have fork:∀ p:an,dR (List.append out [p]) k=some (out++p::f (out.length+1),())∧d4 (List.append out [p]) k=some (out++p::f (out.length+1),()):=fun p=>by
    have hlp:(out++[p]).length=out.length+1:=by simp
    have:=f3 (out++[p]) (by omega)
    rw[hlp,ah]at this
    exact this
   have hml:∀ p:an,(out++p::f (out.length+1)).length=out.length+1+M:=fun p=>by simp[f1];omega
   rw[fI,fV,if_neg m1,if_neg m1,if_neg m2,if_neg m2,if_neg m3,if_neg m3,if_neg m4,if_neg m4,if_neg m5,if_neg m5,if_neg m6,if_neg m6,if_neg m7,if_neg m7,if_neg m8,if_neg m8,if_neg m9,if_neg m9,ak c10,ak c10,hk1]
   constructor
   ·rw[if_pos (by rw[aN];omega),if_pos (by simp),show List.getD [k] 0 aL=k from rfl,(fork _).1,aa]
    dsimp only
    rw[hml,if_pos (by omega),af,gP,ir]
    dsimp only
    rw[hw1 out (by omega),oi]
   ·rw[jR,if_pos (by rw[aN];omega),aa,if_pos (by simp),show List.getD [k] 0 aL=k from rfl]
    dsimp only
    rw[(fork _).2,aa]
    dsimp only
    rw[hml,if_pos (by omega),af,gP,ir,hml,if_pos (by omega),gP,ir]
    dsimp only
    rw[hw1 out (by omega),pj]
  have m10:¬ decide (x.Op=10)=true:=by rw[ab];exact c10
  refine⟨fun _=>[],0,fun _=>rfl,by omega,fun _=>j7,fun out ho=>?_⟩
  rw[fI,fV,if_neg m1,if_neg m1,if_neg m2,if_neg m2,if_neg m3,if_neg m3,if_neg m4,if_neg m4,if_neg m5,if_neg m5,if_neg m6,if_neg m6,if_neg m7,if_neg m7,if_neg m8,if_neg m8,if_neg m9,if_neg m9,if_neg m10,if_neg m10,oi,pj,List.append_nil]
  exact⟨rfl,rfl⟩
theorem MT{x:aq}(hn:bc x≤121)(hs:SG x)(hd:∃ v,v≤12∧gx x=some (v,())∧gh x=some (v,())):∃ l,uX x=some (l,())∧xq x=some (l,())∧l.length≤1000∧SP l:=by
 obtain⟨e1,e2⟩:=NZ hn hs hd
 rw[J1,OK,e1,e2,aa,aa]
 dsimp only
 by_cases c:rx x=true
 ·rw[c,if_neg (by decide),if_neg (by decide)]
  obtain⟨f,L,f1,f2,fs,f3⟩:=Dn 121 x hn (by decide) hs c
  obtain⟨e3,e4⟩:=f3 [] (by simp;omega)
  rw[List.length_nil,List.nil_append]at e3 e4
  rw[e3,e4,aa,aa]
  dsimp only
  have:=f1 0
  rw[jR,if_pos (by rw[aN];omega)]
  exact⟨_,rfl,rfl,by show(f 0++[_]).length≤1000;simp;omega,nw (fs 0) (iK (Nat.zero_le _) j7)⟩
 ·rw[Bool.not_eq_true]at c
  simp only[c,Bool.not_false,if_true]
  exact⟨_,rfl,rfl,by simp,j7⟩
theorem zb:∀ {l m:List Int},l.Pairwise (· < ·)→m.Pairwise (· < ·)→(∀ x,x∈l↔x∈m)→l=m
 | [],[],_,_,_=>rfl
 | [],b::m,_,_,h=>absurd ((h b).2 (List.mem_cons_self ..)) (by simp)
 | a::l,[],_,_,h=>absurd ((h a).1 (List.mem_cons_self ..)) (by simp)
 | a::l,b::m,hl,hm,h=>by
  have hl':=List.pairwise_cons.1 hl
  have hm':=List.pairwise_cons.1 hm
  have hab:a=b:=by
   rcases List.mem_cons.1 ((h a).1 (List.mem_cons_self ..))with e | e
   ·exact e
   ·rcases List.mem_cons.1 ((h b).2 (List.mem_cons_self ..))with e' | e'
    ·exact e'.symm
    ·have:=hl'.1 b e';have:=hm'.1 a e;omega
  subst hab
  rw[zb hl'.2 hm'.2 fun x=>?_]
  constructor
  ·intro hx
   rcases List.mem_cons.1 ((h x).1 (List.mem_cons_of_mem _ hx))with e | e
   ·have:=hl'.1 x hx;omega
   ·exact e
  ·intro hx
   rcases List.mem_cons.1 ((h x).2 (List.mem_cons_of_mem _ hx))with e | e
   ·have:=hm'.1 x hx;omega
   ·exact e
theorem Fp{l:List Int}(h:l.Nodup):(ck l).Pairwise (· < ·):=by
 have h1:(ck l).Pairwise (fun a b=>decide (a≤b)=true):=List.pairwise_mergeSort (fun a b c h1 h2=>by simp at *;omega) (fun a b=>by simp;omega) l
 have h2:(ck l).Nodup:=(List.mergeSort_perm l _).nodup_iff.2 h
 exact(h1.and h2).imp fun {a b} h=>by have:=of_decide_eq_true h.1;have:=h.2;omega
theorem zc{N:Int}:∀ (l:List Int) (lo:Int),l.Pairwise (· < ·)→(∀ x∈l,lo≤x∧x<N)→lo≤N→(l.length:Int)≤N-lo
 | [],lo,_,_,h=>by simp;omega
 | a::l,lo,hl,hb,h=>by
  have hl':=List.pairwise_cons.1 hl
  have ha:=hb a (List.mem_cons_self ..)
  have:=zc l (a+1) hl'.2 (fun x hx=>⟨by have:=hl'.1 x hx;omega,(hb x (List.mem_cons_of_mem _ hx)).2⟩) (by omega)
  rw[List.length_cons];omega
theorem rC{N:Nat}{l:List Int}(h:l.Nodup)(hb:∀ x∈l,0≤x∧x<(N:Int)):l.length≤N:=by
 have:=zc (N:=N) (ck l) 0 (Fp h) (fun x hx=>hb x (sortI_mem.1 hx)) (by omega)
 rw[ya]at this
 omega
def adj(l:List an)(b e:Bool)(k:Nat):List Int :=
 if(l.getD k aK).Op=6 then [(l.getD k aK).A]else if(l.getD k aK).Op=7 then [(l.getD k aK).A,(l.getD k aK).B]
 else if(l.getD k aK).Op=4 then(if b=true then [(k:Int)+1]else [])else if(l.getD k aK).Op=5 then(if e=true then [(k:Int)+1]else [])else []
theorem Hi(l:List an)(b e:Bool)(k:Nat):(adj l b e k).length≤2:=by
 unfold adj
 split
 ·simp
 ·split
  ·simp
  ·split
   ·split <;> simp
   ·split
    ·split <;> simp
    ·simp
inductive Rch (l:List an) (at_:List Int) (b e:Bool):Int→Prop
 | base {i:Int}:i∈at_→0≤i→i<(l.length:Int)→Rch l at_ b e i
 | step {k j:Int}:Rch l at_ b e k→j∈adj l b e k.toNat→0≤j→j<(l.length:Int)→Rch l at_ b e j
theorem Rch.bd{l:List an}{at_:List Int}{b e:Bool}{i:Int}(h:Rch l at_ b e i):0≤i∧i<(l.length:Int):=by
 cases h with
 | base _ h1 h2=>exact⟨h1,h2⟩
 | step _ _ h1 h2=>exact⟨h1,h2⟩
def St(l:List an)(seen:List Bool)(out:List Int):Prop:=seen.length=l.length∧(∀ i:Nat,i<l.length→seen.getD i false=decide ((i:Int)∈out))∧(∀ x∈out,0≤x∧x<(l.length:Int))∧out.Nodup
def Put(l:List an)(seen:List Bool)(out:List Int)(ys:List Int)(seen':List Bool)(out':List Int):Prop :=
 St l seen' out'∧(∀ x,x∈out'↔x∈out∨(x∈ys∧0≤x∧x<(l.length:Int)))∧∃ t,out'=out++t
theorem mw{l:List an}(hl:l.length≤1000){seen:List Bool}{out:List Int}(h:St l seen out)(i:Int):∃ seen' out',jd i l seen out=some (l,seen',out',())∧Put l seen out [i] seen' out':=by
 obtain⟨h1,h2,h3,h4⟩:=h
 have hlen:=rC h4 h3
 rw[JH,ey,aa]
 dsimp only
 by_cases c:0≤i∧i≤w64 ((l.length:Int)-1)
 ·rw[ak c]
  rw[aF (by omega) (by omega)]at c
  have hi:i.toNat<l.length:=by omega
  have e:=h2 i.toNat hi
  rw[Int.toNat_of_nonneg c.1]at e
  rw[if_pos (by omega),e]
  by_cases d:i∈out
  ·rw[ac d,if_neg (by decide)]
   exact⟨_,_,rfl,⟨h1,h2,h3,h4⟩,fun x=>⟨.inl,fun hx=>hx.elim id fun hx=>by rw[List.mem_singleton.1 hx.1];exact d⟩,[],by simp⟩
  ·rw[ae d,if_pos (by decide),if_pos (by omega),if_pos (by rw[aN];omega)]
   refine⟨_,_,rfl,⟨by rw[List.length_set];exact h1,fun j hj=>?_,fun x hx=>?_,?_⟩,fun x=>?_,[i],rfl⟩
   ·show _=decide ((j:Int)∈out++[i])
    by_cases hji:i.toNat=j
    ·subst hji
     rw[lP (by omega),Int.toNat_of_nonneg c.1,ac (by simp)]
    ·rw[List.getD_eq_getElem?_getD,List.getElem?_set_ne hji,← List.getD_eq_getElem?_getD,h2 j hj]
     refine decide_eq_decide.2 ⟨fun hx=>List.mem_append_left _ hx,fun hx=>?_⟩
     rcases List.mem_append.1 hx with hx | hx
     ·exact hx
     ·have:=List.mem_singleton.1 hx;omega
   ·rcases List.mem_append.1 (show x∈out++[i]from hx)with hx | hx
    ·exact h3 x hx
    ·rw[List.mem_singleton.1 hx];omega
   ·show(out++[i]).Nodup
    rw[List.nodup_append]
    exact⟨h4,by simp,fun a ha b hb=>by rw[List.mem_singleton.1 hb];intro e;subst e;exact d ha⟩
   ·show x∈out++[i]↔_
    rw[List.mem_append,List.mem_singleton]
    exact⟨fun hx=>hx.imp id fun hx=>⟨hx,by omega⟩,fun hx=>hx.imp id fun hx=>hx.1⟩
 ·rw[aj c]
  rw[aF (by omega) (by omega)]at c
  exact⟨_,_,rfl,⟨h1,h2,h3,h4⟩,fun x=>⟨.inl,fun hx=>hx.elim id fun hx=>absurd hx.2 (by rw[List.mem_singleton.1 hx.1];omega)⟩,[],by simp⟩
theorem wP{l:List an}{seen:List Bool}{out:List Int}(h:St l seen out):Put l seen out [] seen out:=⟨h,fun x=>⟨.inl,fun hx=>hx.elim id fun hx=>by cases hx.1⟩,[],by simp⟩
theorem NK{l:List an}{s0 s1 s2:List Bool}{o0 o1 o2:List Int}{i j:Int}(h1:Put l s0 o0 [i] s1 o1)(h2:Put l s1 o1 [j] s2 o2):Put l s0 o0 [i,j] s2 o2:=by
 obtain⟨a1,a2,t1,a3⟩:=h1
 obtain⟨b1,b2,t2,b3⟩:=h2
 refine⟨b1,fun x=>?_,t1++t2,by rw[b3,a3,ah]⟩
 rw[b2,a2,List.mem_singleton,List.mem_singleton,List.mem_cons,List.mem_singleton]
 constructor
 ·rintro ((h | h) | h)
  ·exact .inl h
  ·exact .inr ⟨.inl h.1,h.2⟩
  ·exact .inr ⟨.inr h.1,h.2⟩
 ·rintro (h | ⟨h | h,h'⟩)
  ·exact .inl (.inl h)
  ·exact .inl (.inr ⟨h,h'⟩)
  ·exact .inr ⟨h,h'⟩
theorem H9{l:List an}(hl:l.length≤1000)(b e:Bool){seen:List Bool}{out:List Int}(h:St l seen out)(k:Nat)(hk:k<out.length) :
  ∃ seen' out',kv b e (k:Int) l seen out=kv b e ((k+1:Nat):Int) l seen' out'∧Put l seen out (adj l b e out[k].toNat) seen' out':=by
 have hlen:=rC h.2.2.2 h.2.2.1
 have hv:=h.2.2.1 _ (List.getElem_mem hk)
 have w1:w64 (out[k]+1)=((out[k].toNat:Nat):Int)+1:=by rw[aF (by omega) (by omega)];omega
 rw[uO,ak (by omega),if_pos (by omega),aS hk,if_pos (by omega)]
 have L3:∀ s o,gS b e (k:Int) l s o=kv b e ((k+1:Nat):Int) l s o:=fun s o=>by rw[JI,aR hk (by omega)]
 unfold adj
 generalize l.getD out[k].toNat aK=p
 by_cases c6:p.Op=6
 ·obtain⟨s1,o1,e1,e2⟩:=mw hl h p.A
  rw[ak c6,if_pos c6,e1,aa]
  exact⟨s1,o1,L3 _ _,e2⟩
 rw[aj c6,if_neg c6]
 by_cases c7:p.Op=7
 ·obtain⟨s1,o1,e1,e2⟩:=mw hl h p.A
  obtain⟨s2,o2,e3,e4⟩:=mw hl e2.1 p.B
  rw[ak c7,if_pos c7,e1,aa]
  dsimp only
  rw[e3,aa]
  exact⟨s2,o2,L3 _ _,NK e2 e4⟩
 rw[aj c7,if_neg c7]
 by_cases c4:p.Op=4
 ·rw[ak c4,if_pos c4]
  cases b with
  | true =>
   obtain⟨s1,o1,e1,e2⟩:=mw hl h (w64 (out[k]+1))
   rw[if_pos rfl,if_pos rfl,e1,aa]
   rw[w1]at e2
   exact⟨s1,o1,L3 _ _,e2⟩
  | false=>rw[if_neg (by decide),if_neg (by decide)];exact⟨seen,out,L3 _ _,wP h⟩
 rw[aj c4,if_neg c4]
 by_cases c5:p.Op=5
 ·rw[ak c5,if_pos c5]
  cases e with
  | true =>
   obtain⟨s1,o1,e1,e2⟩:=mw hl h (w64 (out[k]+1))
   rw[if_pos rfl,if_pos rfl,e1,aa]
   rw[w1]at e2
   exact⟨s1,o1,L3 _ _,e2⟩
  | false=>rw[if_neg (by decide),if_neg (by decide)];exact⟨seen,out,L3 _ _,wP h⟩
 rw[aj c5,if_neg c5]
 exact⟨seen,out,L3 _ _,wP h⟩
theorem H8{l:List an}(hl:l.length≤1000)(at_:List Int)(b e:Bool):∀ (d k:Nat) (seen:List Bool) (out:List Int),St l seen out→k≤out.length→l.length-k≤d→(∀ x∈out,Rch l at_ b e x)→(∀ (j:Nat) (hj:j<out.length),j<k→∀ y∈adj l b e out[j].toNat,0≤y→y<(l.length:Int)→y∈out) →
  (∀ x∈at_,0≤x→x<(l.length:Int)→x∈out)→∃ out',kv b e (k:Int) l seen out=some (ck out',())∧out'.Nodup∧∀ x,x∈out'↔Rch l at_ b e x:=by
 intro d
 induction d with
 | zero =>
  intro k seen out h hk hd hR hc ha
  have hlen:=rC h.2.2.2 h.2.2.1
  have hko:k=out.length:=by omega
  rw[uO,aj (by omega),GO,if_pos (by rw[aN];omega),aa]
  refine⟨out,rfl,h.2.2.2,fun x=>⟨hR x,fun hx=>?_⟩⟩
  induction hx with
  | base h1 h2 h3=>exact ha _ h1 h2 h3
  | step h0 h1 h2 h3 ih =>
   obtain⟨j,hj,e⟩:=List.mem_iff_getElem.1 ih
   exact hc j hj (by omega) _ (by rw[e];exact h1) h2 h3
 | succ d ihd =>
  intro k seen out h hk hd hR hc ha
  have hlen:=rC h.2.2.2 h.2.2.1
  by_cases hko:k=out.length
  ·rw[uO,aj (by omega),GO,if_pos (by rw[aN];omega),aa]
   refine⟨out,rfl,h.2.2.2,fun x=>⟨hR x,fun hx=>?_⟩⟩
   induction hx with
   | base h1 h2 h3=>exact ha _ h1 h2 h3
   | step h0 h1 h2 h3 ih =>
    obtain⟨j,hj,e⟩:=List.mem_iff_getElem.1 ih
    exact hc j hj (by omega) _ (by rw[e];exact h1) h2 h3
  ·have hk':k<out.length:=by omega
   obtain⟨s1,o1,e1,p1,p2,t,p3⟩:=H9 hl b e h k hk'
   rw[e1]
   have hv:=h.2.2.1 _ (List.getElem_mem hk')
   refine ihd (k+1) s1 o1 p1 (by rw[p3,ag];omega) (by omega) (fun x hx=>?_) (fun j hj hjk y hy y0 y1=>?_) (fun x hx x0 x1=>(p2 x).2 (.inl (ha x hx x0 x1)))
   ·rcases(p2 x).1 hx with hx | ⟨hx,x0,x1⟩
    ·exact hR x hx
    ·exact .step (hR _ (List.getElem_mem hk')) hx x0 x1
   ·have hjo:j<out.length:=by omega
    have ej:o1[j]=out[j]:=by subst p3;exact List.getElem_append_left hjo
    rw[ej]at hy
    by_cases hjk':j=k
    ·subst hjk';exact(p2 y).2 (.inr ⟨hy,y0,y1⟩)
    ·exact(p2 y).2 (.inl (hc j hjo (by omega) y hy y0 y1))
theorem Km{l:List an}(hl:l.length≤1000)(at_:List Int)(hat:at_.length≤1000000)(b e:Bool):∃ out,qA l at_ b e=some (ck out,())∧out.Nodup∧∀ x,x∈out↔Rch l at_ b e x:=by
 have key:∀ (d i:Nat) (seen:List Bool) (out:List Int),i+d=at_.length→St l seen out→(∀ x∈out,Rch l at_ b e x)→(∀ (j:Nat) (hj:j<at_.length),j<i→0≤at_[j]→at_[j]<(l.length:Int)→at_[j]∈out) →
   ∃ out',qB b e at_ (at_.length:Int) (i:Int) l seen out=some (ck out',())∧out'.Nodup∧∀ x,x∈out'↔Rch l at_ b e x:=by
  intro d
  induction d with
  | zero =>
   intro i seen out hi h hR ha
   rw[AQ,aj (by omega)]
   exact H8 hl at_ b e l.length 0 seen out h (Nat.zero_le _) (by omega) hR (fun j hj h=>absurd h (by omega)) fun x hx x0 x1=>by
    obtain⟨j,hj,rfl⟩:=List.mem_iff_getElem.1 hx
    exact ha j hj (by omega) x0 x1
  | succ d ih =>
   intro i seen out hi h hR ha
   have hi':i<at_.length:=by omega
   obtain⟨s1,o1,e1,p1,p2,t,p3⟩:=mw hl h at_[i]
   rw[AQ,ak (by omega),if_pos (by omega),aS hi',e1,aa]
   dsimp only
   rw[aR hi' (by omega)]
   refine ih (i+1) s1 o1 (by omega) p1 (fun x hx=>?_) fun j hj hji x0 x1=>?_
   ·rcases(p2 x).1 hx with hx | ⟨hx,x0,x1⟩
    ·exact hR x hx
    ·exact .base (by rw[List.mem_singleton.1 hx];exact List.getElem_mem hi') x0 x1
   ·by_cases hj':j=i
    ·subst hj';exact(p2 _).2 (.inr ⟨List.mem_singleton.2 rfl,x0,x1⟩)
    ·exact(p2 _).2 (.inl (ha j hj (by omega) x0 x1))
 rw[JJ,if_pos ⟨by omega,by omega,by rw[aN];omega⟩,af]
 exact key at_.length 0 _ [] (by omega) ⟨List.length_replicate,fun i hi=>by rw[List.getD_eq_getElem?_getD,List.getElem?_replicate,if_pos hi];rfl,fun x hx=>(by cases hx),List.nodup_nil⟩ (fun x hx=>by cases hx) (fun j hj h=>absurd h (by omega))
theorem zH:∀ (f:List Bool) (k:Nat),k<f.length→f.getD k false=false→(f.set k true).count false+1=f.count false
 | [],k,h,_=>absurd h (by simp)
 | a::f,0,h,e=>by
  have:a=false:=e
  subst this
  rw[List.set_cons_zero,List.count_cons,List.count_cons];simp
 | a::f,k+1,h,e=>by
  have:=zH f k (by simpa using h) e
  rw[List.set_cons_succ,List.count_cons,List.count_cons];omega
def Mk(l:List an)(at_:List Int)(b e:Bool)(f:List Bool)(todo:List Int):Prop:=f.length=l.length∧(∀ k:Nat,f.getD k false=true→Rch l at_ b e k)∧(∀ y∈todo,0≤y→y<(l.length:Int)→Rch l at_ b e y) ∧
 ∀ k:Nat,f.getD k false=true→∀ y∈adj l b e k,0≤y→y<(l.length:Int)→f.getD y.toNat false=true∨y∈todo
theorem OX{l:List an}(hl:l.length≤1000)(at_:List Int)(b e:Bool):∀ (d:Nat) (f:List Bool) (todo:List Int),3*f.count false+todo.length≤d→d≤100000→Mk l at_ b e f todo →
  ∃ f',dZ l f b e todo=some (f',())∧Mk l at_ b e f' []∧(∀ k:Nat,f.getD k false=true→f'.getD k false=true)∧∀ y∈todo,0≤y→y<(l.length:Int)→f'.getD y.toNat false=true:=by
 intro d
 induction d with
 | zero =>
  intro f todo hd hd2 h
  have ht:todo=[]:=List.length_eq_zero_iff.1 (by omega)
  subst ht
  rw[xU,if_neg (by simp)]
  exact⟨f,rfl,h,fun k hk=>hk,fun y hy=>by cases hy⟩
 | succ d ih =>
  intro f todo hd hd2 h
  obtain⟨h1,h2,h3,h4⟩:=h
  by_cases ht:todo.length=0
  ·have ht:todo=[]:=List.length_eq_zero_iff.1 ht
   subst ht
   rw[xU,if_neg (by simp)]
   exact⟨f,rfl,⟨h1,h2,h3,h4⟩,fun k hk=>hk,fun y hy=>by cases hy⟩
  ·have w:w64 ((todo.length:Int)-1)=((todo.length-1:Nat):Int):=by rw[aF (by omega) (by omega)];omega
   have hlt:todo.length-1<todo.length:=by omega
   rw[xU,ak (by omega),w,if_pos (by omega),if_pos (by omega),aS hlt,af]
   have hsplit:todo=todo.take (todo.length-1)++[todo[todo.length-1]]:=sU (n:=todo.length-1) (by omega)
   have hrl:(todo.take (todo.length-1)).length=todo.length-1:=by rw[List.length_take];omega
   generalize todo.take (todo.length-1)=rest at hsplit hrl
   generalize todo[todo.length-1]=v at hsplit
   have hmem:∀ y,y∈todo↔y∈rest∨y=v:=fun y=>by rw[hsplit,List.mem_append,List.mem_singleton]
   have skip:(0≤v→v<(l.length:Int)→f.getD v.toNat false=true)→∃ f',dZ l f b e rest=some (f',())∧Mk l at_ b e f' []∧(∀ k:Nat,f.getD k false=true→f'.getD k false=true)∧∀ y∈todo,0≤y→y<(l.length:Int)→f'.getD y.toNat false=true:=fun hv=>by
    obtain⟨f',e1,e2,e3,e4⟩:=ih f rest (by omega) (by omega) ⟨h1,h2,fun y hy=>h3 y ((hmem y).2 (.inl hy)),fun k hk y hy y0 y1=>by
     rcases h4 k hk y hy y0 y1 with h | h
     ·exact .inl h
     ·rcases(hmem y).1 h with h | h
      ·exact .inr h
      ·subst h;exact .inl (hv y0 y1)⟩
    refine⟨f',e1,e2,e3,fun y hy y0 y1=>?_⟩
    rcases(hmem y).1 hy with h | h
    ·exact e4 y h y0 y1
    ·subst h;exact e3 _ (hv y0 y1)
   by_cases c1:v≥(l.length:Int)
   ·rw[ak c1];exact skip fun _ h=>absurd h (by omega)
   rw[aj c1]
   by_cases c2:v<0
   ·rw[ak c2];exact skip fun h=>absurd h (by omega)
   rw[aj c2,if_pos (by omega)]
   by_cases c3:f.getD v.toNat false=true
   ·rw[if_pos c3];exact skip fun _ _=>c3
   rw[if_neg c3,if_pos (by omega),if_pos (by omega)]
   have hvn:v.toNat<f.length:=by omega
   have hvr:Rch l at_ b e v:=h3 v ((hmem v).2 (.inr rfl)) (by omega) (by omega)
   have hcount:=zH f v.toNat hvn (by simpa using c3)
   have hw:w64 (v+1)=((v.toNat:Nat):Int)+1:=by rw[aF (by omega) (by omega)];omega
   have go:∃ f',dZ l (f.set v.toNat true) b e (rest++adj l b e v.toNat)=some (f',())∧Mk l at_ b e f' []∧(∀ k:Nat,f.getD k false=true→f'.getD k false=true)∧∀ y∈todo,0≤y→y<(l.length:Int)→f'.getD y.toNat false=true:=by
    have hal:=Hi l b e v.toNat
    have hget:∀ k:Nat,(f.set v.toNat true).getD k false=true↔f.getD k false=true∨k=v.toNat:=fun k=>by
     by_cases hk:v.toNat=k
     ·subst hk;rw[lP hvn];simp
     ·rw[List.getD_eq_getElem?_getD,List.getElem?_set_ne hk,← List.getD_eq_getElem?_getD]
      exact⟨.inl,fun h=>h.elim id fun h=>absurd h.symm hk⟩
    obtain⟨f',e1,e2,e3,e4⟩:=ih (f.set v.toNat true) (rest++adj l b e v.toNat) (by rw[ag];omega) (by omega) ⟨by rw[List.length_set];exact h1,fun k hk=>by
      rcases(hget k).1 hk with h | h
      ·exact h2 k h
      ·subst h;rw[Int.toNat_of_nonneg (by omega)];exact hvr,
     fun y hy y0 y1=>by
      rcases List.mem_append.1 hy with hy | hy
      ·exact h3 y ((hmem y).2 (.inl hy)) y0 y1
      ·exact .step hvr hy y0 y1,
     fun k hk y hy y0 y1=>by
      rcases(hget k).1 hk with h | h
      ·rcases h4 k h y hy y0 y1 with h | h
       ·exact .inl ((hget _).2 (.inl h))
       ·rcases(hmem y).1 h with h | h
        ·exact .inr (List.mem_append_left _ h)
        ·exact .inl ((hget _).2 (.inr (by rw[h])))
      ·subst h;exact .inr (List.mem_append_right _ hy)⟩
    refine⟨f',e1,e2,fun k hk=>e3 k ((hget k).2 (.inl hk)),fun y hy y0 y1=>?_⟩
    rcases(hmem y).1 hy with h | h
    ·exact e4 y (List.mem_append_left _ h) y0 y1
    ·exact e3 _ ((hget _).2 (.inr (by rw[h])))
   have hnil:rest++[]=rest:=List.append_nil _
   unfold adj at go
   revert go
   generalize l.getD v.toNat aK=p
   intro go
   by_cases c6:p.Op=6
   ·rw[if_pos c6]at go
    rw[ak c6,if_pos (by rw[aN];omega)]
    exact go
   rw[if_neg c6]at go
   rw[aj c6]
   by_cases c7:p.Op=7
   ·rw[if_pos c7]at go
    rw[ak c7,if_pos (by rw[aN];omega)]
    exact go
   rw[if_neg c7]at go
   rw[aj c7]
   by_cases c4:p.Op=4
   ·rw[if_pos c4]at go
    rw[ak c4]
    cases b with
    | true =>
     rw[if_pos rfl]at go
     rw[if_pos rfl,if_pos (by rw[aN];omega),hw]
     exact go
    | false =>
     rw[if_neg (by decide),hnil]at go
     rw[if_neg (by decide)]
     exact go
   rw[if_neg c4]at go
   rw[aj c4]
   by_cases c5:p.Op=5
   ·rw[if_pos c5]at go
    rw[ak c5]
    cases e with
    | true =>
     rw[if_pos rfl]at go
     rw[if_pos rfl,if_pos (by rw[aN];omega),hw]
     exact go
    | false =>
     rw[if_neg (by decide),hnil]at go
     rw[if_neg (by decide)]
     exact go
   rw[if_neg c5,hnil]at go
   rw[aj c5]
   exact go
theorem P7(f:List Bool)(hf:f.length≤1000):xV f=some (marks f 0 f.length,()):=by
 have key:∀ (d i:Nat) (t:List Int),i+d=f.length→t.length≤i→ph f t (i:Int)=some (t++marks f i d,()):=by
  intro d
  induction d with
  | zero =>
   intro i t hi ht
   rw[EI,aj (by omega)]
   show _=some (t++[],())
   rw[List.append_nil]
  | succ d ih =>
   intro i t hi ht
   have hi':i<f.length:=by omega
   rw[EI,ak (by omega),if_pos (by omega),aR hi' (by omega),af,show d+1=1+d by omega,wB]
   have hm:marks f i 1=if f.getD i false=true then [(i:Int)]else []:=by
    unfold marks
    rw[show List.range' i 1=[i]from rfl,List.filter_cons]
    split <;> rfl
   rw[hm]
   by_cases c:f.getD i false=true
   ·rw[if_pos c,if_pos c,if_pos (by rw[aN];omega)]
    have:=ih (i+1) (t++[(i:Int)]) (by omega) (by simp;omega)
    rw[ah]at this
    exact this
   ·rw[if_neg c,if_neg c,List.nil_append]
    exact ih (i+1) t (by omega) (by omega)
 rw[PP]
 have:=key f.length 0 [] (by omega) (Nat.le_refl _)
 rwa [List.nil_append]at this
theorem OY{l:List an}(hl:l.length≤1000)(at_:List Int)(hat:at_.length≤1000000)(b e:Bool):∃ f:List Bool,jK l at_ b e=some (marks f 0 l.length,())∧∀ k:Nat,k<l.length→(f.getD k false=true↔Rch l at_ b e k):=by
 have key:∀ (d i:Nat) (f:List Bool),i+d=at_.length→Mk l at_ b e f []→(∀ (j:Nat) (hj:j<at_.length),j<i→0≤at_[j]→at_[j]<(l.length:Int)→f.getD at_[j].toNat false=true) →
   ∃ g:List Bool,rU l at_ b e f (i:Int)=some (marks g 0 l.length,())∧∀ k:Nat,k<l.length→(g.getD k false=true↔Rch l at_ b e k):=by
  intro d
  induction d with
  | zero =>
   intro i f hi h ha
   obtain⟨h1,h2,h3,h4⟩:=h
   rw[DU,aj (by omega),P7 f (by omega),aa,h1]
   refine⟨f,rfl,fun k hk=>⟨h2 k,fun hx=>?_⟩⟩
   have all:∀ y:Int,Rch l at_ b e y→f.getD y.toNat false=true:=fun y hy=>by
    induction hy with
    | base g1 g2 g3 =>
     obtain⟨j,hj,rfl⟩:=List.mem_iff_getElem.1 g1
     exact ha j hj (by omega) g2 g3
    | step g0 g1 g2 g3 ih =>
     rcases h4 _ ih _ g1 g2 g3 with h | h
     ·exact h
     ·cases h
   have:=all k hx
   rwa [af]at this
  | succ d ih =>
   intro i f hi h ha
   have hi':i<at_.length:=by omega
   obtain⟨h1,h2,h3,h4⟩:=h
   rw[DU,ak (by omega),if_pos (by omega),aS hi',PO]
   have hc:=List.count_le_length (a:=false) (l:=f)
   obtain⟨f',e1,e2,e3,e4⟩:=OX hl at_ b e (3*f.count false+1) f [at_[i]] (by simp) (by omega) ⟨h1,h2,fun y hy y0 y1=>.base (by rw[List.mem_singleton.1 hy];exact List.getElem_mem hi') y0 y1,fun k hk y hy y0 y1=>(h4 k hk y hy y0 y1).imp id fun h=>by cases h⟩
   rw[e1,aa]
   dsimp only
   rw[aR hi' (by omega)]
   refine ih (i+1) f' (by omega) e2 fun j hj hji x0 x1=>?_
   by_cases hj':j=i
   ·subst hj';exact e4 _ (List.mem_singleton.2 rfl) x0 x1
   ·exact e3 _ (ha j hj (by omega) x0 x1)
 rw[Om,if_pos ⟨by omega,by omega,by rw[aN];omega⟩,af]
 have hno:∀ k:Nat,(List.replicate l.length false).getD k false=false:=fun k=>by
  rw[List.getD_eq_getElem?_getD,List.getElem?_replicate];split <;> rfl
 exact key at_.length 0 _ (by omega) ⟨List.length_replicate,fun k hk=>(by rw[hno]at hk;cases hk),fun y hy=>(by cases hy),fun k hk=>(by rw[hno]at hk;cases hk)⟩ (fun j hj h=>absurd h (by omega))
theorem zx{l:List an}(hl:l.length≤1000)(at_:List Int)(hat:at_.length≤1000000)(b e:Bool):∃ m,qA l at_ b e=some (m,())∧jK l at_ b e=some (m,())∧m.Pairwise (· < ·)∧(∀ x∈m,0≤x∧x<(l.length:Int))∧m.length≤l.length:=by
 obtain⟨out,e1,e2,e3⟩:=Km hl at_ hat b e
 obtain⟨f,e4,e5⟩:=OY hl at_ hat b e
 have he:ck out=marks f 0 l.length:=zb (Fp e2) (wA _ _ _) fun x=>by
  rw[sortI_mem,e3,marks_mem]
  constructor
  ·intro hx
   have hb:=hx.bd
   exact⟨x.toNat,by omega,by omega,by omega,(e5 _ (by omega)).2 (by rw[Int.toNat_of_nonneg hb.1];exact hx)⟩
  ·rintro ⟨i,rfl,h1,h2,h3⟩
   exact(e5 i (by omega)).1 h3
 refine⟨marks f 0 l.length,by rw[e1,he],e4,wA _ _ _,fun x hx=>?_,CO _ _ _⟩
 obtain⟨i,rfl,h1,h2,_⟩:=marks_mem.1 hx
 omega
def plB(p:an)(n:Int):Bool :=
 if p.Op=1 then decide (0≤p.C∧p.C≤255)&&((decide (p.Set=[]) && !p.Not)&&(decide (p.A=0)&&decide (p.B=0)))
 else if p.Op=3 then decide (p.C=0)&&(decide (p.A=0)&&decide (p.B=0))
 else if p.Op=6 then decide (p.C=0)&&((decide (p.Set=[]) && !p.Not)&&(decide (0≤p.A∧p.A≤w64 (n-1))&&decide (p.B=0)))
 else if p.Op=7 then decide (p.C=0)&&((decide (p.Set=[]) && !p.Not)&&(decide (0≤p.A∧p.A≤w64 (n-1))&&decide (0≤p.B∧p.B≤w64 (n-1))))
 else if p.Op=2∨p.Op=4∨p.Op=5∨p.Op=8 then decide (p.C=0)&&((decide (p.Set=[]) && !p.Not)&&(decide (p.A=0)&&decide (p.B=0)))
 else false
theorem P9(p:an)(n:Int):xW p n=some (plB p n,()):=by
 rw[PW]
 simp only[PR,PS,PT,PU,PV,cP,aa]
 unfold plB
 generalize w64 (n-1)=m
 by_cases c1:p.Op=1
 ·by_cases hC:0≤p.C∧p.C≤255
  ·by_cases hs:p.Set=[] <;> by_cases hn:p.Not <;> by_cases hA:p.A=0 <;> by_cases hB:p.B=0 <;> simp[c1,hC,hs,hn,hA,hB]
  ·have hC':p.C≠0:=fun h=>hC (by omega)
   by_cases hs:p.Set=[] <;> by_cases hn:p.Not <;> by_cases hA:p.A=0 <;> by_cases hB:p.B=0 <;> simp[c1,hC,hC',hs,hn,hA,hB]
 by_cases hC:p.C=0
 ·by_cases c3:p.Op=3
  ·by_cases hA:p.A=0 <;> by_cases hB:p.B=0 <;> simp[c3,hC,hA,hB]
  by_cases c6:p.Op=6
  ·by_cases hs:p.Set=[] <;> by_cases hn:p.Not <;> by_cases hA:0≤p.A∧p.A≤m <;> by_cases hB:p.B=0 <;> simp[c6,hC,hs,hn,hA,hB]
  by_cases c7:p.Op=7
  ·by_cases hs:p.Set=[] <;> by_cases hn:p.Not <;> by_cases hA:0≤p.A∧p.A≤m <;> by_cases hB:0≤p.B∧p.B≤m <;> simp[c7,hC,hs,hn,hA,hB]
  by_cases c2:p.Op=2
  ·by_cases hs:p.Set=[] <;> by_cases hn:p.Not <;> by_cases hA:p.A=0 <;> by_cases hB:p.B=0 <;> simp[c2,hC,hs,hn,hA,hB]
  by_cases c4:p.Op=4
  ·by_cases hs:p.Set=[] <;> by_cases hn:p.Not <;> by_cases hA:p.A=0 <;> by_cases hB:p.B=0 <;> simp[c4,hC,hs,hn,hA,hB]
  by_cases c5:p.Op=5
  ·by_cases hs:p.Set=[] <;> by_cases hn:p.Not <;> by_cases hA:p.A=0 <;> by_cases hB:p.B=0 <;> simp[c5,hC,hs,hn,hA,hB]
  by_cases c8:p.Op=8
  ·by_cases hs:p.Set=[] <;> by_cases hn:p.Not <;> by_cases hA:p.A=0 <;> by_cases hB:p.B=0 <;> simp[c8,hC,hs,hn,hA,hB]
  have hno:¬ (1≤p.Op∧p.Op≤8):=by omega
  simp[c1,c2,c3,c4,c5,c6,c7,c8,hno]
 ·have e5:(decide (p.C=0))=false:=ae hC
  by_cases c3:p.Op=3
  ·simp[c3,hC]
  by_cases c6:p.Op=6
  ·simp[c6,hC]
  by_cases c7:p.Op=7
  ·simp[c7,hC]
  simp[c1,c3,c6,c7,hC]
theorem KW(p:an)(n:Int)(b:Bool):vv p n b=some (decide (b=decide (p.Op=8))&&plB p n,()):=by
 rw[KV]
 simp only[KU,ey,aa]
 unfold plB
 generalize w64 (n-1)=m
 by_cases hb:b=decide (p.Op=8)
 ·rw[ac hb,if_neg (by decide),Bool.true_and]
  clear hb
  by_cases c1:p.Op=1
  ·by_cases hC:0≤p.C∧p.C≤255 <;> by_cases hs:p.Set=[] <;> by_cases hn:p.Not <;> by_cases hA:p.A=0 <;> by_cases hB:p.B=0 <;> simp[c1,hC,hs,hn,hA,hB]
  by_cases hC:p.C=0
  ·by_cases c3:p.Op=3
   ·by_cases hA:p.A=0 <;> by_cases hB:p.B=0 <;> simp[c3,hC,hA,hB]
   by_cases c6:p.Op=6
   ·by_cases hs:p.Set=[] <;> by_cases hn:p.Not <;> by_cases hA:0≤p.A∧p.A≤m <;> by_cases hB:p.B=0 <;> simp[c6,hC,hs,hn,hA,hB]
   by_cases c7:p.Op=7
   ·by_cases hs:p.Set=[] <;> by_cases hn:p.Not <;> by_cases hA:0≤p.A∧p.A≤m <;> by_cases hB:0≤p.B∧p.B≤m <;> simp[c7,hC,hs,hn,hA,hB]
   by_cases c2:p.Op=2
   ·by_cases hs:p.Set=[] <;> by_cases hn:p.Not <;> by_cases hA:p.A=0 <;> by_cases hB:p.B=0 <;> simp[c2,hC,hs,hn,hA,hB]
   by_cases c4:p.Op=4
   ·by_cases hs:p.Set=[] <;> by_cases hn:p.Not <;> by_cases hA:p.A=0 <;> by_cases hB:p.B=0 <;> simp[c4,hC,hs,hn,hA,hB]
   by_cases c5:p.Op=5
   ·by_cases hs:p.Set=[] <;> by_cases hn:p.Not <;> by_cases hA:p.A=0 <;> by_cases hB:p.B=0 <;> simp[c5,hC,hs,hn,hA,hB]
   by_cases c8:p.Op=8
   ·by_cases hs:p.Set=[] <;> by_cases hn:p.Not <;> by_cases hA:p.A=0 <;> by_cases hB:p.B=0 <;> simp[c8,hC,hs,hn,hA,hB]
   simp[c1,c2,c3,c4,c5,c6,c7,c8]
  ·by_cases c3:p.Op=3
   ·simp[c3,hC]
   by_cases c6:p.Op=6
   ·simp[c6,hC]
   by_cases c7:p.Op=7
   ·simp[c7,hC]
   simp[c1,c3,c6,c7,hC]
 ·rw[ae hb,if_pos (by decide),Bool.false_and]
def nfB(l:List an):Bool:=decide (1≤(l.length:Int)∧(l.length:Int)≤400) && !cH (fun i=>!(plB (l.getD i aK) l.length&&decide (decide ((i:Int)=w64 ((l.length:Int)-1))=decide ((l.getD i aK).Op=8)))) l.length
theorem Bv(l:List an)(hl:l.length≤1000):qI l=some (nfB l,()):=by
 rw[J2,ey,aa]
 dsimp only
 unfold nfB
 by_cases c:1≤(l.length:Int)∧(l.length:Int)≤400
 ·rw[ac c,if_neg (by decide),Bool.true_and]
  have h:=gM (fun i=>ky l l (l.length:Int) i) l.length (fun i=>!(plB (l.getD i aK) l.length&&decide (decide ((i:Int)=w64 ((l.length:Int)-1))=decide ((l.getD i aK).Op=8)))) (some (false,())) (some (true,()))
   (fun i hi=>by
    show ky l l _ _=_
    rw[A7,ak (by omega),if_pos (by omega),aS hi,KW,aa,aR hi (by omega),bj hi,Bool.and_comm])
   (by show ky l l _ _=_;rw[A7,if_neg (by simp)])
  have h':ky l l (l.length:Int) 0=_:=h
  rw[h']
  split <;> simp_all
 ·rw[ae c,if_pos (by decide),Bool.false_and]
theorem P8(l:List an)(hl:l.length≤1000):xr l=some (nfB l,()):=by
 rw[OL]
 unfold nfB
 have h:=gM (fun i=>kV l (l.length:Int) i) l.length (fun i=>!(plB (l.getD i aK) l.length&&decide (decide ((i:Int)=w64 ((l.length:Int)-1))=decide ((l.getD i aK).Op=8)))) (some (false,())) (some (decide (1≤(l.length:Int)∧(l.length:Int)≤400),()))
  (fun i hi=>by
   show kV l _ _=_
   rw[D9,ak (by omega),if_pos (by omega),aS hi,P9,aa,bj hi,if_pos (c:=(0:Int)≤(i:Int)∧(i:Int)<(l.length:Int)) (by omega),aR hi (by omega)]
   dsimp only
   cases plB l[i] (l.length:Int) with
   | false=>rfl
   | true =>
    rw[if_neg (by decide),Bool.true_and]
    have:decide (decide (l[i].Op=8)=decide ((i:Int)=w64 ((l.length:Int)-1)))=decide (decide ((i:Int)=w64 ((l.length:Int)-1))=decide (l[i].Op=8)):=decide_eq_decide.2 eq_comm
    rw[this])
  (by show kV l _ _=_;rw[D9,if_neg (by simp),cP];rfl)
 have h':kV l (l.length:Int) 0=_:=h
 rw[h']
 split <;> simp_all
theorem B3(c:Int):∀ l:List Int,decide (bP l c≥0)=decide (c∈l)
 | []=>by simp[bP]
 | b::l=>by
  have ih:=B3 c l
  have hb:=B0 l c
  unfold bP
  by_cases h:b=c
  ·rw[if_pos h];simp[h]
  ·rw[if_neg h]
   have h':c≠b:=fun e=>h e.symm
   have hm:decide (c∈b::l)=decide (c∈l):=decide_eq_decide.2 (by rw[List.mem_cons];exact⟨fun e=>e.resolve_left h',.inr⟩)
   rw[hm,← ih]
   by_cases d:bP l c = -1
   ·rw[if_pos d,d]
   ·rw[if_neg d];exact decide_eq_decide.2 (by omega)
theorem y6(l:List Int)(c:Int):(l.any fun x=>decide (x=c))=decide (c∈l):=by
 cases h:decide (c∈l) with
 | true=>exact List.any_eq_true.2 ⟨c,of_decide_eq_true h,by simp⟩
 | false =>
  have h:=of_decide_eq_false h
  rw[← Bool.not_eq_true]
  intro e
  obtain⟨x,hx,e⟩:=List.any_eq_true.1 e
  exact h (by rw[← of_decide_eq_true e];exact hx)
theorem PY(l:List Int)(c:Int)(hl:l.length≤4294967296):xX l c=some (decide (c∈l),()):=by
 rw[PX]
 have h:=gM (fun i=>lj l c i) l.length (fun i=>decide (l.getD i 0=c)) (some (true,())) (some (false,()))
  (fun i hi=>by show lj l c _=_;rw[EN,ak (by omega),if_pos (by omega),aS hi,bj hi,aR hi (by omega)])
  (by show lj l c _=_;rw[EN,if_neg (by simp)])
 have h':lj l c 0=_:=h
 rw[h',er l 0 (fun x=>decide (x=c)),y6]
 by_cases d:c∈l
 ·rw[ac d,if_pos rfl]
 ·rw[ae d,if_neg (by decide)]
theorem zE(l:List Int)(c:Int)(hl:l.length≤4294967296):yw l c=some (decide (c∈l),()):=by
 rw[Ro,Ry]
 obtain⟨k,e1,e2,_⟩:=g9 (fun i=>lA l c (l.length:Int) i) () l.length (fun i=>decide (l.getD i 0=c))
  (fun i hi=>by
   show lA l c _ _=_
   rw[GK,ak (by omega),if_pos (by omega),aS hi,bj hi,aR hi (by omega)]
   have:decide (c=l[i])=decide (l[i]=c):=decide_eq_decide.2 eq_comm
   rw[this])
  (by show lA l c _ _=_;rw[GK,if_neg (by simp)])
 have e1':lA l c (l.length:Int) 0=some (k,()):=e1
 rw[e1',aa]
 dsimp only
 rw[e2,er l 0 (fun x=>decide (x=c)),y6]
def tkB(p:an)(c:Int):Bool:=if p.Op=1 then decide (p.C=w64 c)else if p.Op=2 then true else if p.Op=3 then !decide (decide (c∈p.Set)=p.Not)else false
theorem FJ(p:an)(c:Int)(hl:p.Set.length≤4294967296):vJ p c=some (tkB p c,())∧xY p c=some (tkB p c,()):=by
 rw[Lh,PZ,GS,Gq,Gi,PY _ _ hl]
 simp only[aa,B3]
 unfold tkB
 by_cases c1:p.Op=1
 ·have:decide (w64 c=p.C)=decide (p.C=w64 c):=decide_eq_decide.2 eq_comm
  simp[c1,this]
 by_cases c2:p.Op=2
 ·simp[c2]
 by_cases c3:p.Op=3
 ·simp[c3]
 simp[c1,c2,c3]
def nxt(l:List an)(c:Int)(m:List Int):List Int:=(m.filter fun k=>tkB (l.getD k.toNat aK) c).map fun k=>k+1
theorem M1(l:List an)(c:Int)(m:List Int):(nxt l c m).length≤m.length:=by
 unfold nxt
 rw[List.length_map]
 exact List.length_filter_le ..
theorem C5(l:List an)(c k:Int)(m:List Int):nxt l c (k::m)=(if tkB (l.getD k.toNat aK) c=true then [k+1]else [])++nxt l c m:=by
 unfold nxt
 rw[List.filter_cons]
 split <;> rfl
def nx(l:List an):Prop:=∀ p∈l,p.Set.length≤4294967296
theorem MR{l:List an}(hl:l.length≤1000)(hS:nx l){s:List Int}(hs:s.length≤4294967296)(p:Nat)(hp:p<s.length)(best:Int)(m:List Int)(hm:m.length≤1000)(hb:∀ x∈m,0≤x∧x<(l.length:Int)) :
  ∀ (d i:Nat) (t:List Int),i+d=m.length→t.length≤i→nW l s (p:Int) best t m (m.length:Int) (i:Int)=lS l s ((p+1:Nat):Int) best (t++nxt l s[p] (m.drop i)):=by
 intro d
 induction d with
 | zero =>
  intro i t hi ht
  rw[A4,aj (by omega),List.drop_eq_nil_of_le (by omega),aR hp (by omega)]
  show _=lS l s _ best (t++[])
  rw[List.append_nil]
 | succ d ih =>
  intro i t hi ht
  have hi':i<m.length:=by omega
  have hv:=hb _ (List.getElem_mem hi')
  have hvn:m[i].toNat<l.length:=by omega
  rw[A4,ak (by omega),if_pos (by omega),aS hi',if_pos (by omega),if_pos (by omega),aS hp,bj hvn,(FJ _ _ (hS _ (List.getElem_mem hvn))).1,aa,aF (n:=m[i]+1) (by omega) (by omega),aR hi' (by omega),ai hi',C5,bj hvn]
  dsimp only
  by_cases c:tkB l[m[i].toNat] s[p]=true
  ·rw[if_pos c,if_pos c,if_pos (by rw[aN];omega)]
   have:=ih (i+1) (t++[m[i]+1]) (by omega) (by simp;omega)
   rw[ah]at this
   exact this
  ·rw[if_neg c,if_neg c,List.nil_append]
   exact ih (i+1) t (by omega) (by omega)
theorem MS{l:List an}(hl:l.length≤1000)(hS:nx l){s:List Int}(hs:s.length≤4294967296)(p:Nat)(hp:p<s.length)(best:Int)(m:List Int)(hm:m.length≤1000)(hb:∀ x∈m,0≤x∧x<(l.length:Int)) :
  ∀ (d i:Nat) (t:List Int),i+d=m.length→t.length≤i→oV l s m best (p:Int) t (i:Int)=(jK l (t++nxt l s[p] (m.drop i)) false (decide (((p+1:Nat):Int)=(s.length:Int)))).bind fun(r1:(List Int)×Unit)=>oT l s r1.1 best ((p+1:Nat):Int):=by
 intro d
 induction d with
 | zero =>
  intro i t hi ht
  rw[D6,aj (by omega),List.drop_eq_nil_of_le (by omega),aR hp (by omega)]
  show _=(jK l (t++[]) _ _).bind _
  rw[List.append_nil]
 | succ d ih =>
  intro i t hi ht
  have hi':i<m.length:=by omega
  have hv:=hb _ (List.getElem_mem hi')
  have hvn:m[i].toNat<l.length:=by omega
  rw[D6,ak (by omega),if_pos (by omega),aS hi',if_pos (by omega),if_pos (by omega),aS hp,bj hvn,(FJ _ _ (hS _ (List.getElem_mem hvn))).2,aa,aF (n:=m[i]+1) (by omega) (by omega),aR hi' (by omega),ai hi',C5,bj hvn]
  dsimp only
  by_cases c:tkB l[m[i].toNat] s[p]=true
  ·rw[if_pos c,if_pos c,if_pos (by omega),if_pos (by rw[aN];omega)]
   have:=ih (i+1) (t++[m[i]+1]) (by omega) (by simp;omega)
   rw[ah]at this
   exact this
  ·rw[if_neg c,if_neg c,List.nil_append]
   exact ih (i+1) t (by omega) (by omega)
theorem Cw{m:List Int}(ha:m.Pairwise (· < ·)){N:Int}(hb:∀ x∈m,x<N)(h0:0<m.length):decide (N-1∈m)=decide (m[m.length-1]=N-1):=by
 refine decide_eq_decide.2 ⟨fun h=>?_,fun h=>by rw[← h];exact List.getElem_mem _⟩
 obtain⟨i,hi,e⟩:=List.mem_iff_getElem.1 h
 have h1:=hb _ (List.getElem_mem (show m.length-1<m.length by omega))
 by_cases c:i=m.length-1
 ·subst c;exact e
 ·have:=List.pairwise_iff_getElem.1 ha i (m.length-1) hi (by omega) (by omega)
  omega
theorem MI{l:List an}(hl:l.length≤1000)(hS:nx l){s:List Int}(hs:s.length≤4294967296):∀ (d p:Nat),p+d=s.length→∀ (best:Int) (at_:List Int),at_.length≤1000 →
  ∃ v,lS l s (p:Int) best at_=some (v,())∧((jK l at_ (decide ((p:Int)=0)) (decide ((p:Int)=(s.length:Int)))).bind fun(r1:(List Int)×Unit)=>oT l s r1.1 best (p:Int))=some (v,()):=by
 intro d
 induction d with
 | zero =>
  intro p hp best at_ hat
  obtain⟨m,e1,e2,e3,e4,e5⟩:=zx hl at_ (by omega) (decide ((p:Int)=0)) (decide ((p:Int)=(s.length:Int)))
  rw[A3,e1,e2,aa,aa]
  dsimp only
  rw[zE _ _ (by omega),aa,D4,aF (n:=(l.length:Int)-1) (by omega) (by omega)]
  dsimp only
  have hi:∀ b,nV l s (p:Int) b m=some (b,()):=fun b=>by rw[uW,ak (by omega)]
  have hss:∀ b,oU l s m b (p:Int)=some (b,()):=fun b=>by rw[D5,ak (by omega)]
  simp only[hi,hss]
  by_cases hm:0<m.length
  ·have w:w64 ((m.length:Int)-1)=((m.length-1:Nat):Int):=by rw[aF (by omega) (by omega)];omega
   rw[if_pos (c:=decide ((m.length:Int)>0)=true) (ac (by omega)),w,if_pos (c:=(0:Int)≤((m.length-1:Nat):Int)∧((m.length-1:Nat):Int)<(m.length:Int)) (by omega),aS (by omega),Cw e3 (fun x hx=>(e4 x hx).2) hm]
   by_cases c:m[m.length-1]=(l.length:Int)-1
   ·rw[ac c,if_pos rfl];exact⟨_,rfl,rfl⟩
   ·rw[ae c,if_neg (by decide)];exact⟨_,rfl,rfl⟩
  ·have:m=[]:=List.length_eq_zero_iff.1 (by omega)
   subst this
   rw[if_neg (c:=decide ((l.length:Int)-1∈([]:List Int))=true) (by simp),if_neg (by simp)]
   exact⟨_,rfl,rfl⟩
 | succ d ih =>
  intro p hp best at_ hat
  have hps:p<s.length:=by omega
  obtain⟨m,e1,e2,e3,e4,e5⟩:=zx hl at_ (by omega) (decide ((p:Int)=0)) (decide ((p:Int)=(s.length:Int)))
  rw[A3,e1,e2,aa,aa]
  dsimp only
  rw[zE _ _ (by omega),aa,D4,aF (n:=(l.length:Int)-1) (by omega) (by omega)]
  dsimp only
  by_cases hm:0<m.length
  ·have go:∀ b,∃ v,nV l s (p:Int) b m=some (v,())∧oU l s m b (p:Int)=some (v,()):=fun b=>by
    have hn:=M1 l s[p] m
    have h1:=MR hl hS hs p hps b m (by omega) e4 m.length 0 [] (by omega) (Nat.le_refl _)
    have h2:=MS hl hS hs p hps b m (by omega) e4 m.length 0 [] (by omega) (Nat.le_refl _)
    rw[List.drop_zero,List.nil_append]at h1 h2
    obtain⟨v,g1,g2⟩:=ih (p+1) (by omega) b (nxt l s[p] m) (by omega)
    rw[ae (p:=((p+1:Nat):Int)=0) (by omega)]at g2
    refine⟨v,?_,?_⟩
    ·rw[uW,aj (by omega),aj (by omega)]
     exact h1.trans g1
    ·rw[D5,aj (by omega)]
     exact h2.trans g2
   have w:w64 ((m.length:Int)-1)=((m.length-1:Nat):Int):=by rw[aF (by omega) (by omega)];omega
   rw[if_pos (c:=decide ((m.length:Int)>0)=true) (ac (by omega)),w,if_pos (c:=(0:Int)≤((m.length-1:Nat):Int)∧((m.length-1:Nat):Int)<(m.length:Int)) (by omega),aS (by omega),Cw e3 (fun x hx=>(e4 x hx).2) hm]
   by_cases c:m[m.length-1]=(l.length:Int)-1
   ·rw[ac c,if_pos rfl,if_pos rfl];exact go _
   ·rw[ae c,if_neg (by decide),if_neg (by decide)];exact go _
  ·have:m=[]:=List.length_eq_zero_iff.1 (by omega)
   subst this
   rw[if_neg (c:=decide ((l.length:Int)-1∈([]:List Int))=true) (by simp),if_neg (by simp),uW,aj (by omega),if_pos (by simp)]
   exact⟨_,rfl,rfl⟩
theorem MH{l:List an}(hl:l.length≤1000)(hS:nx l){s:List Int}(hs:s.length≤4294967296)(p:Nat)(hp:p≤s.length):∃ v,uV l s (p:Int)=some (v,())∧xp l s (p:Int)=some (v,())∧(nfB l=false→v = -1):=by
 rw[JY,OH,Bv l hl,P8 l hl,ey,cP]
 simp only[aa]
 cases h:nfB l with
 | false=>exact⟨_,rfl,rfl,fun _=>rfl⟩
 | true =>
  have hin:decide (0≤(p:Int)∧(p:Int)≤(s.length:Int))=true:=ac (by omega)
  rw[hin]
  simp only[Bool.not_true,Bool.false_eq_true,if_false]
  obtain⟨v,e1,e2⟩:=MI hl hS hs (s.length-p) p (by omega) (-1) [0] (by simp)
  exact⟨v,e1,e2,fun h=>by cases h⟩
theorem MJ{l:List an}(hl:l.length≤1000)(hS:nx l){s:List Int}(hs:s.length≤4294967296):∃ a b c,uU l s=some (a,b,c,())∧xn l s=some (a,b,c,()):=by
 have key:∀ (d p:Nat),p+d=s.length+1→∃ a b c,qH l s (p:Int)=some (a,b,c,())∧sa l s (p:Int)=some (a,b,c,())∧(nfB l=false→a=0∧b=0∧c=false):=by
  intro d
  induction d with
  | zero =>
   intro p hp
   rw[A6,D8,aj (by omega),aj (by omega)]
   exact⟨_,_,_,rfl,rfl,fun _=>⟨rfl,rfl,rfl⟩⟩
  | succ d ih =>
   intro p hp
   obtain⟨v,e1,e2,e3⟩:=MH hl hS hs p (by omega)
   have w:w64 ((p:Int)+1)=((p+1:Nat):Int):=by rw[aF (by omega) (by omega)];omega
   rw[A6,D8,ak (by omega),ak (by omega),e1,e2,aa,aa,w]
   dsimp only
   by_cases c:v≥0
   ·rw[ak c,ak c];exact⟨_,_,_,rfl,rfl,fun h=>absurd (e3 h) (by omega)⟩
   ·rw[aj c,aj c];exact ih (p+1) (by omega)
 obtain⟨a,b,c,e1,e2,e3⟩:=key (s.length+1) 0 (by omega)
 rw[J0,OJ,Bv l hl,aa]
 dsimp only
 cases h:nfB l with
 | false =>
  obtain⟨rfl,rfl,rfl⟩:=e3 h
  rw[if_pos (by decide)]
  exact⟨_,_,_,rfl,e2⟩
 | true=>rw[if_neg (by decide)];exact⟨a,b,c,e1,e2⟩
noncomputable def lM(pat s:List Int):Bool:=match mJ pat s with
 | some (v,_)=>decide (v.N≠0)
 | none=>false
theorem qt(pat s:List Int)(hB:∀ b∈pat,0≤b∧b≤255)(hl:pat.length≤9223372036854775807)(hs:s.length≤4294967296):qP pat s=some (lM pat s,())∧mJ pat s=some (⟨1,if lM pat s=true then 1000000 else 0,[]⟩,()):=by
 obtain⟨x,ok,e1,e2,h1,h2,h3,h4⟩:=N0 pat hB hl
 obtain⟨l,e3,e4,h5,h6⟩:=MT h1 h2 h4
 obtain⟨a,b,c,e5,e6⟩:=MJ h5 (fun p hp=>by have:=h6 p hp;omega) hs
 have hs':mJ pat s=some (⟨1,if c=true then 1000000 else 0,[]⟩,()):=by
  rw[Pa,e1,aa]
  dsimp only
  rw[OI,e4,aa]
  dsimp only
  rw[e6,aa,aa]
  dsimp only
  rw[Ek,xL]
  cases c with
  | true=>rw[if_pos rfl,aa,eh];rfl
  | false=>rw[if_neg (by decide),aa,eh];rfl
 have hf:lM pat s=c:=by
  unfold lM
  rw[hs']
  cases c <;> rfl
 rw[hf]
 refine⟨?_,hs'⟩
 rw[Kr,e2,aa]
 dsimp only
 rw[JZ,e3,aa]
 dsimp only
 rw[e5]
 rfl
theorem CU{a b:Int}(ha:Dc a)(hb:Dc b):∃ v ok,qD a b=some (v,ok,())∧Dc v:=by
 have ha':=ha
 have hb':=hb
 unfold Dc at ha' hb'
 rw[AW,df,df]
 simp only[aa,ac ha',ac hb',Bool.not_true,Bool.false_eq_true,if_false,p9 ha,p9 hb]
 have x0:0≤(if a<0 then 0-a else a):=by split <;> omega
 have x1:(if a<0 then 0-a else a)≤9000000000000:=by split <;> omega
 have y0:0≤(if b<0 then 0-b else b):=by split <;> omega
 have y1:(if b<0 then 0-b else b)≤9000000000000:=by split <;> omega
 generalize (if a<0 then 0-a else a)=x at *
 generalize (if b<0 then 0-b else b)=y at *
 generalize (!(decide ((decide (a<0))=(decide (b<0)))))=n
 rw[CR x0 x1 y0 y1 n]
 have p0:=Int.mul_nonneg x0 y0
 unfold mp Dc
 generalize x*y=p at *
 by_cases c:p/1000000>9000000000000
 ·rw[if_pos c];exact⟨_,_,rfl,by omega⟩
 ·rw[if_neg c]
  cases n with
  | true=>rw[if_pos rfl];exact⟨_,_,rfl,by omega⟩
  | false=>rw[if_neg (by decide)];exact⟨_,_,rfl,by omega⟩
theorem w5(n:Int):∃ v ok,((kF n).bind fun(r2:Int×Bool×Unit)=>some (r2.1,r2.2.1,()))=some (v,ok,())∧Dc v:=by
 rw[oq]
 unfold Dc
 by_cases c:-9000000000000≤n∧n≤9000000000000
 ·rw[if_pos c];exact⟨_,_,rfl,c⟩
 ·rw[if_neg c];exact⟨_,_,rfl,by omega⟩
theorem p7{a b:Int}(ha:Dc a)(hb:Dc b):∃ v ok,lR a b=some (v,ok,())∧Dc v:=by
 unfold Dc at ha hb
 rw[AU,df,df]
 simp only[aa,ac ha,ac hb,Bool.not_true,Bool.false_eq_true,if_false]
 exact w5 _
theorem FD{a b:Int}(ha:Dc a)(hb:Dc b):∃ v ok,qE a b=some (v,ok,())∧Dc v:=by
 unfold Dc at ha hb
 rw[AY,df,df]
 simp only[aa,ac ha,ac hb,Bool.not_true,Bool.false_eq_true,if_false]
 exact w5 _
theorem zR{a b:Int}(ha:Dc a)(hb:Dc b)(h0:b≠0):∃ v ok,nT a b=some (v,ok,())∧Dc v:=by
 unfold Dc at ha hb
 rw[AV,df,df]
 simp only[aa,ac ha,ac hb,ae h0,Bool.not_true,Bool.false_eq_true,if_false,if_pos h0]
 exact w5 _
noncomputable def bo(op a b:Int):Int×Int:=match gV (op+9) a b with
 | some (n,e,_)=>(n,e)
 | none=>(0,0)
theorem wC{op a b:Int}(ha:Dc a)(hb:Dc b):gV (op+9) a b=some ((bo op a b).1,(bo op a b).2,())∧Dc (bo op a b).1∧0≤(bo op a b).2∧(bo op a b).2≤2:=by
 have key:∃ n e,gV (op+9) a b=some (n,e,())∧Dc n∧(0:Int)≤e∧e≤2:=by
  have z:Dc 0:=by unfold Dc;omega
  have L1:∀ {x:Option (Int×Bool×Unit)},(∃ v ok,x=some (v,ok,())∧Dc v)→∃ n e,(x.bind fun(r:Int×Bool×Unit)=>gW r.1 r.2.1)=some (n,e,())∧Dc n∧(0:Int)≤e∧e≤2:=fun {x} hx=>by
   obtain⟨v,ok,rfl,hv⟩:=hx
   rw[aa,qR]
   dsimp only
   cases ok with
   | true=>rw[if_neg (by decide)];exact⟨_,_,rfl,hv,by decide,by decide⟩
   | false=>rw[if_pos (by decide)];exact⟨_,_,rfl,z,by decide,by decide⟩
  rw[kB]
  by_cases c0:op+9=9
  ·rw[ak c0];exact L1 (p7 ha hb)
  rw[aj c0]
  by_cases c1:op+9=10
  ·rw[ak c1];exact L1 (FD ha hb)
  rw[aj c1]
  by_cases c2:op+9=11
  ·rw[ak c2];exact L1 (CU ha hb)
  rw[aj c2]
  by_cases cb:b=0
  ·rw[ak cb];exact⟨_,_,rfl,z,by decide,by decide⟩
  rw[aj cb]
  by_cases c4:op+9=13
  ·rw[ak c4,if_pos cb]
   refine⟨_,_,rfl,?_,by decide,by decide⟩
   unfold Dc at ha ⊢
   have h1:(a.tmod b).natAbs≤a.natAbs:=by
    rw[Int.natAbs_tmod];exact Nat.mod_le _ _
   omega
  rw[aj c4];exact L1 (zR ha hb cb)
 obtain⟨n,e,e1,e2⟩:=key
 unfold bo
 rw[e1];exact⟨rfl,e2⟩
theorem rA{op a b:Int}(ha:Dc a)(hb:Dc b):gV (op+9) a b=some ((bo op a b).1,(bo op a b).2,())∧Dc (bo op a b).1:=⟨(wC ha hb).1,(wC ha hb).2.1⟩
def iR(b:Bool):au:=⟨1,if b=true then 1000000 else 0,[]⟩
theorem nC(b:Bool):VG (iR b):=fv (by unfold Dc;split <;> omega)
def wJ(op c:Int):Bool:=if op=0 then decide (c<0)else if op=1 then decide (c≤0)else if op=2 then decide (c>0)else if op=3 then decide (c≥0)else if op=4 then decide (c=0)else !decide (c=0)
inductive R
 | err (e:Int)
 | stop
 | go (a:Int) (V:List au) (C:List al) (out:List Int) (st:List au)
def aJ(o:am):Int :=
 if o.Code=4∨o.Code=5∨o.Code=6∨o.Code=9∨o.Code=24∨o.Code=26∨o.Code=27∨o.Code=28∨o.Code=31∨o.Code=32∨o.Code=33∨o.Code=35 then 1
 else if o.Code=7∨o.Code=8 then 2 else if o.Code=29 then o.N else if 12≤o.Code∧o.Code≤23 then 2 else 0
def dD(a:Int)(V:List au)(C:List al)(out:List Int)(st:List au)(v:au):R:=if st.length=64 then .err 7 else .go a V C out (st++[v])
noncomputable def ci(line:List Int)(nr:Int)(o:am)(l:List au):Int×au :=
 if o.Code=1 then(0,⟨1,o.N,[]⟩)
 else if o.Code=2 then(if 300<o.S.length then 3 else 0,⟨2,0,o.S⟩)
 else if o.Code=9 then(0,nM line (bX (l.getD 0 aD)))
 else if o.Code=10 then(0,⟨1,nr*1000000,[]⟩)
 else if o.Code=11 then(0,⟨1,((bM line).length:Int)*1000000,[]⟩)
 else if o.Code=17 then(if 300<(aW (l.getD 0 aD)++aW (l.getD 1 aD)).length then 3 else 0,⟨2,0,aW (l.getD 0 aD)++aW (l.getD 1 aD)⟩)
 else if o.Code=24 then(0,iR (lM o.S (aW (l.getD 0 aD))))
 else if o.Code=25 then(0,iR (lM o.S line))
 else if o.Code=26 then(0,iR (!jU (l.getD 0 aD)))
 else if o.Code=27 then(0,⟨1,0-bm (l.getD 0 aD),[]⟩)
 else if o.Code=28 then(0,iR (jU (l.getD 0 aD)))
 else if o.Code=29 then(0,ga o.S l)
 else if o.Code≤16 then((bo (o.Code-12) (bm (l.getD 0 aD)) (bm (l.getD 1 aD))).2,⟨1,(bo (o.Code-12) (bm (l.getD 0 aD)) (bm (l.getD 1 aD))).1,[]⟩)
 else(0,iR (wJ (o.Code-18) (d7 (l.getD 0 aD) (l.getD 1 aD))))
def jF(a:Int)(V:List au)(C:List al)(out:List Int)(st:List au)(n:Int)(k:List Int)(v:au):R:=match gu C n k v with
 | some C'=>dD a V C' out st v
 | none=>.err 4
noncomputable def eb(a:Int)(V:List au)(C:List al)(out:List Int)(st:List au)(o:am)(l:List au):R :=
 if o.Code=3 then dD a V C out st (V.getD o.N.toNat aD)
 else if o.Code=4 then dD a (V.set o.N.toNat (l.getD 0 aD)) C out st (l.getD 0 aD)
 else if o.Code=5 then(if(bo 0 (bm (V.getD o.N.toNat aD)) (bm (l.getD 0 aD))).2=0 then
   dD a (V.set o.N.toNat ⟨1,(bo 0 (bm (V.getD o.N.toNat aD)) (bm (l.getD 0 aD))).1,[]⟩) C out st ⟨1,(bo 0 (bm (V.getD o.N.toNat aD)) (bm (l.getD 0 aD))).1,[]⟩
  else .err 1)
 else if o.Code=6 then dD a V C out st (ge C o.N (dG (l.getD 0 aD)))
 else if o.Code=7 then jF a V C out st o.N (dG (l.getD 0 aD)) (l.getD 1 aD)
 else if o.Code=8 then(if(bo 0 (bm (ge C o.N (dG (l.getD 0 aD)))) (bm (l.getD 1 aD))).2=0 then
   jF a V C out st o.N (dG (l.getD 0 aD)) ⟨1,(bo 0 (bm (ge C o.N (dG (l.getD 0 aD)))) (bm (l.getD 1 aD))).1,[]⟩
  else .err 1)
 else .go a V (lK C o.N (dG (l.getD 0 aD))) out st
def gy(a:Int)(V:List au)(C:List al)(out:List Int)(st:List au)(t:List Int):R:=if 600<(out++t).length then .err 5 else .go a V C (out++t) st
noncomputable def doR(line:List Int)(nr:Int)(a:Int)(V:List au)(C:List al)(out:List Int)(st:List au)(o:am)(l:List au):R :=
 if o.Code=36 then .stop
 else if o.Code=30 then .go o.N V C out st
 else if o.Code=31 then(if jU (l.getD 0 aD)=true then .go (a+1) V C out st else .go o.N V C out st)
 else if o.Code=32 then .go (a+1) V C out st
 else if o.Code=33 then gy (a+1) V C out st ((if o.N=1 then [32]else [])++aW (l.getD 0 aD))
 else if o.Code=34 then gy (a+1) V C out st [10]
 else if o.Code=3∨o.Code=4∨o.Code=5∨o.Code=6∨o.Code=7∨o.Code=8∨o.Code=35 then eb (a+1) V C out st o l
 else if(ci line nr o l).1=0 then dD (a+1) V C out st (ci line nr o l).2 else .err (ci line nr o l).1
noncomputable def iv(line:List Int)(nr:Int)(o:am)(a:Int)(V:List au)(C:List al)(out:List Int)(st:List au):R :=
 if(st.length:Int)<aJ o then .err 7
 else doR line nr a V C out (st.take (st.length-(aJ o).toNat)) o (st.drop (st.length-(aJ o).toNat))
def VmI(nv:Nat)(nc:Int)(V:List au)(C:List al)(out:List Int)(st:List au):Prop :=
 (V.length=nv∧∀ v∈V,VG v)∧CG nc C∧(out.length≤600∧Bt out)∧(st.length≤64∧∀ v∈st,VG v)
theorem ye{o:am}{n v c:Int}(h:opB o n v c=true):0≤aJ o∧aJ o≤3:=by
 unfold aJ
 split
 ·omega
 split
 ·omega
 split
 ·rename_i h1 h2 h3
  unfold opB at h
  simp[h3]at h
  omega
 split <;> omega
theorem C6{o:am}{n v c:Int}(h:opB o n v c=true):1≤o.Code∧o.Code≤36:=by
 unfold opB at h
 by_cases c0:1≤o.Code∧o.Code≤36
 ·exact c0
 ·have e:∀ k:Int,1≤k→k≤36→o.Code≠k:=fun k h1 h2 h3=>c0 (by omega)
  simp[e,c0]at h
theorem CP{a b:Int}(ha:Dc a)(hb:Dc b):(bo 0 a b).2=0∨(bo 0 a b).2=1:=by
 obtain⟨v,ok,e,_⟩:=p7 ha hb
 unfold bo
 rw[kB,if_pos (by decide),e,aa,qR]
 dsimp only
 cases ok with
 | true=>rw[if_neg (by decide)];exact .inl rfl
 | false=>rw[if_pos (by decide)];exact .inr rfl
def nq(nv:Nat)(nc:Int)(n:Int):R→Prop
 | .go a V C out st=>(0≤a∧a<n)∧VmI nv nc V C out st
 | .err e=>1≤e∧e≤7
 | .stop=>True
theorem mu{nv:Nat}{nc n a:Int}{V:List au}{C:List al}{out:List Int}{st:List au}{v:au}(ha:0≤a∧a<n)(h:VmI nv nc V C out st)(hv:VG v):nq nv nc n (dD a V C out st v):=by
 obtain⟨h1,h2,h3,h4,h5⟩:=h
 unfold dD
 by_cases c:st.length=64
 ·rw[if_pos c];exact⟨by decide,by decide⟩
 ·rw[if_neg c]
  refine⟨ha,h1,h2,h3,by rw[ag,List.length_singleton];omega,fun w hw=>?_⟩
  rcases List.mem_append.1 hw with hw | hw
  ·exact h5 w hw
  ·rw[List.mem_singleton.1 hw];exact hv
theorem Dy{nv:Nat}{nc n a:Int}{V:List au}{C:List al}{out:List Int}{st:List au}{v:au}{m:Int}{k:List Int}(ha:0≤a∧a<n)(h:VmI nv nc V C out st)(hm:0≤m∧m<nc)(hk:k.length≤300)(hv:VG v):nq nv nc n (jF a V C out st m k v):=by
 unfold jF
 cases e:gu C m k v with
 | none=>exact⟨by decide,by decide⟩
 | some C'=>exact mu ha ⟨h.1,NH h.2.1 hm hk hv e,h.2.2⟩ hv
theorem Qj{V:List au}(h:∀ v∈V,VG v)(i:Nat){v:au}(hv:VG v):∀ w∈V.set i v,VG w:=fun w hw=>by
 rcases List.mem_or_eq_of_mem_set hw with hw | hw
 ·exact h w hw
 ·rw[hw];exact hv
theorem MN{nv:Nat}{nc n a:Int}{V:List au}{C:List al}{out:List Int}{st l:List au}{o:am}(ha:0≤a∧a<n)(h:VmI nv nc V C out st)(hl:∀ v∈l,VG v)(hN:(o.Code=7∨o.Code=8)→0≤o.N∧o.N<nc):nq nv nc n (eb a V C out st o l):=by
 have l0:=bF hl 0
 have l1:=bF hl 1
 have hset:∀ {v},VG v→VmI nv nc (V.set o.N.toNat v) C out st:=fun hv=>⟨⟨by rw[List.length_set];exact h.1.1,Qj h.1.2 _ hv⟩,h.2⟩
 unfold eb
 by_cases c3:o.Code=3
 ·rw[if_pos c3];exact mu ha h (bF h.1.2 _)
 rw[if_neg c3]
 by_cases c4:o.Code=4
 ·rw[if_pos c4];exact mu ha (hset l0) l0
 rw[if_neg c4]
 by_cases c5:o.Code=5
 ·rw[if_pos c5]
  have hm:=fv (rA (op:=0) (bW (bF h.1.2 o.N.toNat)).2.2 (bW l0).2.2).2
  split
  ·exact mu ha (hset hm) hm
  ·exact⟨by decide,by decide⟩
 rw[if_neg c5]
 by_cases c6:o.Code=6
 ·rw[if_pos c6];exact mu ha h (qx h.2.1 _ _)
 rw[if_neg c6]
 by_cases c7:o.Code=7
 ·rw[if_pos c7];exact Dy ha h (hN (.inl c7)) (Cd _) l1
 rw[if_neg c7]
 by_cases c8:o.Code=8
 ·rw[if_pos c8]
  have hm:=fv (rA (op:=0) (bW (qx h.2.1 o.N (dG (l.getD 0 aD)))).2.2 (bW l1).2.2).2
  split
  ·exact Dy ha h (hN (.inr c8)) (Cd _) hm
  ·exact⟨by decide,by decide⟩
 rw[if_neg c8]
 exact⟨ha,h.1,II h.2.1 _ _,h.2.2⟩
def gE(line:List Int)(nr:Int):Prop:=(line.length≤2097152∧Bt line)∧0≤nr∧nr≤1000000
theorem QT{line:List Int}{nr:Int}{o:am}{l:List au}(hL:gE line nr)(hl:∀ v∈l,VG v)(hS:Bt o.S)(hN:o.Code=1→Dc o.N)(he:(ci line nr o l).1=0):VG (ci line nr o l).2:=by
 have l0:=bF hl 0
 have l1:=bF hl 1
 obtain⟨⟨hL1,hL2⟩,hL3⟩:=hL
 have hf:=qr line
 unfold ci at he ⊢
 by_cases c1:o.Code=1
 ·rw[if_pos c1];exact fv (hN c1)
 rw[if_neg c1]at he ⊢
 by_cases c2:o.Code=2
 ·rw[if_pos c2]at he ⊢
  dsimp only at he
  exact nz (by by_cases c:300<o.S.length;rw[if_pos c]at he;cases he;omega) hS
 rw[if_neg c2]at he ⊢
 by_cases c9:o.Code=9
 ·rw[if_pos c9];exact(z7 (by omega) hL2 _).2
 rw[if_neg c9]at he ⊢
 by_cases c10:o.Code=10
 ·rw[if_pos c10];exact fv (by unfold Dc;omega)
 rw[if_neg c10]at he ⊢
 by_cases c11:o.Code=11
 ·rw[if_pos c11];exact fv (by unfold Dc;omega)
 rw[if_neg c11]at he ⊢
 by_cases c17:o.Code=17
 ·rw[if_pos c17]at he ⊢
  dsimp only at he
  exact nz (by by_cases c:300<(aW (l.getD 0 aD)++aW (l.getD 1 aD)).length;rw[if_pos c]at he;cases he;omega) (fun x hx=>(List.mem_append.1 hx).elim ((dl l0).2 x) ((dl l1).2 x))
 rw[if_neg c17]at he ⊢
 by_cases c24:o.Code=24
 ·rw[if_pos c24];exact nC _
 rw[if_neg c24]at he ⊢
 by_cases c25:o.Code=25
 ·rw[if_pos c25];exact nC _
 rw[if_neg c25]at he ⊢
 by_cases c26:o.Code=26
 ·rw[if_pos c26];exact nC _
 rw[if_neg c26]at he ⊢
 by_cases c27:o.Code=27
 ·rw[if_pos c27];exact fv (by have:=(bW l0).2.2;unfold Dc at this ⊢;omega)
 rw[if_neg c27]at he ⊢
 by_cases c28:o.Code=28
 ·rw[if_pos c28];exact nC _
 rw[if_neg c28]at he ⊢
 by_cases c29:o.Code=29
 ·rw[if_pos c29];exact HW hl _
 rw[if_neg c29]at he ⊢
 by_cases c16:o.Code≤16
 ·rw[if_pos c16];exact fv (rA (bW l0).2.2 (bW l1).2.2).2
 ·rw[if_neg c16];exact nC _
theorem QU{line:List Int}{nr:Int}{o:am}{l:List au}(hl:∀ v∈l,VG v)(he:(ci line nr o l).1≠0):1≤(ci line nr o l).1∧(ci line nr o l).1≤7:=by
 have hm:=(wC (op:=o.Code-12) (bW (bF hl 0)).2.2 (bW (bF hl 1)).2.2).2.2
 unfold ci at he ⊢
 by_cases c1:o.Code=1
 ·rw[if_pos c1]at he;exact absurd rfl he
 rw[if_neg c1]at he ⊢
 by_cases c2:o.Code=2
 ·rw[if_pos c2]at he ⊢
  dsimp only at he ⊢
  by_cases c:300<o.S.length
  ·rw[if_pos c];exact⟨by decide,by decide⟩
  ·rw[if_neg c]at he;exact absurd rfl he
 rw[if_neg c2]at he ⊢
 by_cases c9:o.Code=9
 ·rw[if_pos c9]at he;exact absurd rfl he
 rw[if_neg c9]at he ⊢
 by_cases c10:o.Code=10
 ·rw[if_pos c10]at he;exact absurd rfl he
 rw[if_neg c10]at he ⊢
 by_cases c11:o.Code=11
 ·rw[if_pos c11]at he;exact absurd rfl he
 rw[if_neg c11]at he ⊢
 by_cases c17:o.Code=17
 ·rw[if_pos c17]at he ⊢
  dsimp only at he ⊢
  by_cases c:300<(aW (l.getD 0 aD)++aW (l.getD 1 aD)).length
  ·rw[if_pos c];exact⟨by decide,by decide⟩
  ·rw[if_neg c]at he;exact absurd rfl he
 rw[if_neg c17]at he ⊢
 by_cases c24:o.Code=24
 ·rw[if_pos c24]at he;exact absurd rfl he
 rw[if_neg c24]at he ⊢
 by_cases c25:o.Code=25
 ·rw[if_pos c25]at he;exact absurd rfl he
 rw[if_neg c25]at he ⊢
 by_cases c26:o.Code=26
 ·rw[if_pos c26]at he;exact absurd rfl he
 rw[if_neg c26]at he ⊢
 by_cases c27:o.Code=27
 ·rw[if_pos c27]at he;exact absurd rfl he
 rw[if_neg c27]at he ⊢
 by_cases c28:o.Code=28
 ·rw[if_pos c28]at he;exact absurd rfl he
 rw[if_neg c28]at he ⊢
 by_cases c29:o.Code=29
 ·rw[if_pos c29]at he;exact absurd rfl he
 rw[if_neg c29]at he ⊢
 by_cases c16:o.Code≤16
 ·rw[if_pos c16]at he ⊢
  dsimp only at he ⊢
  omega
 ·rw[if_neg c16]at he;exact absurd rfl he
theorem E9{nv:Nat}{nc n a:Int}{V:List au}{C:List al}{out t:List Int}{st:List au}(ha:0≤a∧a<n)(h:VmI nv nc V C out st)(ht:Bt t):nq nv nc n (gy a V C out st t):=by
 unfold gy
 by_cases c:600<(out++t).length
 ·rw[if_pos c];exact⟨by decide,by decide⟩
 ·rw[if_neg c]
  exact⟨ha,h.1,h.2.1,⟨by omega,fun x hx=>(List.mem_append.1 hx).elim (h.2.2.1.2 x) (ht x)⟩,h.2.2.2⟩
theorem wI{o:am}{n v c:Int}(h:opB o n v c=true) :
  (o.Code=1→Dc o.N)∧((o.Code=3∨o.Code=4∨o.Code=5)→0≤o.N∧o.N<v)∧((o.Code=6∨o.Code=7∨o.Code=8∨o.Code=35)→0≤o.N∧o.N<c) ∧
  (o.Code=29→(1≤o.N∧o.N≤3)∧o.S∈kw2)∧((o.Code=30∨o.Code=31)→0≤o.N∧o.N≤w64 (n-1))∧(o.Code=33→0≤o.N∧o.N≤1):=by
 unfold opB at h
 refine⟨fun e=>?_,fun e=>?_,fun e=>?_,fun e=>?_,fun e=>?_,fun e=>?_⟩
 ·simp[e]at h;exact h.1
 ·rcases e with e | e | e <;> (simp[e]at h;omega)
 ·rcases e with e | e | e | e <;> (simp[e]at h;omega)
 ·simp[e]at h;exact h
 ·rcases e with e | e <;> (simp[e]at h;omega)
 ·simp[e]at h;omega
theorem FA{nv:Nat}{nc n a nr:Int}{line:List Int}{V:List au}{C:List al}{out:List Int}{st:List au}{o:am}(hn:n≤2000)(ha:0≤a∧a<n)(hlast:o.Code≠36→a+1<n)(hL:gE line nr)(h:VmI nv nc V C out st)(ho:opB o n nv nc=true)(hS:Bt o.S) :
  nq nv nc n (iv line nr o a V C out st):=by
 obtain⟨k1,k2⟩:=ye ho
 obtain⟨o1,o2,o3,o4,o5,o6⟩:=wI ho
 unfold iv
 by_cases c:(st.length:Int)<aJ o
 ·rw[if_pos c];exact⟨by decide,by decide⟩
 ·rw[if_neg c]
  have hl:∀ v∈st.drop (st.length-(aJ o).toNat),VG v:=fun v hv=>h.2.2.2.2 v (List.mem_of_mem_drop hv)
  have h':VmI nv nc V C out (st.take (st.length-(aJ o).toNat)):=⟨h.1,h.2.1,h.2.2.1,by rw[List.length_take];have:=h.2.2.2.1;omega,fun v hv=>h.2.2.2.2 v (List.mem_of_mem_take hv)⟩
  generalize st.drop (st.length-(aJ o).toNat)=l at hl
  generalize st.take (st.length-(aJ o).toNat)=rest at h'
  unfold doR
  by_cases c36:o.Code=36
  ·rw[if_pos c36];trivial
  rw[if_neg c36]
  have ha1:0≤a+1∧a+1<n:=⟨by omega,hlast c36⟩
  have hN:(o.Code=30∨o.Code=31)→0≤o.N∧o.N<n:=fun e=>by
   have:=o5 e
   rw[aF (by omega) (by omega)]at this
   omega
  by_cases c30:o.Code=30
  ·rw[if_pos c30];exact⟨hN (.inl c30),h'⟩
  rw[if_neg c30]
  by_cases c31:o.Code=31
  ·rw[if_pos c31]
   split
   ·exact⟨ha1,h'⟩
   ·exact⟨hN (.inr c31),h'⟩
  rw[if_neg c31]
  by_cases c32:o.Code=32
  ·rw[if_pos c32];exact⟨ha1,h'⟩
  rw[if_neg c32]
  by_cases c33:o.Code=33
  ·rw[if_pos c33]
   refine E9 ha1 h' fun x hx=>?_
   rcases List.mem_append.1 hx with hx | hx
   ·split at hx
    ·rw[List.mem_singleton.1 hx];omega
    ·cases hx
   ·exact(dl (bF hl 0)).2 x hx
  rw[if_neg c33]
  by_cases c34:o.Code=34
  ·rw[if_pos c34];exact E9 ha1 h' fun x hx=>by rw[List.mem_singleton.1 hx];omega
  rw[if_neg c34]
  by_cases cn:o.Code=3∨o.Code=4∨o.Code=5∨o.Code=6∨o.Code=7∨o.Code=8∨o.Code=35
  ·rw[if_pos cn]
   exact MN ha1 h' hl fun e=>o3 (by rcases e with e | e <;> simp[e])
  ·rw[if_neg cn]
   by_cases ce:(ci line nr o l).1=0
   ·rw[if_pos ce];exact mu ha1 h' (QT hL hl hS o1 ce)
   ·rw[if_neg ce];exact QU hl ce
abbrev WT:=ar×(List (List Int)×(List (List Int)×(List Int×(List (List Int)×(List Int×(Int×(Bool×Unit)))))))
def wT(s:ar)(line:List Int)(out:List Int):WT:=(s,([],([],(line,(bM line,(out,(0,(false,()))))))))
theorem jM(V:List au)(C:List al)(nr:Int)(line out:List Int)(e:Int):fP ⟨V,C,nr,0⟩ [] [] line (bM line) out 0 false e=some (wT ⟨V,C,nr,e⟩ line out,()):=by
 rw[Eo]
 rw[if_pos (by simp)];rfl
def j8(line:List Int)(nr a:Int)(x:Option (aA×WT×Unit)):R→Prop
 | .err e=>e≠0∧∃ z s o,x=some (z,wT s line o,())∧s.Err=e
 | .stop=>False
 | .go b V C out st=>b=a∧x=some (⟨(),st⟩,wT ⟨V,C,nr,0⟩ line out,())
theorem iZ(x:Option (aA×WT×Unit)):(x.bind fun(r:aA×(ar×((List (List Int))×((List (List Int))×((List Int)×((List (List Int))×((List Int)×(Int×(Bool×Unit))))))))×Unit) =>
  some (r.1,(r.2.1.1,(r.2.1.2.1,(r.2.1.2.2.1,(r.2.1.2.2.2.1,(r.2.1.2.2.2.2.1,(r.2.1.2.2.2.2.2.1,(r.2.1.2.2.2.2.2.2.1,(r.2.1.2.2.2.2.2.2.2.1,())))))))),()))=x:=by cases x <;> rfl
theorem mv(line:List Int)(nr a:Int)(V:List au)(C:List al)(out:List Int)(st:List au)(v:au)(hs:st.length≤64) :
  j8 line nr a (jP ⟨(),st⟩ ⟨V,C,nr,0⟩ [] [] line (bM line) out 0 false v) (dD a V C out st v):=by
 rw[Ps]
 dsimp only
 unfold dD
 by_cases c:st.length=64
 ·rw[if_pos c,ak (by omega),jM,aa]
  exact⟨by decide,_,_,_,rfl,rfl⟩
 ·rw[if_neg c,aj (by omega),if_pos (by rw[aN];omega)]
  exact⟨rfl,rfl⟩
theorem wD{op a b:Int}(ha:Dc a)(hb:Dc b)(h0:0≤op)(h4:op≤4)(V:List au)(C:List al)(nr:Int)(line out:List Int) :
  ((bo op a b).2=0→mL ⟨V,C,nr,0⟩ [] [] line (bM line) out 0 false op a b=some (⟨1,(bo op a b).1,[]⟩,wT ⟨V,C,nr,0⟩ line out,())) ∧
  ((bo op a b).2≠0→∃ v,mL ⟨V,C,nr,0⟩ [] [] line (bM line) out 0 false op a b=some (v,wT ⟨V,C,nr,(bo op a b).2⟩ line out,())):=by
 have key:∀ {x:Option (Int×Bool×Unit)},(∃ v ok,x=some (v,ok,())∧Dc v)→gV (op+9) a b=(x.bind fun(r:Int×Bool×Unit)=>gW r.1 r.2.1) →
   ((bo op a b).2=0→(x.bind fun(r:Int×Bool×Unit)=>jO r.1 r.2.1 (az.mk ⟨V,C,nr,0⟩ [] [] line (bM line) out 0 false) aD)=some (⟨1,(bo op a b).1,[]⟩,wT ⟨V,C,nr,0⟩ line out,())) ∧
   ((bo op a b).2≠0→∃ v,(x.bind fun(r:Int×Bool×Unit)=>jO r.1 r.2.1 (az.mk ⟨V,C,nr,0⟩ [] [] line (bM line) out 0 false) aD)=some (v,wT ⟨V,C,nr,(bo op a b).2⟩ line out,())):=by
  intro x hx hm
  obtain⟨v,ok,rfl,hv⟩:=hx
  rw[aa,qR]at hm
  rw[aa,Er]
  dsimp only at hm ⊢
  unfold bo
  cases ok with
  | true =>
   rw[if_neg (by decide)]at hm
   rw[if_neg (by decide),hm,eh]
   exact⟨fun _=>rfl,fun h=>absurd rfl h⟩
  | false =>
   rw[if_pos (by decide)]at hm
   rw[if_pos (by decide),hm,jM,eh]
   exact⟨(fun h=>by cases h),fun h=>⟨_,rfl⟩⟩
 rw[Pd]
 by_cases c0:op=0
 ·rw[ak c0,Hh]
  exact key (p7 ha hb) (by rw[kB,ak (by omega)])
 rw[aj c0]
 by_cases c1:op=1
 ·rw[ak c1,QA]
  exact key (FD ha hb) (by rw[kB,aj (by omega),ak (by omega)])
 rw[aj c1]
 by_cases c2:op=2
 ·rw[ak c2,MM]
  exact key (CU ha hb) (by rw[kB,aj (by omega),aj (by omega),ak (by omega)])
 rw[aj c2]
 have hm:gV (op+9) a b=if(decide (b=0))=true then some (0,2,())else if(decide (op+9=13))=true then if b≠0 then some ((Int.tmod a b),0,())else none else(nT a b).bind fun(r3:Int×Bool×Unit)=>gW r3.1 r3.2.1:=by
  rw[kB,aj (by omega),aj (by omega),aj (by omega)]
 by_cases cb:b=0
 ·rw[ak cb]at hm ⊢
  have hE:bo op a b=(0,2):=by unfold bo;rw[hm]
  rw[hE,jM,aa]
  exact⟨(fun h=>by cases h),fun h=>⟨_,rfl⟩⟩
 rw[aj cb]at hm ⊢
 have hd:=zR ha hb cb
 rw[IE]
 by_cases c4:op=4
 ·rw[ak (by omega),if_pos cb]at hm
  have hE:bo op a b=(Int.tmod a b,0):=by unfold bo;rw[hm]
  obtain⟨v,ok,e,_⟩:=hd
  rw[hE,e,aa,ak c4,if_pos cb,Er,if_neg (by decide),eh]
  exact⟨fun _=>rfl,fun h=>absurd rfl h⟩
 ·rw[aj (by omega)]at hm
  have:=key hd hm
  obtain⟨v,ok,e,_⟩:=hd
  rw[e]at this ⊢
  rw[aa,aj c4]
  exact this
theorem Dz(line:List Int)(nr a:Int)(V:List au)(C:List al)(out:List Int)(st:List au)(v:au)(n:Int)(k:List Int)(hs:st.length≤64)(hV:V.length≤100000)(hC:C.length≤100000) :
  j8 line nr a (sm ⟨(),st⟩ ⟨V,C,nr,0⟩ [] [] line (bM line) out 0 false n k v) (jF a V C out st n k v):=by
 rw[Pp,NJ _ n k v hV hC,aa]
 unfold jF
 dsimp only
 cases e:gu C n k v with
 | none =>
  dsimp only
  rw[if_pos (by decide),jM,aa]
  exact⟨by decide,_,_,_,rfl,rfl⟩
 | some C' =>
  dsimp only
  rw[if_neg (by decide),iZ]
  exact mv line nr a V C' out st v hs
theorem MO{line:List Int}{nr a:Int}{V:List au}{C:List al}{out:List Int}{st l:List au}{o:am}{nv:Nat}{nc:Int}(hnv:nv≤100000)(h:VmI nv nc V C out st)(hl:∀ v∈l,VG v)(hlen:(l.length:Int)=aJ o)
  (hc:o.Code=3∨o.Code=4∨o.Code=5∨o.Code=6∨o.Code=7∨o.Code=8∨o.Code=35) (hN:(o.Code=3∨o.Code=4∨o.Code=5)→0≤o.N∧o.N<nv) :
  j8 line nr a (xH ⟨(),st⟩ ⟨V,C,nr,0⟩ [] [] line (bM line) out 0 false o l) (eb a V C out st o l):=by
 obtain⟨⟨hV,hVg⟩,hC,hO,hs,hsg⟩:=h
 have hV1:V.length≤100000:=by omega
 have hC1:C.length≤100000:=by have:=hC.1;omega
 have l0:=bF hl 0
 have l1:=bF hl 1
 rw[Pr]
 dsimp only
 unfold eb
 by_cases c3:o.Code=3
 ·have hN:=hN (.inl c3)
  rw[ak c3,if_pos c3,if_pos (by omega),iZ]
  exact mv line nr a V C out st _ hs
 rw[aj c3,if_neg c3]
 by_cases c4:o.Code=4
 ·have hN:=hN (.inr (.inl c4))
  have hk:aJ o=1:=by unfold aJ;simp[c4]
  rw[ak c4,if_pos c4,if_pos (by omega),if_pos (by omega),if_pos (by omega),iZ]
  exact mv line nr a _ C out st _ hs
 rw[aj c4,if_neg c4]
 by_cases c5:o.Code=5
 ·have hN:=hN (.inr (.inr c5))
  have hk:aJ o=1:=by unfold aJ;simp[c5]
  obtain⟨_,n2,n3⟩:=bW (bF hVg o.N.toNat)
  obtain⟨_,m2,m3⟩:=bW l0
  rw[ak c5,if_pos c5,if_pos (by omega),n2,aa,if_pos (by omega),m2,aa]
  dsimp only
  obtain⟨q1,q2⟩:=wD n3 m3 (Int.le_refl 0) (by decide) V C nr line out
  by_cases ce:(bo 0 (bm (V.getD o.N.toNat aD)) (bm (l.getD 0 aD))).2=0
  ·rw[q1 ce,aa,if_pos ce]
   unfold wT
   dsimp only
   rw[if_pos (by simp),if_pos (by omega),iZ]
   exact mv line nr a _ C out st _ hs
  ·obtain⟨v,q⟩:=q2 ce
   have he:(bo 0 (bm (V.getD o.N.toNat aD)) (bm (l.getD 0 aD))).2=1:=(CP n3 m3).resolve_left ce
   rw[q,aa,if_neg ce,he]
   unfold wT
   dsimp only
   rw[if_neg (by simp)]
   exact⟨by decide,_,_,_,rfl,rfl⟩
 rw[aj c5,if_neg c5]
 by_cases c6:o.Code=6
 ·have hk:aJ o=1:=by unfold aJ;simp[c6]
  rw[ak c6,if_pos c6,if_pos (by omega),(gk l0).2,aa]
  dsimp only
  rw[(qy ⟨V,C,nr,0⟩ o.N _ hC1).2,aa,iZ]
  exact mv line nr a V C out st _ hs
 rw[aj c6,if_neg c6]
 by_cases c7:o.Code=7
 ·have hk:aJ o=2:=by unfold aJ;simp[c7]
  rw[ak c7,if_pos c7,if_pos (by omega),(gk l0).2,aa,if_pos (by omega),iZ]
  exact Dz line nr a V C out st _ _ _ hs hV1 hC1
 rw[aj c7,if_neg c7]
 by_cases c8:o.Code=8
 ·have hk:aJ o=2:=by unfold aJ;simp[c8]
  obtain⟨_,n2,n3⟩:=bW (qx hC o.N (dG (l.getD 0 aD)))
  obtain⟨_,m2,m3⟩:=bW l1
  rw[ak c8,if_pos c8,if_pos (by omega),(gk l0).2,aa]
  dsimp only
  rw[(qy ⟨V,C,nr,0⟩ o.N _ hC1).2,aa]
  dsimp only
  rw[n2,aa,if_pos (by omega),m2,aa]
  dsimp only
  obtain⟨q1,q2⟩:=wD n3 m3 (Int.le_refl 0) (by decide) V C nr line out
  by_cases ce:(bo 0 (bm (ge C o.N (dG (l.getD 0 aD)))) (bm (l.getD 1 aD))).2=0
  ·rw[q1 ce,aa,if_pos ce]
   unfold wT
   dsimp only
   rw[if_pos (by simp),iZ]
   exact Dz line nr a V C out st _ _ _ hs hV1 hC1
  ·obtain⟨v,q⟩:=q2 ce
   have he:=(CP n3 m3).resolve_left ce
   rw[q,aa,if_neg ce,he]
   unfold wT
   dsimp only
   rw[if_neg (by simp)]
   exact⟨by decide,_,_,_,rfl,rfl⟩
 rw[aj c8,if_neg c8]
 have c35:o.Code=35:=by omega
 have hk:aJ o=1:=by unfold aJ;simp[c35]
 rw[ak c35,if_pos (by omega),(gk l0).2,aa]
 dsimp only
 rw[(zU ⟨V,C,nr,0⟩ o.N _ hV1 hC1).2,aa]
 exact⟨rfl,rfl⟩
theorem dL(line:List Int)(nr a:Int)(V:List au)(C:List al)(out:List Int)(st:List au)(v:au)(hs:st.length≤64) :
  j8 line nr a (dk ⟨(),st⟩ ⟨V,C,nr,0⟩ [] [] line (bM line) out 0 false v) (dD a V C out st v):=by
 rw[Ex,if_pos (by simp),iZ]
 exact mv line nr a V C out st v hs
theorem yj(line:List Int)(nr a:Int)(V:List au)(C:List al)(out:List Int)(st:List au)(v:au){e:Int}(he:e≠0) :
  j8 line nr a (dk ⟨(),st⟩ ⟨V,C,nr,e⟩ [] [] line (bM line) out 0 false v) (.err e):=by
 rw[Ex,aj he]
 exact⟨he,_,_,_,rfl,rfl⟩
theorem tY(b:Bool):mH b=some (iR b,()):=by
 rw[Ek,xL]
 cases b with
 | true=>rw[if_pos rfl,aa,eh];rfl
 | false=>rw[if_neg (by decide),aa,eh];rfl
theorem QV{line:List Int}{nr a:Int}{V:List au}{C:List al}{out:List Int}{st l:List au}{o:am}(hL:gE line nr)(hs:st.length≤64)(hl:∀ v∈l,VG v)(hlen:(l.length:Int)=aJ o)(hO:1≤o.Code∧o.Code≤29)
  (hn:¬ (o.Code=3∨o.Code=4∨o.Code=5∨o.Code=6∨o.Code=7∨o.Code=8∨o.Code=35)) (hS:Bt o.S) (hSl:o.S.length≤2097152) (hcall:o.Code=29→(1≤o.N∧o.N≤3)∧o.S∈kw2) :
  j8 line nr a (xK ⟨(),st⟩ ⟨V,C,nr,0⟩ [] [] line (bM line) out 0 false o l) (if(ci line nr o l).1=0 then dD a V C out st (ci line nr o l).2 else .err (ci line nr o l).1):=by
 obtain⟨⟨hL1,hL2⟩,hL3⟩:=hL
 have hf:=qr line
 have l0:=bF hl 0
 have l1:=bF hl 1
 rw[Py]
 dsimp only
 unfold ci
 by_cases c1:o.Code=1
 ·rw[ak c1,if_pos c1,eh,aa,if_pos rfl]
  exact dL line nr a V C out st _ hs
 rw[aj c1,if_neg c1]
 by_cases c2:o.Code=2
 ·rw[ak c2,if_pos c2]
  dsimp only
  by_cases c:300<o.S.length
  ·rw[ak (by omega),if_pos c,jM,aa,if_neg (by decide)]
   exact yj line nr a V C out st _ (by decide)
  ·rw[aj (by omega),if_neg c,if_pos rfl]
   exact dL line nr a V C out st _ hs
 rw[aj c2,if_neg c2]
 by_cases c9:o.Code=9
 ·have hk:aJ o=1:=by unfold aJ;simp[c9]
  obtain⟨_,n2,n3⟩:=bW l0
  obtain⟨w1,w2,w3⟩:=mZ l0
  rw[ak c9,if_pos c9,if_pos (by omega),O9,n2,aa,if_pos rfl]
  dsimp only
  rw[w2]
  unfold nM
  obtain⟨_,r2,_⟩:=my (s:=line) (by omega) hL2
  obtain⟨_,z2,_⟩:=my (s:=[]) (by simp) (fun x hx=>by cases hx)
  by_cases d:bX (l.getD 0 aD)=0
  ·rw[ak d,if_pos d,r2,aa,aa]
   exact dL line nr a V C out st _ hs
  ·rw[aj d,if_neg d,cP,aa]
   dsimp only
   by_cases e:1≤bX (l.getD 0 aD)∧bX (l.getD 0 aD)≤((bM line).length:Int)
   ·have hi:(bX (l.getD 0 aD)-1).toNat<(bM line).length:=by omega
    obtain⟨g1,g2⟩:=z8 (P:=fun x=>0≤x∧x≤255) hL2 (List.getElem_mem hi)
    obtain⟨_,q2,_⟩:=my (s:=(bM line)[(bX (l.getD 0 aD)-1).toNat]) (by omega) g1
    rw[ac e,if_neg (by decide),if_pos e,aF (by omega) (by omega),if_pos (by omega),bj hi,q2,aa,aa]
    exact dL line nr a V C out st _ hs
   ·rw[ae e,if_pos (by decide),if_neg e,z2,aa,aa]
    exact dL line nr a V C out st _ hs
 rw[aj c9,if_neg c9]
 by_cases c10:o.Code=10
 ·rw[ak c10,if_pos c10,aF (by omega) (by omega),eh,aa,if_pos rfl,Int.mul_comm]
  exact dL line nr a V C out st _ hs
 rw[aj c10,if_neg c10]
 by_cases c11:o.Code=11
 ·rw[ak c11,if_pos c11,aF (by omega) (by omega),eh,aa,if_pos rfl,Int.mul_comm]
  exact dL line nr a V C out st _ hs
 rw[aj c11,if_neg c11]
 by_cases c17:o.Code=17
 ·have hk:aJ o=2:=by unfold aJ;simp[c17]
  have t0:=(dl l0).1
  have t1:=(dl l1).1
  rw[ak c17,if_pos c17,if_pos (by omega),if_pos (by omega),O8,dY,dY,aa,aa]
  dsimp only
  rw[if_pos (by omega)]
  by_cases c:300<(aW (l.getD 0 aD)++aW (l.getD 1 aD)).length
  ·rw[ak (by omega),if_pos c,jM,aa,if_neg (by decide)]
   exact yj line nr a V C out st _ (by decide)
  ·rw[aj (by omega),if_neg c,if_pos rfl]
   exact dL line nr a V C out st _ hs
 rw[aj c17,if_neg c17]
 by_cases c24:o.Code=24
 ·have hk:aJ o=1:=by unfold aJ;simp[c24]
  have t0:=(dl l0).1
  rw[ak c24,if_pos c24,if_pos (by omega),dY,aa]
  dsimp only
  rw[(qt o.S _ hS (by omega) (by omega)).2,aa,if_pos rfl]
  exact dL line nr a V C out st _ hs
 rw[aj c24,if_neg c24]
 by_cases c25:o.Code=25
 ·rw[ak c25,if_pos c25,(qt o.S line hS (by omega) (by omega)).2,aa,if_pos rfl]
  exact dL line nr a V C out st _ hs
 rw[aj c25,if_neg c25]
 by_cases c26:o.Code=26
 ·have hk:aJ o=1:=by unfold aJ;simp[c26]
  rw[ak c26,if_pos c26,if_pos (by omega),(mY _).2,aa,tY,aa,if_pos rfl]
  exact dL line nr a V C out st _ hs
 rw[aj c26,if_neg c26]
 by_cases c27:o.Code=27
 ·have hk:aJ o=1:=by unfold aJ;simp[c27]
  obtain⟨_,n2,n3⟩:=bW l0
  unfold Dc at n3
  rw[ak c27,if_pos c27,if_pos (by omega),n2,aa]
  dsimp only
  rw[aF (by omega) (by omega),eh,aa,if_pos rfl]
  exact dL line nr a V C out st _ hs
 rw[aj c27,if_neg c27]
 by_cases c28:o.Code=28
 ·have hk:aJ o=1:=by unfold aJ;simp[c28]
  rw[ak c28,if_pos c28,if_pos (by omega),(mY _).2,aa,tY,aa,if_pos rfl]
  exact dL line nr a V C out st _ hs
 rw[aj c28,if_neg c28]
 by_cases c29:o.Code=29
 ·have hk:aJ o=o.N:=by unfold aJ;simp[c29]
  obtain⟨hn1,hn2⟩:=hcall c29
  rw[ak c29,if_pos c29,OW hl (by omega) (by omega) _ hn2,aa,if_pos rfl]
  exact dL line nr a V C out st _ hs
 rw[aj c29,if_neg c29]
 have hk:aJ o=2:=by
  have hr:12≤o.Code∧o.Code≤23:=by omega
  have e:∀ k:Int,(k<12∨23<k)→o.Code≠k:=fun k h1 h2=>by omega
  unfold aJ
  rw[if_neg (by omega),if_neg (by omega),if_neg c29,if_pos hr]
 by_cases c16:o.Code≤16
 ·obtain⟨_,n2,n3⟩:=bW l0
  obtain⟨_,m2,m3⟩:=bW l1
  rw[ak c16,if_pos c16,if_pos (by omega),n2,aa,if_pos (by omega),m2,aa]
  dsimp only
  rw[aF (by omega) (by omega)]
  obtain⟨q1,q2⟩:=wD (op:=o.Code-12) n3 m3 (by omega) (by omega) V C nr line out
  by_cases ce:(bo (o.Code-12) (bm (l.getD 0 aD)) (bm (l.getD 1 aD))).2=0
  ·rw[q1 ce,aa,if_pos ce]
   exact dL line nr a V C out st _ hs
  ·obtain⟨v,q⟩:=q2 ce
   rw[q,aa,if_neg ce]
   exact yj line nr a V C out st _ ce
 ·have hcmp:=(zB l0 l1).2
  rw[aj c16,if_neg c16,if_pos (by omega),if_pos (by omega),aF (by omega) (by omega),Pe,hcmp,aa,if_pos (by omega)]
  dsimp only
  have hord:List.getD [(decide (d7 (l.getD 0 aD) (l.getD 1 aD)<0)),(decide (d7 (l.getD 0 aD) (l.getD 1 aD)≤0)),(decide (d7 (l.getD 0 aD) (l.getD 1 aD)>0)),(decide (d7 (l.getD 0 aD) (l.getD 1 aD)≥0)),(decide (d7 (l.getD 0 aD) (l.getD 1 aD)=0)),(!(decide (d7 (l.getD 0 aD) (l.getD 1 aD)=0)))] (o.Code-18).toNat false=wJ (o.Code-18) (d7 (l.getD 0 aD) (l.getD 1 aD)):=by
   have h6:o.Code=18∨o.Code=19∨o.Code=20∨o.Code=21∨o.Code=22∨o.Code=23:=by omega
   rcases h6 with e | e | e | e | e | e <;> (rw[e];rfl)
  rw[hord,tY,aa,aa,if_pos rfl]
  exact dL line nr a V C out st _ hs
abbrev IT:=ar×(List Int×(List Int×(List au×(Int×Unit))))
def iT(s:ar)(line out:List Int)(st:List au)(e:Int):IT:=(s,(line,(out,(st,(e,())))))
theorem gU(s:ar)(line out:List Int)(st:List au)(e:Int):fK s line out st 0 e=some (iT s line out st e,()):=by
 rw[BR,if_pos (by simp)];rfl
theorem Kp(s:ar)(line out:List Int)(st:List au){e:Int}(he:e≠0)(f:Int):fK s line out st e f=some (iT s line out st e,()):=by
 rw[BR,aj he];rfl
def j4(line:List Int)(nr a:Int)(x:Option (IT×Unit)):R→Prop
 | .err e=>e≠0∧∃ s o t,x=some (iT s line o t e,())
 | .stop=>False
 | .go b V C out st=>b=a∧x=some (iT ⟨V,C,nr,0⟩ line out st 0,())
theorem cl(x:Option (IT×Unit)):(x.bind fun(r:(ar×((List Int)×((List Int)×((List au)×(Int×Unit)))))×Unit) =>
  some ((r.1.1,(r.1.2.1,(r.1.2.2.1,(r.1.2.2.2.1,(r.1.2.2.2.2.1,()))))),()))=x:=by cases x <;> rfl
theorem cW(line:List Int)(nr a:Int)(V:List au)(C:List al)(out:List Int)(st:List au)(v:au)(hs:st.length≤64) :
  j4 line nr a (cT ⟨V,C,nr,0⟩ line out st 0 v) (dD a V C out st v):=by
 rw[Lb]
 unfold dD
 by_cases c:st.length=64
 ·rw[if_pos c,ak (by omega),gU,aa]
  exact⟨by decide,_,_,_,rfl⟩
 ·rw[if_neg c,aj (by omega),if_pos (by rw[aN];omega)]
  exact⟨rfl,rfl⟩
theorem Dq{a b:au}(ha:VG a)(hb:VG b)(s:ar)(line out:List Int)(st:List au) :
  ((bo 0 (bm a) (bm b)).2=0→ou s line out st 0 a b=some (⟨1,(bo 0 (bm a) (bm b)).1,[]⟩,iT s line out st 0,())) ∧
  ((bo 0 (bm a) (bm b)).2≠0→∃ v,ou s line out st 0 a b=some (v,iT s line out st 1,())):=by
 obtain⟨n1,n2,n3⟩:=bW ha
 obtain⟨m1,m2,m3⟩:=bW hb
 obtain⟨v,ok,e,_⟩:=p7 n3 m3
 have hm:gV (0+9) (bm a) (bm b)=(lR (bm a) (bm b)).bind fun(r0:Int×Bool×Unit)=>gW r0.1 r0.2.1:=by rw[kB,if_pos (by decide)]
 rw[e,aa,qR]at hm
 dsimp only at hm
 rw[K9,n1,m1,aa,aa]
 dsimp only
 rw[e,aa,gU]
 dsimp only
 unfold bo
 cases ok with
 | true =>
  rw[if_neg (by decide)]at hm
  rw[hm,if_neg (by decide),eT]
  exact⟨fun _=>rfl,fun h=>absurd rfl h⟩
 | false =>
  rw[if_pos (by decide)]at hm
  rw[hm,if_pos (by decide),eT]
  exact⟨(fun h=>by cases h),fun h=>⟨_,rfl⟩⟩
theorem Dx(line:List Int)(nr a:Int)(V:List au)(C:List al)(out:List Int)(st:List au)(v:au)(n:Int)(k:List Int)(hs:st.length≤64)(hV:V.length≤100000)(hC:C.length≤100000) :
  j4 line nr a (qY ⟨V,C,nr,0⟩ line out st 0 n k v) (jF a V C out st n k v):=by
 rw[BU,if_neg (by simp),NI _ n k v hV hC,aa]
 unfold jF
 dsimp only
 cases e:gu C n k v with
 | none =>
  dsimp only
  rw[if_pos (by decide),gU,aa]
  exact⟨by decide,_,_,_,rfl⟩
 | some C' =>
  dsimp only
  rw[if_neg (by decide),cl]
  exact cW line nr a V C' out st v hs
theorem sR(s:ar)(line out t:List Int)(st:List au)(e:Int)(h:out.length+t.length≤1000000):l7 s line out st e t=some (iT s line (out++t) st (if 600<(out++t).length∧e=0 then 5 else e),()):=by
 rw[Ld,if_pos (by omega)]
 by_cases c:600<(out++t).length
 ·rw[ak (by omega)]
  by_cases d:e=0
  ·subst d;rw[gU,if_pos ⟨c,rfl⟩];rfl
  ·rw[Kp _ _ _ _ d,if_neg (fun h=>d h.2)];rfl
 ·rw[aj (by omega),if_neg (fun h=>c h.1)];rfl
theorem Qx{line:List Int}{nr a:Int}{V:List au}{C:List al}{out:List Int}{st l:List au}{o:am}{nv:Nat}{nc:Int}(hnv:nv≤100000)(h:VmI nv nc V C out st)(hl:∀ v∈l,VG v)(hlen:(l.length:Int)=aJ o)
  (hc:o.Code=4∨o.Code=5∨o.Code=7∨o.Code=8∨o.Code=35) (hN:(o.Code=4∨o.Code=5)→0≤o.N∧o.N<nv) :
  j4 line nr a (qZ ⟨V,C,nr,0⟩ line out st 0 o l) (eb a V C out st o l):=by
 obtain⟨⟨hV,hVg⟩,hC,hO,hs,hsg⟩:=h
 have hV1:V.length≤100000:=by omega
 have hC1:C.length≤100000:=by have:=hC.1;omega
 have l0:=bF hl 0
 have l1:=bF hl 1
 rw[BW]
 dsimp only
 unfold eb
 rw[if_neg (c:=o.Code=3) (by omega)]
 by_cases c4:o.Code=4
 ·have hN:=hN (.inl c4)
  have hk:aJ o=1:=by unfold aJ;simp[c4]
  rw[ak c4,if_pos c4,if_pos (by omega),if_pos (by omega),if_pos (by omega),cl]
  exact cW line nr a _ C out st _ hs
 rw[aj c4,if_neg c4]
 by_cases c5:o.Code=5
 ·have hN:=hN (.inr c5)
  have hk:aJ o=1:=by unfold aJ;simp[c5]
  obtain⟨q1,q2⟩:=Dq (bF hVg o.N.toNat) l0 ⟨V,C,nr,0⟩ line out st
  rw[ak c5,if_pos c5,if_pos (by omega),if_pos (by omega)]
  by_cases ce:(bo 0 (bm (V.getD o.N.toNat aD)) (bm (l.getD 0 aD))).2=0
  ·rw[q1 ce,aa,if_pos ce]
   unfold iT
   dsimp only
   rw[if_pos (by simp),if_pos (by omega),cl]
   exact cW line nr a _ C out st _ hs
  ·obtain⟨v,q⟩:=q2 ce
   rw[q,aa,if_neg ce]
   unfold iT
   dsimp only
   rw[if_neg (by simp)]
   exact⟨by decide,_,_,_,rfl⟩
 rw[aj c5,if_neg c5,if_neg (c:=o.Code=6) (by omega)]
 by_cases c7:o.Code=7
 ·have hk:aJ o=2:=by unfold aJ;simp[c7]
  rw[ak c7,if_pos c7,if_pos (by omega),dQ,aa]
  dsimp only
  rw[(gk l0).1,aa,if_pos (by omega),cl]
  exact Dx line nr a V C out st _ _ _ hs hV1 hC1
 rw[aj c7,if_neg c7]
 by_cases c8:o.Code=8
 ·have hk:aJ o=2:=by unfold aJ;simp[c8]
  rw[ak c8,if_pos c8,if_pos (by omega),dQ,aa]
  dsimp only
  rw[(gk l0).1,aa]
  dsimp only
  rw[(qy ⟨V,C,nr,0⟩ o.N _ hC1).1,aa,if_pos (by omega)]
  dsimp only
  obtain⟨q1,q2⟩:=Dq (qx hC o.N (dG (l.getD 0 aD))) l1 ⟨V,C,nr,0⟩ line out st
  by_cases ce:(bo 0 (bm (ge C o.N (dG (l.getD 0 aD)))) (bm (l.getD 1 aD))).2=0
  ·rw[q1 ce,aa,if_pos ce]
   unfold iT
   dsimp only
   rw[cl]
   exact Dx line nr a V C out st _ _ _ hs hV1 hC1
  ·obtain⟨v,q⟩:=q2 ce
   rw[q,aa,if_neg ce]
   unfold iT
   dsimp only
   rw[BU,if_pos (by simp)]
   exact⟨by decide,_,_,_,rfl⟩
 rw[aj c8,if_neg c8]
 have c35:o.Code=35:=by omega
 have hk:aJ o=1:=by unfold aJ;simp[c35]
 rw[ak c35,if_pos (by omega),dQ,aa]
 dsimp only
 rw[(gk l0).1,aa]
 dsimp only
 rw[(zU ⟨V,C,nr,0⟩ o.N _ hV1 hC1).1,aa]
 exact⟨rfl,rfl⟩
theorem Ng{line:List Int}{nr a:Int}{V:List au}{C:List al}{out:List Int}{st l:List au}{o:am}{nv:Nat}{nc:Int}(h:VmI nv nc V C out st)(hl:∀ v∈l,VG v)(hlen:(l.length:Int)=aJ o)(hc:o.Code=33∨o.Code=34) :
  j4 line nr a (qZ ⟨V,C,nr,0⟩ line out st 0 o l) (gy a V C out st (if o.Code=33 then(if o.N=1 then [32]else [])++aW (l.getD 0 aD)else [10])):=by
 obtain⟨⟨hV,hVg⟩,hC,⟨hO,hO2⟩,hs,hsg⟩:=h
 have l0:=bF hl 0
 have t0:=(dl l0).1
 have fin:∀ (t:List Int) (e:Int),e=(if 600<(out++t).length then 5 else 0)→j4 line nr a (some (iT ⟨V,C,nr,0⟩ line (out++t) st e,())) (gy a V C out st t):=fun t e he=>by
  unfold gy
  by_cases c:600<(out++t).length
  ·rw[if_pos c]at he ⊢;subst he;exact⟨by decide,_,_,_,rfl⟩
  ·rw[if_neg c]at he ⊢;subst he;exact⟨rfl,rfl⟩
 rw[BW,aj (by omega),aj (by omega),aj (by omega),aj (by omega),aj (by omega)]
 by_cases c33:o.Code=33
 ·have hk:aJ o=1:=by unfold aJ;simp[c33]
  rw[ak c33,if_pos c33]
  by_cases c1:o.N=1
  ·rw[ak c1,if_pos c1,sR _ _ _ _ _ _ (by simp;omega),aa,if_pos (by omega),dQ,aa]
   unfold iT
   dsimp only
   generalize aW (l.getD 0 aD)=t at *
   rw[sR _ _ _ _ _ _ (by rw[ag,List.length_singleton];omega),aa,ah]
   refine fin _ _ ?_
   unfold iT
   dsimp only
   by_cases d:600<(out++[32]).length
   ·have h2:600<(out++([32]++t)).length:=by simp at d ⊢;omega
    have e1:(if 600<(out++[32]).length∧(0:Int)=0 then(5:Int)else 0)=5:=if_pos ⟨d,rfl⟩
    rw[e1,if_pos h2,if_neg (by simp)]
   ·have e1:(if 600<(out++[32]).length∧(0:Int)=0 then(5:Int)else 0)=0:=if_neg (fun h=>d h.1)
    rw[e1]
    simp
  ·rw[aj c1,if_neg c1,if_pos (by omega),dQ,aa,cl]
   dsimp only
   rw[sR _ _ _ _ _ _ (by omega),List.nil_append]
   exact fin _ _ (by simp)
 ·have c34:o.Code=34:=by omega
  rw[aj c33,if_neg c33,ak c34,cl,sR _ _ _ _ _ _ (by simp;omega)]
  exact fin _ _ (by simp)
theorem nD(b:Bool):kA b=some (iR b,()):=by
 rw[Ke]
 cases b with
 | true=>rw[if_pos rfl,eT];rfl
 | false=>rw[if_neg (by decide),eT];rfl
theorem Mx{line:List Int}{nr a:Int}{V:List au}{C:List al}{out:List Int}{st l:List au}{o:am}{nv:Nat}{nc:Int}(hL:gE line nr)(h:VmI nv nc V C out st)(hl:∀ v∈l,VG v)(hlen:(l.length:Int)=aJ o)(hO:1≤o.Code∧o.Code≤29)
  (hn:¬ (o.Code=4∨o.Code=5∨o.Code=7∨o.Code=8)) (hS:Bt o.S) (hSl:o.S.length≤2097152) (hN:o.Code=3→0≤o.N∧o.N<nv) (hcall:o.Code=29→(1≤o.N∧o.N≤3)∧o.S∈kw2) :
  j4 line nr a (vF ⟨V,C,nr,0⟩ line out st 0 o l) (if o.Code=3∨o.Code=6 then eb a V C out st o l else if(ci line nr o l).1=0 then dD a V C out st (ci line nr o l).2 else .err (ci line nr o l).1):=by
 obtain⟨⟨hL1,hL2⟩,hL3⟩:=hL
 obtain⟨⟨hV,hVg⟩,hC,hO',hs,hsg⟩:=h
 have hC1:C.length≤100000:=by have:=hC.1;omega
 have hf:=qr line
 have l0:=bF hl 0
 have l1:=bF hl 1
 rw[K8]
 dsimp only
 by_cases c3:o.Code=3
 ·have hN:=hN c3
  rw[aj (by omega),aj (by omega),ak c3,if_pos (c:=o.Code=3∨o.Code=6) (.inl c3),if_pos (by omega),cl]
  unfold eb
  rw[if_pos c3]
  exact cW line nr a V C out st _ hs
 by_cases c6:o.Code=6
 ·have hk:aJ o=1:=by unfold aJ;simp[c6]
  rw[aj (by omega),aj (by omega),aj (by omega),ak c6,if_pos (c:=o.Code=3∨o.Code=6) (.inr c6),if_pos (by omega),dQ,aa]
  dsimp only
  rw[(gk l0).1,aa]
  dsimp only
  rw[(qy ⟨V,C,nr,0⟩ o.N _ hC1).1,aa,cl]
  unfold eb
  rw[if_neg (by omega),if_neg (by omega),if_neg (by omega),if_pos c6]
  exact cW line nr a V C out st _ hs
 rw[if_neg (c:=o.Code=3∨o.Code=6) (fun h=>h.elim c3 c6)]
 unfold ci
 by_cases c1:o.Code=1
 ·rw[ak c1,if_pos c1,eT,aa,if_pos rfl,cl]
  exact cW line nr a V C out st _ hs
 rw[aj c1,if_neg c1]
 by_cases c2:o.Code=2
 ·rw[ak c2,if_pos c2]
  dsimp only
  by_cases c:300<o.S.length
  ·rw[ak (by omega),if_pos c,gU,aa,if_neg (by decide)]
   exact⟨by decide,_,_,_,rfl⟩
  ·rw[aj (by omega),if_neg c,if_pos rfl,jo,aa,cl]
   exact cW line nr a V C out st _ hs
 rw[aj c2,if_neg c2,aj c3,aj c6]
 by_cases c9:o.Code=9
 ·have hk:aJ o=1:=by unfold aJ;simp[c9]
  rw[ak c9,if_pos c9,if_pos (by omega),(mZ l0).1,aa]
  dsimp only
  rw[(z7 (by omega) hL2 _).1,aa,cl,if_pos rfl]
  exact cW line nr a V C out st _ hs
 rw[aj c9,if_neg c9]
 by_cases c10:o.Code=10
 ·rw[ak c10,if_pos c10,aF (by omega) (by omega),eT,aa,if_pos rfl,cl]
  exact cW line nr a V C out st _ hs
 rw[aj c10,if_neg c10]
 by_cases c11:o.Code=11
 ·rw[ak c11,if_pos c11,Bn line (by omega),aa]
  dsimp only
  rw[wo,aF (by omega) (by omega),eT,aa,if_pos rfl,cl]
  exact cW line nr a V C out st _ hs
 rw[aj c11,if_neg c11]
 by_cases c24:o.Code=24
 ·have hk:aJ o=1:=by unfold aJ;simp[c24]
  have t0:=(dl l0).1
  rw[ak c24,if_neg (c:=o.Code=17) (by omega),if_pos c24,if_pos (by omega),dQ,aa]
  dsimp only
  rw[(qt o.S _ hS (by omega) (by omega)).1,aa,nD,aa,if_pos rfl,cl]
  exact cW line nr a V C out st _ hs
 rw[aj c24]
 by_cases c25:o.Code=25
 ·rw[ak c25,if_neg (c:=o.Code=17) (by omega),if_neg c24,if_pos c25,(qt o.S line hS (by omega) (by omega)).1,aa,nD,aa,if_pos rfl,cl]
  exact cW line nr a V C out st _ hs
 rw[aj c25]
 by_cases c26:o.Code=26
 ·have hk:aJ o=1:=by unfold aJ;simp[c26]
  rw[ak c26,if_neg (c:=o.Code=17) (by omega),if_neg c24,if_neg c25,if_pos c26,if_pos (by omega),(mY _).1,aa,nD,aa,if_pos rfl,cl]
  exact cW line nr a V C out st _ hs
 rw[aj c26]
 by_cases c27:o.Code=27
 ·have hk:aJ o=1:=by unfold aJ;simp[c27]
  obtain⟨n1,n2,n3⟩:=bW l0
  unfold Dc at n3
  rw[ak c27,if_neg (c:=o.Code=17) (by omega),if_neg c24,if_neg c25,if_neg c26,if_pos c27,if_pos (by omega),n1,aa]
  dsimp only
  rw[aF (by omega) (by omega),eT,aa,if_pos rfl,cl]
  exact cW line nr a V C out st _ hs
 rw[aj c27]
 by_cases c28:o.Code=28
 ·have hk:aJ o=1:=by unfold aJ;simp[c28]
  rw[ak c28,if_neg (c:=o.Code=17) (by omega),if_neg c24,if_neg c25,if_neg c26,if_neg c27,if_pos c28,if_pos (by omega),(mY _).1,aa,nD,aa,if_pos rfl,cl]
  exact cW line nr a V C out st _ hs
 rw[aj c28]
 by_cases c29:o.Code=29
 ·have hk:aJ o=o.N:=by unfold aJ;simp[c29]
  obtain⟨hn1,hn2⟩:=hcall c29
  rw[ak c29,if_neg (c:=o.Code=17) (by omega),if_neg c24,if_neg c25,if_neg c26,if_neg c27,if_neg c28,if_pos c29,Kg hl (by omega) (by omega),aa,if_pos rfl,cl]
  exact cW line nr a V C out st _ hs
 rw[aj c29,if_neg c24,if_neg c25,if_neg c26,if_neg c27,if_neg c28,if_neg c29]
 have hk:aJ o=2:=by
  have hr:12≤o.Code∧o.Code≤23:=by omega
  unfold aJ
  rw[if_neg (by omega),if_neg (by omega),if_neg c29,if_pos hr]
 rw[if_pos (by omega),if_pos (by omega),aF (n:=o.Code-12) (by omega) (by omega),aF (by omega) (by omega),KM,ey,aa]
 dsimp only
 by_cases c17:o.Code=17
 ·have t0:=(dl l0).1
  have t1:=(dl l1).1
  rw[aj (by omega),ak (by omega),if_pos c17,dQ,dQ,aa,aa]
  dsimp only
  rw[if_pos (by omega)]
  by_cases c:300<(aW (l.getD 0 aD)++aW (l.getD 1 aD)).length
  ·rw[ak (by omega),if_pos c,aa,if_neg (c:=(3:Int)=0) (by decide)]
   dsimp only
   rw[if_pos (by decide),gU,aa]
   exact⟨by decide,_,_,_,rfl⟩
  ·rw[aj (by omega),if_neg c,jo,aa,aa,if_pos (c:=(0:Int)=0) rfl]
   dsimp only
   rw[if_neg (by simp),cl]
   exact cW line nr a V C out st _ hs
 rw[if_neg c17]
 by_cases c16:o.Code≤16
 ·obtain⟨n1,n2,n3⟩:=bW l0
  obtain⟨m1,m2,m3⟩:=bW l1
  rw[ak (by omega),if_pos c16,n1,aa,m1,aa]
  dsimp only
  rw[(rA (op:=o.Code-12) n3 m3).1,aa,eT,aa,aa]
  dsimp only
  by_cases ce:(bo (o.Code-12) (bm (l.getD 0 aD)) (bm (l.getD 1 aD))).2=0
  ·rw[if_pos ce,ac ce,if_neg (by decide),cl]
   exact cW line nr a V C out st _ hs
  ·rw[if_neg ce,ae ce,if_pos (by decide),gU,aa]
   exact⟨ce,_,_,_,rfl⟩
 ·have hcmp:=(zB l0 l1).1
  rw[aj (by omega),aj (by omega),if_neg c16,hcmp,aa]
  dsimp only
  have hord:vf (o.Code-12+9) (d7 (l.getD 0 aD) (l.getD 1 aD))=some (wJ (o.Code-18) (d7 (l.getD 0 aD) (l.getD 1 aD)),()):=by
   have h6:o.Code=18∨o.Code=19∨o.Code=20∨o.Code=21∨o.Code=22∨o.Code=23:=by omega
   rw[Kn]
   rcases h6 with e | e | e | e | e | e <;> (rw[e];rfl)
  rw[hord,aa,nD,aa,aa,if_pos (c:=(0:Int)=0) rfl]
  dsimp only
  rw[if_neg (by simp),cl]
  exact cW line nr a V C out st _ hs
inductive Fin
 | err (e:Int)
 | fin (V:List au) (C:List al) (out:List Int)
noncomputable def mD(ops:List am)(line:List Int)(nr:Int):Nat→Int→List au→List al→List Int→List au→Fin
 | 0,_,_,_,_,_=>.err 6
 | n+1,a,V,C,out,st=>match iv line nr (ops.getD a.toNat bg) a V C out st with
  | .err e=>.err e
  | .stop=>.fin V C out
  | .go a' V' C' out' st'=>mD ops line nr n a' V' C' out' st'
def OpsI(ops:List am)(nv:Nat)(nc:Int):Prop:=eF ops nv nc=true∧j1 ops
theorem OpsI.get{ops:List am}{nv:Nat}{nc:Int}(h:OpsI ops nv nc){i:Nat}(hi:i<ops.length) :
  opB ops[i] ops.length nv nc=true∧Bt ops[i].S∧ops[i].S.length≤2097152∧(ops[i].Code≠36→i+1<ops.length)∧ops.length≤1500:=by
 obtain⟨h1,h2⟩:=h
 unfold eF at h1
 rw[Bool.and_eq_true,Bool.and_eq_true,ab,ab,Bool.not_eq_true',List.any_eq_false]at h1
 obtain⟨h3,h4,h5⟩:=h1
 have h6:=h5 _ (List.getElem_mem hi)
 obtain⟨h7,h8⟩:=h2.2 _ (List.getElem_mem hi)
 refine⟨by simpa using h6,h7,h8,fun hc=>?_,by omega⟩
 rcases Nat.lt_or_ge (i+1) ops.length with h | h
 ·exact h
 ·have e:ops.length-1=i:=by omega
  rw[e,bj hi]at h4
  exact absurd h4 hc
theorem QK{o:am}(h:1≤o.Code∧o.Code≤36):xJ o=some (aJ o,()):=by
 rw[Px]
 simp only[Pw,cP,aa]
 unfold aJ
 by_cases hr:12≤o.Code∧o.Code≤23
 ·have n:∀ k:Int,(k<12∨23<k)→¬ o.Code=k:=fun k h1 h2=>by omega
  simp[n,hr.1,hr.2]
 ·have ee:o.Code=1∨o.Code=2∨o.Code=3∨o.Code=4∨o.Code=5∨o.Code=6∨o.Code=7∨o.Code=8∨o.Code=9∨o.Code=10∨o.Code=11∨o.Code=24∨o.Code=25∨o.Code=26∨o.Code=27∨o.Code=28∨o.Code=29∨o.Code=30∨o.Code=31∨o.Code=32∨o.Code=33∨o.Code=34∨o.Code=35∨o.Code=36:=by omega
  rcases ee with e | e | e | e | e | e | e | e | e | e | e | e | e | e | e | e | e | e | e | e | e | e | e | e <;> simp[e]
theorem QI{o:am}(h:1≤o.Code∧o.Code≤36):vK o=some (aJ o,()):=by
 rw[Lg]
 simp only[Le,Lf]
 unfold aJ
 by_cases hr:12≤o.Code∧o.Code≤23
 ·have n:∀ k:Int,(k<12∨23<k)→¬ o.Code=k:=fun k h1 h2=>by omega
  simp[n,hr.1,hr.2]
 ·have ee:o.Code=1∨o.Code=2∨o.Code=3∨o.Code=4∨o.Code=5∨o.Code=6∨o.Code=7∨o.Code=8∨o.Code=9∨o.Code=10∨o.Code=11∨o.Code=24∨o.Code=25∨o.Code=26∨o.Code=27∨o.Code=28∨o.Code=29∨o.Code=30∨o.Code=31∨o.Code=32∨o.Code=33∨o.Code=34∨o.Code=35∨o.Code=36:=by omega
  rcases ee with e | e | e | e | e | e | e | e | e | e | e | e | e | e | e | e | e | e | e | e | e | e | e | e <;> simp[e]
def tO(line:List Int)(nr a:Int)(V:List au)(C:List al)(out:List Int)(x:Option (Int×Bool×aA×WT×Unit)):R→Prop
 | .err e=>e≠0∧∃ p b z s o,x=some (p,b,z,wT s line o,())∧s.Err=e
 | .stop=>∃ z,x=some (a,false,z,wT ⟨V,C,nr,0⟩ line out,())
 | .go b V' C' out' st=>x=some (b,true,⟨(),st⟩,wT ⟨V',C',nr,0⟩ line out',())
theorem Fw{line:List Int}{nr a:Int}{V:List au}{C:List al}{out:List Int}{x:Option (aA×WT×Unit)}{r:R}(ha:w64 (a+1)=a+1)(h:j8 line nr (a+1) x r) :
  tO line nr a V C out (x.bind fun(r0:aA×(ar×((List (List Int))×((List (List Int))×((List Int)×((List (List Int))×((List Int)×(Int×(Bool×Unit))))))))×Unit) =>
   il a r0.1.l r0.1.stack r0.2.1.1 r0.2.1.2.1 r0.2.1.2.2.1 r0.2.1.2.2.2.1 r0.2.1.2.2.2.2.1 r0.2.1.2.2.2.2.2.1 r0.2.1.2.2.2.2.2.2.1 r0.2.1.2.2.2.2.2.2.2.1) r:=by
 cases r with
 | err e =>
  obtain⟨h1,z,s,o,rfl,h2⟩:=h
  rw[aa,fb]
  exact⟨h1,_,_,_,_,_,rfl,h2⟩
 | stop=>exact h.elim
 | go b V' C' out' st =>
  obtain⟨rfl,rfl⟩:=h
  rw[aa,fb,ha]
  rfl
theorem zT{α:Type}(st:List α)(K:Nat)(hK:K≤st.length):List.append [] (List.take (st.length-(K:Int).toNat) (List.drop (K:Int).toNat st))=st.drop K:=by
 rw[af,List.take_of_length_le (by rw[List.length_drop];exact Nat.le_refl _)];rfl
theorem pp(s:ar)(line out t:List Int)(h:out.length+t.length≤1000000):mM s [] [] line (bM line) out 0 false t =
  if 600<(out++t).length then(if s.Err=0 then some (wT ⟨s.Vars,s.Cells,s.Nr,5⟩ line out,())else some (wT s line out,()))else some (wT s line (out++t),()):=by
 rw[Ph,aF (by omega) (by omega)]
 by_cases c:600<(out++t).length
 ·have c':=c
  rw[ag]at c'
  rw[ak (by omega),if_pos c,Eo]
  by_cases d:s.Err=0
  ·rw[ak d,if_pos d];rfl
  ·rw[aj d,if_neg d];rfl
 ·have c':=c
  rw[ag]at c'
  rw[aj (by omega),if_neg c,if_pos (by omega)];rfl
theorem Qw{line:List Int}{nr a:Int}{V:List au}{C:List al}{out:List Int}{st:List au}{o:am}{nv:Nat}{nc n:Int}(hnv:nv≤100000)(ha:0≤a∧a<2000)(hL:gE line nr)(h:VmI nv nc V C out st)(ho:opB o n nv nc=true)(hS:Bt o.S)(hSl:o.S.length≤2097152) :
  tO line nr a V C out (sn ⟨(),st⟩ ⟨V,C,nr,0⟩ [] [] line (bM line) out 0 false o a) (iv line nr o a V C out st):=by
 have hcode:=C6 ho
 obtain⟨k1,k2⟩:=ye ho
 obtain⟨o1,o2,o3,o4,o5,o6⟩:=wI ho
 have hst:=h.2.2.2.1
 have hw1:w64 (a+1)=a+1:=aF (by omega) (by omega)
 rw[Pv,QK hcode,aa]
 dsimp only
 unfold iv
 have hw:w64 ((st.length:Int)-aJ o)=(st.length:Int)-aJ o:=aF (by omega) (by omega)
 rw[hw]
 by_cases c:(st.length:Int)<aJ o
 ·rw[if_pos c,ak (by omega),jM,aa]
  exact⟨by decide,_,_,_,_,_,rfl,rfl⟩
 ·have hK:(st.length:Int)-aJ o=((st.length-(aJ o).toNat:Nat):Int):=by omega
  have hKl:st.length-(aJ o).toNat≤st.length:=Nat.sub_le _ _
  rw[if_neg c,hK,aj (by omega),if_pos (by omega),if_pos (by rw[aN,List.length_take];omega),if_pos (by omega),zT _ _ hKl,af]
  have hlen:((st.drop (st.length-(aJ o).toNat)).length:Int)=aJ o:=by rw[List.length_drop];omega
  have hl:∀ v∈st.drop (st.length-(aJ o).toNat),VG v:=fun v hv=>h.2.2.2.2 v (List.mem_of_mem_drop hv)
  have h':VmI nv nc V C out (st.take (st.length-(aJ o).toNat)):=⟨h.1,h.2.1,h.2.2.1,by rw[List.length_take];omega,fun v hv=>h.2.2.2.2 v (List.mem_of_mem_take hv)⟩
  generalize st.drop (st.length-(aJ o).toNat)=l at *
  generalize st.take (st.length-(aJ o).toNat)=rest at *
  have hrs:=h'.2.2.2.1
  have hout:=h'.2.2.1.1
  have l0:=bF hl 0
  have t0:=(dl l0).1
  unfold doR
  by_cases c36:o.Code=36
  ·rw[ak c36,if_pos c36];exact⟨_,rfl⟩
  rw[aj c36,if_neg c36]
  by_cases c30:o.Code=30
  ·rw[ak c30,if_pos c30];rfl
  rw[aj c30,if_neg c30]
  by_cases c31:o.Code=31
  ·have hk:aJ o=1:=by unfold aJ;simp[c31]
   rw[ak c31,if_pos c31,if_pos (by omega),(mY _).2,aa]
   dsimp only
   cases jU (l.getD 0 aD) with
   | true=>rw[if_neg (by decide),if_pos rfl,fb,hw1];rfl
   | false=>rw[if_pos (by decide),if_neg (by decide)];rfl
  rw[aj c31,if_neg c31]
  by_cases c32:o.Code=32
  ·rw[ak c32,if_pos c32,fb,hw1];rfl
  rw[aj c32,if_neg c32]
  by_cases c33:o.Code=33
  ·have hk:aJ o=1:=by unfold aJ;simp[c33]
   rw[ak c33,if_pos c33]
   unfold gy
   by_cases cN:o.N=1
   ·rw[ak cN,if_pos cN,pp _ _ _ _ (by simp;omega)]
    by_cases d:600<(out++[32]).length
    ·have d2:600<(out++([32]++aW (l.getD 0 aD))).length:=by
      rw[ag,ag];rw[ag]at d;omega
     rw[if_pos d,if_pos (c:=_=(0:Int)) rfl,aa,if_pos (by omega),dY,aa,if_pos d2]
     unfold wT
     dsimp only
     rw[pp _ _ _ _ (by omega)]
     by_cases d3:600<(out++aW (l.getD 0 aD)).length
     ·rw[if_pos d3,if_neg (by simp),aa,fb]
      exact⟨by decide,_,_,_,_,_,rfl,rfl⟩
     ·rw[if_neg d3,aa,fb]
      exact⟨by decide,_,_,_,_,_,rfl,rfl⟩
    ·rw[if_neg d,aa,if_pos (by omega),dY,aa]
     unfold wT
     dsimp only
     rw[pp _ _ _ _ (by rw[ag,List.length_singleton];omega),ah]
     by_cases d2:600<(out++([32]++aW (l.getD 0 aD))).length
     ·rw[if_pos d2,if_pos d2,if_pos (c:=_=(0:Int)) rfl,aa,fb]
      exact⟨by decide,_,_,_,_,_,rfl,rfl⟩
     ·rw[if_neg d2,if_neg d2,aa,fb,hw1];rfl
   ·rw[aj cN,if_neg cN,if_pos (by omega),dY,aa,List.nil_append]
    dsimp only
    rw[pp _ _ _ _ (by omega)]
    by_cases d2:600<(out++aW (l.getD 0 aD)).length
    ·rw[if_pos d2,if_pos d2,if_pos (c:=_=(0:Int)) rfl,aa,fb]
     exact⟨by decide,_,_,_,_,_,rfl,rfl⟩
    ·rw[if_neg d2,if_neg d2,aa,fb,hw1];rfl
  rw[aj c33,if_neg c33]
  by_cases c34:o.Code=34
  ·rw[ak c34,if_pos c34,pp _ _ _ _ (by simp;omega)]
   unfold gy
   by_cases d2:600<(out++[10]).length
   ·rw[if_pos d2,if_pos d2,if_pos (c:=_=(0:Int)) rfl,aa,fb]
    exact⟨by decide,_,_,_,_,_,rfl,rfl⟩
   ·rw[if_neg d2,if_neg d2,aa,fb,hw1];rfl
  rw[aj c34,if_neg c34]
  have named:(o.Code=3∨o.Code=4∨o.Code=5∨o.Code=6∨o.Code=7∨o.Code=8∨o.Code=35)→tO line nr a V C out (im a l true ⟨(),rest⟩ (az.mk ⟨V,C,nr,0⟩ [] [] line (bM line) out 0 false) o) (eb (a+1) V C out rest o l):=fun hc=>by
   rw[Ew,if_pos rfl]
   exact Fw hw1 (MO hnv h' hl hlen hc o2)
  by_cases c3:o.Code=3
  ·rw[ak c3,if_pos (.inl c3),ac c3];exact named (.inl c3)
  rw[aj c3]
  by_cases c4:o.Code=4
  ·rw[ak c4,if_pos (.inr (.inl c4)),ac c4];exact named (.inr (.inl c4))
  rw[aj c4]
  by_cases c5:o.Code=5
  ·rw[ak c5,if_pos (.inr (.inr (.inl c5))),ac c5];exact named (.inr (.inr (.inl c5)))
  rw[aj c5]
  by_cases c6:o.Code=6
  ·rw[ak c6,if_pos (.inr (.inr (.inr (.inl c6)))),ac c6];exact named (.inr (.inr (.inr (.inl c6))))
  rw[aj c6]
  by_cases c7:o.Code=7
  ·rw[ak c7,if_pos (.inr (.inr (.inr (.inr (.inl c7))))),ac c7];exact named (.inr (.inr (.inr (.inr (.inl c7)))))
  rw[aj c7]
  by_cases c8:o.Code=8
  ·rw[ak c8,if_pos (.inr (.inr (.inr (.inr (.inr (.inl c8)))))),ac c8];exact named (.inr (.inr (.inr (.inr (.inr (.inl c8))))))
  rw[aj c8]
  by_cases c35:o.Code=35
  ·rw[if_pos (.inr (.inr (.inr (.inr (.inr (.inr c35)))))),ac c35];exact named (.inr (.inr (.inr (.inr (.inr (.inr c35))))))
  have hno:¬ (o.Code=3∨o.Code=4∨o.Code=5∨o.Code=6∨o.Code=7∨o.Code=8∨o.Code=35):=by omega
  rw[ae c35,if_neg hno,Ew,if_neg (by decide)]
  exact Fw hw1 (QV hL hrs hl hlen (by omega) hno hS hSl o4)
theorem K4{ops:List am}{a t:Int}(s:ar)(line out:List Int)(st:List au){e:Int}(he:e≠0):jl ops a t s line out st e=some (iT s line out st e,()):=by
 rw[vG,aj he];rfl
def pX(ops:List am)(line:List Int)(nr t:Int)(V:List au)(C:List al)(out:List Int)(x:Option (IT×Unit)):R→Prop
 | .err e=>e≠0∧∃ s o u,x=some (iT s line o u e,())
 | .stop=>∃ u,x=some (iT ⟨V,C,nr,0⟩ line out u 0,())
 | .go b V' C' out' st=>x=jl ops b (t+1) ⟨V',C',nr,0⟩ line out' st 0
theorem vR{ops:List am}{line:List Int}{nr a t:Int}{V:List au}{C:List al}{out:List Int}{x:Option (IT×Unit)}{r:R}(ht:w64 (t+1)=t+1)(h:j4 line nr a x r) :
  pX ops line nr t V C out (x.bind fun(r0:(ar×((List Int)×((List Int)×((List au)×(Int×Unit)))))×Unit)=>jm ops a t r0.1.1 r0.1.2.1 r0.1.2.2.1 r0.1.2.2.2.1 r0.1.2.2.2.2.1) r:=by
 cases r with
 | err e =>
  obtain⟨h1,s,o,u,rfl⟩:=h
  rw[aa,l6]
  exact⟨h1,_,_,_,K4 _ _ _ _ h1⟩
 | stop=>exact h.elim
 | go b V' C' out' st =>
  obtain⟨rfl,rfl⟩:=h
  rw[aa,l6,ht]
  rfl
theorem LG{ops:List am}{line:List Int}{nr t:Int}{V:List au}{C:List al}{out:List Int}{st:List au}{nv:Nat}{nc:Int}(hnv:nv≤100000)(hops:OpsI ops nv nc)(i:Nat)(hi:i<ops.length)(ht:1≤t∧t≤20000)(hL:gE line nr)(h:VmI nv nc V C out st) :
  pX ops line nr t V C out (jl ops (i:Int) t ⟨V,C,nr,0⟩ line out st 0) (iv line nr ops[i] (i:Int) V C out st):=by
 obtain⟨ho,hS,hSl,hlast,hlen⟩:=hops.get hi
 have hcode:=C6 ho
 obtain⟨k1,k2⟩:=ye ho
 obtain⟨o1,o2,o3,o4,o5,o6⟩:=wI ho
 have hst:=h.2.2.2.1
 have hw1:w64 ((i:Int)+1)=(i:Int)+1:=aF (by omega) (by omega)
 have hwt:w64 (t+1)=t+1:=aF (by omega) (by omega)
 rw[vG,if_pos (by simp),aj (by omega),if_pos (by omega),aS hi]
 generalize ops[i]=o at *
 rw[QI hcode,aa,La]
 dsimp only
 unfold iv
 have hw:w64 ((st.length:Int)-aJ o)=(st.length:Int)-aJ o:=aF (by omega) (by omega)
 rw[hw]
 by_cases c:(st.length:Int)<aJ o
 ·rw[if_pos c,ak (by omega),gU,aa,if_pos ⟨by omega,by omega,by rw[aN];omega⟩,aa]
  unfold iT
  dsimp only
  rw[if_pos (by simp)]
  exact⟨by decide,_,_,_,rfl⟩
 ·have hK:(st.length:Int)-aJ o=((st.length-(aJ o).toNat:Nat):Int):=by omega
  have hKl:st.length-(aJ o).toNat≤st.length:=Nat.sub_le _ _
  rw[if_neg c,hK,aj (by omega),if_pos (by omega),if_pos (by rw[aN,List.length_take];omega),if_pos (by omega),zT _ _ hKl,af,aa]
  have hlen:((st.drop (st.length-(aJ o).toNat)).length:Int)=aJ o:=by rw[List.length_drop];omega
  have hl:∀ v∈st.drop (st.length-(aJ o).toNat),VG v:=fun v hv=>h.2.2.2.2 v (List.mem_of_mem_drop hv)
  have h':VmI nv nc V C out (st.take (st.length-(aJ o).toNat)):=⟨h.1,h.2.1,h.2.2.1,by rw[List.length_take];omega,fun v hv=>h.2.2.2.2 v (List.mem_of_mem_take hv)⟩
  generalize st.drop (st.length-(aJ o).toNat)=l at *
  generalize st.take (st.length-(aJ o).toNat)=rest at *
  dsimp only
  rw[if_neg (by simp)]
  unfold doR
  by_cases c36:o.Code=36
  ·rw[ak c36,if_pos c36];exact⟨_,rfl⟩
  rw[aj c36,if_neg c36]
  by_cases c30:o.Code=30
  ·rw[ak c30,if_pos c30,l6,hwt];rfl
  rw[aj c30,if_neg c30]
  by_cases c31:o.Code=31
  ·have hk:aJ o=1:=by unfold aJ;simp[c31]
   rw[ak c31,if_pos c31,if_pos (by omega),(mY _).1,aa]
   dsimp only
   cases jU (l.getD 0 aD) with
   | true=>rw[if_neg (by decide),if_pos rfl,l6,hwt,hw1];rfl
   | false=>rw[if_pos (by decide),if_neg (by decide),l6,hwt];rfl
  rw[aj c31,if_neg c31]
  by_cases c32:o.Code=32
  ·rw[ak c32,if_pos c32,l6,hwt,hw1];rfl
  rw[aj c32,if_neg c32]
  have store:(o.Code=4∨o.Code=5∨o.Code=7∨o.Code=8∨o.Code=35)→pX ops line nr t V C out (gj ops (w64 ((i:Int)+1)) t l true (aw.mk ⟨V,C,nr,0⟩ line out rest 0) o) (eb ((i:Int)+1) V C out rest o l):=fun hc=>by
   rw[vH,if_pos rfl,hw1]
   exact vR hwt (Qx hnv h' hl hlen hc (fun e=>o2 (.inr e)))
  have outp:∀ b,b=true→(o.Code=33∨o.Code=34)→pX ops line nr t V C out (gj ops (w64 ((i:Int)+1)) t l b (aw.mk ⟨V,C,nr,0⟩ line out rest 0) o) (gy ((i:Int)+1) V C out rest (if o.Code=33 then(if o.N=1 then [32]else [])++aW (l.getD 0 aD)else [10])):=fun b hb hc=>by
   rw[vH,if_pos hb,hw1]
   exact vR hwt (Ng h' hl hlen hc)
  by_cases c4:o.Code=4
  ·rw[ak c4,if_neg (by omega),if_neg (by omega),if_pos (.inr (.inl c4)),ac c4];exact store (.inl c4)
  rw[aj c4]
  by_cases c5:o.Code=5
  ·rw[ak c5,if_neg (by omega),if_neg (by omega),if_pos (.inr (.inr (.inl c5))),ac c5];exact store (.inr (.inl c5))
  rw[aj c5]
  by_cases c7:o.Code=7
  ·rw[ak c7,if_neg (by omega),if_neg (by omega),if_pos (.inr (.inr (.inr (.inr (.inl c7))))),ac c7];exact store (.inr (.inr (.inl c7)))
  rw[aj c7]
  by_cases c8:o.Code=8
  ·rw[ak c8,if_neg (by omega),if_neg (by omega),if_pos (.inr (.inr (.inr (.inr (.inr (.inl c8)))))),ac c8];exact store (.inr (.inr (.inr (.inl c8))))
  rw[aj c8]
  by_cases c35:o.Code=35
  ·rw[ak c35,if_neg (by omega),if_neg (by omega),if_pos (.inr (.inr (.inr (.inr (.inr (.inr c35)))))),ac c35];exact store (.inr (.inr (.inr (.inr c35))))
  rw[aj c35]
  by_cases c33:o.Code=33
  ·have:=outp _ (ac c33) (.inl c33)
   rw[if_pos c33]at this
   rw[ak c33,if_pos c33];exact this
  rw[aj c33,if_neg c33]
  by_cases c34:o.Code=34
  ·have:=outp _ (ac c34) (.inr c34)
   rw[if_neg c33]at this
   rw[if_pos c34];exact this
  rw[if_neg c34,vH,aj c34,hw1]
  have hl1:=vR (ops:=ops) (V:=V) (C:=C) (out:=out) hwt (Mx (a:=(i:Int)+1) hL h' hl hlen (by omega) (by omega) hS hSl (fun e=>o2 (.inl e)) o4)
  have hr:(if o.Code=3∨o.Code=6 then eb ((i:Int)+1) V C out rest o l else if(ci line nr o l).1=0 then dD ((i:Int)+1) V C out rest (ci line nr o l).2 else .err (ci line nr o l).1) =
    (if o.Code=3∨o.Code=4∨o.Code=5∨o.Code=6∨o.Code=7∨o.Code=8∨o.Code=35 then eb ((i:Int)+1) V C out rest o l else if(ci line nr o l).1=0 then dD ((i:Int)+1) V C out rest (ci line nr o l).2 else .err (ci line nr o l).1):=by
   by_cases c36':o.Code=3∨o.Code=6
   ·rw[if_pos c36',if_pos (by omega)]
   ·rw[if_neg c36',if_neg (c:=o.Code=3∨o.Code=4∨o.Code=5∨o.Code=6∨o.Code=7∨o.Code=8∨o.Code=35) (by omega)]
  rw[← hr]
  exact hl1
def FRelI(nv:Nat)(nc:Int)(line:List Int)(nr:Int)(x:Option (IT×Unit)):Fin→Prop
 | .err e=>(1≤e∧e≤7)∧∃ s o u,x=some (iT s line o u e,())
 | .fin V C out=>(∃ u,x=some (iT ⟨V,C,nr,0⟩ line out u 0,()))∧VmI nv nc V C out []
def yL(line:List Int)(nr:Int)(x:Option (WT×Unit)):Fin→Prop
 | .err e=>∃ s o,x=some (wT s line o,())∧s.Err=e
 | .fin V C out=>x=some (wT ⟨V,C,nr,0⟩ line out,())
theorem N8{ops:List am}{line:List Int}{nr:Int}{nv:Nat}{nc:Int}(hnv:nv≤100000)(hops:OpsI ops nv nc)(hL:gE line nr):∀ (n:Nat) (a:Int) (V:List au) (C:List al) (out:List Int) (st:List au),n≤20000→0≤a∧a<(ops.length:Int)→VmI nv nc V C out st →
  FRelI nv nc line nr (jl ops a ((20001-n:Nat):Int) ⟨V,C,nr,0⟩ line out st 0) (mD ops line nr n a V C out st):=by
 intro n
 induction n with
 | zero =>
  intro a V C out st hn ha h
  rw[vG,if_pos (by simp),if_pos (by decide),gU,aa]
  exact⟨⟨by decide,by decide⟩,_,_,_,rfl⟩
 | succ n ih =>
  intro a V C out st hn ha h
  obtain⟨i,rfl⟩:=Int.eq_ofNat_of_zero_le ha.1
  have hi:i<ops.length:=by omega
  obtain⟨ho,hS,hSl,hlast,hlen⟩:=hops.get hi
  have h1:=LG hnv hops i hi (t:=((20001-(n+1):Nat):Int)) (by omega) hL h
  have h2:=FA (line:=line) (nr:=nr) (n:=(ops.length:Int)) (a:=(i:Int)) (o:=ops[i]) (by omega) (by omega) (fun hc=>by have:=hlast hc;omega) hL h ho hS
  unfold mD
  rw[af,bj hi]
  revert h1 h2
  cases iv line nr ops[i] (i:Int) V C out st with
  | err e=>intro h1 h2;exact⟨h2,h1.2⟩
  | stop=>intro h1 h2;exact⟨h1,h.1,h.2.1,h.2.2.1,by simp,fun v hv=>by cases hv⟩
  | go b V' C' out' st' =>
   intro h1 h2
   have h3:=ih b V' C' out' st' (by omega) h2.1 h2.2
   have e:((20001-(n+1):Nat):Int)+1=((20001-n:Nat):Int):=by omega
   rw[← e]at h3
   have h4:jl ops (i:Int) ((20001-(n+1):Nat):Int) ⟨V,C,nr,0⟩ line out st 0=_:=h1
   rw[h4]
   exact h3
theorem N9{ops:List am}{line:List Int}{nr:Int}{nv:Nat}{nc:Int}(hnv:nv≤100000)(hops:OpsI ops nv nc)(hL:gE line nr):∀ (n:Nat) (a:Int) (V:List au) (C:List al) (out:List Int) (st:List au),n≤20000→0≤a∧a<(ops.length:Int)→VmI nv nc V C out st →
  yL line nr (o7 ops a ((20000-n:Nat):Int) (az.mk ⟨V,C,nr,0⟩ [] [] line (bM line) out 0 false) ⟨(),st⟩) (mD ops line nr n a V C out st):=by
 have stopE:∀ (a t:Int) (s:ar) (o:List Int) (z:aA) (e:Int),s.Err=e→e≠0→∃ s' o',o7 ops a t (az.mk s [] [] line (bM line) o 0 false) z=some (wT s' line o',())∧s'.Err=e:=fun a t s o z e h1 h2=>by
  rw[xG,aj (by dsimp only;rw[h1];exact h2)]
  exact⟨_,_,rfl,h1⟩
 intro n
 induction n with
 | zero =>
  intro a V C out st hn ha h
  rw[xG,if_pos (by simp),if_pos (by decide),jM,aa]
  exact⟨_,_,rfl,rfl⟩
 | succ n ih =>
  intro a V C out st hn ha h
  obtain⟨i,rfl⟩:=Int.eq_ofNat_of_zero_le ha.1
  have hi:i<ops.length:=by omega
  obtain⟨ho,hS,hSl,hlast,hlen⟩:=hops.get hi
  have h1:=Qw (line:=line) (nr:=nr) (a:=(i:Int)) (o:=ops[i]) hnv (by omega) hL h ho hS hSl
  have h2:=FA (line:=line) (nr:=nr) (n:=(ops.length:Int)) (a:=(i:Int)) (o:=ops[i]) (by omega) (by omega) (fun hc=>by have:=hlast hc;omega) hL h ho hS
  unfold mD
  rw[af,bj hi,xG,if_pos (by simp),aj (by omega),if_pos (by omega),aS hi,aF (by omega) (by omega)]
  revert h1 h2
  cases iv line nr ops[i] (i:Int) V C out st with
  | err e =>
   intro h1 h2
   obtain⟨g1,p,b,z,s,o,g2,g3⟩:=h1
   rw[g2,aa]
   dsimp only
   cases b with
   | true=>rw[if_neg (by decide)];exact stopE _ _ s o z e g3 g1
   | false=>rw[if_pos (by decide)];exact⟨_,_,rfl,g3⟩
  | stop =>
   intro h1 h2
   obtain⟨z,g2⟩:=h1
   rw[g2,aa]
   rfl
  | go b V' C' out' st' =>
   intro h1 h2
   have h3:=ih b V' C' out' st' (by omega) h2.1 h2.2
   have e:((20000-(n+1):Nat):Int)+1=((20000-n:Nat):Int):=by omega
   rw[← e]at h3
   have h4:sn ⟨(),st⟩ ⟨V,C,nr,0⟩ [] [] line (bM line) out 0 false ops[i] (i:Int)=_:=h1
   rw[h4,aa]
   dsimp only
   rw[if_neg (by decide)]
   exact h3
def StI(nv:Nat)(nc:Int)(s:ar):Prop:=(s.Vars.length=nv∧∀ v∈s.Vars,VG v)∧CG nc s.Cells∧(0≤s.Nr∧s.Nr≤1000000)∧s.Err=0
def StG(nv:Nat)(nc:Int)(s:ar):Prop:=(s.Vars.length=nv∧∀ v∈s.Vars,VG v)∧CG nc s.Cells∧(0≤s.Nr∧s.Nr≤1000000)∧0≤s.Err∧s.Err≤7
theorem StI.g{nv:Nat}{nc:Int}{s:ar}(h:StI nv nc s):StG nv nc s:=⟨h.1,h.2.1,h.2.2.1,by have:=h.2.2.2;omega⟩
theorem StG.i{nv:Nat}{nc:Int}{s:ar}(h:StG nv nc s)(he:s.Err=0):StI nv nc s:=⟨h.1,h.2.1,h.2.2.1,he⟩
theorem StG.of{nv:Nat}{nc:Int}{s:ar}(h:mW s nv nc=true)(hb:pM s):StG nv nc s:=by
 unfold mW at h
 rw[Bool.and_eq_true,Bool.and_eq_true,Bool.and_eq_true,Bool.and_eq_true,Bool.and_eq_true,ab,Bool.not_eq_true',List.any_eq_false,ab,ab,ab,Bool.not_eq_true']at h
 obtain⟨h1,h2,h3,h4,h5,h6⟩:=h
 have hbad:∀ i (hi:i<s.Cells.length),(0≤s.Cells[i].Name∧s.Cells[i].Name<nc∧s.Cells[i].Key.length≤300∧gC s.Cells[i].Val=true)∧(0<i→bU (s.Cells[i-1]'(by omega)) s.Cells[i]=true):=fun i hi=>by
  have:=anyB_false.1 h6 i hi
  unfold ue at this
  rw[bj hi,bj (show i-1<s.Cells.length by omega)]at this
  simp only[Bool.or_eq_false_iff,decide_eq_false_iff_not,Bool.not_eq_false',Bool.and_eq_false_iff]at this
  obtain⟨g1,g2,g3,g4,g5⟩:=this
  refine⟨⟨by omega,by omega,by omega,g4⟩,fun h0=>?_⟩
  rcases g5 with g5 | g5
  ·omega
  ·exact g5
 refine⟨⟨by omega,fun v hv=>⟨by simpa using h2 v hv,hb.1.2 v hv⟩⟩,⟨by omega,fun c hc=>?_,?_⟩,h4,h5⟩
 ·obtain⟨i,hi,rfl⟩:=List.mem_iff_getElem.1 hc
  obtain⟨g1,g2,g3,g4⟩:=(hbad i hi).1
  exact⟨g1,g2,g3,g4,hb.2.2 _ hc⟩
 ·rw[List.pairwise_iff_getElem]
  intro i j hi hj hij
  have key:∀ (d j:Nat) (hj:j<s.Cells.length),j=i+1+d→bU s.Cells[i] s.Cells[j]=true:=by
   intro d
   induction d with
   | zero=>intro j hj e;subst e;exact(hbad (i+1) hj).2 (by omega)
   | succ d ih =>
    intro j hj e
    have h1:=ih (j-1) (by omega) (by omega)
    exact ug h1 ((hbad j hj).2 (by omega))
  exact key (j-i-1) j hj (by omega)
theorem StI.of{nv:Nat}{nc:Int}{s:ar}(h:mW s nv nc=true)(hb:pM s)(he:s.Err=0):StI nv nc s:=(StG.of h hb).i he
theorem StG.to{nv:Nat}{nc:Int}{s:ar}(h:StG nv nc s)(hnv:nv≤100000):mW s nv nc=true∧pM s:=by
 obtain⟨⟨h1,h2⟩,⟨c1,c2,c3⟩,h4,h5⟩:=h
 refine⟨?_,⟨by omega,fun v hv=>(h2 v hv).2⟩,by omega,fun c hc=>(c2 c hc).2.2.2.2⟩
 unfold mW
 rw[Bool.and_eq_true,Bool.and_eq_true,Bool.and_eq_true,Bool.and_eq_true,Bool.and_eq_true,ab,Bool.not_eq_true',List.any_eq_false,ab,ab,ab,Bool.not_eq_true']
 refine⟨by omega,fun v hv=>by rw[(h2 v hv).1];decide,by omega,h4,by omega,anyB_false.2 fun i hi=>?_⟩
 unfold ue
 obtain⟨g1,g2,g3,g4⟩:=c2 _ (List.getElem_mem hi)
 rw[bj hi,bj (show i-1<s.Cells.length by omega),ae (by omega),ae (by omega),ae (by omega),g4.1]
 by_cases c:i=0
 ·subst c;rfl
 ·rw[List.pairwise_iff_getElem.1 c3 (i-1) i (by omega) hi (by omega)];simp
theorem StI.to{nv:Nat}{nc:Int}{s:ar}(h:StI nv nc s)(hnv:nv≤100000):mW s nv nc=true∧pM s:=h.g.to hnv
def iY(s:ar)(nr:Int):Fin→ar×List Int
 | .err e=>(⟨s.Vars,s.Cells,s.Nr,e⟩,[])
 | .fin V C out=>(⟨V,C,nr,0⟩,out)
theorem IM{nv:Nat}{nc:Int}{line:List Int}{nr:Int}{x:Option (IT×Unit)}{r:Fin}(h:FRelI nv nc line nr x r)(s:ar)(hv:s.Vars.length≤100000)(hc:s.Cells.length≤100000) :
  (x.bind fun(r8:(ar×((List Int)×((List Int)×((List au)×(Int×Unit)))))×Unit) =>
   (vE r8.1.1 r8.1.2.1 r8.1.2.2.1 r8.1.2.2.2.1 r8.1.2.2.2.2.1 s).bind fun(r9:ar×(List Int)×(Unit×((List Int)×((List Int)×((List au)×(Int×Unit)))))×Unit) =>
   some (r9.1,r9.2.1,()))=some ((iY s nr r).1,(iY s nr r).2,()):=by
 cases r with
 | err e =>
  obtain⟨h1,s',o,u,rfl⟩:=h
  rw[aa]
  unfold iT
  dsimp only
  rw[BQ,ae (show ¬ e=0 by omega),if_pos (by decide),qf hv hc]
  rfl
 | fin V C out =>
  obtain⟨⟨u,rfl⟩,_⟩:=h
  rw[aa]
  unfold iT
  dsimp only
  rw[BQ,if_neg (by simp)]
  rfl
theorem IQ{line:List Int}{nr:Int}{x:Option (WT×Unit)}{r:Fin}(h:yL line nr x r)(hne:∀ e,r = .err e→e≠0)(s:ar)(hv:s.Vars.length≤100000)(hc:s.Cells.length≤100000) :
  (x.bind fun(r0:(ar×((List (List Int))×((List (List Int))×((List Int)×((List (List Int))×((List Int)×(Int×(Bool×Unit))))))))×Unit) =>
   (xB (az.mk r0.1.1 r0.1.2.1 r0.1.2.2.1 r0.1.2.2.2.1 r0.1.2.2.2.2.1 r0.1.2.2.2.2.2.1 r0.1.2.2.2.2.2.2.1 r0.1.2.2.2.2.2.2.2.1) s).bind fun(r1:ar×(List Int)×az×Unit) =>
   some (r1.1,r1.2.1,()))=some ((iY s nr r).1,(iY s nr r).2,()):=by
 cases r with
 | err e =>
  obtain⟨s',o,rfl,h2⟩:=h
  rw[aa]
  unfold wT
  dsimp only
  rw[En]
  dsimp only
  rw[h2,ae (hne e rfl),if_pos (by decide),qg hv hc]
  rfl
 | fin V C out =>
  have h':x=_:=h
  rw[h',aa]
  unfold wT
  dsimp only
  rw[En,if_neg (by simp)]
  rfl
theorem IP{nv:Nat}{nc:Int}{line:List Int}{nr:Int}{x:Option (IT×Unit)}{r:Fin}(h:FRelI nv nc line nr x r)(s:ar)(hs:StI nv nc s)(hnr:0≤nr∧nr≤1000000):StG nv nc (iY s nr r).1∧(iY s nr r).2.length≤600∧Bt (iY s nr r).2:=by
 cases r with
 | err e =>
  have h1:=h.1
  exact⟨⟨hs.1,hs.2.1,hs.2.2.1,by show 0≤e;omega,by show e≤7;omega⟩,Nat.zero_le _,fun x hx=>by cases hx⟩
 | fin V C out =>
  obtain⟨_,g1,g2,g3,g4⟩:=h
  exact⟨⟨g1,g2,hnr,by show(0:Int)≤0;omega,by show(0:Int)≤7;omega⟩,g3⟩
def PrI(p:ap):Prop:=eZ p=true∧lD p
theorem PrI.nv{p:ap}(h:PrI p):p.Vars.length≤8:=by
 have h1:=h.1
 unfold eZ jt at h1
 simp only[Bool.and_eq_true,ab]at h1
 omega
theorem PrI.main{p:ap}(h:PrI p):OpsI p.Main p.Vars.length p.Cells.length:=by
 have h1:=h.1
 unfold eZ at h1
 simp only[Bool.and_eq_true]at h1
 exact⟨h1.2.2.2.2,h.2.2.2.2⟩
theorem PrI.start{p:ap}(h:PrI p):OpsI p.Start p.Vars.length p.Cells.length:=by
 have h1:=h.1
 unfold eZ at h1
 simp only[Bool.and_eq_true]at h1
 exact⟨h1.2.2.2.1,h.2.2.2.1⟩
theorem OpsI.pos{ops:List am}{nv:Nat}{nc:Int}(h:OpsI ops nv nc):0<(ops.length:Int):=by
 have h1:=h.1
 unfold eF at h1
 rw[Bool.and_eq_true,ab]at h1
 omega
theorem FRelI.ne{nv:Nat}{nc:Int}{line:List Int}{nr:Int}{x:Option (IT×Unit)}{r:Fin}(h:FRelI nv nc line nr x r):∀ e,r = .err e→e≠0:=by
 intro e he
 subst he
 have:=h.1
 omega
theorem StG.gi{nv:Nat}{nc:Int}{s:ar}(h:StG nv nc s)(hn:nv≤100000):iJ 2097152 s:=by
 obtain⟨⟨h1,h2⟩,⟨c1,c2,c3⟩,_⟩:=h
 unfold iJ
 refine⟨⟨by omega,fun v hv=>?_⟩,⟨by omega,fun c hc=>?_⟩⟩
 ·have:=(h2 v hv).bd.2
  unfold f7;omega
 ·obtain⟨_,_,g3,g4⟩:=c2 c hc
  have:=g4.bd.2
  unfold iH f7
  exact⟨by omega,by omega⟩
def fN(n:Nat):ar:=⟨List.replicate n aD,[],0,0⟩
theorem MQ(n:Nat)(h:n≤8):u6 (n:Int)=some (fN n,())∧xw (n:Int)=some (fN n,()):=by
 have h1:mnI (n:Int) 8=(n:Int):=by unfold mnI;rw[if_neg (by omega)]
 have h2:mxI 0 (n:Int)=(n:Int):=by unfold mxI;split <;> omega
 have h3:o8 (n:Int) 8=some ((n:Int),()):=by
  rw[EA]
  by_cases c:(n:Int)<8
  ·rw[ak c]
  ·rw[aj c,show(8:Int)=(n:Int) by omega]
 have h4:mO 0 (n:Int)=some ((n:Int),()):=by
  rw[xM]
  by_cases c:(0:Int)>(n:Int)
  ·omega
  ·rw[aj c]
 rw[J8,OS,h1,h2,h3,aa]
 dsimp only
 rw[h4,aa]
 dsimp only
 rw[if_pos ⟨by omega,by omega,by rw[aN];omega⟩,af]
 exact⟨rfl,rfl⟩
theorem MP(n:Nat)(nc:Int):StI n nc (fN n):=by
 refine⟨⟨List.length_replicate,fun v hv=>?_⟩,⟨by show 0≤40;omega,fun c hc=>(by cases hc),List.Pairwise.nil⟩,⟨by show(0:Int)≤0;omega,by show(0:Int)≤1000000;omega⟩,rfl⟩
 rw[(List.mem_replicate.1 hv).2];exact ny
noncomputable def jT(p:ap):ar×List Int:=iY (fN p.Vars.length) 0 (mD p.Start [] 0 20000 0 (fN p.Vars.length).Vars [] [] [])
theorem Fz{p:ap}(hp:PrI p):nX p=some ((jT p).1,(jT p).2,())∧xI p=some ((jT p).1,(jT p).2,())∧StG p.Vars.length p.Cells.length (jT p).1∧(jT p).2.length≤600∧Bt (jT p).2:=by
 have hnv:=hp.nv
 have hI:=MP p.Vars.length p.Cells.length
 have hv:(fN p.Vars.length).Vars.length≤100000:=by rw[hI.1.1];omega
 have hc:(fN p.Vars.length).Cells.length≤100000:=Nat.zero_le _
 have hL:gE [] 0:=⟨⟨Nat.zero_le _,fun x hx=>by cases hx⟩,by omega,by omega⟩
 have hV:VmI p.Vars.length (p.Cells.length:Int) (fN p.Vars.length).Vars [] [] []:=⟨hI.1,hI.2.1,⟨by simp,fun x hx=>by cases hx⟩,by simp,fun x hx=>by cases hx⟩
 have r1:=N8 (by omega) hp.start hL 20000 0 _ [] [] [] (Nat.le_refl _) ⟨Int.le_refl _,hp.start.pos⟩ hV
 have r2:=N9 (by omega) hp.start hL 20000 0 _ [] [] [] (Nat.le_refl _) ⟨Int.le_refl _,hp.start.pos⟩ hV
 have e1:=IM r1 (fN p.Vars.length) hv hc
 have e2:=IQ r2 r1.ne (fN p.Vars.length) hv hc
 have e3:=IP r1 (fN p.Vars.length) hI ⟨by omega,by omega⟩
 obtain⟨n1,n2⟩:=MQ p.Vars.length hnv
 rw[Be,Pu,Bb p hp.2,n1,n2]
 simp only[aa,hp.1,Bool.not_true,Bool.false_eq_true,if_false,qf hv hc,qg hv hc,Lc,Pq]
 exact⟨e1,e2,e3⟩
noncomputable def jS(p:ap):ar×List Int:=if eZ p=true then jT p else(⟨[],[],0,0⟩,[])
theorem Qu{p:ap}(hp:lD p):nX p=some ((jS p).1,(jS p).2,())∧xv p=some ((jS p).1,(jS p).2,()):=by
 unfold jS
 by_cases c:eZ p=true
 ·obtain⟨e1,e2,_⟩:=Fz ⟨c,hp⟩
  rw[if_pos c,Ef,Ee p hp]
  simp only[aa,c,Bool.not_true,Bool.false_eq_true,if_false,e2]
  exact⟨e1,trivial⟩
 ·have c':eZ p=false:=by simpa using c
  rw[if_neg c,Ef,Be,Ee p hp,Bb p hp]
  simp only[aa,c',Bool.not_false,if_true]
  exact⟨trivial,trivial⟩
end Go.Proofs.YtjglhackafgjiaaGreatDoor.E.TB
