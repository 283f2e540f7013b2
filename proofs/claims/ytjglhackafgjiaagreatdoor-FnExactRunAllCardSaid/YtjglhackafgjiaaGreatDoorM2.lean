/- What the pure statement needs (2). No condition. -/
import Derived.Test.YtjglhackafgjiaaGreatDoorM1
import Derived.Test.YtjglhackafgjiaaGreatDoorTAe1
import Derived.Test.YtjglhackafgjiaaGreatDoorTAe2
import Derived.Test.YtjglhackafgjiaaGreatDoorTAe3
namespace Go.Proofs.YtjglhackafgjiaaGreatDoor.E.TA
open Go.Proofs.YtjglhackafgjiaaGreatDoor.E
set_option linter.unusedVariables false
mutual
def bf:aq→Nat
 | ⟨_,_,_,_,ks⟩=>1+aZ ks
def aZ:List aq→Nat
 | []=>0
 | k::ks=>bf k+aZ ks
end
def um(st:List Int)(nt:Bool):Prop:=st.Pairwise (· < ·)∧(93∈st→∃ a b,st=a++([92,93,94]++b))∧st≠[]∧(nt=true∨st≠[94])∧st.length≤256∧∀ b∈st,0≤b∧b≤255
mutual
def SG:aq→Prop
 | ⟨op,_,st,nt,ks⟩=>((op=3∧um st nt)∨(op≠3∧st=[]∧nt=false))∧SGL ks
def SGL:List aq→Prop
 | []=>True
 | k::ks=>SG k∧SGL ks
end
theorem xg:∀ (l m:List aq),aZ (l++m)=aZ l+aZ m
 | [],m=>by simp[aZ]
 | k::l,m=>by rw[List.cons_append,aZ,aZ,xg l m];omega
theorem uk:∀ (l m:List aq),SGL (l++m)↔SGL l∧SGL m
 | [],m=>by simp[SGL]
 | k::l,m=>by rw[List.cons_append,SGL,SGL,uk l m,and_assoc]
theorem qt:∀ {l:List aq} {x:aq},SGL l→x∈l→SG x
 | k::l,x,h,hx=>by
  rw[SGL]at h
  rcases List.mem_cons.1 hx with rfl | hx
  ·exact h.1
  ·exact qt h.2 hx
theorem pd:∀ {l:List aq} {x:aq},x∈l→bf x≤aZ l
 | k::l,x,hx=>by
  rw[aZ]
  rcases List.mem_cons.1 hx with rfl | hx
  ·omega
  ·have:=pd hx;omega
theorem la(x:aq):1≤bf x:=by obtain⟨a,b,c,d,ks⟩:=x;rw[bf];omega
theorem pb:∀ (l:List aq),l.length≤aZ l
 | []=>Nat.zero_le _
 | k::l=>by rw[aZ,List.length_cons];have:=pb l;have:=la k;omega
theorem ob(n:Nat):∀ (f:List Bool) (j i:Nat),i<f.length→(cT f j n).getD i false=(decide (j≤i∧i<j+n)||f.getD i false):=by
 induction n with
 | zero=>intro f j i hi;rw[show decide (j≤i∧i<j+0)=false from ae (by omega)];rfl
 | succ n ih =>
  intro f j i hi
  unfold cT
  rw[ih _ _ _ (by rw[List.length_set];exact hi)]
  by_cases h:j=i
  ·subst h
   rw[ma hi,Bool.or_true,show decide (j≤j∧j<j+(n+1))=true from ac (by omega),Bool.true_or]
  ·rw[List.getD_eq_getElem?_getD,List.getElem?_set_ne h,← List.getD_eq_getElem?_getD]
   congr 1
   exact decide_eq_decide.2 (by omega)
theorem Q7(n:Nat):∀ (l:List Int) (f:List Bool) (b:Bool) (i:Nat),i<f.length→f.getD i false=true→(bA n l f b).1.getD i false=true:=by
 induction n with
 | zero=>intro l f b i hi h;exact h
 | succ n ih =>
  intro l f b i hi h
  have go:∀ (t:List Int) (j k:Nat) (b':Bool),(bA n t (cT f j k) b').1.getD i false=true:=fun t j k b' =>
   ih _ _ _ _ (by rw[fJ];exact hi) (by rw[ob _ _ _ _ hi,h,Bool.or_true])
  match l with
  | []=>exact h
  | [lo]=>exact go _ _ _ _
  | [lo,d]=>exact go _ _ _ _
  | lo::d::hi'::u =>
   show(if d=45 then _ else _:List Bool×Bool).1.getD i false=true
   split
   ·exact go _ _ _ _
   ·exact go _ _ _ _
theorem Q5(n:Nat):∀ (l:List Int) (f:List Bool),(bA n l f true).2=true:=by
 induction n with
 | zero=>intro l f;rfl
 | succ n ih =>
  intro l f
  match l with
  | []=>rfl
  | [lo]=>exact ih _ _
  | [lo,d]=>exact ih _ _
  | lo::d::hi'::u =>
   show(if d=45 then _ else _:List Bool×Bool).2=true
   split
   ·exact ih _ _
   ·exact ih _ _
theorem Q6(n:Nat)(lo:Int)(t:List Int)(f:List Bool)(hf:f.length=256)(h0:0≤lo)(h1:lo≤255)(hb:(bA (n+1) (lo::t) f false).2=false):(bA (n+1) (lo::t) f false).1.getD lo.toNat false=true:=by
 have go:∀ (t:List Int) (k:Nat) (b':Bool),0<k→(bA n t (cT f lo.toNat k) b').1.getD lo.toNat false=true:=fun t k b' hk =>
  Q7 n _ _ _ _ (by rw[fJ];omega) (by rw[ob _ _ _ _ (by omega),ac (by omega),Bool.true_or])
 match t,hb with
 | [],hb=>exact go _ _ _ (by omega)
 | [d],hb=>exact go _ _ _ (by omega)
 | d::hi::u,hb =>
  by_cases c:d=45
  ·subst c
   rw[th]at hb ⊢
   by_cases c2:hi<lo
   ·rw[ac c2,Bool.or_true,Q5]at hb;cases hb
   ·exact go _ _ _ (by omega)
  ·rw[ti _ _ _ _ _ (fun hi' u' e=>c (List.cons.inj e).1)]at hb ⊢
   exact go _ _ _ (by omega)
def Nb(f:List Bool):Prop:=f.getD 93 false=true→f.getD 92 false=true∧f.getD 94 false=true
theorem JQ{f:List Bool}(hf:f.length=256)(h:Nb f){lo hi:Int}(h0:0≤lo)(h1:lo≠93)(h2:hi≠93):Nb (cT f lo.toNat (hi+1-lo).toNat):=by
 intro h3
 rw[ob _ _ _ _ (by omega),Bool.or_eq_true,ab]at h3
 rw[ob _ _ _ _ (by omega),ob _ _ _ _ (by omega)]
 rcases h3 with h3 | h3
 ·rw[ac (by omega),ac (by omega)];exact⟨rfl,rfl⟩
 ·rw[(h h3).1,(h h3).2,Bool.or_true,Bool.or_true];exact⟨rfl,rfl⟩
theorem Q8(n:Nat):∀ (l:List Int) (f:List Bool) (b:Bool),f.length=256→(∀ x∈l,0≤x∧x≠93)→Nb f→Nb (bA n l f b).1:=by
 induction n with
 | zero=>intro l f b hf hl h;exact h
 | succ n ih =>
  intro l f b hf hl h
  have go:∀ (lo hi:Int) (t:List Int) (b':Bool),lo∈l→hi∈l→(∀ x∈t,x∈l)→Nb (bA n t (cT f lo.toNat (hi+1-lo).toNat) b').1:=fun lo hi t b' h1 h2 h3 =>
   ih _ _ _ (by rw[fJ];exact hf) (fun x hx=>hl x (h3 x hx)) (JQ hf h (hl _ h1).1 (hl _ h1).2 (hl _ h2).2)
  match l with
  | []=>exact h
  | [lo]=>exact go lo lo _ _ (by simp) (by simp) (by simp)
  | [lo,d]=>exact go lo lo _ _ (by simp) (by simp) (by simp)
  | lo::d::hi'::u =>
   by_cases c:d=45
   ·subst c
    rw[th]
    exact go lo hi' _ _ (by simp) (by simp) (fun x hx=>by simp[hx])
   ·rw[ti _ _ _ _ _ (fun hi'' u' e=>c (List.cons.inj e).1)]
    exact go lo lo _ _ (by simp) (by simp) (fun x hx=>List.mem_cons_of_mem _ hx)
def marks(f:List Bool)(j n:Nat):List Int:=((List.range' j n).filter fun i=>f.getD i false).map Int.ofNat
theorem Jc(f:List Bool):∀ (n j:Nat) (t:List Int),j+n≤256→jb f j n t=t++marks f j n:=by
 intro n
 induction n with
 | zero=>intro j t h;show t=t++[];simp
 | succ n ih =>
  intro j t h
  unfold jb
  rw[ih _ _ (by omega)]
  unfold marks
  rw[List.range'_succ,List.filter_cons]
  split
  ·rw[List.map_cons,yV (by omega) (by omega),ah];rfl
  ·rfl
theorem marks_mem{f:List Bool}{j n:Nat}{x:Int}:x∈marks f j n ↔ ∃ i:Nat,x=i∧j≤i∧i<j+n∧f.getD i false=true:=by
 unfold marks
 rw[List.mem_map]
 constructor
 ·rintro ⟨i,hi,rfl⟩
  rw[List.mem_filter,List.mem_range'_1]at hi
  exact⟨i,rfl,hi.1.1,hi.1.2,hi.2⟩
 ·rintro ⟨i,rfl,h1,h2,h3⟩
  exact⟨i,List.mem_filter.2 ⟨List.mem_range'_1.2 ⟨h1,h2⟩,h3⟩,rfl⟩
theorem Du(f:List Bool)(j n:Nat):(marks f j n).length≤n:=by
 unfold marks
 rw[List.length_map]
 exact Nat.le_trans (List.length_filter_le ..) (by rw[List.length_range'];exact Nat.le_refl _)
theorem xa(f:List Bool)(j n:Nat):(marks f j n).Pairwise (· < ·):=by
 unfold marks
 rw[List.pairwise_map]
 exact((List.pairwise_lt_range' (s:=j) (n:=n)).filter _).imp fun h=>by show(_:Int)<_;exact Int.ofNat_lt.2 h
theorem xc(f:List Bool)(j n m:Nat):marks f j (n+m)=marks f j n++marks f (j+n) m:=by
 unfold marks
 rw[← List.range'_append_1,List.filter_append,List.map_append]
theorem Q3{u:List Int}{nt:Bool}(hb:∀ b∈u,0≤b∧b≤255)(hn:nt=false→∀ v,u≠94::v)(hg:(dL u nt).2.bad=false):bf (dL u nt).1=1∧SG (dL u nt).1∧(dL u nt).2.s.length+2≤u.length:=by
 unfold dL at hg ⊢
 by_cases c:(aM u).length=u.length∨aM u=[]
 ·rw[if_pos c]at hg;cases hg
 ·rw[if_neg c]at hg ⊢
  have c1:¬ (aM u).length=u.length:=fun h=>c (.inl h)
  have c2:aM u≠[]:=fun h=>c (.inr h)
  have hl:=ux u
  have hl1:0<(aM u).length:=List.length_pos_iff.2 c2
  refine⟨rfl,?_,by rw[List.length_drop];omega⟩
  rw[SG]
  refine⟨.inl ⟨rfl,?_⟩,trivial⟩
  rw[Jc _ _ _ _ (by omega),List.nil_append]
  have hbB:∀ x∈aM u,0≤x∧x≤255:=fun x hx=>hb x ((List.takeWhile_sublist _).subset hx)
  have h93:∀ x∈aM u,x≠93:=fun x hx=>by
   have:=List.all_eq_true.1 (List.all_takeWhile (p:=n93) (l:=u)) x hx
   unfold n93 at this
   simpa using this
  have hnb:=Q8 (aM u).length (aM u) (List.replicate 256 false) false List.length_replicate (fun x hx=>⟨(hbB x hx).1,h93 x hx⟩) (fun h=>absurd h (by decide))
  obtain⟨lo,t,e⟩:=List.exists_cons_of_ne_nil c2
  have hfirst:(bA (aM u).length (aM u) (List.replicate 256 false) false).1.getD lo.toNat false=true:=by
   rw[e,List.length_cons]
   have hlo:=hbB lo (by rw[e];exact List.mem_cons_self ..)
   refine Q6 _ _ _ _ List.length_replicate hlo.1 hlo.2 ?_
   rw[e,List.length_cons]at hg
   exact hg
  generalize (bA (aM u).length (aM u) (List.replicate 256 false) false).1=f at hnb hfirst
  have hlo:=hbB lo (by rw[e];exact List.mem_cons_self ..)
  have hlom:lo∈marks f 0 256:=marks_mem.2 ⟨lo.toNat,by omega,by omega,by omega,hfirst⟩
  refine⟨xa _ _ _,fun h=>?_,(fun h=>by rw[h]at hlom;cases hlom),?_,Du _ _ _,fun b hb=>by obtain⟨i,rfl,h1,h2,_⟩:=marks_mem.1 hb;omega⟩
  ·obtain⟨i,e1,_,_,e2⟩:=marks_mem.1 h
   have:i=93:=by omega
   subst this
   have h2:=hnb e2
   refine⟨marks f 0 92,marks f 95 161,?_⟩
   rw[show 256=92+(3+161)from rfl,xc,xc]
   congr 1
   congr 1
   unfold marks
   simp only[List.range',List.filter_cons,h2.1,h2.2,e2,if_true]
   rfl
  ·cases nt with
   | true=>exact .inl rfl
   | false =>
    refine .inr fun h=>?_
    rw[h,List.mem_singleton]at hlom
    subst hlom
    have:u=94::u.drop 1:=by
     match u,e with
     | a::u',e =>
      by_cases ha:a=93
      ·rw[ha,ky]at e;cases e
      ·rw[gR ha]at e;rw[(List.cons.inj e).1];rfl
    exact hn rfl _ this
theorem LV(s:List Int)(h:By s){x:aq}{r:av}(e:mi ⟨s,false⟩=some (x,r,()))(hg:r.bad=false):bf x=1∧SG x∧r.s.length+2≤s.length:=by
 obtain⟨nt,k,e1,hk⟩:=yN s
 have hu:By (s.drop k):=h.suf (List.drop_suffix _ _)
 have e2:=we _ nt hu.1 hu.2 s e1
 rw[e2]at e
 obtain⟨rfl,rfl⟩:(dL (s.drop k) nt).1=x∧(dL (s.drop k) nt).2=r:=by
  have:=Option.some.inj e
  exact⟨congrArg Prod.fst this,congrArg (fun z=>z.2.1) this⟩
 have h3:=Q3 hu.2 (fun hn v hv=>by
  rcases hk with ⟨h1,_⟩ | ⟨_,h2,h3⟩
  ·rw[hn]at h1;cases h1
  ·subst h2;exact h3 v hv) hg
 exact⟨h3.1,h3.2.1,by have:=h3.2.2;rw[List.length_drop]at this;omega⟩
def GP(F:av→Option (aq×av×Unit))(s:List Int)(k:Nat):Prop :=
 ∀ x r,F ⟨s,false⟩=some (x,r,())→r.bad=false→bf x+2*r.s.length+2*k≤2*s.length+1∧SG x
theorem dE{α β:Type}{a a':α}{b b':β}(h:some (a,b,())=some (a',b',())):a=a'∧b=b':=by
 have:=Option.some.inj h
 exact⟨congrArg Prod.fst this,congrArg (fun z=>z.2.1) this⟩
theorem kq{op c:Int}(h:op≠3):SG ⟨op,c,[],false,[]⟩:=by rw[SG];exact⟨.inr ⟨h,rfl,rfl⟩,trivial⟩
theorem DF{op c:Int}{st:List Int}{nt:Bool}:bf ⟨op,c,st,nt,[]⟩=1:=rfl
theorem KZ(b:Int)(s:List Int)(h:By (b::s))(hp:GP eE s 0)(ht:cr eE s false 0):GP ia (b::s) 1:=by
 have hs:By s:=h.suf (List.suffix_cons b s)
 intro x r e hg
 rw[v7,dI,aa]at e
 dsimp only at e
 rw[if_pos (by simp;omega),kE]at e
 have leaf:∀ (y:aq) (bad:Bool),some (y,(⟨s,bad⟩:av),())=some (x,r,())→(bad=false→bf y=1∧SG y)→bf x+2*r.s.length+2*1≤2*(b::s).length+1∧SG x:=fun y bad e1 h1=>by
  obtain⟨rfl,rfl⟩:=dE e1
  obtain⟨h2,h3⟩:=h1 hg
  rw[h2,List.length_cons]
  exact⟨by dsimp only;omega,h3⟩
 by_cases c1:b=40
 ·rw[ak c1]at e
  obtain⟨y,r1,f,f1,f2,f3,f4⟩:=ht
  have hp1:=hp y r1 f
  rw[f,aa]at e
  dsimp only at e
  rcases fh r1 with hr | ⟨a,t,hr⟩
  ·rw[eO hr,aa]at e;dsimp only at e
   rw[if_pos (by simp)]at e
   obtain⟨rfl,rfl⟩:=dE e
   cases hg
  ·subst hr
   by_cases ha:a=41
   ·subst ha
    rw[iJ,aa]at e;dsimp only at e
    rw[if_neg (by simp)]at e
    obtain⟨rfl,rfl⟩:=dE e
    obtain⟨g1,g2⟩:=hp1 rfl
    refine⟨?_,g2⟩
    simp only[List.length_cons]at g1 ⊢;omega
   ·rw[iI ha,aa]at e;dsimp only at e
    rw[if_pos (by simp)]at e
    obtain⟨rfl,rfl⟩:=dE e
    cases hg
 rw[aj c1]at e
 by_cases c2:b=46
 ·rw[ak c2]at e;exact leaf _ _ e fun _=>⟨rfl,kq (by decide)⟩
 rw[aj c2]at e
 by_cases c3:b=94
 ·rw[ak c3]at e;exact leaf _ _ e fun _=>⟨rfl,kq (by decide)⟩
 rw[aj c3]at e
 by_cases c4:b=36
 ·rw[ak c4]at e;exact leaf _ _ e fun _=>⟨rfl,kq (by decide)⟩
 rw[aj c4]at e
 by_cases c5:b=91
 ·rw[ak c5]at e
  obtain⟨y,r1,f,f1,f2⟩:=Cy s hs
  have hp1:=LV s hs f
  rw[f,aa]at e
  dsimp only at e
  obtain⟨rfl,rfl⟩:=dE e
  obtain⟨g1,g2,g3⟩:=hp1 hg
  refine⟨?_,g2⟩
  rw[g1,List.length_cons];omega
 rw[aj c5]at e
 by_cases c6:b=92
 ·rw[ak c6]at e
  cases s with
  | nil =>
   rw[cP (.inl rfl),aa]at e;dsimp only at e;rw[if_pos (by simp)]at e
   exact leaf _ _ e fun h=>by cases h
  | cons a t =>
   rw[dI,aa]at e;dsimp only at e
   rw[if_neg (by simp),if_pos (by simp;omega),nV]at e
   obtain⟨rfl,rfl⟩:=dE e
   exact⟨by rw[DF];simp only[List.length_cons];omega,kq (by decide)⟩
 rw[aj c6]at e
 have l1:∀ (t:Bool),mg b t ⟨s,false⟩ aL=some (x,r,())→bf x+2*r.s.length+2*1≤2*(b::s).length+1∧SG x:=fun t e=>by
  rw[mh]at e
  cases t with
  | true=>rw[if_pos rfl]at e;exact leaf _ _ e fun h=>by cases h
  | false=>rw[if_neg (by simp)]at e;exact leaf _ _ e fun _=>⟨rfl,kq (by decide)⟩
 by_cases c7:b=42
 ·rw[ak c7]at e;exact l1 _ e
 rw[aj c7]at e
 by_cases c8:b=43
 ·rw[ak c8]at e;exact l1 _ e
 rw[aj c8]at e
 exact l1 _ e
theorem HT{x:aq}{op:Int}(h:op≠3)(hx:SG x):SG ⟨op,0,[],false,[x]⟩:=by rw[SG,SGL,SGL];exact⟨.inr ⟨h,rfl,rfl⟩,hx,trivial⟩
theorem LE(z:aq):∀ (n:Nat) (r r':av) (x y:aq),r.s.length≤n→ju r z x=some (y,r',())→r'.bad=false→SG x→bf y+2*r'.s.length≤bf x+2*r.s.length∧SG y:=by
 intro n
 induction n with
 | zero =>
  intro r r' x y hn e hg hx
  rw[ie,cP (.inl (List.length_eq_zero_iff.1 (by omega))),aa]at e
  dsimp only at e
  rw[if_pos (by simp)]at e
  obtain⟨rfl,rfl⟩:=dE e
  exact⟨Nat.le_refl _,hx⟩
 | succ n ih =>
  intro r r' x y hn e hg hx
  rw[ie]at e
  rcases fh r with hr | ⟨b,s,rfl⟩
  ·rw[cP hr,aa]at e
   dsimp only at e
   rw[if_pos (by simp)]at e
   obtain⟨rfl,rfl⟩:=dE e
   exact⟨Nat.le_refl _,hx⟩
  ·obtain⟨v,e0,hv⟩:=sk b
   rw[dI,aa]at e
   dsimp only at e
   rw[if_neg (by simp),e0,aa]at e
   dsimp only at e
   by_cases c:v=0
   ·rw[ak c]at e
    obtain⟨rfl,rfl⟩:=dE e
    exact⟨Nat.le_refl _,hx⟩
   ·rw[aj c,if_pos (by simp;omega),aa]at e
    dsimp only at e
    rw[kE]at e
    obtain⟨g1,g2⟩:=ih ⟨s,false⟩ r' _ y (by simp at hn ⊢;omega) e hg (HT (by rcases hv with h | h | h | h <;> omega) hx)
    refine⟨?_,g2⟩
    rw[bf,aZ,aZ]at g1
    simp only[List.length_cons]at g1 ⊢;omega
theorem LH(b:Int)(s:List Int)(h:GP ia (b::s) 1)(ht:cr ia (b::s) false 1):GP eF (b::s) 1:=by
 intro x r e hg
 obtain⟨y,r1,f,f1,f2,f3,f4⟩:=ht
 rw[v8,f,aa]at e
 have hb:r1.bad=false:=by
  obtain⟨y',r',q1,q2,q3⟩:=Cl aL _ r1 y (Nat.le_refl _)
  rw[q1]at e
  obtain⟨rfl,rfl⟩:=dE e
  cases hb:r1.bad with
  | false=>rfl
  | true=>rw[q3 hb]at hg;cases hg
 obtain⟨g1,g2⟩:=h y r1 f hb
 obtain⟨g3,g4⟩:=LE aL _ r1 r y x (Nat.le_refl _) e hg g2
 exact⟨by omega,g4⟩
theorem Bb{l:List aq}(hl:l.length=1):l=[l.getD 0 aL]:=by
 match l,hl with
 | [x],_=>rfl
theorem DT{l:List aq}(h:SGL l):bf (eL l)≤aZ l+1∧SG (eL l):=by
 unfold eL
 by_cases c:l.length=0
 ·rw[if_pos c];exact⟨by rw[DF];omega,kq (by decide)⟩
 ·rw[if_neg c]
  by_cases d:l.length=1
  ·rw[if_pos d]
   have e:=Bb d
   have e1:aZ l=bf (l.getD 0 aL):=by rw[e,aZ,aZ];rfl
   exact⟨by omega,by rw[e,SGL]at h;exact h.1⟩
  ·rw[if_neg d];exact⟨by rw[bf];omega,by rw[SG];exact⟨.inr ⟨by decide,rfl,rfl⟩,h⟩⟩
theorem DY{l:List aq}(hl:1≤l.length)(h:SGL l):bf (en l)≤aZ l+1∧(2≤l.length∨bf (en l)=aZ l)∧SG (en l):=by
 unfold en
 by_cases d:l.length=1
 ·rw[if_pos d]
  have e:=Bb d
  have e1:aZ l=bf (l.getD 0 aL):=by rw[e,aZ,aZ];rfl
  exact⟨by omega,.inr e1.symm,by rw[e,SGL]at h;exact h.1⟩
 ·rw[if_neg d];exact⟨by rw[bf];omega,.inl (by omega),by rw[SG];exact⟨.inr ⟨by decide,rfl,rfl⟩,h⟩⟩
theorem ut{a b:Bool}(h:a=true→b=true)(hb:b=false):a=false:=by
 cases a with
 | false=>rfl
 | true=>rw[h rfl]at hb;cases hb
theorem LB(z:aq)(N:Nat)(hp:∀ b s,(b::s).length≤N→By (b::s)→GP eF (b::s) 1)(S:Nat) :
  ∀ (n:Nat) (r r':av) (l:List aq) (y:aq),r.s.length≤n→n≤N→By r.s→l.length+n≤60→jr l r z=some (y,r',())→r'.bad=false→SGL l→aZ l+l.length+2*r.s.length≤2*S→bf y+2*r'.s.length≤2*S+1∧SG y:=by
 intro n
 induction n with
 | zero =>
  intro r r' l y hn hN hb hl e hg hx hs
  rw[ib,cP (.inl (List.length_eq_zero_iff.1 (by omega))),aa]at e
  dsimp only at e
  rw[if_pos (by simp),cD]at e
  obtain⟨rfl,rfl⟩:=dE e
  obtain⟨g1,g3⟩:=DT hx
  exact⟨by omega,g3⟩
 | succ n ih =>
  intro r r' l y hn hN hb hl e hg hx hs
  rw[ib]at e
  have stop:∀ r,some (eL l,r,())=some (y,r',())→aZ l+l.length+2*r.s.length≤2*S→bf y+2*r'.s.length≤2*S+1∧SG y:=fun r e hs=>by
   obtain⟨rfl,rfl⟩:=dE e
   obtain⟨g1,g3⟩:=DT hx
   exact⟨by omega,g3⟩
  rcases fh r with hr | ⟨b,s,rfl⟩
  ·rw[cP hr,aa]at e
   dsimp only at e
   rw[if_pos (by simp),cD]at e
   exact stop _ e hs
  ·rw[dI,aa]at e
   dsimp only at e
   rw[if_neg (by simp)]at e
   by_cases c1:b=124
   ·rw[ak c1,cD]at e;exact stop _ e hs
   rw[aj c1]at e
   by_cases c2:b=41
   ·rw[ak c2,cD]at e;exact stop _ e hs
   rw[aj c2]at e
   obtain⟨x1,r1,f,f1,f2,f3,f4⟩:=(jo _).1 b s (Nat.le_refl _) hb
   have g:=hp b s (by have:(b::s).length≤n+1:=hn;omega) hb x1 r1 f
   rw[f,aa]at e
   dsimp only at e
   rw[if_pos (by rw[aN];omega)]at e
   have hn':(b::s).length≤n+1:=hn
   have h2:r1.s.length≤n:=by omega
   have hll:(List.append l [x1]).length=l.length+1:=by show(l++[x1]).length=_;simp
   obtain⟨y2,r2,q1,q2,q3⟩:=DW z r1 (hb.suf f1) (List.append l [x1]) (by omega)
   rw[q1]at e
   obtain⟨rfl,rfl⟩:=dE e
   obtain⟨g1,g2⟩:=g (ut q3 hg)
   refine ih r1 r2 _ y2 h2 (by omega) (hb.suf f1) (by omega) q1 hg ((uk l [x1]).2 ⟨hx,by rw[SGL];exact⟨g2,trivial⟩⟩) ?_
   rw[hll,show aZ (List.append l [x1])=aZ l+(bf x1+0)from xg l [x1]]
   have hs':aZ l+l.length+2*(b::s).length≤2*S:=hs
   omega
theorem LC(z:aq)(N:Nat)(hp:∀ s,s.length≤N→By s→GP fb s 0)(S:Nat) :
  ∀ (n:Nat) (r r':av) (l:List aq) (y:aq),r.s.length≤n→n≤N→By r.s→1≤l.length→l.length+n≤61→jt l r z=some (y,r',())→r'.bad=false→SGL l→aZ l+(l.length-1)+2*r.s.length≤2*S+1→bf y+2*r'.s.length≤2*S+1∧SG y:=by
 intro n
 induction n with
 | zero =>
  intro r r' l y hn hN hb h1 hl e hg hx hs
  rw[ic,eO (.inl (List.length_eq_zero_iff.1 (by omega))),aa]at e
  dsimp only at e
  rw[if_neg (by simp),dJ]at e
  obtain⟨rfl,rfl⟩:=dE e
  obtain⟨g1,g2,g3⟩:=DY h1 hx
  exact⟨by omega,g3⟩
 | succ n ih =>
  intro r r' l y hn hN hb h1 hl e hg hx hs
  rw[ic]at e
  have stop:∀ r,some (en l,r,())=some (y,r',())→aZ l+(l.length-1)+2*r.s.length≤2*S+1→bf y+2*r'.s.length≤2*S+1∧SG y:=fun r e hs=>by
   obtain⟨rfl,rfl⟩:=dE e
   obtain⟨g1,g2,g3⟩:=DY h1 hx
   exact⟨by omega,g3⟩
  rcases fh r with hr | ⟨b,s,rfl⟩
  ·rw[eO hr,aa]at e
   dsimp only at e
   rw[if_neg (by simp),dJ]at e
   exact stop _ e hs
  ·by_cases c1:b=124
   ·subst c1
    rw[iJ,aa]at e
    dsimp only at e
    have hbs:By s:=hb.suf (List.suffix_cons _ _)
    have hn':s.length≤n:=by have:(124::s).length≤n+1:=hn;simp only[List.length_cons]at this;omega
    obtain⟨x1,r1,f,f1,f2,f3,f4⟩:=(jo _).2 s false (Nat.le_refl _) hbs
    have g:=hp s (by omega) hbs x1 r1 f
    rw[if_pos rfl,f,aa]at e
    dsimp only at e
    rw[if_pos (by rw[aN];omega)]at e
    have hll:(List.append l [x1]).length=l.length+1:=by show(l++[x1]).length=_;simp
    obtain⟨y2,r2,q1,q2,q3⟩:=sd z r1 (hbs.suf f1) (List.append l [x1]) (by omega)
    rw[q1]at e
    obtain⟨rfl,rfl⟩:=dE e
    obtain⟨g1,g2⟩:=g (ut q3 hg)
    refine ih r1 r2 _ y2 (by omega) (by omega) (hbs.suf f1) (by omega) (by omega) q1 hg ((uk l [x1]).2 ⟨hx,by rw[SGL];exact⟨g2,trivial⟩⟩) ?_
    rw[hll,show aZ (List.append l [x1])=aZ l+(bf x1+0)from xg l [x1]]
    have hs':aZ l+(l.length-1)+2*(s.length+1)≤2*S+1:=hs
    omega
   ·rw[iI c1,aa]at e
    dsimp only at e
    rw[if_neg (by simp),dJ]at e
    exact stop _ e hs
theorem Ci(N:Nat)(hp:∀ b s,(b::s).length≤N→By (b::s)→GP eF (b::s) 1)(s:List Int)(h:s.length≤N)(hs:By s):GP fb s 0:=by
 intro x r e hg
 rw[oH]at e
 obtain⟨g1,g2⟩:=LB aL N hp s.length s.length ⟨s,false⟩ r [] x (Nat.le_refl _) h hs (by have:=hs.1;simp;omega) e hg trivial (by simp[aZ])
 exact⟨by omega,g2⟩
theorem Ck(N:Nat)(hp:∀ s,s.length≤N→By s→GP fb s 0)(s:List Int)(h:s.length≤N)(hs:By s):GP eE s 0:=by
 intro x r e hg
 have h60:=hs.1
 obtain⟨x1,r1,f,f1,f2,f3,f4⟩:=(jo _).2 s false (Nat.le_refl _) hs
 rw[rA,f,aa]at e
 dsimp only at e
 obtain⟨y2,r2,q1,q2,q3⟩:=sd aL r1 (hs.suf f1) [x1] (by simp;omega)
 rw[q1]at e
 obtain⟨rfl,rfl⟩:=dE e
 obtain⟨g1,g2⟩:=hp s h hs x1 r1 f (ut q3 hg)
 obtain⟨g3,g4⟩:=LC aL N hp s.length r1.s.length r1 r2 [x1] y2 (Nat.le_refl _) (by omega) (hs.suf f1) (Nat.le_refl _) (by simp;omega) q1 hg (by rw[SGL];exact⟨g2,trivial⟩) (by rw[aZ,aZ];simp;omega)
 exact⟨by omega,g4⟩
theorem LD:∀ (n:Nat) (s:List Int),s.length≤n→By s→GP eE s 0:=by
 intro n
 induction n with
 | zero =>
  intro s hn hs
  exact Ck 0 (fun s h hs=>Ci 0 (fun b s h=>by simp at h) s h hs) s hn hs
 | succ n ih =>
  intro s hn hs
  have hpiece:∀ b s,(b::s).length≤n+1→By (b::s)→GP eF (b::s) 1:=fun b s h hs=>by
   have hs':By s:=hs.suf (List.suffix_cons _ _)
   have ht:=oO _ s false (Nat.le_refl _) hs'
   exact LH b s (KZ b s hs (ih s (by simpa using h) hs') ht) (rl b s hs ht)
  exact Ck (n+1) (fun s h hs=>Ci (n+1) hpiece s h hs) s hn hs
theorem OQ(S:List Int)(hB:∀ b∈S,0≤b∧b≤255)(hl:S.length≤9223372036854775807):∃ x ok,lq S=some (x,ok,())∧me S=some (x,ok,())∧bf x≤121∧SG x∧Small x∧∃ v,v≤12∧gJ x=some (v,())∧gw x=some (v,()):=by
 obtain⟨x,ok,e1,e2⟩:=Eq S hB hl
 refine⟨x,ok,e1,e2,?_⟩
 have hz:bf aL≤121∧SG aL∧Small aL:=⟨by decide,kq (by decide),pW rfl⟩
 have hzd:∃ v,v≤12∧gJ aL=some (v,())∧gw aL=some (v,()):=by
  obtain⟨v,d1,d2⟩:=uN hz.2.2
  refine⟨v,?_,d1,d2⟩
  rw[Fz,yt,if_neg (by decide)]at d1
  have:=congrArg Prod.fst (Option.some.inj d1)
  revert this
  show(w64 (0+1)=v→v≤12)
  rw[aF (by omega) (by omega)];omega
 rw[BN]at e2
 by_cases c:(S.length:Int)>60
 ·rw[ak c]at e2
  have:=congrArg Prod.fst (Option.some.inj e2)
  dsimp only at this
  rw[← this];exact⟨hz.1,hz.2.1,hz.2.2,hzd⟩
 have n1:¬ (decide ((S.length:Int)>60)=true):=by rw[ab];exact c
 have hS:By S:=⟨by omega,hB⟩
 obtain⟨y,r,g,g1,g2,g3,g4⟩:=oO _ S false (Nat.le_refl _) hS
 have gg:=LD _ S (Nat.le_refl _) hS y r g
 rw[if_neg n1,g,aa]at e2
 dsimp only at e2
 have zz:∀ ok',some (aL,ok',())=some (x,ok,())→bf x≤121∧SG x∧Small x∧∃ v,v≤12∧gJ x=some (v,())∧gw x=some (v,()):=fun ok' h=>by
  have:=congrArg Prod.fst (Option.some.inj h)
  dsimp only at this
  rw[← this];exact⟨hz.1,hz.2.1,hz.2.2,hzd⟩
 by_cases c1:r.bad=true
 ·rw[if_pos c1]at e2;exact zz _ e2
 rw[if_neg c1]at e2
 by_cases c2:(!(decide (r.s=[])))=true
 ·rw[if_pos c2]at e2;exact zz _ e2
 obtain⟨v,d1,d2⟩:=uN g4
 rw[if_neg c2,d2,aa]at e2
 dsimp only at e2
 by_cases hv:v>12
 ·rw[ak hv]at e2;exact zz _ e2
 ·rw[aj hv]at e2
  have:=congrArg Prod.fst (Option.some.inj e2)
  dsimp only at this
  subst this
  obtain⟨h1,h2⟩:=gg (by simpa using c1)
  exact⟨by have:=hS.1;omega,h2,g4,v,by omega,d1,d2⟩
theorem wu(t:List Int):∀ l:List Int,0≤bc l t↔t <:+: l
 | []=>by
  unfold bc
  cases t with
  | nil=>simp
  | cons a t=>simp
 | b::l=>by
  have ih:=wu t l
  have hb:=jB l t
  unfold bc
  rw[List.infix_cons_iff]
  by_cases c:t.isPrefixOf (b::l)=true
  ·rw[if_pos c];exact⟨fun _=>.inl (List.isPrefixOf_iff_prefix.1 c),fun _=>Int.le_refl _⟩
  ·rw[if_neg c]
   have c':¬ t <+: b::l:=fun h=>c (List.isPrefixOf_iff_prefix.2 h)
   by_cases d:bc l t = -1
   ·rw[if_pos d]
    exact⟨fun h=>by omega,fun h=>by rcases h with h | h;exact absurd h c';exact absurd (ih.2 h) (by omega)⟩
   ·rw[if_neg d]
    exact⟨fun h=>.inr (ih.1 (by omega)),fun h=>by rcases h with h | h;exact absurd h c';have:=ih.2 h;omega⟩
theorem Ak(l t:List Int)(h:l.length≤1000000):tQ l t=some (decide (t <:+: l),()):=by
 rw[Sv,zf,if_pos (by omega),aa]
 dsimp only
 congr 2
 exact decide_eq_decide.2 (wu t l)
mutual
def dp:aq→Nat
 | ⟨_,_,_,_,ks⟩=>1+dpL ks
def dpL:List aq→Nat
 | []=>0
 | k::ks=>max (dp k) (dpL ks)
end
theorem uS(x:aq):dp x=1+dpL x.Kids:=by obtain⟨a,b,c,d,ks⟩:=x;rw[dp]
theorem pc(x:aq):bf x=1+aZ x.Kids:=by obtain⟨a,b,c,d,ks⟩:=x;rw[bf]
theorem ul(x:aq):SG x↔((x.Op=3∧um x.Set x.Not)∨(x.Op≠3∧x.Set=[]∧x.Not=false))∧SGL x.Kids:=by obtain⟨a,b,c,d,ks⟩:=x;rw[SG]
theorem uR:∀ {l:List aq} {x:aq},x∈l→dp x≤dpL l
 | k::l,x,hx=>by
  rw[dpL]
  rcases List.mem_cons.1 hx with rfl | hx
  ·omega
  ·have:=uR hx;omega
theorem JA:∀ (n:Nat) (x:aq),bf x≤n→n≤1000000→gw x=some ((dp x:Int),()):=by
 intro n
 induction n with
 | zero=>intro x h;have:=la x;omega
 | succ n ih =>
  intro x h hn
  rw[pc]at h
  have hlen:=pb x.Kids
  have hdp:∀ l:List aq,dpL l≤aZ l:=fun l=>by
   have:∀ (m:Nat),(∀ x:aq,bf x≤m→dp x≤bf x)∧∀ l:List aq,aZ l≤m→dpL l≤aZ l:=by
    intro m
    induction m with
    | zero=>exact⟨fun x h=>by have:=la x;omega,fun l h=>by cases l with | nil=>exact Nat.le_refl _ | cons k l=>rw[aZ]at h;have:=la k;omega⟩
    | succ m ihm =>
     have h1:∀ x:aq,bf x≤m+1→dp x≤bf x:=fun x h=>by
      rw[pc]at h ⊢;rw[uS];have:=ihm.2 x.Kids (by omega);omega
     refine⟨h1,fun l=>?_⟩
     induction l with
     | nil=>intro h;exact Nat.le_refl _
     | cons k l ihl=>intro h;rw[aZ]at h;rw[aZ,dpL];have:=h1 k (by omega);have:=ihl (by omega);omega
   exact(this _).2 l (Nat.le_refl _)
  have key:∀ (d i:Nat) (t:Nat),i+d=x.Kids.length→t≤1000000→oG (t:Int) x.Kids (x.Kids.length:Int) (i:Int)=some (((max t (dpL (x.Kids.drop i))+1:Nat):Int),()):=by
   intro d
   induction d with
   | zero =>
    intro i t hi ht
    rw[rz,aj (by omega),List.drop_eq_nil_of_le (by omega),dpL,aF (by omega) (by omega)]
    congr 2;omega
   | succ d ihd =>
    intro i t hi ht
    have hi':i<x.Kids.length:=by omega
    have hm:=List.getElem_mem hi'
    have hk:=pd hm
    have h1:=ih x.Kids[i] (by omega) (by omega)
    have h2:=uR hm
    have h3:=hdp x.Kids
    rw[rz,ak (by omega),if_pos (by omega),aS hi',h1,aa]
    dsimp only
    rw[aP hi' (by omega),show mxI (t:Int) (dp x.Kids[i]:Int)=((max t (dp x.Kids[i]):Nat):Int) by rw[DB];split <;> omega,ihd (i+1) _ (by omega) (by omega),ai hi',dpL]
    congr 3;omega
  rw[Cq,uS]
  have:=key x.Kids.length 0 0 (by omega) (by omega)
  rw[List.drop_zero]at this
  rw[show(0:Int)=((0:Nat):Int)from rfl,this]
  congr 2;omega
def kZ(x:aq):Bool :=
 if x.Op=1 then decide (0≤x.C∧x.C≤255)&&decide (x.Kids.length=0)
 else if x.Op=2∨x.Op=3∨x.Op=4∨x.Op=5∨x.Op=11 then decide (x.C=0)&&decide (x.Kids.length=0)
 else if x.Op=6∨x.Op=7 then decide (x.C=0)&&decide (2≤x.Kids.length)
 else if x.Op=8∨x.Op=9∨x.Op=10 then decide (x.C=0)&&decide (x.Kids.length=1)
 else false
mutual
def rx:aq→Bool
 | ⟨a,b,c,d,ks⟩=>kZ ⟨a,b,c,d,ks⟩&&rxL ks
def rxL:List aq→Bool
 | []=>true
 | k::ks=>rx k&&rxL ks
end
theorem xJ(x:aq):rx x=(kZ x&&rxL x.Kids):=by obtain⟨a,b,c,d,ks⟩:=x;rw[rx]
theorem xI:∀ l:List aq,rxL l = !l.any fun x=>!rx x
 | []=>rfl
 | k::l=>by rw[rxL,xI l,List.any_cons];cases rx k <;> simp
theorem GN{st:List Int}(h:st.Pairwise (· < ·)){i:Nat}(h0:0<i)(h1:i<st.length):st[i-1]<st[i] :=
 List.pairwise_iff_getElem.1 h (i-1) i (by omega) h1 (by omega)
theorem QY{st:List Int}(h:st.Pairwise (· < ·))(hl:st.length≤256):yy st=some (true,()):=by
 have key:∀ (d i:Nat),i+d=st.length→0<i→ta st (i:Int)=some (true,()):=by
  intro d
  induction d with
  | zero=>intro i hi h0;rw[yz,aj (by omega)]
  | succ d ih =>
   intro i hi h0
   have hi':i<st.length:=by omega
   have:=GN h h0 hi'
   have w:w64 ((i:Int)-1)=((i-1:Nat):Int):=by rw[aF (by omega) (by omega)];omega
   rw[yz,ak (by omega),w,if_pos (by omega),if_pos (by omega),aS hi',aS (by omega),aj (by omega),aP hi' (by omega)]
   exact ih (i+1) (by omega) (by omega)
 rw[QD]
 by_cases c:st.length=0
 ·rw[yz,aj (by omega)]
 ·exact key (st.length-1) 1 (by omega) (by omega)
theorem LU{x:aq}(h:um x.Set x.Not):wd x=some (true,()):=by
 obtain⟨h1,h2,h3,h4,h5,h6⟩:=h
 have key:∀ (d i:Nat),i+d=x.Set.length→oL (x.Set.length:Int) (i:Int) x=some (true,()):=by
  intro d
  induction d with
  | zero =>
   intro i hi
   rw[Cw,aj (by omega),Ak _ _ (by omega),Ak _ _ (by omega),aa,aa]
   dsimp only
   have fin:(if(!(decide (x.Set=[])))=true then(if x.Not=true then some (true,())else some ((!(decide (x.Set=[94]))),()))else some (false,()))=some (true,()):=by
    rw[if_pos (by simp[h3])]
    rcases h4 with h4 | h4
    ·rw[if_pos h4]
    ·cases x.Not with
     | true=>rfl
     | false=>rw[if_neg (by decide),ae h4];rfl
   by_cases c:[93] <:+: x.Set
   ·rw[ak c]
    obtain⟨a,b,e⟩:=h2 (List.singleton_sublist.1 (List.IsInfix.sublist c))
    rw[ac (p:=[92,93,94] <:+: x.Set) ⟨a,b,by rw[e,ah]⟩,if_neg (by decide)]
    exact fin
   ·rw[aj c]
    exact fin
  | succ d ih =>
   intro i hi
   have hi':i<x.Set.length:=by omega
   rw[Cw,ak (by omega),aP hi' (by omega)]
   by_cases c:0<i
   ·have:=GN h1 c hi'
    have w:w64 ((i:Int)-1)=((i-1:Nat):Int):=by rw[aF (by omega) (by omega)];omega
    rw[ak (by omega),w,if_pos (by omega),if_pos (by omega),aS hi',aS (by omega),aj (by omega)]
    exact ih (i+1) (by omega)
   ·rw[aj (by omega)]
    exact ih (i+1) (by omega)
 rw[LT]
 exact key x.Set.length 0 (by omega)
theorem OO(l:List aq)(d:Int)(hl:l.length≤4294967296)(h:∀ x∈l,oJ x (w64 (d-1))=some (rx x,())):tM l d=some (!rxL l,d,()):=by
 rw[Sa,Sk]
 obtain⟨k,e1,e2,_⟩:=gy (fun i=>lM l (l.length:Int) i d) (d,()) l.length (fun i=>!rx (l.getD i aL))
  (fun i hi=>by
   show lM l _ _ d=_
   rw[Ho,ak (by omega),if_pos (by omega),aS hi,LN,h _ (List.getElem_mem hi),aa,aa,aP hi (by omega),bg hi])
  (by show lM l _ _ d=_;rw[Ho,if_neg (by simp)])
 have e1':lM l (l.length:Int) 0 d=some (k,d,()):=e1
 rw[e1',aa]
 dsimp only
 rw[e2,eg l aL (fun x=>!rx x),xI,Bool.not_not]
theorem LQ:∀ (n:Nat) (x:aq),bf x≤n→n≤1000000→SG x→∀ d:Int,(dp x:Int)≤d→d≤12→oJ x d=some (rx x,()):=by
 intro n
 induction n with
 | zero=>intro x h;have:=la x;omega
 | succ n ih =>
  intro x h hn hs d hd hd2
  rw[pc]at h
  rw[uS]at hd
  have hlen:=pb x.Kids
  obtain⟨hs1,hs2⟩:=(ul x).1 hs
  have hk:tM x.Kids d=some (!rxL x.Kids,d,()):=OO _ d (by omega) fun y hy=>by
   have h1:=pd hy
   have h2:=uR hy
   exact ih y (by omega) (by omega) (qt hs2 hy) _ (by rw[aF (by omega) (by omega)];omega) (by rw[aF (by omega) (by omega)];omega)
  have hL1:∀ b:Bool,cM b x d=some (b&&rxL x.Kids,()):=fun b=>by
   rw[LO,hk,aa]
   cases b with
   | true=>rw[if_pos rfl,Bool.not_not,Bool.true_and]
   | false=>rw[if_neg (by decide),Bool.false_and]
  rw[LP,aj (by omega),xJ]
  rw[dU]
  have e0:decide ((List.length x.Kids:Int)=0)=decide (x.Kids.length=0):=decide_eq_decide.2 (by omega)
  have e1:decide ((List.length x.Kids:Int)=1)=decide (x.Kids.length=1):=decide_eq_decide.2 (by omega)
  have e2:decide ((List.length x.Kids:Int)>1)=decide (2≤x.Kids.length):=decide_eq_decide.2 (by omega)
  unfold kZ
  rcases hs1 with ⟨h3,hset⟩ | ⟨h3,hst,hnt⟩
  ·have hsr:=LU hset
   by_cases hc:x.C=0
   ·simp[h3,hc,fQ,hsr,hL1,e0]
   ·simp[h3,hc]
  ·by_cases c1:x.Op=1
   ·simp only[c1,hst,hnt,aa,decide_true,Bool.not_true,Bool.not_false,decide_false,if_true,Bool.false_eq_true,if_false,hL1,e0,(by decide:decide ((1:Int)=3)=false)]
    by_cases hc:0≤x.C∧x.C≤255
    ·simp[hc]
    ·simp[hc]
   ·by_cases hc:x.C=0
    ·by_cases c2:x.Op=2
     ·simp[c2,hc,hst,hnt,fQ,hL1,e0]
     by_cases c4:x.Op=4
     ·simp[c4,hc,hst,hnt,fQ,hL1,e0]
     by_cases c5:x.Op=5
     ·simp[c5,hc,hst,hnt,fQ,hL1,e0]
     by_cases c11:x.Op=11
     ·simp[c11,hc,hst,hnt,fQ,hL1,e0]
     by_cases c6:x.Op=6
     ·simp[c6,hc,hst,hnt,fQ,ml,hL1,e2]
     by_cases c7:x.Op=7
     ·simp[c7,hc,hst,hnt,fQ,ml,hL1,e2]
     by_cases c8:x.Op=8
     ·simp[c8,hc,hst,hnt,fQ,ml,hL1,e1]
     by_cases c9:x.Op=9
     ·simp[c9,hc,hst,hnt,fQ,ml,hL1,e1]
     by_cases c10:x.Op=10
     ·simp[c10,hc,hst,hnt,fQ,ml,hL1,e1]
     simp[c1,h3,c2,c4,c5,c6,c7,c8,c9,c10,c11,hc,hst,hnt,fQ,ml,hL1]
    ·simp[c1,hc]
theorem Qz:∀ (n:Nat) (x:aq),bf x≤n→n≤1000000→SG x→s4 x=some (rx x,()):=by
 intro n
 induction n with
 | zero=>intro x h;have:=la x;omega
 | succ n ih =>
  intro x h hn hs
  rw[pc]at h
  have hlen:=pb x.Kids
  obtain⟨hs1,hs2⟩:=(ul x).1 hs
  have key:∀ (d i:Nat),i+d=x.Kids.length→s5 (i:Int) x=some (kZ x&&rxL (x.Kids.drop i),()):=by
   intro d
   induction d with
   | zero =>
    intro i hi
    rw[FA,aj (by omega),List.drop_eq_nil_of_le (by omega),rxL,Bool.and_true,cQ]
    have e0:decide ((List.length x.Kids:Int)=0)=decide (x.Kids.length=0):=decide_eq_decide.2 (by omega)
    have e1:decide ((List.length x.Kids:Int)=1)=decide (x.Kids.length=1):=decide_eq_decide.2 (by omega)
    have e2:decide ((List.length x.Kids:Int)≥2)=decide (2≤x.Kids.length):=decide_eq_decide.2 (by omega)
    unfold kZ
    rcases hs1 with ⟨h3,hset⟩ | ⟨h3,hst,hnt⟩
    ·have hsr:=QY hset.1 hset.2.2.2.2.1
     have hne:=hset.2.2.1
     by_cases hc:x.C=0
     ·simp[h3,hc,hsr,hne,e0]
     ·simp[h3,hc]
    ·by_cases c1:x.Op=1
     ·by_cases hc:0≤x.C∧x.C≤255
      ·simp[c1,hst,hnt,hc,e0]
      ·simp[c1,hst,hnt,hc,e0]
     ·have hin:cz x.Op 2 11=some (decide (2≤x.Op∧x.Op≤11),()):=cQ ..
      by_cases hc:x.C=0
      ·by_cases c2:x.Op=2
       ·simp[c2,hc,hst,hnt,fY,iB,e0,cQ]
       by_cases c4:x.Op=4
       ·simp[c4,hc,hst,hnt,fY,iB,e0,cQ]
       by_cases c5:x.Op=5
       ·simp[c5,hc,hst,hnt,fY,iB,e0,cQ]
       by_cases c11:x.Op=11
       ·simp[c11,hc,hst,hnt,fY,iB,e0,cQ]
       by_cases c6:x.Op=6
       ·simp[c6,hc,hst,hnt,fY,e2]
       by_cases c7:x.Op=7
       ·simp[c7,hc,hst,hnt,fY,e2]
       by_cases c8:x.Op=8
       ·simp[c8,hc,hst,hnt,fY,iB,e1]
       by_cases c9:x.Op=9
       ·simp[c9,hc,hst,hnt,fY,iB,e1]
       by_cases c10:x.Op=10
       ·simp[c10,hc,hst,hnt,fY,iB,e1]
       have hno:¬ (2≤x.Op∧x.Op≤11):=by omega
       simp[c1,h3,c2,c4,c5,c6,c7,c8,c9,c10,c11,fY,iB,cQ,hno]
      ·simp only[c1,h3,decide_false,Bool.false_eq_true,if_false,fY,iB,cQ,hc,aa,Bool.false_and]
       simp
   | succ d ihd =>
    intro i hi
    have hi':i<x.Kids.length:=by omega
    have hm:=List.getElem_mem hi'
    have hk:=pd hm
    rw[FA,ak (by omega),if_pos (by omega),aS hi',ih _ (by omega) (by omega) (qt hs2 hm),aa]
    dsimp only
    rw[aP hi' (by omega),ihd (i+1) (by omega),ai hi',rxL]
    cases rx x.Kids[i] with
    | true=>rw[if_neg (by decide),Bool.true_and]
    | false=>rw[if_pos (by decide),Bool.false_and,Bool.and_false]
  rw[Qy,xJ]
  have:=key x.Kids.length 0 (by omega)
  rwa [List.drop_zero]at this
theorem OP{x:aq}(hn:bf x≤121)(hs:SG x)(hd:∃ v,v≤12∧gJ x=some (v,())∧gw x=some (v,())):vD x=some (rx x,())∧x6 x=some (rx x,()):=by
 obtain⟨v,hv,e1,e2⟩:=hd
 have e3:=JA 121 x hn (by decide)
 rw[e2]at e3
 have e4:=congrArg Prod.fst (Option.some.inj e3)
 dsimp only at e4
 constructor
 ·rw[KQ,LQ 121 x hn (by decide) hs 12 (by omega) (by omega)];rfl
 ·rw[PD,e1,aa]
  dsimp only
  rw[ak hv,Qz 121 x hn (by decide) hs];rfl
def iK(a b c:Int):Int:=if c≥a∧c<w8 (a+26)then w8 (w8 (c-a)+b)else c
def fq(a b:Int)(t:List Int):List Int:=t.map (iK a b)
theorem GJ{a b:Int}{t:List Int}(h:Bt t):Bt (fq a b t):=fun x hx=>by
 obtain⟨c,hc,rfl⟩:=List.mem_map.1 hx
 unfold iK
 split
 ·exact RL _
 ·exact h c hc
theorem Rd{α:Type}{t:List α}{i:Nat}(h:i<t.length)(x:α):(t.set i x).take (i+1)=t.take i++[x]:=by
 rw[List.take_add_one,List.take_set_of_le (Nat.le_refl _),List.getElem?_set_self h];rfl
theorem Rv{α:Type}{t:List α}{i:Nat}(h:i<t.length):t.take (i+1)=t.take i++[t[i]]:=by
 rw[List.take_add_one,List.getElem?_eq_getElem h];rfl
theorem RD(a b:Int)(n:Nat)(hn:n≤4294967296):∀ (d i:Nat) (t:List Int),t.length=n→i+d=n→mo a b t (n:Int) (i:Int)=some (t.take i++fq a b (t.drop i),())∧mV a b t (i:Int)=some (t.take i++fq a b (t.drop i),()):=by
 intro d
 induction d with
 | zero =>
  intro i t ht hi
  rw[CE,E7,aj (by omega),aj (by omega),List.take_of_length_le (by omega),List.drop_eq_nil_of_le (by omega)]
  unfold fq
  rw[List.map_nil,List.append_nil];exact⟨rfl,rfl⟩
 | succ d ih =>
  intro i t ht hi
  have hi':i<t.length:=by omega
  have hin:(0:Int)≤(i:Int)∧(i:Int)<(t.length:Int):=by omega
  have hdrop:fq a b (t.drop i)=iK a b t[i]::fq a b (t.drop (i+1)):=by rw[ai hi'];rfl
  obtain⟨k1,k2⟩:=ih (i+1) t ht (by omega)
  obtain⟨s1,s2⟩:=ih (i+1) (t.set i (w8 (w8 (t[i]-a)+b))) (by rw[List.length_set];exact ht) (by omega)
  rw[Rd hi',List.drop_set_of_lt (by omega),ah]at s1 s2
  rw[Rv hi',ah]at k1 k2
  rw[CE,E7,ak (by omega),ak hin.2,hdrop]
  simp only[if_pos hin,aP hi' (by omega),af,bg hi']
  by_cases c1:t[i]≥a
  ·simp only[ac c1,if_true]
   by_cases c2:t[i]<w8 (a+26)
   ·have e:iK a b t[i]=w8 (w8 (t[i]-a)+b):=by unfold iK;rw[if_pos ⟨c1,c2⟩]
    simp only[ac c2,if_true]
    rw[e];exact⟨s1,s2⟩
   ·have e:iK a b t[i]=t[i]:=by unfold iK;rw[if_neg (fun h=>c2 h.2)]
    simp only[ae c2,Bool.false_eq_true,if_false]
    rw[e];exact⟨k1,k2⟩
  ·have e:iK a b t[i]=t[i]:=by unfold iK;rw[if_neg (fun h=>c1 h.1)]
   simp only[ae c1,Bool.false_eq_true,if_false]
   rw[e];exact⟨k1,k2⟩
theorem tu(a b:Int)(t:List Int)(ht:t.length≤300):rD t a b=some (fq a b t,())∧sH t a b=some (fq a b t,()):=by
 obtain⟨e1,e2⟩:=RD a b t.length (by omega) t.length 0 t rfl (by omega)
 rw[List.take_zero,List.drop_zero,List.nil_append]at e1 e2
 rw[L8,PX,if_pos (by rw[aN];omega),if_pos (by rw[aN];omega)]
 exact⟨e1,e2⟩
theorem Mb{l t:List Int}(h:l.length<t.length):bc l t = -1:=by
 have hb:=jB l t
 have:=(wu t l).1
 by_cases c:0≤bc l t
 ·have:=(this c).length_le;omega
 ·omega
theorem PQ(s t:List Int)(hs:s.length≤300)(ht:t.length≤300):∀ (d i:Nat),i+d=s.length→sJ s t (i:Int)=some (if bc (s.drop i) t = -1 then 0 else(i:Int)+bc (s.drop i) t+1,()):=by
 intro d
 induction d with
 | zero =>
  intro i hi
  have hw:w64 ((i:Int)+(t.length:Int))=((i+t.length:Nat):Int):=by rw[aF (by omega) (by omega)];omega
  have hd:s.drop i=[]:=List.drop_eq_nil_of_le (by omega)
  rw[Fg,hw,hd]
  cases t with
  | nil =>
   rw[ak (by simp;omega),if_pos (by simp;omega)]
   rw[if_pos (by simp[hd]),aF (by omega) (by omega)]
   simp[bc]
  | cons c t =>
   rw[if_neg (by rw[ab,List.length_cons];omega)]
   simp[bc]
 | succ d ih =>
  intro i hi
  have hi':i<s.length:=by omega
  have hw:w64 ((i:Int)+(t.length:Int))=((i+t.length:Nat):Int):=by rw[aF (by omega) (by omega)];omega
  rw[Fg,hw]
  by_cases c:i+t.length≤s.length
  ·have hpre:(t.isPrefixOf (s.drop i)=true)↔(s.drop i).take t.length=t:=by
    rw[List.isPrefixOf_iff_prefix,List.prefix_iff_eq_take];exact eq_comm
   have hcons:=ai hi'
   rw[ak (by omega),if_pos (by omega),af,af,show i+t.length-i=t.length by omega,aP hi' (by omega)]
   by_cases c2:(s.drop i).take t.length=t
   ·have e:bc (s.drop i) t=0:=by rw[hcons]at hpre c2 ⊢;unfold bc;rw[if_pos (hpre.2 c2)]
    rw[ak c2,e,if_neg (by decide)]
    congr 2
   ·have hn:¬ t.isPrefixOf (s.drop i)=true:=fun h=>c2 (hpre.1 h)
    have e:bc (s.drop i) t=if bc (s.drop (i+1)) t = -1 then -1 else bc (s.drop (i+1)) t+1:=by rw[hcons]at hn ⊢;exact(by rw[bc,if_neg hn])
    have hb:=jB (s.drop (i+1)) t
    rw[aj c2,ih (i+1) (by omega),e]
    by_cases c3:bc (s.drop (i+1)) t = -1
    ·rw[if_pos c3,if_pos c3,if_pos rfl]
    ·rw[if_neg c3,if_neg c3,if_neg (by omega)]
     congr 2;omega
  ·rw[aj (by omega),if_pos (Mb (by rw[List.length_drop];omega))]
theorem PR(s t:List Int)(hs:s.length≤300)(ht:t.length≤300):yd s t=some (bc s t+1,()):=by
 rw[P3]
 have:=PQ s t hs ht s.length 0 (by omega)
 rw[List.drop_zero]at this
 rw[show(0:Int)=((0:Nat):Int)from rfl,this]
 have hb:=jB s t
 congr 2
 split <;> omega
def jO(s:List Int)(f t:Int):List Int:=if mnI t s.length<mxI f 1 then []else List.take ((mnI t s.length).toNat-(mxI f 1-1).toNat) (List.drop (mxI f 1-1).toNat s)
theorem Ob{s:List Int}(hs:s.length≤300)(hb:Bt s)(f t:Int):(jO s f t).length≤300∧Bt (jO s f t):=by
 unfold jO
 split
 ·exact⟨Nat.zero_le _,fun x hx=>by cases hx⟩
 ·exact⟨by rw[List.length_take,List.length_drop];omega,fun x hx=>hb x (List.mem_of_mem_drop (List.mem_of_mem_take hx))⟩
theorem Cm(s:List Int)(f t:Int)(hs:s.length≤300)(hf:-9000000≤f∧f≤9000000):rv s f t=some (jO s f t,()):=by
 have h1:1≤mxI f 1∧mxI f 1≤9000000:=by unfold mxI;split <;> omega
 have h2:mnI t s.length≤(s.length:Int):=by unfold mnI;split <;> omega
 rw[LG]
 unfold jO
 by_cases c:mxI f 1>mnI t s.length
 ·rw[ak c,if_pos c]
 ·rw[aj c,if_neg c,aF (by omega) (by omega),if_pos (c:=_∧_) (by omega)]
theorem FP(s:List Int)(f t:Int)(hs:s.length≤300)(hf:-9000000≤f∧f≤9000000):sK s f (mnI t s.length)=some (jO s f t,()):=by
 have hm:nb f 1=some (mxI f 1,()):=by
  rw[yr]
  unfold mxI
  by_cases c:f>1
  ·rw[ak c,if_neg (by omega)]
  ·rw[aj c]
   split
   ·rfl
   ·congr 2;omega
 rw[P7,hm,aa]
 dsimp only
 unfold jO
 by_cases c:mnI t s.length<mxI f 1
 ·rw[ak c,if_pos c]
 ·have h1:1≤mxI f 1∧mxI f 1≤9000000:=by unfold mxI;split <;> omega
  have h2:mnI t s.length≤(s.length:Int):=by unfold mnI;split <;> omega
  rw[aj c,if_neg c,aF (by omega) (by omega),if_pos (by omega)]
noncomputable def gn(name:List Int)(l:List au):au :=
 if name=[108,101,110,103,116,104] then⟨1,((aX (l.getD 0 aD)).length:Int)*1000000,[]⟩
 else if name=[105,110,116] then⟨1,Int.tdiv (bm (l.getD 0 aD)) 1000000*1000000,[]⟩
 else if name=[117,112,112,101,114] then⟨2,0,fq 97 65 (aX (l.getD 0 aD))⟩
 else if name=[108,111,119,101,114] then⟨2,0,fq 65 97 (aX (l.getD 0 aD))⟩
 else if name=[105,110,100,101,120] then⟨1,(bc (aX (l.getD 0 aD)) (aX (l.getD 1 aD))+1)*1000000,[]⟩
 else⟨2,0,jO (aX (l.getD 0 aD)) (bZ (l.getD 1 aD)) (if 2<l.length then bZ (l.getD 1 aD)+bZ (l.getD 2 aD)-1 else((aX (l.getD 0 aD)).length:Int))⟩
theorem bG{l:List au}(h:∀ v∈l,VG v)(i:Nat):VG (l.getD i aD):=by
 by_cases c:i<l.length
 ·rw[bg c];exact h _ (List.getElem_mem c)
 ·rw[List.getD_eq_getElem?_getD,List.getElem?_eq_none (by omega)];exact nL
theorem IP{l:List au}(h:∀ v∈l,VG v)(name:List Int):VG (gn name l):=by
 obtain⟨t1,t2⟩:=dl (bG h 0)
 obtain⟨u1,u2⟩:=dl (bG h 1)
 unfold gn
 split
 ·exact fC (by unfold Dc;omega)
 split
 ·exact fC (qH (bX (bG h 0)).2.2).2.2
 split
 ·exact nM (by unfold fq;rw[List.length_map];exact t1) (GJ t2)
 split
 ·exact nM (by unfold fq;rw[List.length_map];exact t1) (GJ t2)
 split
 ·have:=jB (aX (l.getD 0 aD)) (aX (l.getD 1 aD))
  exact fC (by unfold Dc;omega)
 ·obtain⟨p1,p2⟩:=Ob t1 t2 (bZ (l.getD 1 aD)) (if 2<l.length then bZ (l.getD 1 aD)+bZ (l.getD 2 aD)-1 else((aX (l.getD 0 aD)).length:Int))
  exact nM p1 p2
theorem BZ{l:List au}(h:∀ v∈l,VG v)(h2:2≤l.length)(h3:l.length≤3)(name:List Int):rm name l aD=some (gn name l,()):=by
 obtain⟨t1,t2⟩:=dl (bG h 0)
 obtain⟨u1,u2⟩:=dl (bG h 1)
 obtain⟨w1,w2,w3⟩:=nu (bG h 1)
 obtain⟨x1,x2,x3⟩:=nu (bG h 2)
 obtain⟨n1,n2,n3⟩:=bX (bG h 0)
 have hix:=jB (aX (l.getD 0 aD)) (aX (l.getD 1 aD))
 rw[BX,aj (by omega),if_pos (by omega),dS,aa]
 dsimp only
 unfold gn
 by_cases c1:name=[108,101,110,103,116,104]
 ·rw[ak c1,if_pos c1,wU,aF (by omega) (by omega),fa];rfl
 rw[aj c1,if_neg c1]
 by_cases c2:name=[105,110,116]
 ·rw[ak c2,if_pos c2,if_pos (by omega),n1,aa]
  dsimp only
  rw[(qH n3).1,aa,fa];rfl
 rw[aj c2,if_neg c2]
 by_cases c3:name=[117,112,112,101,114]
 ·rw[ak c3,if_pos c3,(tu 97 65 _ t1).1,aa,jA];rfl
 rw[aj c3,if_neg c3]
 by_cases c4:name=[108,111,119,101,114]
 ·rw[ak c4,if_pos c4,(tu 65 97 _ t1).1,aa,jA];rfl
 rw[aj c4,if_neg c4]
 by_cases c5:name=[105,110,100,101,120]
 ·rw[ak c5,if_pos c5,if_pos (by omega),dS,aa]
  dsimp only
  rw[zf,if_pos (by omega),aa]
  dsimp only
  rw[aF (n:=bc (aX (l.getD 0 aD)) (aX (l.getD 1 aD))+1) (by omega) (by omega),aF (by omega) (by omega),fa];rfl
 rw[aj c5,if_neg c5,if_pos (by omega),w1,aa]
 dsimp only
 by_cases c6:2<l.length
 ·rw[ak (by omega),if_pos (by omega),x1,aa]
  dsimp only
  rw[aF (n:=bZ (l.getD 1 aD)+bZ (l.getD 2 aD)) (by omega) (by omega),aF (by omega) (by omega),Cm _ _ _ t1 w3,aa,jA,if_pos c6];rfl
 ·rw[aj (by omega),Cm _ _ _ t1 w3,aa,jA,if_neg c6];rfl
theorem K2{l:List au}(h:∀ v∈l,VG v)(h1:1≤l.length)(h3:l.length≤3)(name:List Int):vL name l=some (gn name l,()):=by
 rw[K1]
 by_cases c:2≤l.length
 ·exact BZ h c h3 name
 ·obtain⟨v,e⟩:=List.length_eq_one_iff.1 (show l.length=1 by omega)
  subst e
  have h2:=BZ (l:=[v,aD]) (fun w hw=>by
   rcases List.mem_cons.1 hw with rfl | hw
   ·exact h _ (List.mem_cons_self ..)
   ·rw[List.mem_singleton.1 hw];exact nL) (by simp) (by simp) name
  rw[BX,if_pos (by simp),y7,if_neg (c:=Nat.beq (List.length [v]) 0=true) (show ¬ Nat.beq 1 0=true by decide),if_pos (by rw[aN];simp),aa]
  dsimp only
  rw[if_pos (by rw[aN];show 2≤4294967296;decide)]
  exact h2
theorem PJ{l:List au}(h:∀ v∈l,VG v)(h1:1≤l.length)(h3:l.length≤3)(name:List Int)(hn:name∈kw2):yg name l=some (gn name l,()):=by
 have main:∀ l:List au,(∀ v∈l,VG v)→1≤l.length→l.length≤3→(2≤l.length∨(name≠[105,110,100,101,120]∧name≠[115,117,98,115,116,114]))→lu name l=some (gn name l,()):=by
  intro l h h1 h3 h2
  obtain⟨t1,t2⟩:=dl (bG h 0)
  obtain⟨u1,u2⟩:=dl (bG h 1)
  obtain⟨w1,w2,w3⟩:=nu (bG h 1)
  obtain⟨x1,x2,x3⟩:=nu (bG h 2)
  obtain⟨n1,n2,n3⟩:=bX (bG h 0)
  have hix:=jB (aX (l.getD 0 aD)) (aX (l.getD 1 aD))
  rw[PW]
  unfold gn
  by_cases c1:name=[108,101,110,103,116,104]
  ·rw[ak c1,if_pos c1,if_pos (by omega),d6,aa]
   dsimp only
   rw[aF (by omega) (by omega),ep,Int.mul_comm];rfl
  rw[aj c1,if_neg c1]
  by_cases c2:name=[105,110,116]
  ·rw[ak c2,if_pos c2,if_pos (by omega),n2,aa]
   dsimp only
   rw[(qH n3).2.1,aa,ep];rfl
  rw[aj c2,if_neg c2]
  by_cases c5:name=[105,110,100,101,120]
  ·have hl2:2≤l.length:=h2.elim id fun h=>absurd c5 h.1
   rw[ak c5,if_pos (by omega),d6,aa,if_pos (by omega),d6,aa]
   dsimp only
   rw[PR _ _ t1 u1,aa]
   dsimp only
   rw[aF (by omega) (by omega),ep,if_neg (by rw[c5];decide),if_neg (by rw[c5];decide),if_pos c5,Int.mul_comm];rfl
  rw[aj c5]
  by_cases c3:name=[117,112,112,101,114]
  ·rw[ak c3,if_pos c3,if_pos (by omega),d6,aa]
   dsimp only
   rw[(tu 97 65 _ t1).2];rfl
  rw[aj c3,if_neg c3]
  by_cases c4:name=[108,111,119,101,114]
  ·rw[ak c4,if_pos c4,if_pos (by omega),d6,aa]
   dsimp only
   rw[(tu 65 97 _ t1).2];rfl
  rw[aj c4,if_neg c4,if_neg c5]
  have hsub:name=[115,117,98,115,116,114]:=by
   unfold kw2 at hn
   simp only[List.mem_cons,List.not_mem_nil,or_false]at hn
   rcases hn with h | h | h | h | h | h
   ·exact absurd h c1
   ·exact h
   ·exact absurd h c5
   ·exact absurd h c2
   ·exact absurd h c3
   ·exact absurd h c4
  have hl2:2≤l.length:=h2.elim id fun h=>absurd hsub h.2
  obtain⟨m1,m2,m3⟩:=bX (bG h 1)
  obtain⟨k1,k2,k3⟩:=bX (bG h 2)
  rw[P8,if_pos (by omega),d6,aa,if_pos (by omega),m2,aa]
  dsimp only
  by_cases c6:2<l.length
  ·rw[ak (by omega),if_pos (by omega),k2,aa]
   dsimp only
   rw[w2,x2,aF (n:=bZ (l.getD 1 aD)+bZ (l.getD 2 aD)) (by omega) (by omega),aF (by omega) (by omega),if_pos c6]
   have hmin:pC ((aX (l.getD 0 aD)).length:Int) (bZ (l.getD 1 aD)+bZ (l.getD 2 aD)-1)=some (mnI (bZ (l.getD 1 aD)+bZ (l.getD 2 aD)-1) ((aX (l.getD 0 aD)).length:Int),()):=by
    rw[Fw]
    unfold mnI
    by_cases c7:((aX (l.getD 0 aD)).length:Int)<bZ (l.getD 1 aD)+bZ (l.getD 2 aD)-1
    ·rw[ak c7,if_pos c7]
    ·rw[aj c7,if_neg c7]
   rw[hmin,aa]
   dsimp only
   rw[FP _ _ _ t1 w3];rfl
  ·rw[aj (by omega),w2,if_neg c6]
   have hmm:((aX (l.getD 0 aD)).length:Int)=mnI ((aX (l.getD 0 aD)).length:Int) ((aX (l.getD 0 aD)).length:Int):=by unfold mnI;split <;> rfl
   have:=FP (aX (l.getD 0 aD)) (bZ (l.getD 1 aD)) ((aX (l.getD 0 aD)).length:Int) t1 w3
   rw[← hmm]at this
   rw[this];rfl
 rw[Qg]
 by_cases c:2≤l.length
 ·rw[aj (by omega),main l h h1 h3 (.inl c)];rfl
 ·obtain⟨v,e⟩:=List.length_eq_one_iff.1 (show l.length=1 by omega)
  subst e
  have h2:=main [v,aD] (fun w hw=>by
   rcases List.mem_cons.1 hw with rfl | hw
   ·exact h _ (List.mem_cons_self ..)
   ·rw[List.mem_singleton.1 hw];exact nL) (by simp) (by simp) (.inl (by simp))
  have h2':lu name (List.append (List.append [] [v]) [(au.mk 0 0 [])])=some (gn name [v],()):=h2
  rw[if_pos (by simp)]
  by_cases c5:name=[105,110,100,101,120]
  ·rw[ak c5,if_pos (by rw[aN];simp),if_pos (by rw[aN];show 2≤4294967296;decide),h2'];rfl
  ·rw[aj c5]
   by_cases c7:name=[115,117,98,115,116,114]
   ·rw[ak c7,if_pos (by rw[aN];simp),if_pos (by rw[aN];show 2≤4294967296;decide),h2'];rfl
   ·rw[aj c7,main [v] h h1 h3 (.inr ⟨c5,c7⟩)];rfl
theorem iD{α:Type}(l r:List α)(p q:α):(l++p::r).set l.length q=l++q::r:=by
 rw[List.set_append_right _ _ (Nat.le_refl _),Nat.sub_self];rfl
theorem g7{α:Type}(l r:List α)(p z:α):(l++p::r).getD l.length z=p:=by
 rw[List.getD_eq_getElem?_getD,List.getElem?_append_right (Nat.le_refl _),Nat.sub_self];rfl
def SP(l:List an):Prop:=∀ p∈l,p.Set.length≤256
theorem nJ{l m:List an}(h:SP l)(g:SP m):SP (l++m):=fun p hp=>(List.mem_append.1 hp).elim (h p) (g p)
theorem iW{a:an}{l:List an}(h:a.Set.length≤256)(g:SP l):SP (a::l):=fun p hp=>(List.mem_cons.1 hp).elim (fun e=>by rw[e];exact h) (g p)
theorem kr:SP []:=fun p hp=>by cases hp
theorem HV{l:List an}(h:SP l){i:Nat}{a:an}(g:a.Set.length≤256):SP (l.set i a):=fun p hp=>(List.mem_or_eq_of_mem_set hp).elim (h p) fun e=>by rw[e];exact g
theorem HU{l:List an}(h:SP l)(i:Nat):(l.getD i aK).Set.length≤256:=by
 by_cases c:i<l.length
 ·rw[bg c];exact h _ (List.getElem_mem c)
 ·rw[List.getD_eq_getElem?_getD,List.getElem?_eq_none (by omega)];decide
def Plc(x:aq)(f:Nat→List an)(L:Nat):Prop:=(∀ n,(f n).length=L)∧L+2≤4*bf x∧(∀ n,SP (f n)) ∧
 ∀ out:List an,out.length+4*bf x≤100000→dV out x=some (out++f out.length,())∧d8 out x=some (out++f out.length,())
def HR(ks:List aq)(g:Nat→List an)(L i d:Nat):Prop:=(∀ n,(g n).length=L)∧L+2*d≤4*aZ (ks.drop i)∧(∀ n,SP (g n)) ∧
 ∀ out:List an,out.length+4*aZ (ks.drop i)≤100000→oE out ks (ks.length:Int) (i:Int)=some (out++g out.length,())∧∀ x:aq,x.Kids=ks→pN out (i:Int) x=some (out++g out.length,())
theorem IU(ks:List aq)(h:∀ k∈ks,∃ f L,Plc k f L)(hl:ks.length≤1000):∀ d i,i+d=ks.length→∃ g L,HR ks g L i d:=by
 intro d
 induction d with
 | zero =>
  intro i hi
  refine⟨fun _=>[],0,fun _=>rfl,by omega,fun _=>kr,fun out ho=>⟨?_,fun x hx=>?_⟩⟩
  ·rw[Cp,aj (by omega),oF,List.append_nil]
  ·rw[FH,hx,aj (by omega),pO,List.append_nil]
 | succ d ih =>
  intro i hi
  have hi':i<ks.length:=by omega
  obtain⟨g,L,g1,g2,gs,g3⟩:=ih (i+1) (by omega)
  obtain⟨f,M,f1,f2,fs,f3⟩:=h _ (List.getElem_mem hi')
  have hd:aZ (ks.drop i)=bf ks[i]+aZ (ks.drop (i+1)):=by rw[ai hi',aZ]
  refine⟨fun n=>f n++g (n+M),M+L,fun n=>by rw[ag,f1,g1],by omega,fun n=>nJ (fs n) (gs _),fun out ho=>?_⟩
  obtain⟨e1,e2⟩:=f3 out (by omega)
  have hlen:(out++f out.length).length=out.length+M:=by rw[ag,f1]
  obtain⟨e3,e4⟩:=g3 (out++f out.length) (by omega)
  rw[hlen]at e3 e4
  refine⟨?_,fun x hx=>?_⟩
  ·rw[Cp,ak (by omega),if_pos (by omega),aS hi',e1,aa]
   dsimp only
   rw[aP hi' (by omega),e3,ah]
  ·have e5:=e4 x hx
   rw[FH,hx,ak (by omega),if_pos (by omega),aS hi',e2,aa]
   dsimp only
   rw[aP hi' (by omega),e5,ah]
def yW(p:an)(a:Int):an:=⟨p.Op,p.C,p.Set,p.Not,a,p.B⟩
def gY(n:Nat)(tot:Int):List Int→List an→List an
 | [],t=>t
 | j::js,t=>gY n tot js (t.set (j.toNat-n) (yW (t.getD (j.toNat-n) aK) tot))
theorem AX(n:Nat)(tot:Int):∀ (js:List Int) (t:List an),(gY n tot js t).length=t.length
 | [],t=>rfl
 | j::js,t=>by rw[gY,AX n tot js,List.length_set]
theorem AW(n:Nat)(tot:Int):∀ (js:List Int) (t:List an),SP t→SP (gY n tot js t)
 | [],t,h=>h
 | j::js,t,h=>by rw[gY];exact AW n tot js _ (HV h (HU h _))
theorem N0(pre:List an)(js:List Int)(hjl:js.length≤1000):∀ (d i:Nat) (t:List an),i+d=js.length→(∀ j∈js,(pre.length:Int)≤j∧j<((pre.length+t.length:Nat):Int))→pre.length+t.length≤200000 →
  oD (pre++t) js (js.length:Int) (i:Int)=some (pre++gY pre.length ((pre.length+t.length:Nat):Int) (js.drop i) t,()) ∧
  pQ (pre++t) js (i:Int)=some (pre++gY pre.length ((pre.length+t.length:Nat):Int) (js.drop i) t,()):=by
 intro d
 induction d with
 | zero =>
  intro i t hi hj hb
  rw[Cg,FK,aj (by omega),aj (by omega),List.drop_eq_nil_of_le (by omega)]
  exact⟨rfl,rfl⟩
 | succ d ih =>
  intro i t hi hj hb
  have hi':i<js.length:=by omega
  have hji:=hj _ (List.getElem_mem hi')
  have hlen:(pre++t).length=pre.length+t.length:=ag
  have hge:pre.length≤js[i].toNat:=by omega
  have hget:(pre++t).getD js[i].toNat aK=t.getD (js[i].toNat-pre.length) aK:=by
   rw[List.getD_eq_getElem?_getD,List.getElem?_append_right hge,← List.getD_eq_getElem?_getD]
  have hset:∀ q,(pre++t).set js[i].toNat q=pre++t.set (js[i].toNat-pre.length) q:=fun q=>List.set_append_right _ _ hge
  obtain⟨e1,e2⟩:=ih (i+1) (t.set (js[i].toNat-pre.length) (yW (t.getD (js[i].toNat-pre.length) aK) ((pre.length+t.length:Nat):Int))) (by omega) (by rw[List.length_set];exact hj) (by rw[List.length_set];exact hb)
  rw[List.length_set]at e1 e2
  rw[ai hi',gY]
  unfold yW at e1 e2 ⊢
  constructor
  ·rw[Cg,ak (by omega),if_pos (by omega),aS hi',if_pos (by rw[hlen];omega)]
   dsimp only
   rw[hget,hset,hlen,aP hi' (by omega)]
   exact e1
  ·rw[FK,ak (by omega),if_pos (by omega),aS hi',if_pos (by rw[hlen];omega)]
   dsimp only
   rw[hget,hset,hlen,aP hi' (by omega)]
   exact e2
def OrL(ks:List aq)(g:Nat→List an)(h:Nat→List Int)(L i d:Nat):Prop:=(∀ n,(g n).length=L)∧L+2≤4*aZ (ks.drop i)∧(∀ n,SP (g n))∧(∀ n,(h n).length=d∧∀ j∈h n,(n:Int)≤j∧j<((n+L:Nat):Int)) ∧
 ∀ (out:List an) (js:List Int),js.length+d≤1000→out.length+4*aZ (ks.drop i)≤100000 →
  oC out ks js (ks.take (ks.length-1)) ((ks.length-1:Nat):Int) (i:Int)=oD (out++g out.length) (js++h out.length) ((js++h out.length).length:Int) 0 ∧
  pP out ks js (i:Int)=pQ (out++g out.length) (js++h out.length) 0
theorem N1(ks:List aq)(h:∀ k∈ks,∃ f L,Plc k f L)(hl:ks.length≤1000)(h1:1≤ks.length):∀ d i,i+d+1=ks.length→∃ g h L,OrL ks g h L i d:=by
 have hw:w64 ((ks.length:Int)-1)=((ks.length-1:Nat):Int):=by rw[aF (by omega) (by omega)];omega
 have htl:(ks.take (ks.length-1)).length=ks.length-1:=by rw[List.length_take];omega
 intro d
 induction d with
 | zero =>
  intro i hi
  have hi':i<ks.length:=by omega
  obtain⟨f,M,f1,f2,fs,f3⟩:=h _ (List.getElem_mem hi')
  have hd:aZ (ks.drop i)=bf ks[i]+aZ (ks.drop (i+1)):=by rw[ai hi',aZ]
  refine⟨f,fun _=>[],M,f1,by omega,fs,fun n=>⟨rfl,fun j hj=>by cases hj⟩,fun out js hjs ho=>?_⟩
  obtain⟨e1,e2⟩:=f3 out (by omega)
  have hwi:w64 ((ks.length:Int)-1)=(i:Int):=by rw[hw];omega
  constructor
  ·rw[Cf,aj (by omega),hwi,if_pos (by omega),aS hi',e1,aa,List.append_nil]
  ·rw[FJ,hwi,aj (by omega),if_pos (by omega),aS hi',e2,aa,List.append_nil]
 | succ d ih =>
  intro i hi
  have hi':i<ks.length:=by omega
  obtain⟨g,h',L,g1,g2,gs,g3,g4⟩:=ih (i+1) (by omega)
  obtain⟨f,M,f1,f2,fs,f3⟩:=h _ (List.getElem_mem hi')
  have hd:aZ (ks.drop i)=bf ks[i]+aZ (ks.drop (i+1)):=by rw[ai hi',aZ]
  refine⟨fun n=>⟨7,0,[],false,((n+1:Nat):Int),((n+1+M+1:Nat):Int)⟩::(f (n+1)++(⟨6,0,[],false,0,0⟩::g (n+1+M+1))),fun n=>((n+1+M:Nat):Int)::h' (n+1+M+1),L+M+2,fun n=>?_,by omega,fun n=>iW (Nat.zero_le _) (nJ (fs _) (iW (Nat.zero_le _) (gs _))),fun n=>⟨?_,?_⟩,fun out js hjs ho=>?_⟩
  ·rw[List.length_cons,ag,List.length_cons,f1,g1];omega
  ·rw[List.length_cons,(g3 _).1]
  ·intro j hj
   rcases List.mem_cons.1 hj with rfl | hj
   ·omega
   ·have:=(g3 _).2 j hj;omega
  ·have hw1:w64 ((out.length:Int)+1)=((out.length+1:Nat):Int):=by rw[aF (by omega) (by omega)];omega
   have fork:∀ p:an,dV (List.append out [p]) ks[i]=some (out++p::f (out.length+1),())∧d8 (List.append out [p]) ks[i]=some (out++p::f (out.length+1),()):=fun p=>by
    have hlp:(out++[p]).length=out.length+1:=by simp
    have:=f3 (out++[p]) (by omega)
    rw[hlp,ah]at this
    exact this
   have hv:∀ p q:an,List.append (out++p::f (out.length+1)) [q]=out++p::(f (out.length+1)++[q]):=fun p q=>by simp
   have hvl:∀ p q:an,(out++p::(f (out.length+1)++[q])).length=out.length+1+M+1:=fun p q=>by simp[f1];omega
   have hml:∀ p:an,(out++p::f (out.length+1)).length=out.length+1+M:=fun p=>by simp[f1];omega
   have hrest:∀ p q:an,out++p::(f (out.length+1)++[q])++g (out.length+1+M+1)=out++(p::(f (out.length+1)++(q::g (out.length+1+M+1)))):=fun p q=>by simp
   obtain⟨e1,e2⟩:=g4 (out++⟨7,0,[],false,((out.length+1:Nat):Int),((out.length+1+M+1:Nat):Int)⟩::(f (out.length+1)++[⟨6,0,[],false,0,0⟩])) (List.append js [((out.length+1+M:Nat):Int)]) (by show(js++[_]).length+_≤_;simp;omega) (by rw[hvl];omega)
   rw[hvl,hrest]at e1 e2
   have hjs':∀ a b:List Int,∀ c:Int,List.append a [c]++b=a++c::b:=fun a b c=>by simp
   rw[hjs']at e1 e2
   constructor
   ·rw[Cf,ak (by omega),if_pos (by rw[htl];omega),if_pos (by rw[aN];omega),aS (by rw[htl];omega),List.getElem_take,(fork _).1,aa]
    dsimp only
    rw[if_pos (by rw[aN];omega),hml,if_pos (by rw[aN];omega),hv,hvl,if_pos (by omega),af,g7,iD]
    dsimp only
    rw[hw1,aP hi' (by omega)]
    exact e1
   ·rw[FJ,hw,ak (by omega),j3,if_pos (by rw[aN];omega),aa]
    dsimp only
    rw[if_pos (by omega),aS hi',(fork _).2,aa]
    dsimp only
    rw[if_pos (by rw[aN];omega),j3,hml,if_pos (by rw[aN];omega),aa]
    dsimp only
    rw[hv,hvl,if_pos (by omega),af,g7,iD,hvl,if_pos (by omega),g7,iD]
    dsimp only
    rw[hw1,aP hi' (by omega)]
    exact e2
theorem O6{x:aq}(h:rx x=true):(∀ k∈x.Kids,rx k=true)∧kZ x=true:=by
 rw[xJ,Bool.and_eq_true,xI,Bool.not_eq_true',List.any_eq_false]at h
 exact⟨fun k hk=>by have:=h.2 k hk;simpa using this,h.1⟩
theorem D6:∀ (n:Nat) (x:aq),bf x≤n→n≤1000→SG x→rx x=true→∃ f L,Plc x f L:=by
 intro n
 induction n with
 | zero=>intro x h;have:=la x;omega
 | succ n ih =>
  intro x h hn hsg hx
  obtain⟨hs1,hs2⟩:=(ul x).1 hsg
  have hnx:=pc x
  rw[hnx]at h
  have hlen:=pb x.Kids
  obtain⟨hk,hB⟩:=O6 hx
  have hks:∀ k∈x.Kids,∃ f L,Plc k f L:=fun k hk'=>ih k (by have:=pd hk';omega) (by omega) (qt hs2 hk') (hk k hk')
  unfold kZ at hB
  have one:∀ p:an,p.Set.length≤256→(∀ out:List an,out.length+4*bf x≤100000→dV out x=some (List.append out [p],())∧d8 out x=some (List.append out [p],()))→∃ f L,Plc x f L:=fun p hps hp =>
   ⟨fun _=>[p],1,fun _=>rfl,by omega,fun _=>iW hps kr,hp⟩
  by_cases c1:x.Op=1
  ·refine one ⟨1,x.C,[],false,0,0⟩ (Nat.zero_le _) fun out ho=>?_
   rw[fP,f7,ak c1,ak c1,if_pos (by rw[aN];omega)]
   exact⟨rfl,rfl⟩
  have m1:¬ decide (x.Op=1)=true:=by rw[ab];exact c1
  by_cases c2:x.Op=2
  ·refine one ⟨2,0,[],false,0,0⟩ (Nat.zero_le _) fun out ho=>?_
   rw[fP,f7,if_neg m1,if_neg m1,ak c2,ak c2,j3,if_pos (by rw[aN];omega)]
   exact⟨rfl,rfl⟩
  have m2:¬ decide (x.Op=2)=true:=by rw[ab];exact c2
  by_cases c3:x.Op=3
  ·refine one ⟨3,0,x.Set,x.Not,0,0⟩ (hs1.elim (fun h=>h.2.2.2.2.2.1) fun h=>absurd c3 h.1) fun out ho=>?_
   rw[fP,f7,if_neg m1,if_neg m1,if_neg m2,if_neg m2,ak c3,ak c3,if_pos (by rw[aN];omega)]
   exact⟨rfl,rfl⟩
  have m3:¬ decide (x.Op=3)=true:=by rw[ab];exact c3
  by_cases c4:x.Op=4
  ·refine one ⟨4,0,[],false,0,0⟩ (Nat.zero_le _) fun out ho=>?_
   rw[fP,f7,if_neg m1,if_neg m1,if_neg m2,if_neg m2,if_neg m3,if_neg m3,ak c4,ak c4,j3,if_pos (by rw[aN];omega)]
   exact⟨rfl,rfl⟩
  have m4:¬ decide (x.Op=4)=true:=by rw[ab];exact c4
  by_cases c5:x.Op=5
  ·refine one ⟨5,0,[],false,0,0⟩ (Nat.zero_le _) fun out ho=>?_
   rw[fP,f7,if_neg m1,if_neg m1,if_neg m2,if_neg m2,if_neg m3,if_neg m3,if_neg m4,if_neg m4,ak c5,ak c5,j3,if_pos (by rw[aN];omega)]
   exact⟨rfl,rfl⟩
  have m5:¬ decide (x.Op=5)=true:=by rw[ab];exact c5
  have start:∀ out,dV out x=(if(decide (x.Op=6))=true then oE out x.Kids (List.length x.Kids:Int) 0 else dV out x)∧d8 out x=(if(decide (x.Op=6))=true then pN out 0 x else d8 out x):=fun out=>by
   by_cases c6:x.Op=6
   ·rw[ak c6,ak c6,fP,f7,if_neg m1,if_neg m1,if_neg m2,if_neg m2,if_neg m3,if_neg m3,if_neg m4,if_neg m4,if_neg m5,if_neg m5,ak c6,ak c6]
    exact⟨rfl,rfl⟩
   ·rw[aj c6,aj c6];exact⟨rfl,rfl⟩
  by_cases c6:x.Op=6
  ·obtain⟨g,L,g1,g2,gs,g3⟩:=IU x.Kids hks (by omega) x.Kids.length 0 (by omega)
   rw[List.drop_zero]at g2 g3
   refine⟨g,L,g1,by omega,gs,fun out ho=>?_⟩
   obtain⟨e1,e2⟩:=g3 out (by omega)
   rw[(start out).1,(start out).2,ak c6,ak c6]
   exact⟨e1,e2 x rfl⟩
  have m6:¬ decide (x.Op=6)=true:=by rw[ab];exact c6
  by_cases c7:x.Op=7
  ·have h2:2≤x.Kids.length:=by
    simp[c7]at hB;exact hB.2
   obtain⟨g,js,L,g1,g2,gs,g3,g4⟩:=N1 x.Kids hks (by omega) (by omega) (x.Kids.length-1) 0 (by omega)
   rw[List.drop_zero]at g2 g4
   refine⟨fun n=>gY n ((n+L:Nat):Int) (js n) (g n),L,fun n=>by rw[AX,g1],by omega,fun n=>AW _ _ _ _ (gs n),fun out ho=>?_⟩
   obtain⟨e1,e2⟩:=g4 out [] (by simp;omega) (by omega)
   obtain⟨e3,e4⟩:=N0 out (js out.length) (by rw[(g3 _).1];omega) (js out.length).length 0 (g out.length) (by omega) (by rw[g1];exact(g3 _).2) (by rw[g1];omega)
   rw[List.nil_append]at e1 e2
   rw[List.drop_zero,g1]at e3 e4
   have hw:w64 ((x.Kids.length:Int)-1)=((x.Kids.length-1:Nat):Int):=by rw[aF (by omega) (by omega)];omega
   have ht:List.take (((x.Kids.length-1:Nat):Int).toNat-0) (List.drop 0 x.Kids)=x.Kids.take (x.Kids.length-1):=by rw[af,Nat.sub_zero,List.drop_zero]
   have htl:(x.Kids.take (x.Kids.length-1)).length=x.Kids.length-1:=by rw[List.length_take];omega
   rw[fP,f7,if_neg m1,if_neg m1,if_neg m2,if_neg m2,if_neg m3,if_neg m3,if_neg m4,if_neg m4,if_neg m5,if_neg m5,if_neg m6,if_neg m6,ak c7,ak c7,Lz,QG,hw,if_pos (by omega),ht,htl]
   have e1':oC out x.Kids [] (x.Kids.take (x.Kids.length-1)) ((x.Kids.length-1:Nat):Int) 0=_:=e1.trans e3
   have e2':pP out x.Kids [] 0=_:=e2.trans e4
   rw[e1',e2']
   exact⟨rfl,rfl⟩
  have m7:¬ decide (x.Op=7)=true:=by rw[ab];exact c7
  have hone:x.Op=8∨x.Op=9∨x.Op=10→∃ k,x.Kids=[k]:=fun ho=>by
   have:x.Kids.length=1:=by
    rcases ho with ho | ho | ho <;> (simp[ho]at hB;exact hB.2)
   exact List.length_eq_one_iff.1 this
  have hw1:∀ out:List an,out.length≤100000→w64 ((out.length:Int)+1)=((out.length+1:Nat):Int):=fun out ho=>by rw[aF (by omega) (by omega)];omega
  by_cases c8:x.Op=8
  ·obtain⟨k,hk1⟩:=hone (.inl c8)
   obtain⟨f,M,f1,f2,fs,f3⟩:=hks k (by rw[hk1];exact List.mem_singleton.2 rfl)
   have hnk:bf x=1+bf k:=by rw[hnx,hk1,aZ,aZ];omega
   refine⟨fun n=>⟨7,0,[],false,((n+1:Nat):Int),((n+1+M+1:Nat):Int)⟩::(f (n+1)++[⟨6,0,[],false,(n:Int),0⟩]),M+2,fun n=>by simp[f1],by omega,fun n=>iW (Nat.zero_le _) (nJ (fs _) (iW (Nat.zero_le _) kr)),fun out ho=>?_⟩
   have fork:∀ p:an,dV (List.append out [p]) k=some (out++p::f (out.length+1),())∧d8 (List.append out [p]) k=some (out++p::f (out.length+1),()):=fun p=>by
    have hlp:(out++[p]).length=out.length+1:=by simp
    have:=f3 (out++[p]) (by omega)
    rw[hlp,ah]at this
    exact this
   have hv:∀ p q:an,List.append (out++p::f (out.length+1)) [q]=out++p::(f (out.length+1)++[q]):=fun p q=>by simp
   have hvl:∀ p q:an,(out++p::(f (out.length+1)++[q])).length=out.length+1+M+1:=fun p q=>by simp[f1];omega
   have hml:∀ p:an,(out++p::f (out.length+1)).length=out.length+1+M:=fun p=>by simp[f1];omega
   rw[fP,f7,if_neg m1,if_neg m1,if_neg m2,if_neg m2,if_neg m3,if_neg m3,if_neg m4,if_neg m4,if_neg m5,if_neg m5,if_neg m6,if_neg m6,if_neg m7,if_neg m7,ak c8,ak c8,hk1]
   constructor
   ·rw[if_pos (by rw[aN];omega),if_pos (by simp),show List.getD [k] 0 aL=k from rfl,(fork _).1,aa]
    dsimp only
    rw[hml,if_pos (by rw[aN];omega),hv,hvl,if_pos (by omega),af,g7,iD]
    dsimp only
    rw[hw1 out (by omega),oF]
   ·rw[j3,if_pos (by rw[aN];omega),aa,if_pos (by simp),show List.getD [k] 0 aL=k from rfl]
    dsimp only
    rw[(fork _).2,aa]
    dsimp only
    rw[hml,if_pos (by rw[aN];omega),hv,hvl,if_pos (by omega),af,g7,iD,hvl,if_pos (by omega),g7,iD]
    dsimp only
    rw[hw1 out (by omega),pO]
  have m8:¬ decide (x.Op=8)=true:=by rw[ab];exact c8
  by_cases c9:x.Op=9
  ·obtain⟨k,hk1⟩:=hone (.inr (.inl c9))
   obtain⟨f,M,f1,f2,fs,f3⟩:=hks k (by rw[hk1];exact List.mem_singleton.2 rfl)
   have hnk:bf x=1+bf k:=by rw[hnx,hk1,aZ,aZ];omega
   refine⟨fun n=>f n++[⟨7,0,[],false,(n:Int),((n+M+1:Nat):Int)⟩],M+1,fun n=>by simp[f1],by omega,fun n=>nJ (fs _) (iW (Nat.zero_le _) kr),fun out ho=>?_⟩
   obtain⟨e1,e2⟩:=f3 out (by omega)
   have hml:(out++f out.length).length=out.length+M:=by simp[f1]
   have hw2:w64 (((out.length+M:Nat):Int)+1)=((out.length+M+1:Nat):Int):=by rw[aF (by omega) (by omega)];omega
   rw[fP,f7,if_neg m1,if_neg m1,if_neg m2,if_neg m2,if_neg m3,if_neg m3,if_neg m4,if_neg m4,if_neg m5,if_neg m5,if_neg m6,if_neg m6,if_neg m7,if_neg m7,if_neg m8,if_neg m8,ak c9,ak c9,hk1]
   constructor
   ·rw[if_pos (by simp),show List.getD [k] 0 aL=k from rfl,e1,aa]
    dsimp only
    rw[hml,if_pos (by rw[aN];omega),hw2,oF,← ah]
    rfl
   ·rw[if_pos (by simp),show List.getD [k] 0 aL=k from rfl,e2,aa]
    dsimp only
    rw[hml,if_pos (by rw[aN];omega),hw2,pO,← ah]
    rfl
  have m9:¬ decide (x.Op=9)=true:=by rw[ab];exact c9
  by_cases c10:x.Op=10
  ·obtain⟨k,hk1⟩:=hone (.inr (.inr c10))
   obtain⟨f,M,f1,f2,fs,f3⟩:=hks k (by rw[hk1];exact List.mem_singleton.2 rfl)
   have hnk:bf x=1+bf k:=by rw[hnx,hk1,aZ,aZ];omega
   refine⟨fun n=>⟨7,0,[],false,((n+1:Nat):Int),((n+1+M:Nat):Int)⟩::f (n+1),M+1,fun n=>by simp[f1],by omega,fun n=>iW (Nat.zero_le _) (fs _),fun out ho=>?_⟩
   have fork:∀ p:an,dV (List.append out [p]) k=some (out++p::f (out.length+1),())∧d8 (List.append out [p]) k=some (out++p::f (out.length+1),()):=fun p=>by
    have hlp:(out++[p]).length=out.length+1:=by simp
    have:=f3 (out++[p]) (by omega)
    rw[hlp,ah]at this
    exact this
   have hml:∀ p:an,(out++p::f (out.length+1)).length=out.length+1+M:=fun p=>by simp[f1];omega
   rw[fP,f7,if_neg m1,if_neg m1,if_neg m2,if_neg m2,if_neg m3,if_neg m3,if_neg m4,if_neg m4,if_neg m5,if_neg m5,if_neg m6,if_neg m6,if_neg m7,if_neg m7,if_neg m8,if_neg m8,if_neg m9,if_neg m9,ak c10,ak c10,hk1]
   constructor
   ·rw[if_pos (by rw[aN];omega),if_pos (by simp),show List.getD [k] 0 aL=k from rfl,(fork _).1,aa]
    dsimp only
    rw[hml,if_pos (by omega),af,g7,iD]
    dsimp only
    rw[hw1 out (by omega),oF]
   ·rw[j3,if_pos (by rw[aN];omega),aa,if_pos (by simp),show List.getD [k] 0 aL=k from rfl]
    dsimp only
    rw[(fork _).2,aa]
    dsimp only
    rw[hml,if_pos (by omega),af,g7,iD,hml,if_pos (by omega),g7,iD]
    dsimp only
    rw[hw1 out (by omega),pO]
  have m10:¬ decide (x.Op=10)=true:=by rw[ab];exact c10
  refine⟨fun _=>[],0,fun _=>rfl,by omega,fun _=>kr,fun out ho=>?_⟩
  rw[fP,f7,if_neg m1,if_neg m1,if_neg m2,if_neg m2,if_neg m3,if_neg m3,if_neg m4,if_neg m4,if_neg m5,if_neg m5,if_neg m6,if_neg m6,if_neg m7,if_neg m7,if_neg m8,if_neg m8,if_neg m9,if_neg m9,if_neg m10,if_neg m10,oF,pO,List.append_nil]
  exact⟨rfl,rfl⟩
theorem NH{x:aq}(hn:bf x≤121)(hs:SG x)(hd:∃ v,v≤12∧gJ x=some (v,())∧gw x=some (v,())):∃ l,vC x=some (l,())∧xX x=some (l,())∧l.length≤1000∧SP l:=by
 obtain⟨e1,e2⟩:=OP hn hs hd
 rw[KK,Px,e1,e2,aa,aa]
 dsimp only
 by_cases c:rx x=true
 ·rw[c,if_neg (by decide),if_neg (by decide)]
  obtain⟨f,L,f1,f2,fs,f3⟩:=D6 121 x hn (by decide) hs c
  obtain⟨e3,e4⟩:=f3 [] (by simp;omega)
  rw[List.length_nil,List.nil_append]at e3 e4
  rw[e3,e4,aa,aa]
  dsimp only
  have:=f1 0
  rw[j3,if_pos (by rw[aN];omega)]
  exact⟨_,rfl,rfl,by show(f 0++[_]).length≤1000;simp;omega,nJ (fs 0) (iW (Nat.zero_le _) kr)⟩
 ·rw[Bool.not_eq_true]at c
  simp only[c,Bool.not_false,if_true]
  exact⟨_,rfl,rfl,by simp,kr⟩
theorem zL:∀ {l m:List Int},l.Pairwise (· < ·)→m.Pairwise (· < ·)→(∀ x,x∈l↔x∈m)→l=m
 | [],[],_,_,_=>rfl
 | [],b::m,_,_,h=>absurd ((h b).2 (List.mem_cons_self ..)) (by simp)
 | a::l,[],_,_,h=>absurd ((h a).1 (List.mem_cons_self ..)) (by simp)
 | a::l,b::m,hl,hm,h=>by
  have hl':=List.pairwise_cons.1 hl
  have hm':=List.pairwise_cons.1 hm
  have hab:a=b:=by
   rcases List.mem_cons.1 ((h a).1 (List.mem_cons_self ..))with e | e
   ·exact e
   ·rcases List.mem_cons.1 ((h b).2 (List.mem_cons_self ..))with e' | e'
    ·exact e'.symm
    ·have:=hl'.1 b e';have:=hm'.1 a e;omega
  subst hab
  rw[zL hl'.2 hm'.2 fun x=>?_]
  constructor
  ·intro hx
   rcases List.mem_cons.1 ((h x).1 (List.mem_cons_of_mem _ hx))with e | e
   ·have:=hl'.1 x hx;omega
   ·exact e
  ·intro hx
   rcases List.mem_cons.1 ((h x).2 (List.mem_cons_of_mem _ hx))with e | e
   ·have:=hm'.1 x hx;omega
   ·exact e
theorem Gn{l:List Int}(h:l.Nodup):(co l).Pairwise (· < ·):=by
 have h1:(co l).Pairwise (fun a b=>decide (a≤b)=true):=List.pairwise_mergeSort (fun a b c h1 h2=>by simp at *;omega) (fun a b=>by simp;omega) l
 have h2:(co l).Nodup:=(List.mergeSort_perm l _).nodup_iff.2 h
 exact(h1.and h2).imp fun {a b} h=>by have:=of_decide_eq_true h.1;have:=h.2;omega
theorem zM{N:Int}:∀ (l:List Int) (lo:Int),l.Pairwise (· < ·)→(∀ x∈l,lo≤x∧x<N)→lo≤N→(l.length:Int)≤N-lo
 | [],lo,_,_,h=>by simp;omega
 | a::l,lo,hl,hb,h=>by
  have hl':=List.pairwise_cons.1 hl
  have ha:=hb a (List.mem_cons_self ..)
  have:=zM l (a+1) hl'.2 (fun x hx=>⟨by have:=hl'.1 x hx;omega,(hb x (List.mem_cons_of_mem _ hx)).2⟩) (by omega)
  rw[List.length_cons];omega
theorem rX{N:Nat}{l:List Int}(h:l.Nodup)(hb:∀ x∈l,0≤x∧x<(N:Int)):l.length≤N:=by
 have:=zM (N:=N) (co l) 0 (Gn h) (fun x hx=>hb x (sortI_mem.1 hx)) (by omega)
 rw[yK]at this
 omega
def adj(l:List an)(b e:Bool)(k:Nat):List Int :=
 if(l.getD k aK).Op=6 then [(l.getD k aK).A]else if(l.getD k aK).Op=7 then [(l.getD k aK).A,(l.getD k aK).B]
 else if(l.getD k aK).Op=4 then(if b=true then [(k:Int)+1]else [])else if(l.getD k aK).Op=5 then(if e=true then [(k:Int)+1]else [])else []
theorem H0(l:List an)(b e:Bool)(k:Nat):(adj l b e k).length≤2:=by
 unfold adj
 split
 ·simp
 ·split
  ·simp
  ·split
   ·split <;> simp
   ·split
    ·split <;> simp
    ·simp
inductive Rch (l:List an) (at_:List Int) (b e:Bool):Int→Prop
 | base {i:Int}:i∈at_→0≤i→i<(l.length:Int)→Rch l at_ b e i
 | step {k j:Int}:Rch l at_ b e k→j∈adj l b e k.toNat→0≤j→j<(l.length:Int)→Rch l at_ b e j
theorem Rch.bd{l:List an}{at_:List Int}{b e:Bool}{i:Int}(h:Rch l at_ b e i):0≤i∧i<(l.length:Int):=by
 cases h with
 | base _ h1 h2=>exact⟨h1,h2⟩
 | step _ _ h1 h2=>exact⟨h1,h2⟩
def St(l:List an)(seen:List Bool)(out:List Int):Prop:=seen.length=l.length∧(∀ i:Nat,i<l.length→seen.getD i false=decide ((i:Int)∈out))∧(∀ x∈out,0≤x∧x<(l.length:Int))∧out.Nodup
def Put(l:List an)(seen:List Bool)(out:List Int)(ys:List Int)(seen':List Bool)(out':List Int):Prop :=
 St l seen' out'∧(∀ x,x∈out'↔x∈out∨(x∈ys∧0≤x∧x<(l.length:Int)))∧∃ t,out'=out++t
theorem mM{l:List an}(hl:l.length≤1000){seen:List Bool}{out:List Int}(h:St l seen out)(i:Int):∃ seen' out',jl i l seen out=some (l,seen',out',())∧Put l seen out [i] seen' out':=by
 obtain⟨h1,h2,h3,h4⟩:=h
 have hlen:=rX h4 h3
 rw[Kr,dU,aa]
 dsimp only
 by_cases c:0≤i∧i≤w64 ((l.length:Int)-1)
 ·rw[ak c]
  rw[aF (by omega) (by omega)]at c
  have hi:i.toNat<l.length:=by omega
  have e:=h2 i.toNat hi
  rw[Int.toNat_of_nonneg c.1]at e
  rw[if_pos (by omega),e]
  by_cases d:i∈out
  ·rw[ac d,if_neg (by decide)]
   exact⟨_,_,rfl,⟨h1,h2,h3,h4⟩,fun x=>⟨.inl,fun hx=>hx.elim id fun hx=>by rw[List.mem_singleton.1 hx.1];exact d⟩,[],by simp⟩
  ·rw[ae d,if_pos (by decide),if_pos (by omega),if_pos (by rw[aN];omega)]
   refine⟨_,_,rfl,⟨by rw[List.length_set];exact h1,fun j hj=>?_,fun x hx=>?_,?_⟩,fun x=>?_,[i],rfl⟩
   ·show _=decide ((j:Int)∈out++[i])
    by_cases hji:i.toNat=j
    ·subst hji
     rw[ma (by omega),Int.toNat_of_nonneg c.1,ac (by simp)]
    ·rw[List.getD_eq_getElem?_getD,List.getElem?_set_ne hji,← List.getD_eq_getElem?_getD,h2 j hj]
     refine decide_eq_decide.2 ⟨fun hx=>List.mem_append_left _ hx,fun hx=>?_⟩
     rcases List.mem_append.1 hx with hx | hx
     ·exact hx
     ·have:=List.mem_singleton.1 hx;omega
   ·rcases List.mem_append.1 (show x∈out++[i]from hx)with hx | hx
    ·exact h3 x hx
    ·rw[List.mem_singleton.1 hx];omega
   ·show(out++[i]).Nodup
    rw[List.nodup_append]
    exact⟨h4,by simp,fun a ha b hb=>by rw[List.mem_singleton.1 hb];intro e;subst e;exact d ha⟩
   ·show x∈out++[i]↔_
    rw[List.mem_append,List.mem_singleton]
    exact⟨fun hx=>hx.imp id fun hx=>⟨hx,by omega⟩,fun hx=>hx.imp id fun hx=>hx.1⟩
 ·rw[aj c]
  rw[aF (by omega) (by omega)]at c
  exact⟨_,_,rfl,⟨h1,h2,h3,h4⟩,fun x=>⟨.inl,fun hx=>hx.elim id fun hx=>absurd hx.2 (by rw[List.mem_singleton.1 hx.1];omega)⟩,[],by simp⟩
theorem xr{l:List an}{seen:List Bool}{out:List Int}(h:St l seen out):Put l seen out [] seen out:=⟨h,fun x=>⟨.inl,fun hx=>hx.elim id fun hx=>by cases hx.1⟩,[],by simp⟩
theorem Oy{l:List an}{s0 s1 s2:List Bool}{o0 o1 o2:List Int}{i j:Int}(h1:Put l s0 o0 [i] s1 o1)(h2:Put l s1 o1 [j] s2 o2):Put l s0 o0 [i,j] s2 o2:=by
 obtain⟨a1,a2,t1,a3⟩:=h1
 obtain⟨b1,b2,t2,b3⟩:=h2
 refine⟨b1,fun x=>?_,t1++t2,by rw[b3,a3,ah]⟩
 rw[b2,a2,List.mem_singleton,List.mem_singleton,List.mem_cons,List.mem_singleton]
 constructor
 ·rintro ((h | h) | h)
  ·exact .inl h
  ·exact .inr ⟨.inl h.1,h.2⟩
  ·exact .inr ⟨.inr h.1,h.2⟩
 ·rintro (h | ⟨h | h,h'⟩)
  ·exact .inl (.inl h)
  ·exact .inl (.inr ⟨h,h'⟩)
  ·exact .inr ⟨h,h'⟩
theorem I5{l:List an}(hl:l.length≤1000)(b e:Bool){seen:List Bool}{out:List Int}(h:St l seen out)(k:Nat)(hk:k<out.length) :
  ∃ seen' out',kJ b e (k:Int) l seen out=kJ b e ((k+1:Nat):Int) l seen' out'∧Put l seen out (adj l b e out[k].toNat) seen' out':=by
 have hlen:=rX h.2.2.2 h.2.2.1
 have hv:=h.2.2.1 _ (List.getElem_mem hk)
 have w1:w64 (out[k]+1)=((out[k].toNat:Nat):Int)+1:=by rw[aF (by omega) (by omega)];omega
 rw[vt,ak (by omega),if_pos (by omega),aS hk,if_pos (by omega)]
 have L3:∀ s o,hU b e (k:Int) l s o=kJ b e ((k+1:Nat):Int) l s o:=fun s o=>by rw[Ks,aP hk (by omega)]
 unfold adj
 generalize l.getD out[k].toNat aK=p
 by_cases c6:p.Op=6
 ·obtain⟨s1,o1,e1,e2⟩:=mM hl h p.A
  rw[ak c6,if_pos c6,e1,aa]
  exact⟨s1,o1,L3 _ _,e2⟩
 rw[aj c6,if_neg c6]
 by_cases c7:p.Op=7
 ·obtain⟨s1,o1,e1,e2⟩:=mM hl h p.A
  obtain⟨s2,o2,e3,e4⟩:=mM hl e2.1 p.B
  rw[ak c7,if_pos c7,e1,aa]
  dsimp only
  rw[e3,aa]
  exact⟨s2,o2,L3 _ _,Oy e2 e4⟩
 rw[aj c7,if_neg c7]
 by_cases c4:p.Op=4
 ·rw[ak c4,if_pos c4]
  cases b with
  | true =>
   obtain⟨s1,o1,e1,e2⟩:=mM hl h (w64 (out[k]+1))
   rw[if_pos rfl,if_pos rfl,e1,aa]
   rw[w1]at e2
   exact⟨s1,o1,L3 _ _,e2⟩
  | false=>rw[if_neg (by decide),if_neg (by decide)];exact⟨seen,out,L3 _ _,xr h⟩
 rw[aj c4,if_neg c4]
 by_cases c5:p.Op=5
 ·rw[ak c5,if_pos c5]
  cases e with
  | true =>
   obtain⟨s1,o1,e1,e2⟩:=mM hl h (w64 (out[k]+1))
   rw[if_pos rfl,if_pos rfl,e1,aa]
   rw[w1]at e2
   exact⟨s1,o1,L3 _ _,e2⟩
  | false=>rw[if_neg (by decide),if_neg (by decide)];exact⟨seen,out,L3 _ _,xr h⟩
 rw[aj c5,if_neg c5]
 exact⟨seen,out,L3 _ _,xr h⟩
theorem I4{l:List an}(hl:l.length≤1000)(at_:List Int)(b e:Bool):∀ (d k:Nat) (seen:List Bool) (out:List Int),St l seen out→k≤out.length→l.length-k≤d→(∀ x∈out,Rch l at_ b e x)→(∀ (j:Nat) (hj:j<out.length),j<k→∀ y∈adj l b e out[j].toNat,0≤y→y<(l.length:Int)→y∈out) →
  (∀ x∈at_,0≤x→x<(l.length:Int)→x∈out)→∃ out',kJ b e (k:Int) l seen out=some (co out',())∧out'.Nodup∧∀ x,x∈out'↔Rch l at_ b e x:=by
 intro d
 induction d with
 | zero =>
  intro k seen out h hk hd hR hc ha
  have hlen:=rX h.2.2.2 h.2.2.1
  have hko:k=out.length:=by omega
  rw[vt,aj (by omega),HA,if_pos (by rw[aN];omega),aa]
  refine⟨out,rfl,h.2.2.2,fun x=>⟨hR x,fun hx=>?_⟩⟩
  induction hx with
  | base h1 h2 h3=>exact ha _ h1 h2 h3
  | step h0 h1 h2 h3 ih =>
   obtain⟨j,hj,e⟩:=List.mem_iff_getElem.1 ih
   exact hc j hj (by omega) _ (by rw[e];exact h1) h2 h3
 | succ d ihd =>
  intro k seen out h hk hd hR hc ha
  have hlen:=rX h.2.2.2 h.2.2.1
  by_cases hko:k=out.length
  ·rw[vt,aj (by omega),HA,if_pos (by rw[aN];omega),aa]
   refine⟨out,rfl,h.2.2.2,fun x=>⟨hR x,fun hx=>?_⟩⟩
   induction hx with
   | base h1 h2 h3=>exact ha _ h1 h2 h3
   | step h0 h1 h2 h3 ih =>
    obtain⟨j,hj,e⟩:=List.mem_iff_getElem.1 ih
    exact hc j hj (by omega) _ (by rw[e];exact h1) h2 h3
  ·have hk':k<out.length:=by omega
   obtain⟨s1,o1,e1,p1,p2,t,p3⟩:=I5 hl b e h k hk'
   rw[e1]
   have hv:=h.2.2.1 _ (List.getElem_mem hk')
   refine ihd (k+1) s1 o1 p1 (by rw[p3,ag];omega) (by omega) (fun x hx=>?_) (fun j hj hjk y hy y0 y1=>?_) (fun x hx x0 x1=>(p2 x).2 (.inl (ha x hx x0 x1)))
   ·rcases(p2 x).1 hx with hx | ⟨hx,x0,x1⟩
    ·exact hR x hx
    ·exact .step (hR _ (List.getElem_mem hk')) hx x0 x1
   ·have hjo:j<out.length:=by omega
    have ej:o1[j]=out[j]:=by subst p3;exact List.getElem_append_left hjo
    rw[ej]at hy
    by_cases hjk':j=k
    ·subst hjk';exact(p2 y).2 (.inr ⟨hy,y0,y1⟩)
    ·exact(p2 y).2 (.inl (hc j hjo (by omega) y hy y0 y1))
theorem K8{l:List an}(hl:l.length≤1000)(at_:List Int)(hat:at_.length≤1000000)(b e:Bool):∃ out,qV l at_ b e=some (co out,())∧out.Nodup∧∀ x,x∈out↔Rch l at_ b e x:=by
 have key:∀ (d i:Nat) (seen:List Bool) (out:List Int),i+d=at_.length→St l seen out→(∀ x∈out,Rch l at_ b e x)→(∀ (j:Nat) (hj:j<at_.length),j<i→0≤at_[j]→at_[j]<(l.length:Int)→at_[j]∈out) →
   ∃ out',qW b e at_ (at_.length:Int) (i:Int) l seen out=some (co out',())∧out'.Nodup∧∀ x,x∈out'↔Rch l at_ b e x:=by
  intro d
  induction d with
  | zero =>
   intro i seen out hi h hR ha
   rw[Bp,aj (by omega)]
   exact I4 hl at_ b e l.length 0 seen out h (Nat.zero_le _) (by omega) hR (fun j hj h=>absurd h (by omega)) fun x hx x0 x1=>by
    obtain⟨j,hj,rfl⟩:=List.mem_iff_getElem.1 hx
    exact ha j hj (by omega) x0 x1
  | succ d ih =>
   intro i seen out hi h hR ha
   have hi':i<at_.length:=by omega
   obtain⟨s1,o1,e1,p1,p2,t,p3⟩:=mM hl h at_[i]
   rw[Bp,ak (by omega),if_pos (by omega),aS hi',e1,aa]
   dsimp only
   rw[aP hi' (by omega)]
   refine ih (i+1) s1 o1 (by omega) p1 (fun x hx=>?_) fun j hj hji x0 x1=>?_
   ·rcases(p2 x).1 hx with hx | ⟨hx,x0,x1⟩
    ·exact hR x hx
    ·exact .base (by rw[List.mem_singleton.1 hx];exact List.getElem_mem hi') x0 x1
   ·by_cases hj':j=i
    ·subst hj';exact(p2 _).2 (.inr ⟨List.mem_singleton.2 rfl,x0,x1⟩)
    ·exact(p2 _).2 (.inl (ha j hj (by omega) x0 x1))
 rw[Kt,if_pos ⟨by omega,by omega,by rw[aN];omega⟩,af]
 exact key at_.length 0 _ [] (by omega) ⟨List.length_replicate,fun i hi=>by rw[List.getD_eq_getElem?_getD,List.getElem?_replicate,if_pos hi];rfl,fun x hx=>(by cases hx),List.nodup_nil⟩ (fun x hx=>by cases hx) (fun j hj h=>absurd h (by omega))
theorem Am:∀ (f:List Bool) (k:Nat),k<f.length→f.getD k false=false→(f.set k true).count false+1=f.count false
 | [],k,h,_=>absurd h (by simp)
 | a::f,0,h,e=>by
  have:a=false:=e
  subst this
  rw[List.set_cons_zero,List.count_cons,List.count_cons];simp
 | a::f,k+1,h,e=>by
  have:=Am f k (by simpa using h) e
  rw[List.set_cons_succ,List.count_cons,List.count_cons];omega
def Mk(l:List an)(at_:List Int)(b e:Bool)(f:List Bool)(todo:List Int):Prop:=f.length=l.length∧(∀ k:Nat,f.getD k false=true→Rch l at_ b e k)∧(∀ y∈todo,0≤y→y<(l.length:Int)→Rch l at_ b e y) ∧
 ∀ k:Nat,f.getD k false=true→∀ y∈adj l b e k,0≤y→y<(l.length:Int)→f.getD y.toNat false=true∨y∈todo
theorem PK{l:List an}(hl:l.length≤1000)(at_:List Int)(b e:Bool):∀ (d:Nat) (f:List Bool) (todo:List Int),3*f.count false+todo.length≤d→d≤100000→Mk l at_ b e f todo →
  ∃ f',d7 l f b e todo=some (f',())∧Mk l at_ b e f' []∧(∀ k:Nat,f.getD k false=true→f'.getD k false=true)∧∀ y∈todo,0≤y→y<(l.length:Int)→f'.getD y.toNat false=true:=by
 intro d
 induction d with
 | zero =>
  intro f todo hd hd2 h
  have ht:todo=[]:=List.length_eq_zero_iff.1 (by omega)
  subst ht
  rw[yA,if_neg (by simp)]
  exact⟨f,rfl,h,fun k hk=>hk,fun y hy=>by cases hy⟩
 | succ d ih =>
  intro f todo hd hd2 h
  obtain⟨h1,h2,h3,h4⟩:=h
  by_cases ht:todo.length=0
  ·have ht:todo=[]:=List.length_eq_zero_iff.1 ht
   subst ht
   rw[yA,if_neg (by simp)]
   exact⟨f,rfl,⟨h1,h2,h3,h4⟩,fun k hk=>hk,fun y hy=>by cases hy⟩
  ·have w:w64 ((todo.length:Int)-1)=((todo.length-1:Nat):Int):=by rw[aF (by omega) (by omega)];omega
   have hlt:todo.length-1<todo.length:=by omega
   rw[yA,ak (by omega),w,if_pos (by omega),if_pos (by omega),aS hlt,af]
   have hsplit:todo=todo.take (todo.length-1)++[todo[todo.length-1]]:=tm (n:=todo.length-1) (by omega)
   have hrl:(todo.take (todo.length-1)).length=todo.length-1:=by rw[List.length_take];omega
   generalize todo.take (todo.length-1)=rest at hsplit hrl
   generalize todo[todo.length-1]=v at hsplit
   have hmem:∀ y,y∈todo↔y∈rest∨y=v:=fun y=>by rw[hsplit,List.mem_append,List.mem_singleton]
   have skip:(0≤v→v<(l.length:Int)→f.getD v.toNat false=true)→∃ f',d7 l f b e rest=some (f',())∧Mk l at_ b e f' []∧(∀ k:Nat,f.getD k false=true→f'.getD k false=true)∧∀ y∈todo,0≤y→y<(l.length:Int)→f'.getD y.toNat false=true:=fun hv=>by
    obtain⟨f',e1,e2,e3,e4⟩:=ih f rest (by omega) (by omega) ⟨h1,h2,fun y hy=>h3 y ((hmem y).2 (.inl hy)),fun k hk y hy y0 y1=>by
     rcases h4 k hk y hy y0 y1 with h | h
     ·exact .inl h
     ·rcases(hmem y).1 h with h | h
      ·exact .inr h
      ·subst h;exact .inl (hv y0 y1)⟩
    refine⟨f',e1,e2,e3,fun y hy y0 y1=>?_⟩
    rcases(hmem y).1 hy with h | h
    ·exact e4 y h y0 y1
    ·subst h;exact e3 _ (hv y0 y1)
   by_cases c1:v≥(l.length:Int)
   ·rw[ak c1];exact skip fun _ h=>absurd h (by omega)
   rw[aj c1]
   by_cases c2:v<0
   ·rw[ak c2];exact skip fun h=>absurd h (by omega)
   rw[aj c2,if_pos (by omega)]
   by_cases c3:f.getD v.toNat false=true
   ·rw[if_pos c3];exact skip fun _ _=>c3
   rw[if_neg c3,if_pos (by omega),if_pos (by omega)]
   have hvn:v.toNat<f.length:=by omega
   have hvr:Rch l at_ b e v:=h3 v ((hmem v).2 (.inr rfl)) (by omega) (by omega)
   have hcount:=Am f v.toNat hvn (by simpa using c3)
   have hw:w64 (v+1)=((v.toNat:Nat):Int)+1:=by rw[aF (by omega) (by omega)];omega
   have go:∃ f',d7 l (f.set v.toNat true) b e (rest++adj l b e v.toNat)=some (f',())∧Mk l at_ b e f' []∧(∀ k:Nat,f.getD k false=true→f'.getD k false=true)∧∀ y∈todo,0≤y→y<(l.length:Int)→f'.getD y.toNat false=true:=by
    have hal:=H0 l b e v.toNat
    have hget:∀ k:Nat,(f.set v.toNat true).getD k false=true↔f.getD k false=true∨k=v.toNat:=fun k=>by
     by_cases hk:v.toNat=k
     ·subst hk;rw[ma hvn];simp
     ·rw[List.getD_eq_getElem?_getD,List.getElem?_set_ne hk,← List.getD_eq_getElem?_getD]
      exact⟨.inl,fun h=>h.elim id fun h=>absurd h.symm hk⟩
    obtain⟨f',e1,e2,e3,e4⟩:=ih (f.set v.toNat true) (rest++adj l b e v.toNat) (by rw[ag];omega) (by omega) ⟨by rw[List.length_set];exact h1,fun k hk=>by
      rcases(hget k).1 hk with h | h
      ·exact h2 k h
      ·subst h;rw[Int.toNat_of_nonneg (by omega)];exact hvr,
     fun y hy y0 y1=>by
      rcases List.mem_append.1 hy with hy | hy
      ·exact h3 y ((hmem y).2 (.inl hy)) y0 y1
      ·exact .step hvr hy y0 y1,
     fun k hk y hy y0 y1=>by
      rcases(hget k).1 hk with h | h
      ·rcases h4 k h y hy y0 y1 with h | h
       ·exact .inl ((hget _).2 (.inl h))
       ·rcases(hmem y).1 h with h | h
        ·exact .inr (List.mem_append_left _ h)
        ·exact .inl ((hget _).2 (.inr (by rw[h])))
      ·subst h;exact .inr (List.mem_append_right _ hy)⟩
    refine⟨f',e1,e2,fun k hk=>e3 k ((hget k).2 (.inl hk)),fun y hy y0 y1=>?_⟩
    rcases(hmem y).1 hy with h | h
    ·exact e4 y (List.mem_append_left _ h) y0 y1
    ·exact e3 _ ((hget _).2 (.inr (by rw[h])))
   have hnil:rest++[]=rest:=List.append_nil _
   unfold adj at go
   revert go
   generalize l.getD v.toNat aK=p
   intro go
   by_cases c6:p.Op=6
   ·rw[if_pos c6]at go
    rw[ak c6,if_pos (by rw[aN];omega)]
    exact go
   rw[if_neg c6]at go
   rw[aj c6]
   by_cases c7:p.Op=7
   ·rw[if_pos c7]at go
    rw[ak c7,if_pos (by rw[aN];omega)]
    exact go
   rw[if_neg c7]at go
   rw[aj c7]
   by_cases c4:p.Op=4
   ·rw[if_pos c4]at go
    rw[ak c4]
    cases b with
    | true =>
     rw[if_pos rfl]at go
     rw[if_pos rfl,if_pos (by rw[aN];omega),hw]
     exact go
    | false =>
     rw[if_neg (by decide),hnil]at go
     rw[if_neg (by decide)]
     exact go
   rw[if_neg c4]at go
   rw[aj c4]
   by_cases c5:p.Op=5
   ·rw[if_pos c5]at go
    rw[ak c5]
    cases e with
    | true =>
     rw[if_pos rfl]at go
     rw[if_pos rfl,if_pos (by rw[aN];omega),hw]
     exact go
    | false =>
     rw[if_neg (by decide),hnil]at go
     rw[if_neg (by decide)]
     exact go
   rw[if_neg c5,hnil]at go
   rw[aj c5]
   exact go
theorem QV(f:List Bool)(hf:f.length≤1000):yB f=some (marks f 0 f.length,()):=by
 have key:∀ (d i:Nat) (t:List Int),i+d=f.length→t.length≤i→pM f t (i:Int)=some (t++marks f i d,()):=by
  intro d
  induction d with
  | zero =>
   intro i t hi ht
   rw[FG,aj (by omega)]
   show _=some (t++[],())
   rw[List.append_nil]
  | succ d ih =>
   intro i t hi ht
   have hi':i<f.length:=by omega
   rw[FG,ak (by omega),if_pos (by omega),aP hi' (by omega),af,show d+1=1+d by omega,xc]
   have hm:marks f i 1=if f.getD i false=true then [(i:Int)]else []:=by
    unfold marks
    rw[show List.range' i 1=[i]from rfl,List.filter_cons]
    split <;> rfl
   rw[hm]
   by_cases c:f.getD i false=true
   ·rw[if_pos c,if_pos c,if_pos (by rw[aN];omega)]
    have:=ih (i+1) (t++[(i:Int)]) (by omega) (by simp;omega)
    rw[ah]at this
    exact this
   ·rw[if_neg c,if_neg c,List.nil_append]
    exact ih (i+1) t (by omega) (by omega)
 rw[QF]
 have:=key f.length 0 [] (by omega) (Nat.le_refl _)
 rwa [List.nil_append]at this
theorem PL{l:List an}(hl:l.length≤1000)(at_:List Int)(hat:at_.length≤1000000)(b e:Bool):∃ f:List Bool,jW l at_ b e=some (marks f 0 l.length,())∧∀ k:Nat,k<l.length→(f.getD k false=true↔Rch l at_ b e k):=by
 have key:∀ (d i:Nat) (f:List Bool),i+d=at_.length→Mk l at_ b e f []→(∀ (j:Nat) (hj:j<at_.length),j<i→0≤at_[j]→at_[j]<(l.length:Int)→f.getD at_[j].toNat false=true) →
   ∃ g:List Bool,sw l at_ b e f (i:Int)=some (marks g 0 l.length,())∧∀ k:Nat,k<l.length→(g.getD k false=true↔Rch l at_ b e k):=by
  intro d
  induction d with
  | zero =>
   intro i f hi h ha
   obtain⟨h1,h2,h3,h4⟩:=h
   rw[EF,aj (by omega),QV f (by omega),aa,h1]
   refine⟨f,rfl,fun k hk=>⟨h2 k,fun hx=>?_⟩⟩
   have all:∀ y:Int,Rch l at_ b e y→f.getD y.toNat false=true:=fun y hy=>by
    induction hy with
    | base g1 g2 g3 =>
     obtain⟨j,hj,rfl⟩:=List.mem_iff_getElem.1 g1
     exact ha j hj (by omega) g2 g3
    | step g0 g1 g2 g3 ih =>
     rcases h4 _ ih _ g1 g2 g3 with h | h
     ·exact h
     ·cases h
   have:=all k hx
   rwa [af]at this
  | succ d ih =>
   intro i f hi h ha
   have hi':i<at_.length:=by omega
   obtain⟨h1,h2,h3,h4⟩:=h
   rw[EF,ak (by omega),if_pos (by omega),aS hi',QE]
   have hc:=List.count_le_length (a:=false) (l:=f)
   obtain⟨f',e1,e2,e3,e4⟩:=PK hl at_ b e (3*f.count false+1) f [at_[i]] (by simp) (by omega) ⟨h1,h2,fun y hy y0 y1=>.base (by rw[List.mem_singleton.1 hy];exact List.getElem_mem hi') y0 y1,fun k hk y hy y0 y1=>(h4 k hk y hy y0 y1).imp id fun h=>by cases h⟩
   rw[e1,aa]
   dsimp only
   rw[aP hi' (by omega)]
   refine ih (i+1) f' (by omega) e2 fun j hj hji x0 x1=>?_
   by_cases hj':j=i
   ·subst hj';exact e4 _ (List.mem_singleton.2 rfl) x0 x1
   ·exact e3 _ (ha j hj (by omega) x0 x1)
 rw[Pa,if_pos ⟨by omega,by omega,by rw[aN];omega⟩,af]
 have hno:∀ k:Nat,(List.replicate l.length false).getD k false=false:=fun k=>by
  rw[List.getD_eq_getElem?_getD,List.getElem?_replicate];split <;> rfl
 exact key at_.length 0 _ (by omega) ⟨List.length_replicate,fun k hk=>(by rw[hno]at hk;cases hk),fun y hy=>(by cases hy),fun k hk=>(by rw[hno]at hk;cases hk)⟩ (fun j hj h=>absurd h (by omega))
theorem Ad{l:List an}(hl:l.length≤1000)(at_:List Int)(hat:at_.length≤1000000)(b e:Bool):∃ m,qV l at_ b e=some (m,())∧jW l at_ b e=some (m,())∧m.Pairwise (· < ·)∧(∀ x∈m,0≤x∧x<(l.length:Int))∧m.length≤l.length:=by
 obtain⟨out,e1,e2,e3⟩:=K8 hl at_ hat b e
 obtain⟨f,e4,e5⟩:=PL hl at_ hat b e
 have he:co out=marks f 0 l.length:=zL (Gn e2) (xa _ _ _) fun x=>by
  rw[sortI_mem,e3,marks_mem]
  constructor
  ·intro hx
   have hb:=hx.bd
   exact⟨x.toNat,by omega,by omega,by omega,(e5 _ (by omega)).2 (by rw[Int.toNat_of_nonneg hb.1];exact hx)⟩
  ·rintro ⟨i,rfl,h1,h2,h3⟩
   exact(e5 i (by omega)).1 h3
 refine⟨marks f 0 l.length,by rw[e1,he],e4,xa _ _ _,fun x hx=>?_,Du _ _ _⟩
 obtain⟨i,rfl,h1,h2,_⟩:=marks_mem.1 hx
 omega
def plB(p:an)(n:Int):Bool :=
 if p.Op=1 then decide (0≤p.C∧p.C≤255)&&((decide (p.Set=[]) && !p.Not)&&(decide (p.A=0)&&decide (p.B=0)))
 else if p.Op=3 then decide (p.C=0)&&(decide (p.A=0)&&decide (p.B=0))
 else if p.Op=6 then decide (p.C=0)&&((decide (p.Set=[]) && !p.Not)&&(decide (0≤p.A∧p.A≤w64 (n-1))&&decide (p.B=0)))
 else if p.Op=7 then decide (p.C=0)&&((decide (p.Set=[]) && !p.Not)&&(decide (0≤p.A∧p.A≤w64 (n-1))&&decide (0≤p.B∧p.B≤w64 (n-1))))
 else if p.Op=2∨p.Op=4∨p.Op=5∨p.Op=8 then decide (p.C=0)&&((decide (p.Set=[]) && !p.Not)&&(decide (p.A=0)&&decide (p.B=0)))
 else false
theorem QX(p:an)(n:Int):yC p n=some (plB p n,()):=by
 rw[QM]
 simp only[QH,QI,QJ,QK,QL,cQ,aa]
 unfold plB
 generalize w64 (n-1)=m
 by_cases c1:p.Op=1
 ·by_cases hC:0≤p.C∧p.C≤255
  ·by_cases hs:p.Set=[] <;> by_cases hn:p.Not <;> by_cases hA:p.A=0 <;> by_cases hB:p.B=0 <;> simp[c1,hC,hs,hn,hA,hB]
  ·have hC':p.C≠0:=fun h=>hC (by omega)
   by_cases hs:p.Set=[] <;> by_cases hn:p.Not <;> by_cases hA:p.A=0 <;> by_cases hB:p.B=0 <;> simp[c1,hC,hC',hs,hn,hA,hB]
 by_cases hC:p.C=0
 ·by_cases c3:p.Op=3
  ·by_cases hA:p.A=0 <;> by_cases hB:p.B=0 <;> simp[c3,hC,hA,hB]
  by_cases c6:p.Op=6
  ·by_cases hs:p.Set=[] <;> by_cases hn:p.Not <;> by_cases hA:0≤p.A∧p.A≤m <;> by_cases hB:p.B=0 <;> simp[c6,hC,hs,hn,hA,hB]
  by_cases c7:p.Op=7
  ·by_cases hs:p.Set=[] <;> by_cases hn:p.Not <;> by_cases hA:0≤p.A∧p.A≤m <;> by_cases hB:0≤p.B∧p.B≤m <;> simp[c7,hC,hs,hn,hA,hB]
  by_cases c2:p.Op=2
  ·by_cases hs:p.Set=[] <;> by_cases hn:p.Not <;> by_cases hA:p.A=0 <;> by_cases hB:p.B=0 <;> simp[c2,hC,hs,hn,hA,hB]
  by_cases c4:p.Op=4
  ·by_cases hs:p.Set=[] <;> by_cases hn:p.Not <;> by_cases hA:p.A=0 <;> by_cases hB:p.B=0 <;> simp[c4,hC,hs,hn,hA,hB]
  by_cases c5:p.Op=5
  ·by_cases hs:p.Set=[] <;> by_cases hn:p.Not <;> by_cases hA:p.A=0 <;> by_cases hB:p.B=0 <;> simp[c5,hC,hs,hn,hA,hB]
  by_cases c8:p.Op=8
  ·by_cases hs:p.Set=[] <;> by_cases hn:p.Not <;> by_cases hA:p.A=0 <;> by_cases hB:p.B=0 <;> simp[c8,hC,hs,hn,hA,hB]
  have hno:¬ (1≤p.Op∧p.Op≤8):=by omega
  simp[c1,c2,c3,c4,c5,c6,c7,c8,hno]
 ·have e5:(decide (p.C=0))=false:=ae hC
  by_cases c3:p.Op=3
  ·simp[c3,hC]
  by_cases c6:p.Op=6
  ·simp[c6,hC]
  by_cases c7:p.Op=7
  ·simp[c7,hC]
  simp[c1,c3,c6,c7,hC]
theorem LK(p:an)(n:Int)(b:Bool):v6 p n b=some (decide (b=decide (p.Op=8))&&plB p n,()):=by
 rw[LJ]
 simp only[LI,dU,aa]
 unfold plB
 generalize w64 (n-1)=m
 by_cases hb:b=decide (p.Op=8)
 ·rw[ac hb,if_neg (by decide),Bool.true_and]
  clear hb
  by_cases c1:p.Op=1
  ·by_cases hC:0≤p.C∧p.C≤255 <;> by_cases hs:p.Set=[] <;> by_cases hn:p.Not <;> by_cases hA:p.A=0 <;> by_cases hB:p.B=0 <;> simp[c1,hC,hs,hn,hA,hB]
  by_cases hC:p.C=0
  ·by_cases c3:p.Op=3
   ·by_cases hA:p.A=0 <;> by_cases hB:p.B=0 <;> simp[c3,hC,hA,hB]
   by_cases c6:p.Op=6
   ·by_cases hs:p.Set=[] <;> by_cases hn:p.Not <;> by_cases hA:0≤p.A∧p.A≤m <;> by_cases hB:p.B=0 <;> simp[c6,hC,hs,hn,hA,hB]
   by_cases c7:p.Op=7
   ·by_cases hs:p.Set=[] <;> by_cases hn:p.Not <;> by_cases hA:0≤p.A∧p.A≤m <;> by_cases hB:0≤p.B∧p.B≤m <;> simp[c7,hC,hs,hn,hA,hB]
   by_cases c2:p.Op=2
   ·by_cases hs:p.Set=[] <;> by_cases hn:p.Not <;> by_cases hA:p.A=0 <;> by_cases hB:p.B=0 <;> simp[c2,hC,hs,hn,hA,hB]
   by_cases c4:p.Op=4
   ·by_cases hs:p.Set=[] <;> by_cases hn:p.Not <;> by_cases hA:p.A=0 <;> by_cases hB:p.B=0 <;> simp[c4,hC,hs,hn,hA,hB]
   by_cases c5:p.Op=5
   ·by_cases hs:p.Set=[] <;> by_cases hn:p.Not <;> by_cases hA:p.A=0 <;> by_cases hB:p.B=0 <;> simp[c5,hC,hs,hn,hA,hB]
   by_cases c8:p.Op=8
   ·by_cases hs:p.Set=[] <;> by_cases hn:p.Not <;> by_cases hA:p.A=0 <;> by_cases hB:p.B=0 <;> simp[c8,hC,hs,hn,hA,hB]
   simp[c1,c2,c3,c4,c5,c6,c7,c8]
  ·by_cases c3:p.Op=3
   ·simp[c3,hC]
   by_cases c6:p.Op=6
   ·simp[c6,hC]
   by_cases c7:p.Op=7
   ·simp[c7,hC]
   simp[c1,c3,c6,c7,hC]
 ·rw[ae hb,if_pos (by decide),Bool.false_and]
def nfB(l:List an):Bool:=decide (1≤(l.length:Int)∧(l.length:Int)≤400) && !ct (fun i=>!(plB (l.getD i aK) l.length&&decide (decide ((i:Int)=w64 ((l.length:Int)-1))=decide ((l.getD i aK).Op=8)))) l.length
theorem Cd(l:List an)(hl:l.length≤1000):re l=some (nfB l,()):=by
 rw[KL,dU,aa]
 dsimp only
 unfold nfB
 by_cases c:1≤(l.length:Int)∧(l.length:Int)≤400
 ·rw[ac c,if_neg (by decide),Bool.true_and]
  have h:=gt (fun i=>kL l l (l.length:Int) i) l.length (fun i=>!(plB (l.getD i aK) l.length&&decide (decide ((i:Int)=w64 ((l.length:Int)-1))=decide ((l.getD i aK).Op=8)))) (some (false,())) (some (true,()))
   (fun i hi=>by
    show kL l l _ _=_
    rw[BI,ak (by omega),if_pos (by omega),aS hi,LK,aa,aP hi (by omega),bg hi,Bool.and_comm])
   (by show kL l l _ _=_;rw[BI,if_neg (by simp)])
  have h':kL l l (l.length:Int) 0=_:=h
  rw[h']
  split <;> simp_all
 ·rw[ae c,if_pos (by decide),Bool.false_and]
theorem QW(l:List an)(hl:l.length≤1000):xY l=some (nfB l,()):=by
 rw[Py]
 unfold nfB
 have h:=gt (fun i=>ln l (l.length:Int) i) l.length (fun i=>!(plB (l.getD i aK) l.length&&decide (decide ((i:Int)=w64 ((l.length:Int)-1))=decide ((l.getD i aK).Op=8)))) (some (false,())) (some (decide (1≤(l.length:Int)∧(l.length:Int)≤400),()))
  (fun i hi=>by
   show ln l _ _=_
   rw[ER,ak (by omega),if_pos (by omega),aS hi,QX,aa,bg hi,if_pos (c:=(0:Int)≤(i:Int)∧(i:Int)<(l.length:Int)) (by omega),aP hi (by omega)]
   dsimp only
   cases plB l[i] (l.length:Int) with
   | false=>rfl
   | true =>
    rw[if_neg (by decide),Bool.true_and]
    have:decide (decide (l[i].Op=8)=decide ((i:Int)=w64 ((l.length:Int)-1)))=decide (decide ((i:Int)=w64 ((l.length:Int)-1))=decide (l[i].Op=8)):=decide_eq_decide.2 eq_comm
    rw[this])
  (by show ln l _ _=_;rw[ER,if_neg (by simp),cQ];rfl)
 have h':ln l (l.length:Int) 0=_:=h
 rw[h']
 split <;> simp_all
theorem CJ(c:Int):∀ l:List Int,decide (bT l c≥0)=decide (c∈l)
 | []=>by simp[bT]
 | b::l=>by
  have ih:=CJ c l
  have hb:=CH l c
  unfold bT
  by_cases h:b=c
  ·rw[if_pos h];simp[h]
  ·rw[if_neg h]
   have h':c≠b:=fun e=>h e.symm
   have hm:decide (c∈b::l)=decide (c∈l):=decide_eq_decide.2 (by rw[List.mem_cons];exact⟨fun e=>e.resolve_left h',.inr⟩)
   rw[hm,← ih]
   by_cases d:bT l c = -1
   ·rw[if_pos d,d]
   ·rw[if_neg d];exact decide_eq_decide.2 (by omega)
theorem zG(l:List Int)(c:Int):(l.any fun x=>decide (x=c))=decide (c∈l):=by
 cases h:decide (c∈l) with
 | true=>exact List.any_eq_true.2 ⟨c,of_decide_eq_true h,by simp⟩
 | false =>
  have h:=of_decide_eq_false h
  rw[← Bool.not_eq_true]
  intro e
  obtain⟨x,hx,e⟩:=List.any_eq_true.1 e
  exact h (by rw[← of_decide_eq_true e];exact hx)
theorem QO(l:List Int)(c:Int)(hl:l.length≤4294967296):yD l c=some (decide (c∈l),()):=by
 rw[QN]
 have h:=gt (fun i=>lB l c i) l.length (fun i=>decide (l.getD i 0=c)) (some (true,())) (some (false,()))
  (fun i hi=>by show lB l c _=_;rw[FL,ak (by omega),if_pos (by omega),aS hi,bg hi,aP hi (by omega)])
  (by show lB l c _=_;rw[FL,if_neg (by simp)])
 have h':lB l c 0=_:=h
 rw[h',eg l 0 (fun x=>decide (x=c)),zG]
 by_cases d:c∈l
 ·rw[ac d,if_pos rfl]
 ·rw[ae d,if_neg (by decide)]
theorem Aj(l:List Int)(c:Int)(hl:l.length≤4294967296):zb l c=some (decide (c∈l),()):=by
 rw[Sd,Sp]
 obtain⟨k,e1,e2,_⟩:=gy (fun i=>lO l c (l.length:Int) i) () l.length (fun i=>decide (l.getD i 0=c))
  (fun i hi=>by
   show lO l c _ _=_
   rw[Hw,ak (by omega),if_pos (by omega),aS hi,bg hi,aP hi (by omega)]
   have:decide (c=l[i])=decide (l[i]=c):=decide_eq_decide.2 eq_comm
   rw[this])
  (by show lO l c _ _=_;rw[Hw,if_neg (by simp)])
 have e1':lO l c (l.length:Int) 0=some (k,()):=e1
 rw[e1',aa]
 dsimp only
 rw[e2,eg l 0 (fun x=>decide (x=c)),zG]
def tkB(p:an)(c:Int):Bool:=if p.Op=1 then decide (p.C=w64 c)else if p.Op=2 then true else if p.Op=3 then !decide (decide (c∈p.Set)=p.Not)else false
theorem GB(p:an)(c:Int)(hl:p.Set.length≤4294967296):wl p c=some (tkB p c,())∧yE p c=some (tkB p c,()):=by
 rw[L7,QP,HD,Ha,G0,QO _ _ hl]
 simp only[aa,CJ]
 unfold tkB
 by_cases c1:p.Op=1
 ·have:decide (w64 c=p.C)=decide (p.C=w64 c):=decide_eq_decide.2 eq_comm
  simp[c1,this]
 by_cases c2:p.Op=2
 ·simp[c2]
 by_cases c3:p.Op=3
 ·simp[c3]
 simp[c1,c2,c3]
def nxt(l:List an)(c:Int)(m:List Int):List Int:=(m.filter fun k=>tkB (l.getD k.toNat aK) c).map fun k=>k+1
theorem NP(l:List an)(c:Int)(m:List Int):(nxt l c m).length≤m.length:=by
 unfold nxt
 rw[List.length_map]
 exact List.length_filter_le ..
theorem DK(l:List an)(c k:Int)(m:List Int):nxt l c (k::m)=(if tkB (l.getD k.toNat aK) c=true then [k+1]else [])++nxt l c m:=by
 unfold nxt
 rw[List.filter_cons]
 split <;> rfl
def nK(l:List an):Prop:=∀ p∈l,p.Set.length≤4294967296
theorem NF{l:List an}(hl:l.length≤1000)(hS:nK l){s:List Int}(hs:s.length≤4294967296)(p:Nat)(hp:p<s.length)(best:Int)(m:List Int)(hm:m.length≤1000)(hb:∀ x∈m,0≤x∧x<(l.length:Int)) :
  ∀ (d i:Nat) (t:List Int),i+d=m.length→t.length≤i→oq l s (p:Int) best t m (m.length:Int) (i:Int)=md l s ((p+1:Nat):Int) best (t++nxt l s[p] (m.drop i)):=by
 intro d
 induction d with
 | zero =>
  intro i t hi ht
  rw[BF,aj (by omega),List.drop_eq_nil_of_le (by omega),aP hp (by omega)]
  show _=md l s _ best (t++[])
  rw[List.append_nil]
 | succ d ih =>
  intro i t hi ht
  have hi':i<m.length:=by omega
  have hv:=hb _ (List.getElem_mem hi')
  have hvn:m[i].toNat<l.length:=by omega
  rw[BF,ak (by omega),if_pos (by omega),aS hi',if_pos (by omega),if_pos (by omega),aS hp,bg hvn,(GB _ _ (hS _ (List.getElem_mem hvn))).1,aa,aF (n:=m[i]+1) (by omega) (by omega),aP hi' (by omega),ai hi',DK,bg hvn]
  dsimp only
  by_cases c:tkB l[m[i].toNat] s[p]=true
  ·rw[if_pos c,if_pos c,if_pos (by rw[aN];omega)]
   have:=ih (i+1) (t++[m[i]+1]) (by omega) (by simp;omega)
   rw[ah]at this
   exact this
  ·rw[if_neg c,if_neg c,List.nil_append]
   exact ih (i+1) t (by omega) (by omega)
theorem NG{l:List an}(hl:l.length≤1000)(hS:nK l){s:List Int}(hs:s.length≤4294967296)(p:Nat)(hp:p<s.length)(best:Int)(m:List Int)(hm:m.length≤1000)(hb:∀ x∈m,0≤x∧x<(l.length:Int)) :
  ∀ (d i:Nat) (t:List Int),i+d=m.length→t.length≤i→pu l s m best (p:Int) t (i:Int)=(jW l (t++nxt l s[p] (m.drop i)) false (decide (((p+1:Nat):Int)=(s.length:Int)))).bind fun(r1:(List Int)×Unit)=>pq l s r1.1 best ((p+1:Nat):Int):=by
 intro d
 induction d with
 | zero =>
  intro i t hi ht
  rw[EO,aj (by omega),List.drop_eq_nil_of_le (by omega),aP hp (by omega)]
  show _=(jW l (t++[]) _ _).bind _
  rw[List.append_nil]
 | succ d ih =>
  intro i t hi ht
  have hi':i<m.length:=by omega
  have hv:=hb _ (List.getElem_mem hi')
  have hvn:m[i].toNat<l.length:=by omega
  rw[EO,ak (by omega),if_pos (by omega),aS hi',if_pos (by omega),if_pos (by omega),aS hp,bg hvn,(GB _ _ (hS _ (List.getElem_mem hvn))).2,aa,aF (n:=m[i]+1) (by omega) (by omega),aP hi' (by omega),ai hi',DK,bg hvn]
  dsimp only
  by_cases c:tkB l[m[i].toNat] s[p]=true
  ·rw[if_pos c,if_pos c,if_pos (by omega),if_pos (by rw[aN];omega)]
   have:=ih (i+1) (t++[m[i]+1]) (by omega) (by simp;omega)
   rw[ah]at this
   exact this
  ·rw[if_neg c,if_neg c,List.nil_append]
   exact ih (i+1) t (by omega) (by omega)
theorem Dd{m:List Int}(ha:m.Pairwise (· < ·)){N:Int}(hb:∀ x∈m,x<N)(h0:0<m.length):decide (N-1∈m)=decide (m[m.length-1]=N-1):=by
 refine decide_eq_decide.2 ⟨fun h=>?_,fun h=>by rw[← h];exact List.getElem_mem _⟩
 obtain⟨i,hi,e⟩:=List.mem_iff_getElem.1 h
 have h1:=hb _ (List.getElem_mem (show m.length-1<m.length by omega))
 by_cases c:i=m.length-1
 ·subst c;exact e
 ·have:=List.pairwise_iff_getElem.1 ha i (m.length-1) hi (by omega) (by omega)
  omega
theorem Nw{l:List an}(hl:l.length≤1000)(hS:nK l){s:List Int}(hs:s.length≤4294967296):∀ (d p:Nat),p+d=s.length→∀ (best:Int) (at_:List Int),at_.length≤1000 →
  ∃ v,md l s (p:Int) best at_=some (v,())∧((jW l at_ (decide ((p:Int)=0)) (decide ((p:Int)=(s.length:Int)))).bind fun(r1:(List Int)×Unit)=>pq l s r1.1 best (p:Int))=some (v,()):=by
 intro d
 induction d with
 | zero =>
  intro p hp best at_ hat
  obtain⟨m,e1,e2,e3,e4,e5⟩:=Ad hl at_ (by omega) (decide ((p:Int)=0)) (decide ((p:Int)=(s.length:Int)))
  rw[BE,e1,e2,aa,aa]
  dsimp only
  rw[Aj _ _ (by omega),aa,EM,aF (n:=(l.length:Int)-1) (by omega) (by omega)]
  dsimp only
  have hi:∀ b,oo l s (p:Int) b m=some (b,()):=fun b=>by rw[vA,ak (by omega)]
  have hss:∀ b,pt l s m b (p:Int)=some (b,()):=fun b=>by rw[EN,ak (by omega)]
  simp only[hi,hss]
  by_cases hm:0<m.length
  ·have w:w64 ((m.length:Int)-1)=((m.length-1:Nat):Int):=by rw[aF (by omega) (by omega)];omega
   rw[if_pos (c:=decide ((m.length:Int)>0)=true) (ac (by omega)),w,if_pos (c:=(0:Int)≤((m.length-1:Nat):Int)∧((m.length-1:Nat):Int)<(m.length:Int)) (by omega),aS (by omega),Dd e3 (fun x hx=>(e4 x hx).2) hm]
   by_cases c:m[m.length-1]=(l.length:Int)-1
   ·rw[ac c,if_pos rfl];exact⟨_,rfl,rfl⟩
   ·rw[ae c,if_neg (by decide)];exact⟨_,rfl,rfl⟩
  ·have:m=[]:=List.length_eq_zero_iff.1 (by omega)
   subst this
   rw[if_neg (c:=decide ((l.length:Int)-1∈([]:List Int))=true) (by simp),if_neg (by simp)]
   exact⟨_,rfl,rfl⟩
 | succ d ih =>
  intro p hp best at_ hat
  have hps:p<s.length:=by omega
  obtain⟨m,e1,e2,e3,e4,e5⟩:=Ad hl at_ (by omega) (decide ((p:Int)=0)) (decide ((p:Int)=(s.length:Int)))
  rw[BE,e1,e2,aa,aa]
  dsimp only
  rw[Aj _ _ (by omega),aa,EM,aF (n:=(l.length:Int)-1) (by omega) (by omega)]
  dsimp only
  by_cases hm:0<m.length
  ·have go:∀ b,∃ v,oo l s (p:Int) b m=some (v,())∧pt l s m b (p:Int)=some (v,()):=fun b=>by
    have hn:=NP l s[p] m
    have h1:=NF hl hS hs p hps b m (by omega) e4 m.length 0 [] (by omega) (Nat.le_refl _)
    have h2:=NG hl hS hs p hps b m (by omega) e4 m.length 0 [] (by omega) (Nat.le_refl _)
    rw[List.drop_zero,List.nil_append]at h1 h2
    obtain⟨v,g1,g2⟩:=ih (p+1) (by omega) b (nxt l s[p] m) (by omega)
    rw[ae (p:=((p+1:Nat):Int)=0) (by omega)]at g2
    refine⟨v,?_,?_⟩
    ·rw[vA,aj (by omega),aj (by omega)]
     exact h1.trans g1
    ·rw[EN,aj (by omega)]
     exact h2.trans g2
   have w:w64 ((m.length:Int)-1)=((m.length-1:Nat):Int):=by rw[aF (by omega) (by omega)];omega
   rw[if_pos (c:=decide ((m.length:Int)>0)=true) (ac (by omega)),w,if_pos (c:=(0:Int)≤((m.length-1:Nat):Int)∧((m.length-1:Nat):Int)<(m.length:Int)) (by omega),aS (by omega),Dd e3 (fun x hx=>(e4 x hx).2) hm]
   by_cases c:m[m.length-1]=(l.length:Int)-1
   ·rw[ac c,if_pos rfl,if_pos rfl];exact go _
   ·rw[ae c,if_neg (by decide),if_neg (by decide)];exact go _
  ·have:m=[]:=List.length_eq_zero_iff.1 (by omega)
   subst this
   rw[if_neg (c:=decide ((l.length:Int)-1∈([]:List Int))=true) (by simp),if_neg (by simp),vA,aj (by omega),if_pos (by simp)]
   exact⟨_,rfl,rfl⟩
theorem Nv{l:List an}(hl:l.length≤1000)(hS:nK l){s:List Int}(hs:s.length≤4294967296)(p:Nat)(hp:p≤s.length):∃ v,vz l s (p:Int)=some (v,())∧xW l s (p:Int)=some (v,())∧(nfB l=false→v = -1):=by
 rw[KH,Pu,Cd l hl,QW l hl,dU,cQ]
 simp only[aa]
 cases h:nfB l with
 | false=>exact⟨_,rfl,rfl,fun _=>rfl⟩
 | true =>
  have hin:decide (0≤(p:Int)∧(p:Int)≤(s.length:Int))=true:=ac (by omega)
  rw[hin]
  simp only[Bool.not_true,Bool.false_eq_true,if_false]
  obtain⟨v,e1,e2⟩:=Nw hl hS hs (s.length-p) p (by omega) (-1) [0] (by simp)
  exact⟨v,e1,e2,fun h=>by cases h⟩
theorem Nx{l:List an}(hl:l.length≤1000)(hS:nK l){s:List Int}(hs:s.length≤4294967296):∃ a b c,vy l s=some (a,b,c,())∧xV l s=some (a,b,c,()):=by
 have key:∀ (d p:Nat),p+d=s.length+1→∃ a b c,rc l s (p:Int)=some (a,b,c,())∧sC l s (p:Int)=some (a,b,c,())∧(nfB l=false→a=0∧b=0∧c=false):=by
  intro d
  induction d with
  | zero =>
   intro p hp
   rw[BH,EQ,aj (by omega),aj (by omega)]
   exact⟨_,_,_,rfl,rfl,fun _=>⟨rfl,rfl,rfl⟩⟩
  | succ d ih =>
   intro p hp
   obtain⟨v,e1,e2,e3⟩:=Nv hl hS hs p (by omega)
   have w:w64 ((p:Int)+1)=((p+1:Nat):Int):=by rw[aF (by omega) (by omega)];omega
   rw[BH,EQ,ak (by omega),ak (by omega),e1,e2,aa,aa,w]
   dsimp only
   by_cases c:v≥0
   ·rw[ak c,ak c];exact⟨_,_,_,rfl,rfl,fun h=>absurd (e3 h) (by omega)⟩
   ·rw[aj c,aj c];exact ih (p+1) (by omega)
 obtain⟨a,b,c,e1,e2,e3⟩:=key (s.length+1) 0 (by omega)
 rw[KJ,Pw,Cd l hl,aa]
 dsimp only
 cases h:nfB l with
 | false =>
  obtain⟨rfl,rfl,rfl⟩:=e3 h
  rw[if_pos (by decide)]
  exact⟨_,_,_,rfl,e2⟩
 | true=>rw[if_neg (by decide)];exact⟨a,b,c,e1,e2⟩
noncomputable def l7(pat s:List Int):Bool:=match mW pat s with
 | some (v,_)=>decide (v.N≠0)
 | none=>false
theorem qO(pat s:List Int)(hB:∀ b∈pat,0≤b∧b≤255)(hl:pat.length≤9223372036854775807)(hs:s.length≤4294967296):rp pat s=some (l7 pat s,())∧mW pat s=some (⟨1,if l7 pat s=true then 1000000 else 0,[]⟩,()):=by
 obtain⟨x,ok,e1,e2,h1,h2,h3,h4⟩:=OQ pat hB hl
 obtain⟨l,e3,e4,h5,h6⟩:=NH h1 h2 h4
 obtain⟨a,b,c,e5,e6⟩:=Nx h5 (fun p hp=>by have:=h6 p hp;omega) hs
 have hs':mW pat s=some (⟨1,if c=true then 1000000 else 0,[]⟩,()):=by
  rw[P0,e1,aa]
  dsimp only
  rw[Pv,e4,aa]
  dsimp only
  rw[e6,aa,aa]
  dsimp only
  rw[E6,yq]
  cases c with
  | true=>rw[if_pos rfl,aa,ep];rfl
  | false=>rw[if_neg (by decide),aa,ep];rfl
 have hf:l7 pat s=c:=by
  unfold l7
  rw[hs']
  cases c <;> rfl
 rw[hf]
 refine⟨?_,hs'⟩
 rw[Ld,e2,aa]
 dsimp only
 rw[KI,e3,aa]
 dsimp only
 rw[e5]
 rfl
theorem DA{a b:Int}(ha:Dc a)(hb:Dc b):∃ v ok,qY a b=some (v,ok,())∧Dc v:=by
 have ha':=ha
 have hb':=hb
 unfold Dc at ha' hb'
 rw[Bv,cL,cL]
 simp only[aa,ac ha',ac hb',Bool.not_true,Bool.false_eq_true,if_false,qy ha,qy hb]
 have x0:0≤(if a<0 then 0-a else a):=by split <;> omega
 have x1:(if a<0 then 0-a else a)≤9000000000000:=by split <;> omega
 have y0:0≤(if b<0 then 0-b else b):=by split <;> omega
 have y1:(if b<0 then 0-b else b)≤9000000000000:=by split <;> omega
 generalize (if a<0 then 0-a else a)=x at *
 generalize (if b<0 then 0-b else b)=y at *
 generalize (!(decide ((decide (a<0))=(decide (b<0)))))=n
 rw[Dx x0 x1 y0 y1 n]
 have p0:=Int.mul_nonneg x0 y0
 unfold mG Dc
 generalize x*y=p at *
 by_cases c:p/1000000>9000000000000
 ·rw[if_pos c];exact⟨_,_,rfl,by omega⟩
 ·rw[if_neg c]
  cases n with
  | true=>rw[if_pos rfl];exact⟨_,_,rfl,by omega⟩
  | false=>rw[if_neg (by decide)];exact⟨_,_,rfl,by omega⟩
theorem xD(n:Int):∃ v ok,((kR n).bind fun(r2:Int×Bool×Unit)=>some (r2.1,r2.2.1,()))=some (v,ok,())∧Dc v:=by
 rw[oK]
 unfold Dc
 by_cases c:-9000000000000≤n∧n≤9000000000000
 ·rw[if_pos c];exact⟨_,_,rfl,c⟩
 ·rw[if_neg c];exact⟨_,_,rfl,by omega⟩
theorem qv{a b:Int}(ha:Dc a)(hb:Dc b):∃ v ok,mc a b=some (v,ok,())∧Dc v:=by
 unfold Dc at ha hb
 rw[Br,cL,cL]
 simp only[aa,ac ha,ac hb,Bool.not_true,Bool.false_eq_true,if_false]
 exact xD _
theorem Gw{a b:Int}(ha:Dc a)(hb:Dc b):∃ v ok,qZ a b=some (v,ok,())∧Dc v:=by
 unfold Dc at ha hb
 rw[Bz,cL,cL]
 simp only[aa,ac ha,ac hb,Bool.not_true,Bool.false_eq_true,if_false]
 exact xD _
theorem Aw{a b:Int}(ha:Dc a)(hb:Dc b)(h0:b≠0):∃ v ok,oj a b=some (v,ok,())∧Dc v:=by
 unfold Dc at ha hb
 rw[Bu,cL,cL]
 simp only[aa,ac ha,ac hb,ae h0,Bool.not_true,Bool.false_eq_true,if_false,if_pos h0]
 exact xD _
noncomputable def bq(op a b:Int):Int×Int:=match hY (op+9) a b with
 | some (n,e,_)=>(n,e)
 | none=>(0,0)
theorem xd{op a b:Int}(ha:Dc a)(hb:Dc b):hY (op+9) a b=some ((bq op a b).1,(bq op a b).2,())∧Dc (bq op a b).1∧0≤(bq op a b).2∧(bq op a b).2≤2:=by
 have key:∃ n e,hY (op+9) a b=some (n,e,())∧Dc n∧(0:Int)≤e∧e≤2:=by
  have z:Dc 0:=by unfold Dc;omega
  have L1:∀ {x:Option (Int×Bool×Unit)},(∃ v ok,x=some (v,ok,())∧Dc v)→∃ n e,(x.bind fun(r:Int×Bool×Unit)=>hZ r.1 r.2.1)=some (n,e,())∧Dc n∧(0:Int)≤e∧e≤2:=fun {x} hx=>by
   obtain⟨v,ok,rfl,hv⟩:=hx
   rw[aa,rr]
   dsimp only
   cases ok with
   | true=>rw[if_neg (by decide)];exact⟨_,_,rfl,hv,by decide,by decide⟩
   | false=>rw[if_pos (by decide)];exact⟨_,_,rfl,z,by decide,by decide⟩
  rw[kN]
  by_cases c0:op+9=9
  ·rw[ak c0];exact L1 (qv ha hb)
  rw[aj c0]
  by_cases c1:op+9=10
  ·rw[ak c1];exact L1 (Gw ha hb)
  rw[aj c1]
  by_cases c2:op+9=11
  ·rw[ak c2];exact L1 (DA ha hb)
  rw[aj c2]
  by_cases cb:b=0
  ·rw[ak cb];exact⟨_,_,rfl,z,by decide,by decide⟩
  rw[aj cb]
  by_cases c4:op+9=13
  ·rw[ak c4,if_pos cb]
   refine⟨_,_,rfl,?_,by decide,by decide⟩
   unfold Dc at ha ⊢
   have h1:(a.tmod b).natAbs≤a.natAbs:=by
    rw[Int.natAbs_tmod];exact Nat.mod_le _ _
   omega
  rw[aj c4];exact L1 (Aw ha hb cb)
 obtain⟨n,e,e1,e2⟩:=key
 unfold bq
 rw[e1];exact⟨rfl,e2⟩
theorem rU{op a b:Int}(ha:Dc a)(hb:Dc b):hY (op+9) a b=some ((bq op a b).1,(bq op a b).2,())∧Dc (bq op a b).1:=⟨(xd ha hb).1,(xd ha hb).2.1⟩
def ja(b:Bool):au:=⟨1,if b=true then 1000000 else 0,[]⟩
theorem nP(b:Bool):VG (ja b):=fC (by unfold Dc;split <;> omega)
def xk(op c:Int):Bool:=if op=0 then decide (c<0)else if op=1 then decide (c≤0)else if op=2 then decide (c>0)else if op=3 then decide (c≥0)else if op=4 then decide (c=0)else !decide (c=0)
inductive R
 | err (e:Int)
 | stop
 | go (a:Int) (V:List au) (C:List al) (out:List Int) (st:List au)
def aJ(o:am):Int :=
 if o.Code=4∨o.Code=5∨o.Code=6∨o.Code=9∨o.Code=24∨o.Code=26∨o.Code=27∨o.Code=28∨o.Code=31∨o.Code=32∨o.Code=33∨o.Code=35 then 1
 else if o.Code=7∨o.Code=8 then 2 else if o.Code=29 then o.N else if 12≤o.Code∧o.Code≤23 then 2 else 0
def dD(a:Int)(V:List au)(C:List al)(out:List Int)(st:List au)(v:au):R:=if st.length=64 then .err 7 else .go a V C out (st++[v])
noncomputable def cj(line:List Int)(nr:Int)(o:am)(l:List au):Int×au :=
 if o.Code=1 then(0,⟨1,o.N,[]⟩)
 else if o.Code=2 then(if 300<o.S.length then 3 else 0,⟨2,0,o.S⟩)
 else if o.Code=9 then(0,nZ line (bZ (l.getD 0 aD)))
 else if o.Code=10 then(0,⟨1,nr*1000000,[]⟩)
 else if o.Code=11 then(0,⟨1,((bN line).length:Int)*1000000,[]⟩)
 else if o.Code=17 then(if 300<(aX (l.getD 0 aD)++aX (l.getD 1 aD)).length then 3 else 0,⟨2,0,aX (l.getD 0 aD)++aX (l.getD 1 aD)⟩)
 else if o.Code=24 then(0,ja (l7 o.S (aX (l.getD 0 aD))))
 else if o.Code=25 then(0,ja (l7 o.S line))
 else if o.Code=26 then(0,ja (!j4 (l.getD 0 aD)))
 else if o.Code=27 then(0,⟨1,0-bm (l.getD 0 aD),[]⟩)
 else if o.Code=28 then(0,ja (j4 (l.getD 0 aD)))
 else if o.Code=29 then(0,gn o.S l)
 else if o.Code≤16 then((bq (o.Code-12) (bm (l.getD 0 aD)) (bm (l.getD 1 aD))).2,⟨1,(bq (o.Code-12) (bm (l.getD 0 aD)) (bm (l.getD 1 aD))).1,[]⟩)
 else(0,ja (xk (o.Code-18) (eh (l.getD 0 aD) (l.getD 1 aD))))
def jR(a:Int)(V:List au)(C:List al)(out:List Int)(st:List au)(n:Int)(k:List Int)(v:au):R:=match gF C n k v with
 | some C'=>dD a V C' out st v
 | none=>.err 4
noncomputable def em(a:Int)(V:List au)(C:List al)(out:List Int)(st:List au)(o:am)(l:List au):R :=
 if o.Code=3 then dD a V C out st (V.getD o.N.toNat aD)
 else if o.Code=4 then dD a (V.set o.N.toNat (l.getD 0 aD)) C out st (l.getD 0 aD)
 else if o.Code=5 then(if(bq 0 (bm (V.getD o.N.toNat aD)) (bm (l.getD 0 aD))).2=0 then
   dD a (V.set o.N.toNat ⟨1,(bq 0 (bm (V.getD o.N.toNat aD)) (bm (l.getD 0 aD))).1,[]⟩) C out st ⟨1,(bq 0 (bm (V.getD o.N.toNat aD)) (bm (l.getD 0 aD))).1,[]⟩
  else .err 1)
 else if o.Code=6 then dD a V C out st (gu C o.N (dG (l.getD 0 aD)))
 else if o.Code=7 then jR a V C out st o.N (dG (l.getD 0 aD)) (l.getD 1 aD)
 else if o.Code=8 then(if(bq 0 (bm (gu C o.N (dG (l.getD 0 aD)))) (bm (l.getD 1 aD))).2=0 then
   jR a V C out st o.N (dG (l.getD 0 aD)) ⟨1,(bq 0 (bm (gu C o.N (dG (l.getD 0 aD)))) (bm (l.getD 1 aD))).1,[]⟩
  else .err 1)
 else .go a V (l5 C o.N (dG (l.getD 0 aD))) out st
def gK(a:Int)(V:List au)(C:List al)(out:List Int)(st:List au)(t:List Int):R:=if 600<(out++t).length then .err 5 else .go a V C (out++t) st
noncomputable def doR(line:List Int)(nr:Int)(a:Int)(V:List au)(C:List al)(out:List Int)(st:List au)(o:am)(l:List au):R :=
 if o.Code=36 then .stop
 else if o.Code=30 then .go o.N V C out st
 else if o.Code=31 then(if j4 (l.getD 0 aD)=true then .go (a+1) V C out st else .go o.N V C out st)
 else if o.Code=32 then .go (a+1) V C out st
 else if o.Code=33 then gK (a+1) V C out st ((if o.N=1 then [32]else [])++aX (l.getD 0 aD))
 else if o.Code=34 then gK (a+1) V C out st [10]
 else if o.Code=3∨o.Code=4∨o.Code=5∨o.Code=6∨o.Code=7∨o.Code=8∨o.Code=35 then em (a+1) V C out st o l
 else if(cj line nr o l).1=0 then dD (a+1) V C out st (cj line nr o l).2 else .err (cj line nr o l).1
noncomputable def iG(line:List Int)(nr:Int)(o:am)(a:Int)(V:List au)(C:List al)(out:List Int)(st:List au):R :=
 if(st.length:Int)<aJ o then .err 7
 else doR line nr a V C out (st.take (st.length-(aJ o).toNat)) o (st.drop (st.length-(aJ o).toNat))
def VmI(nv:Nat)(nc:Int)(V:List au)(C:List al)(out:List Int)(st:List au):Prop :=
 (V.length=nv∧∀ v∈V,VG v)∧CG nc C∧(out.length≤600∧Bt out)∧(st.length≤64∧∀ v∈st,VG v)
theorem yO{o:am}{n v c:Int}(h:opB o n v c=true):0≤aJ o∧aJ o≤3:=by
 unfold aJ
 split
 ·omega
 split
 ·omega
 split
 ·rename_i h1 h2 h3
  unfold opB at h
  simp[h3]at h
  omega
 split <;> omega
theorem DL{o:am}{n v c:Int}(h:opB o n v c=true):1≤o.Code∧o.Code≤36:=by
 unfold opB at h
 by_cases c0:1≤o.Code∧o.Code≤36
 ·exact c0
 ·have e:∀ k:Int,1≤k→k≤36→o.Code≠k:=fun k h1 h2 h3=>c0 (by omega)
  simp[e,c0]at h
theorem Dv{a b:Int}(ha:Dc a)(hb:Dc b):(bq 0 a b).2=0∨(bq 0 a b).2=1:=by
 obtain⟨v,ok,e,_⟩:=qv ha hb
 unfold bq
 rw[kN,if_pos (by decide),e,aa,rr]
 dsimp only
 cases ok with
 | true=>rw[if_neg (by decide)];exact .inl rfl
 | false=>rw[if_pos (by decide)];exact .inr rfl
def nH(nv:Nat)(nc:Int)(n:Int):R→Prop
 | .go a V C out st=>(0≤a∧a<n)∧VmI nv nc V C out st
 | .err e=>1≤e∧e≤7
 | .stop=>True
theorem mK{nv:Nat}{nc n a:Int}{V:List au}{C:List al}{out:List Int}{st:List au}{v:au}(ha:0≤a∧a<n)(h:VmI nv nc V C out st)(hv:VG v):nH nv nc n (dD a V C out st v):=by
 obtain⟨h1,h2,h3,h4,h5⟩:=h
 unfold dD
 by_cases c:st.length=64
 ·rw[if_pos c];exact⟨by decide,by decide⟩
 ·rw[if_neg c]
  refine⟨ha,h1,h2,h3,by rw[ag,List.length_singleton];omega,fun w hw=>?_⟩
  rcases List.mem_append.1 hw with hw | hw
  ·exact h5 w hw
  ·rw[List.mem_singleton.1 hw];exact hv
theorem Eh{nv:Nat}{nc n a:Int}{V:List au}{C:List al}{out:List Int}{st:List au}{v:au}{m:Int}{k:List Int}(ha:0≤a∧a<n)(h:VmI nv nc V C out st)(hm:0≤m∧m<nc)(hk:k.length≤300)(hv:VG v):nH nv nc n (jR a V C out st m k v):=by
 unfold jR
 cases e:gF C m k v with
 | none=>exact⟨by decide,by decide⟩
 | some C'=>exact mK ha ⟨h.1,Ov h.2.1 hm hk hv e,h.2.2⟩ hv
theorem Q9{V:List au}(h:∀ v∈V,VG v)(i:Nat){v:au}(hv:VG v):∀ w∈V.set i v,VG w:=fun w hw=>by
 rcases List.mem_or_eq_of_mem_set hw with hw | hw
 ·exact h w hw
 ·rw[hw];exact hv
theorem NB{nv:Nat}{nc n a:Int}{V:List au}{C:List al}{out:List Int}{st l:List au}{o:am}(ha:0≤a∧a<n)(h:VmI nv nc V C out st)(hl:∀ v∈l,VG v)(hN:(o.Code=7∨o.Code=8)→0≤o.N∧o.N<nc):nH nv nc n (em a V C out st o l):=by
 have l0:=bG hl 0
 have l1:=bG hl 1
 have hset:∀ {v},VG v→VmI nv nc (V.set o.N.toNat v) C out st:=fun hv=>⟨⟨by rw[List.length_set];exact h.1.1,Q9 h.1.2 _ hv⟩,h.2⟩
 unfold em
 by_cases c3:o.Code=3
 ·rw[if_pos c3];exact mK ha h (bG h.1.2 _)
 rw[if_neg c3]
 by_cases c4:o.Code=4
 ·rw[if_pos c4];exact mK ha (hset l0) l0
 rw[if_neg c4]
 by_cases c5:o.Code=5
 ·rw[if_pos c5]
  have hm:=fC (rU (op:=0) (bX (bG h.1.2 o.N.toNat)).2.2 (bX l0).2.2).2
  split
  ·exact mK ha (hset hm) hm
  ·exact⟨by decide,by decide⟩
 rw[if_neg c5]
 by_cases c6:o.Code=6
 ·rw[if_pos c6];exact mK ha h (qS h.2.1 _ _)
 rw[if_neg c6]
 by_cases c7:o.Code=7
 ·rw[if_pos c7];exact Eh ha h (hN (.inl c7)) (CU _) l1
 rw[if_neg c7]
 by_cases c8:o.Code=8
 ·rw[if_pos c8]
  have hm:=fC (rU (op:=0) (bX (qS h.2.1 o.N (dG (l.getD 0 aD)))).2.2 (bX l1).2.2).2
  split
  ·exact Eh ha h (hN (.inr c8)) (CU _) hm
  ·exact⟨by decide,by decide⟩
 rw[if_neg c8]
 exact⟨ha,h.1,JC h.2.1 _ _,h.2.2⟩
def gj(line:List Int)(nr:Int):Prop:=(line.length≤2097152∧Bt line)∧0≤nr∧nr≤1000000
theorem RI{line:List Int}{nr:Int}{o:am}{l:List au}(hL:gj line nr)(hl:∀ v∈l,VG v)(hS:Bt o.S)(hN:o.Code=1→Dc o.N)(he:(cj line nr o l).1=0):VG (cj line nr o l).2:=by
 have l0:=bG hl 0
 have l1:=bG hl 1
 obtain⟨⟨hL1,hL2⟩,hL3⟩:=hL
 have hf:=oa line
 unfold cj at he ⊢
 by_cases c1:o.Code=1
 ·rw[if_pos c1];exact fC (hN c1)
 rw[if_neg c1]at he ⊢
 by_cases c2:o.Code=2
 ·rw[if_pos c2]at he ⊢
  dsimp only at he
  exact nM (by by_cases c:300<o.S.length;rw[if_pos c]at he;cases he;omega) hS
 rw[if_neg c2]at he ⊢
 by_cases c9:o.Code=9
 ·rw[if_pos c9];exact(AK (by omega) hL2 _).2
 rw[if_neg c9]at he ⊢
 by_cases c10:o.Code=10
 ·rw[if_pos c10];exact fC (by unfold Dc;omega)
 rw[if_neg c10]at he ⊢
 by_cases c11:o.Code=11
 ·rw[if_pos c11];exact fC (by unfold Dc;omega)
 rw[if_neg c11]at he ⊢
 by_cases c17:o.Code=17
 ·rw[if_pos c17]at he ⊢
  dsimp only at he
  exact nM (by by_cases c:300<(aX (l.getD 0 aD)++aX (l.getD 1 aD)).length;rw[if_pos c]at he;cases he;omega) (fun x hx=>(List.mem_append.1 hx).elim ((dl l0).2 x) ((dl l1).2 x))
 rw[if_neg c17]at he ⊢
 by_cases c24:o.Code=24
 ·rw[if_pos c24];exact nP _
 rw[if_neg c24]at he ⊢
 by_cases c25:o.Code=25
 ·rw[if_pos c25];exact nP _
 rw[if_neg c25]at he ⊢
 by_cases c26:o.Code=26
 ·rw[if_pos c26];exact nP _
 rw[if_neg c26]at he ⊢
 by_cases c27:o.Code=27
 ·rw[if_pos c27];exact fC (by have:=(bX l0).2.2;unfold Dc at this ⊢;omega)
 rw[if_neg c27]at he ⊢
 by_cases c28:o.Code=28
 ·rw[if_pos c28];exact nP _
 rw[if_neg c28]at he ⊢
 by_cases c29:o.Code=29
 ·rw[if_pos c29];exact IP hl _
 rw[if_neg c29]at he ⊢
 by_cases c16:o.Code≤16
 ·rw[if_pos c16];exact fC (rU (bX l0).2.2 (bX l1).2.2).2
 ·rw[if_neg c16];exact nP _
theorem RJ{line:List Int}{nr:Int}{o:am}{l:List au}(hl:∀ v∈l,VG v)(he:(cj line nr o l).1≠0):1≤(cj line nr o l).1∧(cj line nr o l).1≤7:=by
 have hm:=(xd (op:=o.Code-12) (bX (bG hl 0)).2.2 (bX (bG hl 1)).2.2).2.2
 unfold cj at he ⊢
 by_cases c1:o.Code=1
 ·rw[if_pos c1]at he;exact absurd rfl he
 rw[if_neg c1]at he ⊢
 by_cases c2:o.Code=2
 ·rw[if_pos c2]at he ⊢
  dsimp only at he ⊢
  by_cases c:300<o.S.length
  ·rw[if_pos c];exact⟨by decide,by decide⟩
  ·rw[if_neg c]at he;exact absurd rfl he
 rw[if_neg c2]at he ⊢
 by_cases c9:o.Code=9
 ·rw[if_pos c9]at he;exact absurd rfl he
 rw[if_neg c9]at he ⊢
 by_cases c10:o.Code=10
 ·rw[if_pos c10]at he;exact absurd rfl he
 rw[if_neg c10]at he ⊢
 by_cases c11:o.Code=11
 ·rw[if_pos c11]at he;exact absurd rfl he
 rw[if_neg c11]at he ⊢
 by_cases c17:o.Code=17
 ·rw[if_pos c17]at he ⊢
  dsimp only at he ⊢
  by_cases c:300<(aX (l.getD 0 aD)++aX (l.getD 1 aD)).length
  ·rw[if_pos c];exact⟨by decide,by decide⟩
  ·rw[if_neg c]at he;exact absurd rfl he
 rw[if_neg c17]at he ⊢
 by_cases c24:o.Code=24
 ·rw[if_pos c24]at he;exact absurd rfl he
 rw[if_neg c24]at he ⊢
 by_cases c25:o.Code=25
 ·rw[if_pos c25]at he;exact absurd rfl he
 rw[if_neg c25]at he ⊢
 by_cases c26:o.Code=26
 ·rw[if_pos c26]at he;exact absurd rfl he
 rw[if_neg c26]at he ⊢
 by_cases c27:o.Code=27
 ·rw[if_pos c27]at he;exact absurd rfl he
 rw[if_neg c27]at he ⊢
 by_cases c28:o.Code=28
 ·rw[if_pos c28]at he;exact absurd rfl he
 rw[if_neg c28]at he ⊢
 by_cases c29:o.Code=29
 ·rw[if_pos c29]at he;exact absurd rfl he
 rw[if_neg c29]at he ⊢
 by_cases c16:o.Code≤16
 ·rw[if_pos c16]at he ⊢
  dsimp only at he ⊢
  omega
 ·rw[if_neg c16]at he;exact absurd rfl he
theorem Gf{nv:Nat}{nc n a:Int}{V:List au}{C:List al}{out t:List Int}{st:List au}(ha:0≤a∧a<n)(h:VmI nv nc V C out st)(ht:Bt t):nH nv nc n (gK a V C out st t):=by
 unfold gK
 by_cases c:600<(out++t).length
 ·rw[if_pos c];exact⟨by decide,by decide⟩
 ·rw[if_neg c]
  exact⟨ha,h.1,h.2.1,⟨by omega,fun x hx=>(List.mem_append.1 hx).elim (h.2.2.1.2 x) (ht x)⟩,h.2.2.2⟩
theorem xj{o:am}{n v c:Int}(h:opB o n v c=true) :
  (o.Code=1→Dc o.N)∧((o.Code=3∨o.Code=4∨o.Code=5)→0≤o.N∧o.N<v)∧((o.Code=6∨o.Code=7∨o.Code=8∨o.Code=35)→0≤o.N∧o.N<c) ∧
  (o.Code=29→(1≤o.N∧o.N≤3)∧o.S∈kw2)∧((o.Code=30∨o.Code=31)→0≤o.N∧o.N≤w64 (n-1))∧(o.Code=33→0≤o.N∧o.N≤1):=by
 unfold opB at h
 refine⟨fun e=>?_,fun e=>?_,fun e=>?_,fun e=>?_,fun e=>?_,fun e=>?_⟩
 ·simp[e]at h;exact h.1
 ·rcases e with e | e | e <;> (simp[e]at h;omega)
 ·rcases e with e | e | e | e <;> (simp[e]at h;omega)
 ·simp[e]at h;exact h
 ·rcases e with e | e <;> (simp[e]at h;omega)
 ·simp[e]at h;omega
theorem Gs{nv:Nat}{nc n a nr:Int}{line:List Int}{V:List au}{C:List al}{out:List Int}{st:List au}{o:am}(hn:n≤2000)(ha:0≤a∧a<n)(hlast:o.Code≠36→a+1<n)(hL:gj line nr)(h:VmI nv nc V C out st)(ho:opB o n nv nc=true)(hS:Bt o.S) :
  nH nv nc n (iG line nr o a V C out st):=by
 obtain⟨k1,k2⟩:=yO ho
 obtain⟨o1,o2,o3,o4,o5,o6⟩:=xj ho
 unfold iG
 by_cases c:(st.length:Int)<aJ o
 ·rw[if_pos c];exact⟨by decide,by decide⟩
 ·rw[if_neg c]
  have hl:∀ v∈st.drop (st.length-(aJ o).toNat),VG v:=fun v hv=>h.2.2.2.2 v (List.mem_of_mem_drop hv)
  have h':VmI nv nc V C out (st.take (st.length-(aJ o).toNat)):=⟨h.1,h.2.1,h.2.2.1,by rw[List.length_take];have:=h.2.2.2.1;omega,fun v hv=>h.2.2.2.2 v (List.mem_of_mem_take hv)⟩
  generalize st.drop (st.length-(aJ o).toNat)=l at hl
  generalize st.take (st.length-(aJ o).toNat)=rest at h'
  unfold doR
  by_cases c36:o.Code=36
  ·rw[if_pos c36];trivial
  rw[if_neg c36]
  have ha1:0≤a+1∧a+1<n:=⟨by omega,hlast c36⟩
  have hN:(o.Code=30∨o.Code=31)→0≤o.N∧o.N<n:=fun e=>by
   have:=o5 e
   rw[aF (by omega) (by omega)]at this
   omega
  by_cases c30:o.Code=30
  ·rw[if_pos c30];exact⟨hN (.inl c30),h'⟩
  rw[if_neg c30]
  by_cases c31:o.Code=31
  ·rw[if_pos c31]
   split
   ·exact⟨ha1,h'⟩
   ·exact⟨hN (.inr c31),h'⟩
  rw[if_neg c31]
  by_cases c32:o.Code=32
  ·rw[if_pos c32];exact⟨ha1,h'⟩
  rw[if_neg c32]
  by_cases c33:o.Code=33
  ·rw[if_pos c33]
   refine Gf ha1 h' fun x hx=>?_
   rcases List.mem_append.1 hx with hx | hx
   ·split at hx
    ·rw[List.mem_singleton.1 hx];omega
    ·cases hx
   ·exact(dl (bG hl 0)).2 x hx
  rw[if_neg c33]
  by_cases c34:o.Code=34
  ·rw[if_pos c34];exact Gf ha1 h' fun x hx=>by rw[List.mem_singleton.1 hx];omega
  rw[if_neg c34]
  by_cases cn:o.Code=3∨o.Code=4∨o.Code=5∨o.Code=6∨o.Code=7∨o.Code=8∨o.Code=35
  ·rw[if_pos cn]
   exact NB ha1 h' hl fun e=>o3 (by rcases e with e | e <;> simp[e])
  ·rw[if_neg cn]
   by_cases ce:(cj line nr o l).1=0
   ·rw[if_pos ce];exact mK ha1 h' (RI hL hl hS o1 ce)
   ·rw[if_neg ce];exact RJ hl ce
abbrev WT:=ar×(List (List Int)×(List (List Int)×(List Int×(List (List Int)×(List Int×(Int×(Bool×Unit)))))))
def wT(s:ar)(line:List Int)(out:List Int):WT:=(s,([],([],(line,(bN line,(out,(0,(false,()))))))))
theorem iy(V:List au)(C:List al)(nr:Int)(line out:List Int)(e:Int):fj ⟨V,C,nr,0⟩ [] [] line (bN line) out 0 false e=some (wT ⟨V,C,nr,e⟩ line out,()):=by
 rw[E9]
 rw[if_pos (by simp)];rfl
def kt(line:List Int)(nr a:Int)(x:Option (aA×WT×Unit)):R→Prop
 | .err e=>e≠0∧∃ z s o,x=some (z,wT s line o,())∧s.Err=e
 | .stop=>False
 | .go b V C out st=>b=a∧x=some (⟨(),st⟩,wT ⟨V,C,nr,0⟩ line out,())
theorem jg(x:Option (aA×WT×Unit)):(x.bind fun(r:aA×(ar×((List (List Int))×((List (List Int))×((List Int)×((List (List Int))×((List Int)×(Int×(Bool×Unit))))))))×Unit) =>
  some (r.1,(r.2.1.1,(r.2.1.2.1,(r.2.1.2.2.1,(r.2.1.2.2.2.1,(r.2.1.2.2.2.2.1,(r.2.1.2.2.2.2.2.1,(r.2.1.2.2.2.2.2.2.1,(r.2.1.2.2.2.2.2.2.2.1,())))))))),()))=x:=by cases x <;> rfl
theorem mL(line:List Int)(nr a:Int)(V:List au)(C:List al)(out:List Int)(st:List au)(v:au)(hs:st.length≤64) :
  kt line nr a (j1 ⟨(),st⟩ ⟨V,C,nr,0⟩ [] [] line (bN line) out 0 false v) (dD a V C out st v):=by
 rw[Qj]
 dsimp only
 unfold dD
 by_cases c:st.length=64
 ·rw[if_pos c,ak (by omega),iy,aa]
  exact⟨by decide,_,_,_,rfl,rfl⟩
 ·rw[if_neg c,aj (by omega),if_pos (by rw[aN];omega)]
  exact⟨rfl,rfl⟩
theorem xe{op a b:Int}(ha:Dc a)(hb:Dc b)(h0:0≤op)(h4:op≤4)(V:List au)(C:List al)(nr:Int)(line out:List Int) :
  ((bq op a b).2=0→mY ⟨V,C,nr,0⟩ [] [] line (bN line) out 0 false op a b=some (⟨1,(bq op a b).1,[]⟩,wT ⟨V,C,nr,0⟩ line out,())) ∧
  ((bq op a b).2≠0→∃ v,mY ⟨V,C,nr,0⟩ [] [] line (bN line) out 0 false op a b=some (v,wT ⟨V,C,nr,(bq op a b).2⟩ line out,())):=by
 have key:∀ {x:Option (Int×Bool×Unit)},(∃ v ok,x=some (v,ok,())∧Dc v)→hY (op+9) a b=(x.bind fun(r:Int×Bool×Unit)=>hZ r.1 r.2.1) →
   ((bq op a b).2=0→(x.bind fun(r:Int×Bool×Unit)=>j0 r.1 r.2.1 (az.mk ⟨V,C,nr,0⟩ [] [] line (bN line) out 0 false) aD)=some (⟨1,(bq op a b).1,[]⟩,wT ⟨V,C,nr,0⟩ line out,())) ∧
   ((bq op a b).2≠0→∃ v,(x.bind fun(r:Int×Bool×Unit)=>j0 r.1 r.2.1 (az.mk ⟨V,C,nr,0⟩ [] [] line (bN line) out 0 false) aD)=some (v,wT ⟨V,C,nr,(bq op a b).2⟩ line out,())):=by
  intro x hx hm
  obtain⟨v,ok,rfl,hv⟩:=hx
  rw[aa,rr]at hm
  rw[aa,Fh]
  dsimp only at hm ⊢
  unfold bq
  cases ok with
  | true =>
   rw[if_neg (by decide)]at hm
   rw[if_neg (by decide),hm,ep]
   exact⟨fun _=>rfl,fun h=>absurd rfl h⟩
  | false =>
   rw[if_pos (by decide)]at hm
   rw[if_pos (by decide),hm,iy,ep]
   exact⟨(fun h=>by cases h),fun h=>⟨_,rfl⟩⟩
 rw[P5]
 by_cases c0:op=0
 ·rw[ak c0,HZ]
  exact key (qv ha hb) (by rw[kN,ak (by omega)])
 rw[aj c0]
 by_cases c1:op=1
 ·rw[ak c1,Rp]
  exact key (Gw ha hb) (by rw[kN,aj (by omega),ak (by omega)])
 rw[aj c1]
 by_cases c2:op=2
 ·rw[ak c2,NA]
  exact key (DA ha hb) (by rw[kN,aj (by omega),aj (by omega),ak (by omega)])
 rw[aj c2]
 have hm:hY (op+9) a b=if(decide (b=0))=true then some (0,2,())else if(decide (op+9=13))=true then if b≠0 then some ((Int.tmod a b),0,())else none else(oj a b).bind fun(r3:Int×Bool×Unit)=>hZ r3.1 r3.2.1:=by
  rw[kN,aj (by omega),aj (by omega),aj (by omega)]
 by_cases cb:b=0
 ·rw[ak cb]at hm ⊢
  have hE:bq op a b=(0,2):=by unfold bq;rw[hm]
  rw[hE,iy,aa]
  exact⟨(fun h=>by cases h),fun h=>⟨_,rfl⟩⟩
 rw[aj cb]at hm ⊢
 have hd:=Aw ha hb cb
 rw[Jz]
 by_cases c4:op=4
 ·rw[ak (by omega),if_pos cb]at hm
  have hE:bq op a b=(Int.tmod a b,0):=by unfold bq;rw[hm]
  obtain⟨v,ok,e,_⟩:=hd
  rw[hE,e,aa,ak c4,if_pos cb,Fh,if_neg (by decide),ep]
  exact⟨fun _=>rfl,fun h=>absurd rfl h⟩
 ·rw[aj (by omega)]at hm
  have:=key hd hm
  obtain⟨v,ok,e,_⟩:=hd
  rw[e]at this ⊢
  rw[aa,aj c4]
  exact this
theorem Ei(line:List Int)(nr a:Int)(V:List au)(C:List al)(out:List Int)(st:List au)(v:au)(n:Int)(k:List Int)(hs:st.length≤64)(hV:V.length≤100000)(hC:C.length≤100000) :
  kt line nr a (sN ⟨(),st⟩ ⟨V,C,nr,0⟩ [] [] line (bN line) out 0 false n k v) (jR a V C out st n k v):=by
 rw[Qh,Ox _ n k v hV hC,aa]
 unfold jR
 dsimp only
 cases e:gF C n k v with
 | none =>
  dsimp only
  rw[if_pos (by decide),iy,aa]
  exact⟨by decide,_,_,_,rfl,rfl⟩
 | some C' =>
  dsimp only
  rw[if_neg (by decide),jg]
  exact mL line nr a V C' out st v hs
theorem NC{line:List Int}{nr a:Int}{V:List au}{C:List al}{out:List Int}{st l:List au}{o:am}{nv:Nat}{nc:Int}(hnv:nv≤100000)(h:VmI nv nc V C out st)(hl:∀ v∈l,VG v)(hlen:(l.length:Int)=aJ o)
  (hc:o.Code=3∨o.Code=4∨o.Code=5∨o.Code=6∨o.Code=7∨o.Code=8∨o.Code=35) (hN:(o.Code=3∨o.Code=4∨o.Code=5)→0≤o.N∧o.N<nv) :
  kt line nr a (yj ⟨(),st⟩ ⟨V,C,nr,0⟩ [] [] line (bN line) out 0 false o l) (em a V C out st o l):=by
 obtain⟨⟨hV,hVg⟩,hC,hO,hs,hsg⟩:=h
 have hV1:V.length≤100000:=by omega
 have hC1:C.length≤100000:=by have:=hC.1;omega
 have l0:=bG hl 0
 have l1:=bG hl 1
 rw[Qi]
 dsimp only
 unfold em
 by_cases c3:o.Code=3
 ·have hN:=hN (.inl c3)
  rw[ak c3,if_pos c3,if_pos (by omega),jg]
  exact mL line nr a V C out st _ hs
 rw[aj c3,if_neg c3]
 by_cases c4:o.Code=4
 ·have hN:=hN (.inr (.inl c4))
  have hk:aJ o=1:=by unfold aJ;simp[c4]
  rw[ak c4,if_pos c4,if_pos (by omega),if_pos (by omega),if_pos (by omega),jg]
  exact mL line nr a _ C out st _ hs
 rw[aj c4,if_neg c4]
 by_cases c5:o.Code=5
 ·have hN:=hN (.inr (.inr c5))
  have hk:aJ o=1:=by unfold aJ;simp[c5]
  obtain⟨_,n2,n3⟩:=bX (bG hVg o.N.toNat)
  obtain⟨_,m2,m3⟩:=bX l0
  rw[ak c5,if_pos c5,if_pos (by omega),n2,aa,if_pos (by omega),m2,aa]
  dsimp only
  obtain⟨q1,q2⟩:=xe n3 m3 (Int.le_refl 0) (by decide) V C nr line out
  by_cases ce:(bq 0 (bm (V.getD o.N.toNat aD)) (bm (l.getD 0 aD))).2=0
  ·rw[q1 ce,aa,if_pos ce]
   unfold wT
   dsimp only
   rw[if_pos (by simp),if_pos (by omega),jg]
   exact mL line nr a _ C out st _ hs
  ·obtain⟨v,q⟩:=q2 ce
   have he:(bq 0 (bm (V.getD o.N.toNat aD)) (bm (l.getD 0 aD))).2=1:=(Dv n3 m3).resolve_left ce
   rw[q,aa,if_neg ce,he]
   unfold wT
   dsimp only
   rw[if_neg (by simp)]
   exact⟨by decide,_,_,_,rfl,rfl⟩
 rw[aj c5,if_neg c5]
 by_cases c6:o.Code=6
 ·have hk:aJ o=1:=by unfold aJ;simp[c6]
  rw[ak c6,if_pos c6,if_pos (by omega),(gA l0).2,aa]
  dsimp only
  rw[(qT ⟨V,C,nr,0⟩ o.N _ hC1).2,aa,jg]
  exact mL line nr a V C out st _ hs
 rw[aj c6,if_neg c6]
 by_cases c7:o.Code=7
 ·have hk:aJ o=2:=by unfold aJ;simp[c7]
  rw[ak c7,if_pos c7,if_pos (by omega),(gA l0).2,aa,if_pos (by omega),jg]
  exact Ei line nr a V C out st _ _ _ hs hV1 hC1
 rw[aj c7,if_neg c7]
 by_cases c8:o.Code=8
 ·have hk:aJ o=2:=by unfold aJ;simp[c8]
  obtain⟨_,n2,n3⟩:=bX (qS hC o.N (dG (l.getD 0 aD)))
  obtain⟨_,m2,m3⟩:=bX l1
  rw[ak c8,if_pos c8,if_pos (by omega),(gA l0).2,aa]
  dsimp only
  rw[(qT ⟨V,C,nr,0⟩ o.N _ hC1).2,aa]
  dsimp only
  rw[n2,aa,if_pos (by omega),m2,aa]
  dsimp only
  obtain⟨q1,q2⟩:=xe n3 m3 (Int.le_refl 0) (by decide) V C nr line out
  by_cases ce:(bq 0 (bm (gu C o.N (dG (l.getD 0 aD)))) (bm (l.getD 1 aD))).2=0
  ·rw[q1 ce,aa,if_pos ce]
   unfold wT
   dsimp only
   rw[if_pos (by simp),jg]
   exact Ei line nr a V C out st _ _ _ hs hV1 hC1
  ·obtain⟨v,q⟩:=q2 ce
   have he:=(Dv n3 m3).resolve_left ce
   rw[q,aa,if_neg ce,he]
   unfold wT
   dsimp only
   rw[if_neg (by simp)]
   exact⟨by decide,_,_,_,rfl,rfl⟩
 rw[aj c8,if_neg c8]
 have c35:o.Code=35:=by omega
 have hk:aJ o=1:=by unfold aJ;simp[c35]
 rw[ak c35,if_pos (by omega),(gA l0).2,aa]
 dsimp only
 rw[(Az ⟨V,C,nr,0⟩ o.N _ hV1 hC1).2,aa]
 exact⟨rfl,rfl⟩
theorem dN(line:List Int)(nr a:Int)(V:List au)(C:List al)(out:List Int)(st:List au)(v:au)(hs:st.length≤64) :
  kt line nr a (dk ⟨(),st⟩ ⟨V,C,nr,0⟩ [] [] line (bN line) out 0 false v) (dD a V C out st v):=by
 rw[Fp,if_pos (by simp),jg]
 exact mL line nr a V C out st v hs
theorem yT(line:List Int)(nr a:Int)(V:List au)(C:List al)(out:List Int)(st:List au)(v:au){e:Int}(he:e≠0) :
  kt line nr a (dk ⟨(),st⟩ ⟨V,C,nr,e⟩ [] [] line (bN line) out 0 false v) (.err e):=by
 rw[Fp,aj he]
 exact⟨he,_,_,_,rfl,rfl⟩
theorem uy(b:Bool):mU b=some (ja b,()):=by
 rw[E6,yq]
 cases b with
 | true=>rw[if_pos rfl,aa,ep];rfl
 | false=>rw[if_neg (by decide),aa,ep];rfl
theorem RK{line:List Int}{nr a:Int}{V:List au}{C:List al}{out:List Int}{st l:List au}{o:am}(hL:gj line nr)(hs:st.length≤64)(hl:∀ v∈l,VG v)(hlen:(l.length:Int)=aJ o)(hO:1≤o.Code∧o.Code≤29)
  (hn:¬ (o.Code=3∨o.Code=4∨o.Code=5∨o.Code=6∨o.Code=7∨o.Code=8∨o.Code=35)) (hS:Bt o.S) (hSl:o.S.length≤2097152) (hcall:o.Code=29→(1≤o.N∧o.N≤3)∧o.S∈kw2) :
  kt line nr a (yp ⟨(),st⟩ ⟨V,C,nr,0⟩ [] [] line (bN line) out 0 false o l) (if(cj line nr o l).1=0 then dD a V C out st (cj line nr o l).2 else .err (cj line nr o l).1):=by
 obtain⟨⟨hL1,hL2⟩,hL3⟩:=hL
 have hf:=oa line
 have l0:=bG hl 0
 have l1:=bG hl 1
 rw[Qp]
 dsimp only
 unfold cj
 by_cases c1:o.Code=1
 ·rw[ak c1,if_pos c1,ep,aa,if_pos rfl]
  exact dN line nr a V C out st _ hs
 rw[aj c1,if_neg c1]
 by_cases c2:o.Code=2
 ·rw[ak c2,if_pos c2]
  dsimp only
  by_cases c:300<o.S.length
  ·rw[ak (by omega),if_pos c,iy,aa,if_neg (by decide)]
   exact yT line nr a V C out st _ (by decide)
  ·rw[aj (by omega),if_neg c,if_pos rfl]
   exact dN line nr a V C out st _ hs
 rw[aj c2,if_neg c2]
 by_cases c9:o.Code=9
 ·have hk:aJ o=1:=by unfold aJ;simp[c9]
  obtain⟨_,n2,n3⟩:=bX l0
  obtain⟨w1,w2,w3⟩:=nu l0
  rw[ak c9,if_pos c9,if_pos (by omega),PZ,n2,aa,if_pos rfl]
  dsimp only
  rw[w2]
  unfold nZ
  obtain⟨_,r2,_⟩:=mN (s:=line) (by omega) hL2
  obtain⟨_,z2,_⟩:=mN (s:=[]) (by simp) (fun x hx=>by cases hx)
  by_cases d:bZ (l.getD 0 aD)=0
  ·rw[ak d,if_pos d,r2,aa,aa]
   exact dN line nr a V C out st _ hs
  ·rw[aj d,if_neg d,cQ,aa]
   dsimp only
   by_cases e:1≤bZ (l.getD 0 aD)∧bZ (l.getD 0 aD)≤((bN line).length:Int)
   ·have hi:(bZ (l.getD 0 aD)-1).toNat<(bN line).length:=by omega
    obtain⟨g1,g2⟩:=AL (P:=fun x=>0≤x∧x≤255) hL2 (List.getElem_mem hi)
    obtain⟨_,q2,_⟩:=mN (s:=(bN line)[(bZ (l.getD 0 aD)-1).toNat]) (by omega) g1
    rw[ac e,if_neg (by decide),if_pos e,aF (by omega) (by omega),if_pos (by omega),bg hi,q2,aa,aa]
    exact dN line nr a V C out st _ hs
   ·rw[ae e,if_pos (by decide),if_neg e,z2,aa,aa]
    exact dN line nr a V C out st _ hs
 rw[aj c9,if_neg c9]
 by_cases c10:o.Code=10
 ·rw[ak c10,if_pos c10,aF (by omega) (by omega),ep,aa,if_pos rfl,Int.mul_comm]
  exact dN line nr a V C out st _ hs
 rw[aj c10,if_neg c10]
 by_cases c11:o.Code=11
 ·rw[ak c11,if_pos c11,aF (by omega) (by omega),ep,aa,if_pos rfl,Int.mul_comm]
  exact dN line nr a V C out st _ hs
 rw[aj c11,if_neg c11]
 by_cases c17:o.Code=17
 ·have hk:aJ o=2:=by unfold aJ;simp[c17]
  have t0:=(dl l0).1
  have t1:=(dl l1).1
  rw[ak c17,if_pos c17,if_pos (by omega),if_pos (by omega),PY,d6,d6,aa,aa]
  dsimp only
  rw[if_pos (by omega)]
  by_cases c:300<(aX (l.getD 0 aD)++aX (l.getD 1 aD)).length
  ·rw[ak (by omega),if_pos c,iy,aa,if_neg (by decide)]
   exact yT line nr a V C out st _ (by decide)
  ·rw[aj (by omega),if_neg c,if_pos rfl]
   exact dN line nr a V C out st _ hs
 rw[aj c17,if_neg c17]
 by_cases c24:o.Code=24
 ·have hk:aJ o=1:=by unfold aJ;simp[c24]
  have t0:=(dl l0).1
  rw[ak c24,if_pos c24,if_pos (by omega),d6,aa]
  dsimp only
  rw[(qO o.S _ hS (by omega) (by omega)).2,aa,if_pos rfl]
  exact dN line nr a V C out st _ hs
 rw[aj c24,if_neg c24]
 by_cases c25:o.Code=25
 ·rw[ak c25,if_pos c25,(qO o.S line hS (by omega) (by omega)).2,aa,if_pos rfl]
  exact dN line nr a V C out st _ hs
 rw[aj c25,if_neg c25]
 by_cases c26:o.Code=26
 ·have hk:aJ o=1:=by unfold aJ;simp[c26]
  rw[ak c26,if_pos c26,if_pos (by omega),(nq _).2,aa,uy,aa,if_pos rfl]
  exact dN line nr a V C out st _ hs
 rw[aj c26,if_neg c26]
 by_cases c27:o.Code=27
 ·have hk:aJ o=1:=by unfold aJ;simp[c27]
  obtain⟨_,n2,n3⟩:=bX l0
  unfold Dc at n3
  rw[ak c27,if_pos c27,if_pos (by omega),n2,aa]
  dsimp only
  rw[aF (by omega) (by omega),ep,aa,if_pos rfl]
  exact dN line nr a V C out st _ hs
 rw[aj c27,if_neg c27]
 by_cases c28:o.Code=28
 ·have hk:aJ o=1:=by unfold aJ;simp[c28]
  rw[ak c28,if_pos c28,if_pos (by omega),(nq _).2,aa,uy,aa,if_pos rfl]
  exact dN line nr a V C out st _ hs
 rw[aj c28,if_neg c28]
 by_cases c29:o.Code=29
 ·have hk:aJ o=o.N:=by unfold aJ;simp[c29]
  obtain⟨hn1,hn2⟩:=hcall c29
  rw[ak c29,if_pos c29,PJ hl (by omega) (by omega) _ hn2,aa,if_pos rfl]
  exact dN line nr a V C out st _ hs
 rw[aj c29,if_neg c29]
 have hk:aJ o=2:=by
  have hr:12≤o.Code∧o.Code≤23:=by omega
  have e:∀ k:Int,(k<12∨23<k)→o.Code≠k:=fun k h1 h2=>by omega
  unfold aJ
  rw[if_neg (by omega),if_neg (by omega),if_neg c29,if_pos hr]
 by_cases c16:o.Code≤16
 ·obtain⟨_,n2,n3⟩:=bX l0
  obtain⟨_,m2,m3⟩:=bX l1
  rw[ak c16,if_pos c16,if_pos (by omega),n2,aa,if_pos (by omega),m2,aa]
  dsimp only
  rw[aF (by omega) (by omega)]
  obtain⟨q1,q2⟩:=xe (op:=o.Code-12) n3 m3 (by omega) (by omega) V C nr line out
  by_cases ce:(bq (o.Code-12) (bm (l.getD 0 aD)) (bm (l.getD 1 aD))).2=0
  ·rw[q1 ce,aa,if_pos ce]
   exact dN line nr a V C out st _ hs
  ·obtain⟨v,q⟩:=q2 ce
   rw[q,aa,if_neg ce]
   exact yT line nr a V C out st _ ce
 ·have hcmp:=(Ag l0 l1).2
  rw[aj c16,if_neg c16,if_pos (by omega),if_pos (by omega),aF (by omega) (by omega),P6,hcmp,aa,if_pos (by omega)]
  dsimp only
  have hord:List.getD [(decide (eh (l.getD 0 aD) (l.getD 1 aD)<0)),(decide (eh (l.getD 0 aD) (l.getD 1 aD)≤0)),(decide (eh (l.getD 0 aD) (l.getD 1 aD)>0)),(decide (eh (l.getD 0 aD) (l.getD 1 aD)≥0)),(decide (eh (l.getD 0 aD) (l.getD 1 aD)=0)),(!(decide (eh (l.getD 0 aD) (l.getD 1 aD)=0)))] (o.Code-18).toNat false=xk (o.Code-18) (eh (l.getD 0 aD) (l.getD 1 aD)):=by
   have h6:o.Code=18∨o.Code=19∨o.Code=20∨o.Code=21∨o.Code=22∨o.Code=23:=by omega
   rcases h6 with e | e | e | e | e | e <;> (rw[e];rfl)
  rw[hord,uy,aa,aa,if_pos rfl]
  exact dN line nr a V C out st _ hs
abbrev IT:=ar×(List Int×(List Int×(List au×(Int×Unit))))
def iT(s:ar)(line out:List Int)(st:List au)(e:Int):IT:=(s,(line,(out,(st,(e,())))))
theorem gv(s:ar)(line out:List Int)(st:List au)(e:Int):fc s line out st 0 e=some (iT s line out st e,()):=by
 rw[Cz,if_pos (by simp)];rfl
theorem Lb(s:ar)(line out:List Int)(st:List au){e:Int}(he:e≠0)(f:Int):fc s line out st e f=some (iT s line out st e,()):=by
 rw[Cz,aj he];rfl
def ko(line:List Int)(nr a:Int)(x:Option (IT×Unit)):R→Prop
 | .err e=>e≠0∧∃ s o t,x=some (iT s line o t e,())
 | .stop=>False
 | .go b V C out st=>b=a∧x=some (iT ⟨V,C,nr,0⟩ line out st 0,())
theorem cq(x:Option (IT×Unit)):(x.bind fun(r:(ar×((List Int)×((List Int)×((List au)×(Int×Unit)))))×Unit) =>
  some ((r.1.1,(r.1.2.1,(r.1.2.2.1,(r.1.2.2.2.1,(r.1.2.2.2.2.1,()))))),()))=x:=by cases x <;> rfl
theorem cX(line:List Int)(nr a:Int)(V:List au)(C:List al)(out:List Int)(st:List au)(v:au)(hs:st.length≤64) :
  ko line nr a (cU ⟨V,C,nr,0⟩ line out st 0 v) (dD a V C out st v):=by
 rw[LZ]
 unfold dD
 by_cases c:st.length=64
 ·rw[if_pos c,ak (by omega),gv,aa]
  exact⟨by decide,_,_,_,rfl⟩
 ·rw[if_neg c,aj (by omega),if_pos (by rw[aN];omega)]
  exact⟨rfl,rfl⟩
theorem D8{a b:au}(ha:VG a)(hb:VG b)(s:ar)(line out:List Int)(st:List au) :
  ((bq 0 (bm a) (bm b)).2=0→oN s line out st 0 a b=some (⟨1,(bq 0 (bm a) (bm b)).1,[]⟩,iT s line out st 0,())) ∧
  ((bq 0 (bm a) (bm b)).2≠0→∃ v,oN s line out st 0 a b=some (v,iT s line out st 1,())):=by
 obtain⟨n1,n2,n3⟩:=bX ha
 obtain⟨m1,m2,m3⟩:=bX hb
 obtain⟨v,ok,e,_⟩:=qv n3 m3
 have hm:hY (0+9) (bm a) (bm b)=(mc (bm a) (bm b)).bind fun(r0:Int×Bool×Unit)=>hZ r0.1 r0.2.1:=by rw[kN,if_pos (by decide)]
 rw[e,aa,rr]at hm
 dsimp only at hm
 rw[LX,n1,m1,aa,aa]
 dsimp only
 rw[e,aa,gv]
 dsimp only
 unfold bq
 cases ok with
 | true =>
  rw[if_neg (by decide)]at hm
  rw[hm,if_neg (by decide),fa]
  exact⟨fun _=>rfl,fun h=>absurd rfl h⟩
 | false =>
  rw[if_pos (by decide)]at hm
  rw[hm,if_pos (by decide),fa]
  exact⟨(fun h=>by cases h),fun h=>⟨_,rfl⟩⟩
theorem Eg(line:List Int)(nr a:Int)(V:List au)(C:List al)(out:List Int)(st:List au)(v:au)(n:Int)(k:List Int)(hs:st.length≤64)(hV:V.length≤100000)(hC:C.length≤100000) :
  ko line nr a (rB ⟨V,C,nr,0⟩ line out st 0 n k v) (jR a V C out st n k v):=by
 rw[CB,if_neg (by simp),Ow _ n k v hV hC,aa]
 unfold jR
 dsimp only
 cases e:gF C n k v with
 | none =>
  dsimp only
  rw[if_pos (by decide),gv,aa]
  exact⟨by decide,_,_,_,rfl⟩
 | some C' =>
  dsimp only
  rw[if_neg (by decide),cq]
  exact cX line nr a V C' out st v hs
theorem tk(s:ar)(line out t:List Int)(st:List au)(e:Int)(h:out.length+t.length≤1000000):mn s line out st e t=some (iT s line (out++t) st (if 600<(out++t).length∧e=0 then 5 else e),()):=by
 rw[L0,if_pos (by omega)]
 by_cases c:600<(out++t).length
 ·rw[ak (by omega)]
  by_cases d:e=0
  ·subst d;rw[gv,if_pos ⟨c,rfl⟩];rfl
  ·rw[Lb _ _ _ _ d,if_neg (fun h=>d h.2)];rfl
 ·rw[aj (by omega),if_neg (fun h=>c h.1)];rfl
theorem Rn{line:List Int}{nr a:Int}{V:List au}{C:List al}{out:List Int}{st l:List au}{o:am}{nv:Nat}{nc:Int}(hnv:nv≤100000)(h:VmI nv nc V C out st)(hl:∀ v∈l,VG v)(hlen:(l.length:Int)=aJ o)
  (hc:o.Code=4∨o.Code=5∨o.Code=7∨o.Code=8∨o.Code=35) (hN:(o.Code=4∨o.Code=5)→0≤o.N∧o.N<nv) :
  ko line nr a (rC ⟨V,C,nr,0⟩ line out st 0 o l) (em a V C out st o l):=by
 obtain⟨⟨hV,hVg⟩,hC,hO,hs,hsg⟩:=h
 have hV1:V.length≤100000:=by omega
 have hC1:C.length≤100000:=by have:=hC.1;omega
 have l0:=bG hl 0
 have l1:=bG hl 1
 rw[CD]
 dsimp only
 unfold em
 rw[if_neg (c:=o.Code=3) (by omega)]
 by_cases c4:o.Code=4
 ·have hN:=hN (.inl c4)
  have hk:aJ o=1:=by unfold aJ;simp[c4]
  rw[ak c4,if_pos c4,if_pos (by omega),if_pos (by omega),if_pos (by omega),cq]
  exact cX line nr a _ C out st _ hs
 rw[aj c4,if_neg c4]
 by_cases c5:o.Code=5
 ·have hN:=hN (.inr c5)
  have hk:aJ o=1:=by unfold aJ;simp[c5]
  obtain⟨q1,q2⟩:=D8 (bG hVg o.N.toNat) l0 ⟨V,C,nr,0⟩ line out st
  rw[ak c5,if_pos c5,if_pos (by omega),if_pos (by omega)]
  by_cases ce:(bq 0 (bm (V.getD o.N.toNat aD)) (bm (l.getD 0 aD))).2=0
  ·rw[q1 ce,aa,if_pos ce]
   unfold iT
   dsimp only
   rw[if_pos (by simp),if_pos (by omega),cq]
   exact cX line nr a _ C out st _ hs
  ·obtain⟨v,q⟩:=q2 ce
   rw[q,aa,if_neg ce]
   unfold iT
   dsimp only
   rw[if_neg (by simp)]
   exact⟨by decide,_,_,_,rfl⟩
 rw[aj c5,if_neg c5,if_neg (c:=o.Code=6) (by omega)]
 by_cases c7:o.Code=7
 ·have hk:aJ o=2:=by unfold aJ;simp[c7]
  rw[ak c7,if_pos c7,if_pos (by omega),dS,aa]
  dsimp only
  rw[(gA l0).1,aa,if_pos (by omega),cq]
  exact Eg line nr a V C out st _ _ _ hs hV1 hC1
 rw[aj c7,if_neg c7]
 by_cases c8:o.Code=8
 ·have hk:aJ o=2:=by unfold aJ;simp[c8]
  rw[ak c8,if_pos c8,if_pos (by omega),dS,aa]
  dsimp only
  rw[(gA l0).1,aa]
  dsimp only
  rw[(qT ⟨V,C,nr,0⟩ o.N _ hC1).1,aa,if_pos (by omega)]
  dsimp only
  obtain⟨q1,q2⟩:=D8 (qS hC o.N (dG (l.getD 0 aD))) l1 ⟨V,C,nr,0⟩ line out st
  by_cases ce:(bq 0 (bm (gu C o.N (dG (l.getD 0 aD)))) (bm (l.getD 1 aD))).2=0
  ·rw[q1 ce,aa,if_pos ce]
   unfold iT
   dsimp only
   rw[cq]
   exact Eg line nr a V C out st _ _ _ hs hV1 hC1
  ·obtain⟨v,q⟩:=q2 ce
   rw[q,aa,if_neg ce]
   unfold iT
   dsimp only
   rw[CB,if_pos (by simp)]
   exact⟨by decide,_,_,_,rfl⟩
 rw[aj c8,if_neg c8]
 have c35:o.Code=35:=by omega
 have hk:aJ o=1:=by unfold aJ;simp[c35]
 rw[ak c35,if_pos (by omega),dS,aa]
 dsimp only
 rw[(gA l0).1,aa]
 dsimp only
 rw[(Az ⟨V,C,nr,0⟩ o.N _ hV1 hC1).1,aa]
 exact⟨rfl,rfl⟩
theorem N2{line:List Int}{nr a:Int}{V:List au}{C:List al}{out:List Int}{st l:List au}{o:am}{nv:Nat}{nc:Int}(h:VmI nv nc V C out st)(hl:∀ v∈l,VG v)(hlen:(l.length:Int)=aJ o)(hc:o.Code=33∨o.Code=34) :
  ko line nr a (rC ⟨V,C,nr,0⟩ line out st 0 o l) (gK a V C out st (if o.Code=33 then(if o.N=1 then [32]else [])++aX (l.getD 0 aD)else [10])):=by
 obtain⟨⟨hV,hVg⟩,hC,⟨hO,hO2⟩,hs,hsg⟩:=h
 have l0:=bG hl 0
 have t0:=(dl l0).1
 have fin:∀ (t:List Int) (e:Int),e=(if 600<(out++t).length then 5 else 0)→ko line nr a (some (iT ⟨V,C,nr,0⟩ line (out++t) st e,())) (gK a V C out st t):=fun t e he=>by
  unfold gK
  by_cases c:600<(out++t).length
  ·rw[if_pos c]at he ⊢;subst he;exact⟨by decide,_,_,_,rfl⟩
  ·rw[if_neg c]at he ⊢;subst he;exact⟨rfl,rfl⟩
 rw[CD,aj (by omega),aj (by omega),aj (by omega),aj (by omega),aj (by omega)]
 by_cases c33:o.Code=33
 ·have hk:aJ o=1:=by unfold aJ;simp[c33]
  rw[ak c33,if_pos c33]
  by_cases c1:o.N=1
  ·rw[ak c1,if_pos c1,tk _ _ _ _ _ _ (by simp;omega),aa,if_pos (by omega),dS,aa]
   unfold iT
   dsimp only
   generalize aX (l.getD 0 aD)=t at *
   rw[tk _ _ _ _ _ _ (by rw[ag,List.length_singleton];omega),aa,ah]
   refine fin _ _ ?_
   unfold iT
   dsimp only
   by_cases d:600<(out++[32]).length
   ·have h2:600<(out++([32]++t)).length:=by simp at d ⊢;omega
    have e1:(if 600<(out++[32]).length∧(0:Int)=0 then(5:Int)else 0)=5:=if_pos ⟨d,rfl⟩
    rw[e1,if_pos h2,if_neg (by simp)]
   ·have e1:(if 600<(out++[32]).length∧(0:Int)=0 then(5:Int)else 0)=0:=if_neg (fun h=>d h.1)
    rw[e1]
    simp
  ·rw[aj c1,if_neg c1,if_pos (by omega),dS,aa,cq]
   dsimp only
   rw[tk _ _ _ _ _ _ (by omega),List.nil_append]
   exact fin _ _ (by simp)
 ·have c34:o.Code=34:=by omega
  rw[aj c33,if_neg c33,ak c34,cq,tk _ _ _ _ _ _ (by simp;omega)]
  exact fin _ _ (by simp)
theorem nQ(b:Bool):kM b=some (ja b,()):=by
 rw[K0]
 cases b with
 | true=>rw[if_pos rfl,fa];rfl
 | false=>rw[if_neg (by decide),fa];rfl
theorem Nj{line:List Int}{nr a:Int}{V:List au}{C:List al}{out:List Int}{st l:List au}{o:am}{nv:Nat}{nc:Int}(hL:gj line nr)(h:VmI nv nc V C out st)(hl:∀ v∈l,VG v)(hlen:(l.length:Int)=aJ o)(hO:1≤o.Code∧o.Code≤29)
  (hn:¬ (o.Code=4∨o.Code=5∨o.Code=7∨o.Code=8)) (hS:Bt o.S) (hSl:o.S.length≤2097152) (hN:o.Code=3→0≤o.N∧o.N<nv) (hcall:o.Code=29→(1≤o.N∧o.N≤3)∧o.S∈kw2) :
  ko line nr a (wh ⟨V,C,nr,0⟩ line out st 0 o l) (if o.Code=3∨o.Code=6 then em a V C out st o l else if(cj line nr o l).1=0 then dD a V C out st (cj line nr o l).2 else .err (cj line nr o l).1):=by
 obtain⟨⟨hL1,hL2⟩,hL3⟩:=hL
 obtain⟨⟨hV,hVg⟩,hC,hO',hs,hsg⟩:=h
 have hC1:C.length≤100000:=by have:=hC.1;omega
 have hf:=oa line
 have l0:=bG hl 0
 have l1:=bG hl 1
 rw[LW]
 dsimp only
 by_cases c3:o.Code=3
 ·have hN:=hN c3
  rw[aj (by omega),aj (by omega),ak c3,if_pos (c:=o.Code=3∨o.Code=6) (.inl c3),if_pos (by omega),cq]
  unfold em
  rw[if_pos c3]
  exact cX line nr a V C out st _ hs
 by_cases c6:o.Code=6
 ·have hk:aJ o=1:=by unfold aJ;simp[c6]
  rw[aj (by omega),aj (by omega),aj (by omega),ak c6,if_pos (c:=o.Code=3∨o.Code=6) (.inr c6),if_pos (by omega),dS,aa]
  dsimp only
  rw[(gA l0).1,aa]
  dsimp only
  rw[(qT ⟨V,C,nr,0⟩ o.N _ hC1).1,aa,cq]
  unfold em
  rw[if_neg (by omega),if_neg (by omega),if_neg (by omega),if_pos c6]
  exact cX line nr a V C out st _ hs
 rw[if_neg (c:=o.Code=3∨o.Code=6) (fun h=>h.elim c3 c6)]
 unfold cj
 by_cases c1:o.Code=1
 ·rw[ak c1,if_pos c1,fa,aa,if_pos rfl,cq]
  exact cX line nr a V C out st _ hs
 rw[aj c1,if_neg c1]
 by_cases c2:o.Code=2
 ·rw[ak c2,if_pos c2]
  dsimp only
  by_cases c:300<o.S.length
  ·rw[ak (by omega),if_pos c,gv,aa,if_neg (by decide)]
   exact⟨by decide,_,_,_,rfl⟩
  ·rw[aj (by omega),if_neg c,if_pos rfl,jA,aa,cq]
   exact cX line nr a V C out st _ hs
 rw[aj c2,if_neg c2,aj c3,aj c6]
 by_cases c9:o.Code=9
 ·have hk:aJ o=1:=by unfold aJ;simp[c9]
  rw[ak c9,if_pos c9,if_pos (by omega),(nu l0).1,aa]
  dsimp only
  rw[(AK (by omega) hL2 _).1,aa,cq,if_pos rfl]
  exact cX line nr a V C out st _ hs
 rw[aj c9,if_neg c9]
 by_cases c10:o.Code=10
 ·rw[ak c10,if_pos c10,aF (by omega) (by omega),fa,aa,if_pos rfl,cq]
  exact cX line nr a V C out st _ hs
 rw[aj c10,if_neg c10]
 by_cases c11:o.Code=11
 ·rw[ak c11,if_pos c11,B7 line (by omega),aa]
  dsimp only
  rw[wU,aF (by omega) (by omega),fa,aa,if_pos rfl,cq]
  exact cX line nr a V C out st _ hs
 rw[aj c11,if_neg c11]
 by_cases c24:o.Code=24
 ·have hk:aJ o=1:=by unfold aJ;simp[c24]
  have t0:=(dl l0).1
  rw[ak c24,if_neg (c:=o.Code=17) (by omega),if_pos c24,if_pos (by omega),dS,aa]
  dsimp only
  rw[(qO o.S _ hS (by omega) (by omega)).1,aa,nQ,aa,if_pos rfl,cq]
  exact cX line nr a V C out st _ hs
 rw[aj c24]
 by_cases c25:o.Code=25
 ·rw[ak c25,if_neg (c:=o.Code=17) (by omega),if_neg c24,if_pos c25,(qO o.S line hS (by omega) (by omega)).1,aa,nQ,aa,if_pos rfl,cq]
  exact cX line nr a V C out st _ hs
 rw[aj c25]
 by_cases c26:o.Code=26
 ·have hk:aJ o=1:=by unfold aJ;simp[c26]
  rw[ak c26,if_neg (c:=o.Code=17) (by omega),if_neg c24,if_neg c25,if_pos c26,if_pos (by omega),(nq _).1,aa,nQ,aa,if_pos rfl,cq]
  exact cX line nr a V C out st _ hs
 rw[aj c26]
 by_cases c27:o.Code=27
 ·have hk:aJ o=1:=by unfold aJ;simp[c27]
  obtain⟨n1,n2,n3⟩:=bX l0
  unfold Dc at n3
  rw[ak c27,if_neg (c:=o.Code=17) (by omega),if_neg c24,if_neg c25,if_neg c26,if_pos c27,if_pos (by omega),n1,aa]
  dsimp only
  rw[aF (by omega) (by omega),fa,aa,if_pos rfl,cq]
  exact cX line nr a V C out st _ hs
 rw[aj c27]
 by_cases c28:o.Code=28
 ·have hk:aJ o=1:=by unfold aJ;simp[c28]
  rw[ak c28,if_neg (c:=o.Code=17) (by omega),if_neg c24,if_neg c25,if_neg c26,if_neg c27,if_pos c28,if_pos (by omega),(nq _).1,aa,nQ,aa,if_pos rfl,cq]
  exact cX line nr a V C out st _ hs
 rw[aj c28]
 by_cases c29:o.Code=29
 ·have hk:aJ o=o.N:=by unfold aJ;simp[c29]
  obtain⟨hn1,hn2⟩:=hcall c29
  rw[ak c29,if_neg (c:=o.Code=17) (by omega),if_neg c24,if_neg c25,if_neg c26,if_neg c27,if_neg c28,if_pos c29,K2 hl (by omega) (by omega),aa,if_pos rfl,cq]
  exact cX line nr a V C out st _ hs
 rw[aj c29,if_neg c24,if_neg c25,if_neg c26,if_neg c27,if_neg c28,if_neg c29]
 have hk:aJ o=2:=by
  have hr:12≤o.Code∧o.Code≤23:=by omega
  unfold aJ
  rw[if_neg (by omega),if_neg (by omega),if_neg c29,if_pos hr]
 rw[if_pos (by omega),if_pos (by omega),aF (n:=o.Code-12) (by omega) (by omega),aF (by omega) (by omega),LA,dU,aa]
 dsimp only
 by_cases c17:o.Code=17
 ·have t0:=(dl l0).1
  have t1:=(dl l1).1
  rw[aj (by omega),ak (by omega),if_pos c17,dS,dS,aa,aa]
  dsimp only
  rw[if_pos (by omega)]
  by_cases c:300<(aX (l.getD 0 aD)++aX (l.getD 1 aD)).length
  ·rw[ak (by omega),if_pos c,aa,if_neg (c:=(3:Int)=0) (by decide)]
   dsimp only
   rw[if_pos (by decide),gv,aa]
   exact⟨by decide,_,_,_,rfl⟩
  ·rw[aj (by omega),if_neg c,jA,aa,aa,if_pos (c:=(0:Int)=0) rfl]
   dsimp only
   rw[if_neg (by simp),cq]
   exact cX line nr a V C out st _ hs
 rw[if_neg c17]
 by_cases c16:o.Code≤16
 ·obtain⟨n1,n2,n3⟩:=bX l0
  obtain⟨m1,m2,m3⟩:=bX l1
  rw[ak (by omega),if_pos c16,n1,aa,m1,aa]
  dsimp only
  rw[(rU (op:=o.Code-12) n3 m3).1,aa,fa,aa,aa]
  dsimp only
  by_cases ce:(bq (o.Code-12) (bm (l.getD 0 aD)) (bm (l.getD 1 aD))).2=0
  ·rw[if_pos ce,ac ce,if_neg (by decide),cq]
   exact cX line nr a V C out st _ hs
  ·rw[if_neg ce,ae ce,if_pos (by decide),gv,aa]
   exact⟨ce,_,_,_,rfl⟩
 ·have hcmp:=(Ag l0 l1).1
  rw[aj (by omega),aj (by omega),if_neg c16,hcmp,aa]
  dsimp only
  have hord:vN (o.Code-12+9) (eh (l.getD 0 aD) (l.getD 1 aD))=some (xk (o.Code-18) (eh (l.getD 0 aD) (l.getD 1 aD)),()):=by
   have h6:o.Code=18∨o.Code=19∨o.Code=20∨o.Code=21∨o.Code=22∨o.Code=23:=by omega
   rw[K9]
   rcases h6 with e | e | e | e | e | e <;> (rw[e];rfl)
  rw[hord,aa,nQ,aa,aa,if_pos (c:=(0:Int)=0) rfl]
  dsimp only
  rw[if_neg (by simp),cq]
  exact cX line nr a V C out st _ hs
inductive Fin
 | err (e:Int)
 | fin (V:List au) (C:List al) (out:List Int)
noncomputable def lk(ops:List am)(line:List Int)(nr:Int):Nat→Int→List au→List al→List Int→List au→Fin
 | 0,_,_,_,_,_=>.err 6
 | n+1,a,V,C,out,st=>match iG line nr (ops.getD a.toNat bj) a V C out st with
  | .err e=>.err e
  | .stop=>.fin V C out
  | .go a' V' C' out' st'=>lk ops line nr n a' V' C' out' st'
def OpsI(ops:List am)(nv:Nat)(nc:Int):Prop:=eJ ops nv nc=true∧kd ops
theorem OpsI.get{ops:List am}{nv:Nat}{nc:Int}(h:OpsI ops nv nc){i:Nat}(hi:i<ops.length) :
  opB ops[i] ops.length nv nc=true∧Bt ops[i].S∧ops[i].S.length≤2097152∧(ops[i].Code≠36→i+1<ops.length)∧ops.length≤1500:=by
 obtain⟨h1,h2⟩:=h
 unfold eJ at h1
 rw[Bool.and_eq_true,Bool.and_eq_true,ab,ab,Bool.not_eq_true',List.any_eq_false]at h1
 obtain⟨h3,h4,h5⟩:=h1
 have h6:=h5 _ (List.getElem_mem hi)
 obtain⟨h7,h8⟩:=h2.2 _ (List.getElem_mem hi)
 refine⟨by simpa using h6,h7,h8,fun hc=>?_,by omega⟩
 rcases Nat.lt_or_ge (i+1) ops.length with h | h
 ·exact h
 ·have e:ops.length-1=i:=by omega
  rw[e,bg hi]at h4
  exact absurd h4 hc
theorem Rz{o:am}(h:1≤o.Code∧o.Code≤36):yn o=some (aJ o,()):=by
 rw[Qo]
 simp only[Qn,cQ,aa]
 unfold aJ
 by_cases hr:12≤o.Code∧o.Code≤23
 ·have n:∀ k:Int,(k<12∨23<k)→¬ o.Code=k:=fun k h1 h2=>by omega
  simp[n,hr.1,hr.2]
 ·have ee:o.Code=1∨o.Code=2∨o.Code=3∨o.Code=4∨o.Code=5∨o.Code=6∨o.Code=7∨o.Code=8∨o.Code=9∨o.Code=10∨o.Code=11∨o.Code=24∨o.Code=25∨o.Code=26∨o.Code=27∨o.Code=28∨o.Code=29∨o.Code=30∨o.Code=31∨o.Code=32∨o.Code=33∨o.Code=34∨o.Code=35∨o.Code=36:=by omega
  rcases ee with e | e | e | e | e | e | e | e | e | e | e | e | e | e | e | e | e | e | e | e | e | e | e | e <;> simp[e]
theorem Rx{o:am}(h:1≤o.Code∧o.Code≤36):wm o=some (aJ o,()):=by
 rw[L6]
 simp only[L4,L5]
 unfold aJ
 by_cases hr:12≤o.Code∧o.Code≤23
 ·have n:∀ k:Int,(k<12∨23<k)→¬ o.Code=k:=fun k h1 h2=>by omega
  simp[n,hr.1,hr.2]
 ·have ee:o.Code=1∨o.Code=2∨o.Code=3∨o.Code=4∨o.Code=5∨o.Code=6∨o.Code=7∨o.Code=8∨o.Code=9∨o.Code=10∨o.Code=11∨o.Code=24∨o.Code=25∨o.Code=26∨o.Code=27∨o.Code=28∨o.Code=29∨o.Code=30∨o.Code=31∨o.Code=32∨o.Code=33∨o.Code=34∨o.Code=35∨o.Code=36:=by omega
  rcases ee with e | e | e | e | e | e | e | e | e | e | e | e | e | e | e | e | e | e | e | e | e | e | e | e <;> simp[e]
def uo(line:List Int)(nr a:Int)(V:List au)(C:List al)(out:List Int)(x:Option (Int×Bool×aA×WT×Unit)):R→Prop
 | .err e=>e≠0∧∃ p b z s o,x=some (p,b,z,wT s line o,())∧s.Err=e
 | .stop=>∃ z,x=some (a,false,z,wT ⟨V,C,nr,0⟩ line out,())
 | .go b V' C' out' st=>x=some (b,true,⟨(),st⟩,wT ⟨V',C',nr,0⟩ line out',())
theorem Gr{line:List Int}{nr a:Int}{V:List au}{C:List al}{out:List Int}{x:Option (aA×WT×Unit)}{r:R}(ha:w64 (a+1)=a+1)(h:kt line nr (a+1) x r) :
  uo line nr a V C out (x.bind fun(r0:aA×(ar×((List (List Int))×((List (List Int))×((List Int)×((List (List Int))×((List Int)×(Int×(Bool×Unit))))))))×Unit) =>
   iz a r0.1.l r0.1.stack r0.2.1.1 r0.2.1.2.1 r0.2.1.2.2.1 r0.2.1.2.2.2.1 r0.2.1.2.2.2.2.1 r0.2.1.2.2.2.2.2.1 r0.2.1.2.2.2.2.2.2.1 r0.2.1.2.2.2.2.2.2.2.1) r:=by
 cases r with
 | err e =>
  obtain⟨h1,z,s,o,rfl,h2⟩:=h
  rw[aa,fk]
  exact⟨h1,_,_,_,_,_,rfl,h2⟩
 | stop=>exact h.elim
 | go b V' C' out' st =>
  obtain⟨rfl,rfl⟩:=h
  rw[aa,fk,ha]
  rfl
theorem Ay{α:Type}(st:List α)(K:Nat)(hK:K≤st.length):List.append [] (List.take (st.length-(K:Int).toNat) (List.drop (K:Int).toNat st))=st.drop K:=by
 rw[af,List.take_of_length_le (by rw[List.length_drop];exact Nat.le_refl _)];rfl
theorem pT(s:ar)(line out t:List Int)(h:out.length+t.length≤1000000):mZ s [] [] line (bN line) out 0 false t =
  if 600<(out++t).length then(if s.Err=0 then some (wT ⟨s.Vars,s.Cells,s.Nr,5⟩ line out,())else some (wT s line out,()))else some (wT s line (out++t),()):=by
 rw[P9,aF (by omega) (by omega)]
 by_cases c:600<(out++t).length
 ·have c':=c
  rw[ag]at c'
  rw[ak (by omega),if_pos c,E9]
  by_cases d:s.Err=0
  ·rw[ak d,if_pos d];rfl
  ·rw[aj d,if_neg d];rfl
 ·have c':=c
  rw[ag]at c'
  rw[aj (by omega),if_neg c,if_pos (by omega)];rfl
theorem Rm{line:List Int}{nr a:Int}{V:List au}{C:List al}{out:List Int}{st:List au}{o:am}{nv:Nat}{nc n:Int}(hnv:nv≤100000)(ha:0≤a∧a<2000)(hL:gj line nr)(h:VmI nv nc V C out st)(ho:opB o n nv nc=true)(hS:Bt o.S)(hSl:o.S.length≤2097152) :
  uo line nr a V C out (sP ⟨(),st⟩ ⟨V,C,nr,0⟩ [] [] line (bN line) out 0 false o a) (iG line nr o a V C out st):=by
 have hcode:=DL ho
 obtain⟨k1,k2⟩:=yO ho
 obtain⟨o1,o2,o3,o4,o5,o6⟩:=xj ho
 have hst:=h.2.2.2.1
 have hw1:w64 (a+1)=a+1:=aF (by omega) (by omega)
 rw[Qm,Rz hcode,aa]
 dsimp only
 unfold iG
 have hw:w64 ((st.length:Int)-aJ o)=(st.length:Int)-aJ o:=aF (by omega) (by omega)
 rw[hw]
 by_cases c:(st.length:Int)<aJ o
 ·rw[if_pos c,ak (by omega),iy,aa]
  exact⟨by decide,_,_,_,_,_,rfl,rfl⟩
 ·have hK:(st.length:Int)-aJ o=((st.length-(aJ o).toNat:Nat):Int):=by omega
  have hKl:st.length-(aJ o).toNat≤st.length:=Nat.sub_le _ _
  rw[if_neg c,hK,aj (by omega),if_pos (by omega),if_pos (by rw[aN,List.length_take];omega),if_pos (by omega),Ay _ _ hKl,af]
  have hlen:((st.drop (st.length-(aJ o).toNat)).length:Int)=aJ o:=by rw[List.length_drop];omega
  have hl:∀ v∈st.drop (st.length-(aJ o).toNat),VG v:=fun v hv=>h.2.2.2.2 v (List.mem_of_mem_drop hv)
  have h':VmI nv nc V C out (st.take (st.length-(aJ o).toNat)):=⟨h.1,h.2.1,h.2.2.1,by rw[List.length_take];omega,fun v hv=>h.2.2.2.2 v (List.mem_of_mem_take hv)⟩
  generalize st.drop (st.length-(aJ o).toNat)=l at *
  generalize st.take (st.length-(aJ o).toNat)=rest at *
  have hrs:=h'.2.2.2.1
  have hout:=h'.2.2.1.1
  have l0:=bG hl 0
  have t0:=(dl l0).1
  unfold doR
  by_cases c36:o.Code=36
  ·rw[ak c36,if_pos c36];exact⟨_,rfl⟩
  rw[aj c36,if_neg c36]
  by_cases c30:o.Code=30
  ·rw[ak c30,if_pos c30];rfl
  rw[aj c30,if_neg c30]
  by_cases c31:o.Code=31
  ·have hk:aJ o=1:=by unfold aJ;simp[c31]
   rw[ak c31,if_pos c31,if_pos (by omega),(nq _).2,aa]
   dsimp only
   cases j4 (l.getD 0 aD) with
   | true=>rw[if_neg (by decide),if_pos rfl,fk,hw1];rfl
   | false=>rw[if_pos (by decide),if_neg (by decide)];rfl
  rw[aj c31,if_neg c31]
  by_cases c32:o.Code=32
  ·rw[ak c32,if_pos c32,fk,hw1];rfl
  rw[aj c32,if_neg c32]
  by_cases c33:o.Code=33
  ·have hk:aJ o=1:=by unfold aJ;simp[c33]
   rw[ak c33,if_pos c33]
   unfold gK
   by_cases cN:o.N=1
   ·rw[ak cN,if_pos cN,pT _ _ _ _ (by simp;omega)]
    by_cases d:600<(out++[32]).length
    ·have d2:600<(out++([32]++aX (l.getD 0 aD))).length:=by
      rw[ag,ag];rw[ag]at d;omega
     rw[if_pos d,if_pos (c:=_=(0:Int)) rfl,aa,if_pos (by omega),d6,aa,if_pos d2]
     unfold wT
     dsimp only
     rw[pT _ _ _ _ (by omega)]
     by_cases d3:600<(out++aX (l.getD 0 aD)).length
     ·rw[if_pos d3,if_neg (by simp),aa,fk]
      exact⟨by decide,_,_,_,_,_,rfl,rfl⟩
     ·rw[if_neg d3,aa,fk]
      exact⟨by decide,_,_,_,_,_,rfl,rfl⟩
    ·rw[if_neg d,aa,if_pos (by omega),d6,aa]
     unfold wT
     dsimp only
     rw[pT _ _ _ _ (by rw[ag,List.length_singleton];omega),ah]
     by_cases d2:600<(out++([32]++aX (l.getD 0 aD))).length
     ·rw[if_pos d2,if_pos d2,if_pos (c:=_=(0:Int)) rfl,aa,fk]
      exact⟨by decide,_,_,_,_,_,rfl,rfl⟩
     ·rw[if_neg d2,if_neg d2,aa,fk,hw1];rfl
   ·rw[aj cN,if_neg cN,if_pos (by omega),d6,aa,List.nil_append]
    dsimp only
    rw[pT _ _ _ _ (by omega)]
    by_cases d2:600<(out++aX (l.getD 0 aD)).length
    ·rw[if_pos d2,if_pos d2,if_pos (c:=_=(0:Int)) rfl,aa,fk]
     exact⟨by decide,_,_,_,_,_,rfl,rfl⟩
    ·rw[if_neg d2,if_neg d2,aa,fk,hw1];rfl
  rw[aj c33,if_neg c33]
  by_cases c34:o.Code=34
  ·rw[ak c34,if_pos c34,pT _ _ _ _ (by simp;omega)]
   unfold gK
   by_cases d2:600<(out++[10]).length
   ·rw[if_pos d2,if_pos d2,if_pos (c:=_=(0:Int)) rfl,aa,fk]
    exact⟨by decide,_,_,_,_,_,rfl,rfl⟩
   ·rw[if_neg d2,if_neg d2,aa,fk,hw1];rfl
  rw[aj c34,if_neg c34]
  have named:(o.Code=3∨o.Code=4∨o.Code=5∨o.Code=6∨o.Code=7∨o.Code=8∨o.Code=35)→uo line nr a V C out (iA a l true ⟨(),rest⟩ (az.mk ⟨V,C,nr,0⟩ [] [] line (bN line) out 0 false) o) (em (a+1) V C out rest o l):=fun hc=>by
   rw[Fm,if_pos rfl]
   exact Gr hw1 (NC hnv h' hl hlen hc o2)
  by_cases c3:o.Code=3
  ·rw[ak c3,if_pos (.inl c3),ac c3];exact named (.inl c3)
  rw[aj c3]
  by_cases c4:o.Code=4
  ·rw[ak c4,if_pos (.inr (.inl c4)),ac c4];exact named (.inr (.inl c4))
  rw[aj c4]
  by_cases c5:o.Code=5
  ·rw[ak c5,if_pos (.inr (.inr (.inl c5))),ac c5];exact named (.inr (.inr (.inl c5)))
  rw[aj c5]
  by_cases c6:o.Code=6
  ·rw[ak c6,if_pos (.inr (.inr (.inr (.inl c6)))),ac c6];exact named (.inr (.inr (.inr (.inl c6))))
  rw[aj c6]
  by_cases c7:o.Code=7
  ·rw[ak c7,if_pos (.inr (.inr (.inr (.inr (.inl c7))))),ac c7];exact named (.inr (.inr (.inr (.inr (.inl c7)))))
  rw[aj c7]
  by_cases c8:o.Code=8
  ·rw[ak c8,if_pos (.inr (.inr (.inr (.inr (.inr (.inl c8)))))),ac c8];exact named (.inr (.inr (.inr (.inr (.inr (.inl c8))))))
  rw[aj c8]
  by_cases c35:o.Code=35
  ·rw[if_pos (.inr (.inr (.inr (.inr (.inr (.inr c35)))))),ac c35];exact named (.inr (.inr (.inr (.inr (.inr (.inr c35))))))
  have hno:¬ (o.Code=3∨o.Code=4∨o.Code=5∨o.Code=6∨o.Code=7∨o.Code=8∨o.Code=35):=by omega
  rw[ae c35,if_neg hno,Fm,if_neg (by decide)]
  exact Gr hw1 (RK hL hrs hl hlen (by omega) hno hS hSl o4)
theorem LS{ops:List am}{a t:Int}(s:ar)(line out:List Int)(st:List au){e:Int}(he:e≠0):jx ops a t s line out st e=some (iT s line out st e,()):=by
 rw[wj,aj he];rfl
def qr(ops:List am)(line:List Int)(nr t:Int)(V:List au)(C:List al)(out:List Int)(x:Option (IT×Unit)):R→Prop
 | .err e=>e≠0∧∃ s o u,x=some (iT s line o u e,())
 | .stop=>∃ u,x=some (iT ⟨V,C,nr,0⟩ line out u 0,())
 | .go b V' C' out' st=>x=jx ops b (t+1) ⟨V',C',nr,0⟩ line out' st 0
theorem ww{ops:List am}{line:List Int}{nr a t:Int}{V:List au}{C:List al}{out:List Int}{x:Option (IT×Unit)}{r:R}(ht:w64 (t+1)=t+1)(h:ko line nr a x r) :
  qr ops line nr t V C out (x.bind fun(r0:(ar×((List Int)×((List Int)×((List au)×(Int×Unit)))))×Unit)=>jy ops a t r0.1.1 r0.1.2.1 r0.1.2.2.1 r0.1.2.2.2.1 r0.1.2.2.2.2.1) r:=by
 cases r with
 | err e =>
  obtain⟨h1,s,o,u,rfl⟩:=h
  rw[aa,mm]
  exact⟨h1,_,_,_,LS _ _ _ _ h1⟩
 | stop=>exact h.elim
 | go b V' C' out' st =>
  obtain⟨rfl,rfl⟩:=h
  rw[aa,mm,ht]
  rfl
theorem Mu{ops:List am}{line:List Int}{nr t:Int}{V:List au}{C:List al}{out:List Int}{st:List au}{nv:Nat}{nc:Int}(hnv:nv≤100000)(hops:OpsI ops nv nc)(i:Nat)(hi:i<ops.length)(ht:1≤t∧t≤20000)(hL:gj line nr)(h:VmI nv nc V C out st) :
  qr ops line nr t V C out (jx ops (i:Int) t ⟨V,C,nr,0⟩ line out st 0) (iG line nr ops[i] (i:Int) V C out st):=by
 obtain⟨ho,hS,hSl,hlast,hlen⟩:=hops.get hi
 have hcode:=DL ho
 obtain⟨k1,k2⟩:=yO ho
 obtain⟨o1,o2,o3,o4,o5,o6⟩:=xj ho
 have hst:=h.2.2.2.1
 have hw1:w64 ((i:Int)+1)=(i:Int)+1:=aF (by omega) (by omega)
 have hwt:w64 (t+1)=t+1:=aF (by omega) (by omega)
 rw[wj,if_pos (by simp),aj (by omega),if_pos (by omega),aS hi]
 generalize ops[i]=o at *
 rw[Rx hcode,aa,LY]
 dsimp only
 unfold iG
 have hw:w64 ((st.length:Int)-aJ o)=(st.length:Int)-aJ o:=aF (by omega) (by omega)
 rw[hw]
 by_cases c:(st.length:Int)<aJ o
 ·rw[if_pos c,ak (by omega),gv,aa,if_pos ⟨by omega,by omega,by rw[aN];omega⟩,aa]
  unfold iT
  dsimp only
  rw[if_pos (by simp)]
  exact⟨by decide,_,_,_,rfl⟩
 ·have hK:(st.length:Int)-aJ o=((st.length-(aJ o).toNat:Nat):Int):=by omega
  have hKl:st.length-(aJ o).toNat≤st.length:=Nat.sub_le _ _
  rw[if_neg c,hK,aj (by omega),if_pos (by omega),if_pos (by rw[aN,List.length_take];omega),if_pos (by omega),Ay _ _ hKl,af,aa]
  have hlen:((st.drop (st.length-(aJ o).toNat)).length:Int)=aJ o:=by rw[List.length_drop];omega
  have hl:∀ v∈st.drop (st.length-(aJ o).toNat),VG v:=fun v hv=>h.2.2.2.2 v (List.mem_of_mem_drop hv)
  have h':VmI nv nc V C out (st.take (st.length-(aJ o).toNat)):=⟨h.1,h.2.1,h.2.2.1,by rw[List.length_take];omega,fun v hv=>h.2.2.2.2 v (List.mem_of_mem_take hv)⟩
  generalize st.drop (st.length-(aJ o).toNat)=l at *
  generalize st.take (st.length-(aJ o).toNat)=rest at *
  dsimp only
  rw[if_neg (by simp)]
  unfold doR
  by_cases c36:o.Code=36
  ·rw[ak c36,if_pos c36];exact⟨_,rfl⟩
  rw[aj c36,if_neg c36]
  by_cases c30:o.Code=30
  ·rw[ak c30,if_pos c30,mm,hwt];rfl
  rw[aj c30,if_neg c30]
  by_cases c31:o.Code=31
  ·have hk:aJ o=1:=by unfold aJ;simp[c31]
   rw[ak c31,if_pos c31,if_pos (by omega),(nq _).1,aa]
   dsimp only
   cases j4 (l.getD 0 aD) with
   | true=>rw[if_neg (by decide),if_pos rfl,mm,hwt,hw1];rfl
   | false=>rw[if_pos (by decide),if_neg (by decide),mm,hwt];rfl
  rw[aj c31,if_neg c31]
  by_cases c32:o.Code=32
  ·rw[ak c32,if_pos c32,mm,hwt,hw1];rfl
  rw[aj c32,if_neg c32]
  have store:(o.Code=4∨o.Code=5∨o.Code=7∨o.Code=8∨o.Code=35)→qr ops line nr t V C out (gx ops (w64 ((i:Int)+1)) t l true (aw.mk ⟨V,C,nr,0⟩ line out rest 0) o) (em ((i:Int)+1) V C out rest o l):=fun hc=>by
   rw[wk,if_pos rfl,hw1]
   exact ww hwt (Rn hnv h' hl hlen hc (fun e=>o2 (.inr e)))
  have outp:∀ b,b=true→(o.Code=33∨o.Code=34)→qr ops line nr t V C out (gx ops (w64 ((i:Int)+1)) t l b (aw.mk ⟨V,C,nr,0⟩ line out rest 0) o) (gK ((i:Int)+1) V C out rest (if o.Code=33 then(if o.N=1 then [32]else [])++aX (l.getD 0 aD)else [10])):=fun b hb hc=>by
   rw[wk,if_pos hb,hw1]
   exact ww hwt (N2 h' hl hlen hc)
  by_cases c4:o.Code=4
  ·rw[ak c4,if_neg (by omega),if_neg (by omega),if_pos (.inr (.inl c4)),ac c4];exact store (.inl c4)
  rw[aj c4]
  by_cases c5:o.Code=5
  ·rw[ak c5,if_neg (by omega),if_neg (by omega),if_pos (.inr (.inr (.inl c5))),ac c5];exact store (.inr (.inl c5))
  rw[aj c5]
  by_cases c7:o.Code=7
  ·rw[ak c7,if_neg (by omega),if_neg (by omega),if_pos (.inr (.inr (.inr (.inr (.inl c7))))),ac c7];exact store (.inr (.inr (.inl c7)))
  rw[aj c7]
  by_cases c8:o.Code=8
  ·rw[ak c8,if_neg (by omega),if_neg (by omega),if_pos (.inr (.inr (.inr (.inr (.inr (.inl c8)))))),ac c8];exact store (.inr (.inr (.inr (.inl c8))))
  rw[aj c8]
  by_cases c35:o.Code=35
  ·rw[ak c35,if_neg (by omega),if_neg (by omega),if_pos (.inr (.inr (.inr (.inr (.inr (.inr c35)))))),ac c35];exact store (.inr (.inr (.inr (.inr c35))))
  rw[aj c35]
  by_cases c33:o.Code=33
  ·have:=outp _ (ac c33) (.inl c33)
   rw[if_pos c33]at this
   rw[ak c33,if_pos c33];exact this
  rw[aj c33,if_neg c33]
  by_cases c34:o.Code=34
  ·have:=outp _ (ac c34) (.inr c34)
   rw[if_neg c33]at this
   rw[if_pos c34];exact this
  rw[if_neg c34,wk,aj c34,hw1]
  have hl1:=ww (ops:=ops) (V:=V) (C:=C) (out:=out) hwt (Nj (a:=(i:Int)+1) hL h' hl hlen (by omega) (by omega) hS hSl (fun e=>o2 (.inl e)) o4)
  have hr:(if o.Code=3∨o.Code=6 then em ((i:Int)+1) V C out rest o l else if(cj line nr o l).1=0 then dD ((i:Int)+1) V C out rest (cj line nr o l).2 else .err (cj line nr o l).1) =
    (if o.Code=3∨o.Code=4∨o.Code=5∨o.Code=6∨o.Code=7∨o.Code=8∨o.Code=35 then em ((i:Int)+1) V C out rest o l else if(cj line nr o l).1=0 then dD ((i:Int)+1) V C out rest (cj line nr o l).2 else .err (cj line nr o l).1):=by
   by_cases c36':o.Code=3∨o.Code=6
   ·rw[if_pos c36',if_pos (by omega)]
   ·rw[if_neg c36',if_neg (c:=o.Code=3∨o.Code=4∨o.Code=5∨o.Code=6∨o.Code=7∨o.Code=8∨o.Code=35) (by omega)]
  rw[← hr]
  exact hl1
def FRelI(nv:Nat)(nc:Int)(line:List Int)(nr:Int)(x:Option (IT×Unit)):Fin→Prop
 | .err e=>(1≤e∧e≤7)∧∃ s o u,x=some (iT s line o u e,())
 | .fin V C out=>(∃ u,x=some (iT ⟨V,C,nr,0⟩ line out u 0,()))∧VmI nv nc V C out []
def zq(line:List Int)(nr:Int)(x:Option (WT×Unit)):Fin→Prop
 | .err e=>∃ s o,x=some (wT s line o,())∧s.Err=e
 | .fin V C out=>x=some (wT ⟨V,C,nr,0⟩ line out,())
theorem Ew{ops:List am}{line:List Int}{nr:Int}{nv:Nat}{nc:Int}(hnv:nv≤100000)(hops:OpsI ops nv nc)(hL:gj line nr):∀ (n:Nat) (a:Int) (V:List au) (C:List al) (out:List Int) (st:List au),n≤20000→0≤a∧a<(ops.length:Int)→VmI nv nc V C out st →
  FRelI nv nc line nr (jx ops a ((20001-n:Nat):Int) ⟨V,C,nr,0⟩ line out st 0) (lk ops line nr n a V C out st):=by
 intro n
 induction n with
 | zero =>
  intro a V C out st hn ha h
  rw[wj,if_pos (by simp),if_pos (by decide),gv,aa]
  exact⟨⟨by decide,by decide⟩,_,_,_,rfl⟩
 | succ n ih =>
  intro a V C out st hn ha h
  obtain⟨i,rfl⟩:=Int.eq_ofNat_of_zero_le ha.1
  have hi:i<ops.length:=by omega
  obtain⟨ho,hS,hSl,hlast,hlen⟩:=hops.get hi
  have h1:=Mu hnv hops i hi (t:=((20001-(n+1):Nat):Int)) (by omega) hL h
  have h2:=Gs (line:=line) (nr:=nr) (n:=(ops.length:Int)) (a:=(i:Int)) (o:=ops[i]) (by omega) (by omega) (fun hc=>by have:=hlast hc;omega) hL h ho hS
  unfold lk
  rw[af,bg hi]
  revert h1 h2
  cases iG line nr ops[i] (i:Int) V C out st with
  | err e=>intro h1 h2;exact⟨h2,h1.2⟩
  | stop=>intro h1 h2;exact⟨h1,h.1,h.2.1,h.2.2.1,by simp,fun v hv=>by cases hv⟩
  | go b V' C' out' st' =>
   intro h1 h2
   have h3:=ih b V' C' out' st' (by omega) h2.1 h2.2
   have e:((20001-(n+1):Nat):Int)+1=((20001-n:Nat):Int):=by omega
   rw[← e]at h3
   have h4:jx ops (i:Int) ((20001-(n+1):Nat):Int) ⟨V,C,nr,0⟩ line out st 0=_:=h1
   rw[h4]
   exact h3
theorem Ey{ops:List am}{line:List Int}{nr:Int}{nv:Nat}{nc:Int}(hnv:nv≤100000)(hops:OpsI ops nv nc)(hL:gj line nr):∀ (n:Nat) (a:Int) (V:List au) (C:List al) (out:List Int) (st:List au),n≤20000→0≤a∧a<(ops.length:Int)→VmI nv nc V C out st →
  zq line nr (pA ops a ((20000-n:Nat):Int) (az.mk ⟨V,C,nr,0⟩ [] [] line (bN line) out 0 false) ⟨(),st⟩) (lk ops line nr n a V C out st):=by
 have stopE:∀ (a t:Int) (s:ar) (o:List Int) (z:aA) (e:Int),s.Err=e→e≠0→∃ s' o',pA ops a t (az.mk s [] [] line (bN line) o 0 false) z=some (wT s' line o',())∧s'.Err=e:=fun a t s o z e h1 h2=>by
  rw[sO,aj (by dsimp only;rw[h1];exact h2)]
  exact⟨_,_,rfl,h1⟩
 intro n
 induction n with
 | zero =>
  intro a V C out st hn ha h
  rw[sO,if_pos (by simp),if_pos (by decide),iy,aa]
  exact⟨_,_,rfl,rfl⟩
 | succ n ih =>
  intro a V C out st hn ha h
  obtain⟨i,rfl⟩:=Int.eq_ofNat_of_zero_le ha.1
  have hi:i<ops.length:=by omega
  obtain⟨ho,hS,hSl,hlast,hlen⟩:=hops.get hi
  have h1:=Rm (line:=line) (nr:=nr) (a:=(i:Int)) (o:=ops[i]) hnv (by omega) hL h ho hS hSl
  have h2:=Gs (line:=line) (nr:=nr) (n:=(ops.length:Int)) (a:=(i:Int)) (o:=ops[i]) (by omega) (by omega) (fun hc=>by have:=hlast hc;omega) hL h ho hS
  unfold lk
  rw[af,bg hi,sO,if_pos (by simp),aj (by omega),if_pos (by omega),aS hi,aF (by omega) (by omega)]
  revert h1 h2
  cases iG line nr ops[i] (i:Int) V C out st with
  | err e =>
   intro h1 h2
   obtain⟨g1,p,b,z,s,o,g2,g3⟩:=h1
   rw[g2,aa]
   dsimp only
   cases b with
   | true=>rw[if_neg (by decide)];exact stopE _ _ s o z e g3 g1
   | false=>rw[if_pos (by decide)];exact⟨_,_,rfl,g3⟩
  | stop =>
   intro h1 h2
   obtain⟨z,g2⟩:=h1
   rw[g2,aa]
   rfl
  | go b V' C' out' st' =>
   intro h1 h2
   have h3:=ih b V' C' out' st' (by omega) h2.1 h2.2
   have e:((20000-(n+1):Nat):Int)+1=((20000-n:Nat):Int):=by omega
   rw[← e]at h3
   have h4:sP ⟨(),st⟩ ⟨V,C,nr,0⟩ [] [] line (bN line) out 0 false ops[i] (i:Int)=_:=h1
   rw[h4,aa]
   dsimp only
   rw[if_neg (by decide)]
   exact h3
def StI(nv:Nat)(nc:Int)(s:ar):Prop:=(s.Vars.length=nv∧∀ v∈s.Vars,VG v)∧CG nc s.Cells∧(0≤s.Nr∧s.Nr≤1000000)∧s.Err=0
def StG(nv:Nat)(nc:Int)(s:ar):Prop:=(s.Vars.length=nv∧∀ v∈s.Vars,VG v)∧CG nc s.Cells∧(0≤s.Nr∧s.Nr≤1000000)∧0≤s.Err∧s.Err≤7
theorem StI.g{nv:Nat}{nc:Int}{s:ar}(h:StI nv nc s):StG nv nc s:=⟨h.1,h.2.1,h.2.2.1,by have:=h.2.2.2;omega⟩
theorem StG.i{nv:Nat}{nc:Int}{s:ar}(h:StG nv nc s)(he:s.Err=0):StI nv nc s:=⟨h.1,h.2.1,h.2.2.1,he⟩
theorem StG.of{nv:Nat}{nc:Int}{s:ar}(h:f8 s nv nc=true)(hb:lR s):StG nv nc s:=by
 unfold f8 at h
 rw[Bool.and_eq_true,Bool.and_eq_true,Bool.and_eq_true,Bool.and_eq_true,Bool.and_eq_true,ab,Bool.not_eq_true',List.any_eq_false,ab,ab,ab,Bool.not_eq_true']at h
 obtain⟨h1,h2,h3,h4,h5,h6⟩:=h
 have hbad:∀ i (hi:i<s.Cells.length),(0≤s.Cells[i].Name∧s.Cells[i].Name<nc∧s.Cells[i].Key.length≤300∧dM s.Cells[i].Val=true)∧(0<i→bR (s.Cells[i-1]'(by omega)) s.Cells[i]=true):=fun i hi=>by
  have:=anyB_false.1 h6 i hi
  unfold kz at this
  rw[bg hi,bg (show i-1<s.Cells.length by omega)]at this
  simp only[Bool.or_eq_false_iff,decide_eq_false_iff_not,Bool.not_eq_false',Bool.and_eq_false_iff]at this
  obtain⟨g1,g2,g3,g4,g5⟩:=this
  refine⟨⟨by omega,by omega,by omega,g4⟩,fun h0=>?_⟩
  rcases g5 with g5 | g5
  ·omega
  ·exact g5
 refine⟨⟨by omega,fun v hv=>⟨by simpa using h2 v hv,hb.1.2 v hv⟩⟩,⟨by omega,fun c hc=>?_,?_⟩,h4,h5⟩
 ·obtain⟨i,hi,rfl⟩:=List.mem_iff_getElem.1 hc
  obtain⟨g1,g2,g3,g4⟩:=(hbad i hi).1
  exact⟨g1,g2,g3,g4,hb.2.2 _ hc⟩
 ·rw[List.pairwise_iff_getElem]
  intro i j hi hj hij
  have key:∀ (d j:Nat) (hj:j<s.Cells.length),j=i+1+d→bR s.Cells[i] s.Cells[j]=true:=by
   intro d
   induction d with
   | zero=>intro j hj e;subst e;exact(hbad (i+1) hj).2 (by omega)
   | succ d ih =>
    intro j hj e
    have h1:=ih (j-1) (by omega) (by omega)
    exact uF h1 ((hbad j hj).2 (by omega))
  exact key (j-i-1) j hj (by omega)
theorem StI.of{nv:Nat}{nc:Int}{s:ar}(h:f8 s nv nc=true)(hb:lR s)(he:s.Err=0):StI nv nc s:=(StG.of h hb).i he
theorem StG.to{nv:Nat}{nc:Int}{s:ar}(h:StG nv nc s)(hnv:nv≤100000):f8 s nv nc=true∧lR s:=by
 obtain⟨⟨h1,h2⟩,⟨c1,c2,c3⟩,h4,h5⟩:=h
 refine⟨?_,⟨by omega,fun v hv=>(h2 v hv).2⟩,by omega,fun c hc=>(c2 c hc).2.2.2.2⟩
 unfold f8
 rw[Bool.and_eq_true,Bool.and_eq_true,Bool.and_eq_true,Bool.and_eq_true,Bool.and_eq_true,ab,Bool.not_eq_true',List.any_eq_false,ab,ab,ab,Bool.not_eq_true']
 refine⟨by omega,fun v hv=>by rw[(h2 v hv).1];decide,by omega,h4,by omega,anyB_false.2 fun i hi=>?_⟩
 unfold kz
 obtain⟨g1,g2,g3,g4⟩:=c2 _ (List.getElem_mem hi)
 rw[bg hi,bg (show i-1<s.Cells.length by omega),ae (by omega),ae (by omega),ae (by omega),g4.1]
 by_cases c:i=0
 ·subst c;rfl
 ·rw[List.pairwise_iff_getElem.1 c3 (i-1) i (by omega) hi (by omega)];simp
theorem StI.to{nv:Nat}{nc:Int}{s:ar}(h:StI nv nc s)(hnv:nv≤100000):f8 s nv nc=true∧lR s:=h.g.to hnv
def gW(s:ar)(nr:Int):Fin→ar×List Int
 | .err e=>(⟨s.Vars,s.Cells,s.Nr,e⟩,[])
 | .fin V C out=>(⟨V,C,nr,0⟩,out)
theorem AC{nv:Nat}{nc:Int}{line:List Int}{nr:Int}{x:Option (IT×Unit)}{r:Fin}(h:FRelI nv nc line nr x r)(s:ar)(hv:s.Vars.length≤100000)(hc:s.Cells.length≤100000) :
  (x.bind fun(r8:(ar×((List Int)×((List Int)×((List au)×(Int×Unit)))))×Unit) =>
   (oM r8.1.1 r8.1.2.1 r8.1.2.2.1 r8.1.2.2.2.1 r8.1.2.2.2.2.1 s).bind fun(r9:ar×(List Int)×(Unit×((List Int)×((List Int)×((List au)×(Int×Unit)))))×Unit) =>
   some (r9.1,r9.2.1,()))=some ((gW s nr r).1,(gW s nr r).2,()):=by
 cases r with
 | err e =>
  obtain⟨h1,s',o,u,rfl⟩:=h
  rw[aa]
  unfold iT
  dsimp only
  rw[wg,ae (show ¬ e=0 by omega),if_pos (by decide),lW hv hc]
  rfl
 | fin V C out =>
  obtain⟨⟨u,rfl⟩,_⟩:=h
  rw[aa]
  unfold iT
  dsimp only
  rw[wg,if_neg (by simp)]
  rfl
theorem AE{line:List Int}{nr:Int}{x:Option (WT×Unit)}{r:Fin}(h:zq line nr x r)(hne:∀ e,r = .err e→e≠0)(s:ar)(hv:s.Vars.length≤100000)(hc:s.Cells.length≤100000) :
  (x.bind fun(r0:(ar×((List (List Int))×((List (List Int))×((List Int)×((List (List Int))×((List Int)×(Int×(Bool×Unit))))))))×Unit) =>
   (sI (az.mk r0.1.1 r0.1.2.1 r0.1.2.2.1 r0.1.2.2.2.1 r0.1.2.2.2.2.1 r0.1.2.2.2.2.2.1 r0.1.2.2.2.2.2.2.1 r0.1.2.2.2.2.2.2.2.1) s).bind fun(r1:ar×(List Int)×az×Unit) =>
   some (r1.1,r1.2.1,()))=some ((gW s nr r).1,(gW s nr r).2,()):=by
 cases r with
 | err e =>
  obtain⟨s',o,rfl,h2⟩:=h
  rw[aa]
  unfold wT
  dsimp only
  rw[yc]
  dsimp only
  rw[h2,ae (hne e rfl),if_pos (by decide),lX hv hc]
  rfl
 | fin V C out =>
  have h':x=_:=h
  rw[h',aa]
  unfold wT
  dsimp only
  rw[yc,if_neg (by simp)]
  rfl
theorem AD{nv:Nat}{nc:Int}{line:List Int}{nr:Int}{x:Option (IT×Unit)}{r:Fin}(h:FRelI nv nc line nr x r)(s:ar)(hs:StI nv nc s)(hnr:0≤nr∧nr≤1000000):StG nv nc (gW s nr r).1∧(gW s nr r).2.length≤600∧Bt (gW s nr r).2:=by
 cases r with
 | err e =>
  have h1:=h.1
  exact⟨⟨hs.1,hs.2.1,hs.2.2.1,by show 0≤e;omega,by show e≤7;omega⟩,Nat.zero_le _,fun x hx=>by cases hx⟩
 | fin V C out =>
  obtain⟨_,g1,g2,g3,g4⟩:=h
  exact⟨⟨g1,g2,hnr,by show(0:Int)≤0;omega,by show(0:Int)≤7;omega⟩,g3⟩
def PrI(p:ap):Prop:=d4 p=true∧ke p
theorem PrI.nv{p:ap}(h:PrI p):p.Vars.length≤8:=by
 have h1:=h.1
 unfold d4 jG at h1
 simp only[Bool.and_eq_true,ab]at h1
 omega
theorem PrI.main{p:ap}(h:PrI p):OpsI p.Main p.Vars.length p.Cells.length:=by
 have h1:=h.1
 unfold d4 at h1
 simp only[Bool.and_eq_true]at h1
 exact⟨h1.2.2.2.2,h.2.2.2.2⟩
theorem PrI.start{p:ap}(h:PrI p):OpsI p.Start p.Vars.length p.Cells.length:=by
 have h1:=h.1
 unfold d4 at h1
 simp only[Bool.and_eq_true]at h1
 exact⟨h1.2.2.2.1,h.2.2.2.1⟩
theorem OpsI.pos{ops:List am}{nv:Nat}{nc:Int}(h:OpsI ops nv nc):0<(ops.length:Int):=by
 have h1:=h.1
 unfold eJ at h1
 rw[Bool.and_eq_true,ab]at h1
 omega
noncomputable def dH(p:ap)(s:ar)(line:List Int):ar×List Int :=
 if s.Nr≥1000000 then(⟨s.Vars,s.Cells,s.Nr,1⟩,[])else gW s (s.Nr+1) (lk p.Main line (s.Nr+1) 20000 0 s.Vars s.Cells [] [])
theorem FRelI.ne{nv:Nat}{nc:Int}{line:List Int}{nr:Int}{x:Option (IT×Unit)}{r:Fin}(h:FRelI nv nc line nr x r):∀ e,r = .err e→e≠0:=by
 intro e he
 subst he
 have:=h.1
 omega
theorem wV{p:ap}{s:ar}{line:List Int}(hp:PrI p)(hs:StI p.Vars.length p.Cells.length s)(hl:line.length≤2097152∧Bt line) :
  rg p s line=some ((dH p s line).1,(dH p s line).2,())∧yk p s line=some ((dH p s line).1,(dH p s line).2,()) ∧
  StG p.Vars.length p.Cells.length (dH p s line).1∧(dH p s line).2.length≤600∧Bt (dH p s line).2:=by
 have hnv:=hp.nv
 obtain⟨hb1,hb2⟩:=hs.to (by omega)
 have hv:s.Vars.length≤100000:=by have:=hs.1.1;omega
 have hc:s.Cells.length≤100000:=by have:=hs.2.1.1;omega
 have hs':=hs
 obtain⟨h1,h2,h3,h4⟩:=hs
 have hfl:=oa line
 have hs0:s=⟨s.Vars,s.Cells,s.Nr,0⟩:=by obtain⟨a,b,c,d⟩:=s;dsimp only at h4;rw[h4]
 rw[BQ,Qk,ou p hp.2,BU s _ _ hb2,lW hv hc,lX hv hc,PO line (by omega)]
 simp only[aa,hp.1,hb1,Bool.not_true,Bool.false_eq_true,if_false,h4,decide_true]
 rw[aF (by omega) (by omega)]
 unfold dH
 by_cases c:s.Nr≥1000000
 ·rw[ak c,if_pos c,ak (by omega),gv,aa,iy,aa]
  unfold iT wT
  dsimp only
  rw[wg,if_pos (by decide),lW hv hc,Fl,yi,sO,if_neg (by simp)]
  simp only[aa]
  rw[yc,if_pos (by simp),lX hv hc]
  refine⟨?_,?_,⟨h1,h2,h3,by show(0:Int)≤1;omega,by show(1:Int)≤7;omega⟩,Nat.zero_le _,(fun x hx=>by cases hx)⟩ <;> first | rfl | trivial
 ·have hL:gj line (s.Nr+1):=⟨hl,by omega,by omega⟩
  have hI:VmI p.Vars.length (p.Cells.length:Int) s.Vars s.Cells [] []:=⟨h1,h2,⟨by simp,fun x hx=>by cases hx⟩,by simp,fun x hx=>by cases hx⟩
  have r1:=Ew (by omega) hp.main hL 20000 0 s.Vars s.Cells [] [] (Nat.le_refl _) ⟨Int.le_refl _,hp.main.pos⟩ hI
  have r2:=Ey (by omega) hp.main hL 20000 0 s.Vars s.Cells [] [] (Nat.le_refl _) ⟨Int.le_refl _,hp.main.pos⟩ hI
  have e1:=AC r1 s hv hc
  have e2:=AE r2 r1.ne s hv hc
  have e3:=AD r1 s hs' ⟨by omega,by omega⟩
  rw[aj c,if_neg c,aj (by omega),CC,Fl,yi]
  exact⟨e1,e2,e3⟩
noncomputable def ll(p:ap)(s:ar)(line:List Int):ar×List Int :=
 if d4 p=true∧f8 s p.Vars.length p.Cells.length=true∧s.Err=0 then dH p s line else(s,[])
theorem I1{s:ar}(hc:s.Vars.length≤2097152∧s.Cells.length≤2097152):fN s=some (s,()):=by
 have h1:qb s.Vars=some (s.Vars,()):=by
  rw[y7,if_pos (c:=0+s.Vars.length≤room) (by rw[aN];omega)]
  by_cases c:Nat.beq s.Vars.length 0=true
  ·have e:s.Vars=[]:=List.length_eq_zero_iff.1 (Nat.eq_of_beq_eq_true c)
   rw[if_pos c,e];exact qx _
  ·rw[if_neg c];rfl
 have h2:tL s.Cells=some (s.Cells,()):=by
  rw[He,if_pos (c:=0+s.Cells.length≤room) (by rw[aN];omega)]
  by_cases c:Nat.beq s.Cells.length 0=true
  ·have e:s.Cells=[]:=List.length_eq_zero_iff.1 (Nat.eq_of_beq_eq_true c)
   rw[if_pos c,e];exact qx _
  ·rw[if_neg c];rfl
 rw[B4,h1,h2];rfl
theorem OY{p:ap}{s:ar}{line:List Int}(hp:ke p)(hs:lR s)(hl:line.length≤2097152∧Bt line)(hc:s.Vars.length≤2097152∧s.Cells.length≤2097152):rg p s line=some ((ll p s line).1,(ll p s line).2,()):=by
 unfold ll
 by_cases c:d4 p=true∧f8 s p.Vars.length p.Cells.length=true∧s.Err=0
 ·obtain⟨c1,c2,c3⟩:=c
  rw[if_pos ⟨c1,c2,c3⟩]
  exact(wV ⟨c1,hp⟩ (StI.of c2 hs c3) hl).1
 ·rw[if_neg c,BQ,ou p hp,BU s _ _ hs,I1 hc]
  simp only[aa]
  cases c1:d4 p with
  | false=>rfl
  | true =>
   simp only[Bool.not_true,Bool.false_eq_true,if_false]
   cases c2:f8 s p.Vars.length p.Cells.length with
   | false=>rfl
   | true =>
    have c3:¬ s.Err=0:=fun h=>c ⟨c1,c2,h⟩
    simp only[Bool.not_true,Bool.false_eq_true,if_false,ae c3]
    rfl
theorem StG.gi{nv:Nat}{nc:Int}{s:ar}(h:StG nv nc s)(hn:nv≤100000):kj 2097152 s:=by
 obtain⟨⟨h1,h2⟩,⟨c1,c2,c3⟩,_⟩:=h
 unfold kj
 refine⟨⟨by omega,fun v hv=>?_⟩,⟨by omega,fun c hc=>?_⟩⟩
 ·have:=(h2 v hv).bd.2
  unfold gh;omega
 ·obtain⟨_,_,g3,g4⟩:=c2 c hc
  have:=g4.bd.2
  unfold iU gh
  exact⟨by omega,by omega⟩
def fT(n:Nat):ar:=⟨List.replicate n aD,[],0,0⟩
theorem NE(n:Nat)(h:n≤8):vF (n:Int)=some (fT n,())∧x8 (n:Int)=some (fT n,()):=by
 have h1:mnI (n:Int) 8=(n:Int):=by unfold mnI;rw[if_neg (by omega)]
 have h2:mxI 0 (n:Int)=(n:Int):=by unfold mxI;split <;> omega
 have h3:pC (n:Int) 8=some ((n:Int),()):=by
  rw[Fw]
  by_cases c:(n:Int)<8
  ·rw[ak c]
  ·rw[aj c,show(8:Int)=(n:Int) by omega]
 have h4:nb 0 (n:Int)=some ((n:Int),()):=by
  rw[yr]
  by_cases c:(0:Int)>(n:Int)
  ·omega
  ·rw[aj c]
 rw[KS,PF,h1,h2,h3,aa]
 dsimp only
 rw[h4,aa]
 dsimp only
 rw[if_pos ⟨by omega,by omega,by rw[aN];omega⟩,af]
 exact⟨rfl,rfl⟩
theorem ND(n:Nat)(nc:Int):StI n nc (fT n):=by
 refine⟨⟨List.length_replicate,fun v hv=>?_⟩,⟨by show 0≤40;omega,fun c hc=>(by cases hc),List.Pairwise.nil⟩,⟨by show(0:Int)≤0;omega,by show(0:Int)≤1000000;omega⟩,rfl⟩
 rw[(List.mem_replicate.1 hv).2];exact nL
noncomputable def eN(p:ap):ar×List Int:=gW (fT p.Vars.length) 0 (lk p.Start [] 0 20000 0 (fT p.Vars.length).Vars [] [] [])
theorem Rk{p:ap}(hp:PrI p):vE p=some ((eN p).1,(eN p).2,())∧ym p=some ((eN p).1,(eN p).2,())∧StG p.Vars.length p.Cells.length (eN p).1∧(eN p).2.length≤600∧Bt (eN p).2:=by
 have hnv:=hp.nv
 have hI:=ND p.Vars.length p.Cells.length
 have hv:(fT p.Vars.length).Vars.length≤100000:=by rw[hI.1.1];omega
 have hc:(fT p.Vars.length).Cells.length≤100000:=Nat.zero_le _
 have hL:gj [] 0:=⟨⟨Nat.zero_le _,fun x hx=>by cases hx⟩,by omega,by omega⟩
 have hV:VmI p.Vars.length (p.Cells.length:Int) (fT p.Vars.length).Vars [] [] []:=⟨hI.1,hI.2.1,⟨by simp,fun x hx=>by cases hx⟩,by simp,fun x hx=>by cases hx⟩
 have r1:=Ew (by omega) hp.start hL 20000 0 _ [] [] [] (Nat.le_refl _) ⟨Int.le_refl _,hp.start.pos⟩ hV
 have r2:=Ey (by omega) hp.start hL 20000 0 _ [] [] [] (Nat.le_refl _) ⟨Int.le_refl _,hp.start.pos⟩ hV
 have e1:=AC r1 (fT p.Vars.length) hv hc
 have e2:=AE r2 r1.ne (fT p.Vars.length) hv hc
 have e3:=AD r1 (fT p.Vars.length) hI ⟨by omega,by omega⟩
 obtain⟨n1,n2⟩:=NE p.Vars.length hnv
 rw[KR,Ql,ou p hp.2,n1,n2]
 simp only[aa,hp.1,Bool.not_true,Bool.false_eq_true,if_false,lW hv hc,lX hv hc,CC,yi]
 exact⟨e1,e2,e3⟩
noncomputable def eU(p:ap):List (List Int)→ar→List Int→ar×List Int
 | [],s,out=>(s,out)
 | l::ls,s,out=>if s.Err=0 then eU p ls (dH p s l).1 (out++(dH p s l).2) else(s,out)
theorem H2(p:ap)(ls:List (List Int)){s:ar}(out:List Int)(h:s.Err≠0):eU p ls s out=(s,out):=by
 cases ls with
 | nil=>rfl
 | cons l ls=>rw[eU,if_neg h]
theorem H3{p:ap}(hp:PrI p)(L:List (List Int))(hL:L.length≤300)(hl:∀ l∈L,l.length≤2097152∧Bt l)(z:ar):∀ (d i:Nat) (s:ar) (out:List Int),i+d=L.length→StG p.Vars.length p.Cells.length s→out.length≤600*(i+1) →
  ri out L (L.length:Int) (i:Int) p z s=some ((eU p (L.drop i) s out).1,(eU p (L.drop i) s out).2,())∧StG p.Vars.length p.Cells.length (eU p (L.drop i) s out).1∧(eU p (L.drop i) s out).2.length≤600*(L.length+1):=by
 have hnv:=hp.nv
 intro d
 induction d with
 | zero =>
  intro i s out hi hs ho
  rw[BO,aj (by omega),List.drop_eq_nil_of_le (by omega)]
  exact⟨rfl,hs,by show out.length≤_;omega⟩
 | succ d ih =>
  intro i s out hi hs ho
  have hi':i<L.length:=by omega
  obtain⟨b1,b2⟩:=hs.to (by omega)
  have hr:=OY hp.2 b2 (hl _ (List.getElem_mem hi')) ⟨b2.1.1,b2.2.1⟩
  rw[BO,ak (by omega),if_pos (by omega),aS hi',hr,aa,ai hi']
  dsimp only
  rw[aP hi' (by omega)]
  unfold eU
  by_cases c:s.Err=0
  ·obtain⟨_,_,g1,g2,g3⟩:=wV hp (hs.i c) (hl _ (List.getElem_mem hi'))
   have:=ih (i+1) (dH p s L[i]).1 (out++(dH p s L[i]).2) (by omega) g1 (by rw[ag];omega)
   have e:ll p s L[i]=dH p s L[i]:=by unfold ll;rw[if_pos ⟨hp.1,b1,c⟩]
   rw[e,if_pos c,if_pos (by omega)]
   exact this
  ·have:=ih (i+1) s out (by omega) hs (by omega)
   have e:ll p s L[i]=(s,[]):=by unfold ll;rw[if_neg (fun h=>c h.2.2)]
   rw[e,if_neg c,if_pos (by simp;omega),List.append_nil]
   rw[H2 p _ out c]at this
   exact this
theorem H4{p:ap}(hp:PrI p)(ts L:List (List Int))(hts:L=ts.take (min ts.length 300))(htl:ts.length≤2097152)(hl:∀ l∈L,l.length≤2097152∧Bt l)(z:ar):∀ (d i:Nat) (s:ar) (out:List Int),i+d=L.length→StG p.Vars.length p.Cells.length s→out.length≤600*(i+1) →
  sF ts out (i:Int) p z s=some ((eU p (L.drop i) s out).1,(eU p (L.drop i) s out).2,()):=by
 have hlen:L.length=min ts.length 300:=by rw[hts,List.length_take];omega
 intro d
 induction d with
 | zero =>
  intro i s out hi hs ho
  rw[EX,List.drop_eq_nil_of_le (by omega)]
  by_cases c:(i:Int)<(ts.length:Int)
  ·rw[ak c,aj (by omega)];rfl
  ·rw[aj c];rfl
 | succ d ih =>
  intro i s out hi hs ho
  have hi':i<L.length:=by omega
  have hit:i<ts.length:=by omega
  have hget:ts[i]=L[i]:=by subst hts;rw[List.getElem_take]
  rw[EX,ak (by omega),ak (by omega),ai hi']
  unfold eU
  by_cases c:s.Err=0
  ·obtain⟨_,e2,g1,g2,g3⟩:=wV hp (hs.i c) (hl _ (List.getElem_mem hi'))
   have:=ih (i+1) (dH p s L[i]).1 (out++(dH p s L[i]).2) (by omega) g1 (by rw[ag];omega)
   rw[ac c,if_neg (by decide),if_pos (by omega),aS hit,hget,e2,aa,if_pos c,aP hit (by omega)]
   dsimp only
   rw[if_pos (by omega)]
   exact this
  ·rw[ae c,if_pos (by decide),if_neg c]
noncomputable def gQ(p:ap)(ts:List (List Int)):ar×List Int:=if d4 p=true then eU p (ts.take (min ts.length 300)) (eN p).1 (eN p).2 else(⟨[],[],0,0⟩,[])
theorem H1{p:ap}{ts:List (List Int)}(hp:ke p)(ht:ts.length≤2097152)(hl:∀ l∈ts,l.length≤2097152∧Bt l) :
  rh p ts=some ((gQ p ts).1,(gQ p ts).2,())∧x7 p ts=some ((gQ p ts).1,(gQ p ts).2,())∧((d4 p=true∧StG p.Vars.length p.Cells.length (gQ p ts).1)∨(gQ p ts).1=⟨[],[],0,0⟩):=by
 unfold gQ
 by_cases c:d4 p=true
 ·have hP:PrI p:=⟨c,hp⟩
  obtain⟨e1,e2,e3,e4,e5⟩:=Rk hP
  have hlt:∀ l∈ts.take (min ts.length 300),l.length≤2097152∧Bt l:=fun l h=>hl l (List.mem_of_mem_take h)
  have hlen:(ts.take (min ts.length 300)).length≤300:=by rw[List.length_take];omega
  obtain⟨g1,g2,g3⟩:=H3 hP _ hlen hlt gd (ts.take (min ts.length 300)).length 0 (eN p).1 (eN p).2 (by omega) e3 (by omega)
  have g4:=H4 hP ts _ rfl ht hlt gd (ts.take (min ts.length 300)).length 0 (eN p).1 (eN p).2 (by omega) e3 (by omega)
  rw[List.drop_zero]at g1 g2 g4
  have hm:mnI (ts.length:Int) 300=((min ts.length 300:Nat):Int):=by unfold mnI;split <;> omega
  have hk:List.take (((min ts.length 300:Nat):Int).toNat-0) (List.drop 0 ts)=ts.take (min ts.length 300):=by rw[af,Nat.sub_zero,List.drop_zero]
  rw[if_pos c,BP,EY,ou p hp,EW p hp]
  simp only[aa,c,Bool.not_true,Bool.false_eq_true,if_false,e1,e2]
  rw[hm,if_pos (by omega),hk]
  exact⟨g1,g4,.inl ⟨trivial,g2⟩⟩
 ·have c':d4 p=false:=by simpa using c
  rw[if_neg c,BP,EY,EW p hp,ou p hp]
  simp only[aa,c',Bool.not_false,if_true]
  exact⟨trivial,trivial,.inr trivial⟩
end Go.Proofs.YtjglhackafgjiaaGreatDoor.E.TA
