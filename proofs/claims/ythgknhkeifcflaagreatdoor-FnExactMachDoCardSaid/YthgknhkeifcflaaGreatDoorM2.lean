/- What the pure statement needs (2). No condition. -/
import Derived.Test.YthgknhkeifcflaaGreatDoorM1
import Derived.Test.YthgknhkeifcflaaGreatDoorTDe1
import Derived.Test.YthgknhkeifcflaaGreatDoorTDe2
import Derived.Test.YthgknhkeifcflaaGreatDoorTDe3
import Derived.Test.YthgknhkeifcflaaGreatDoorTDe4
namespace Go.Proofs.YthgknhkeifcflaaGreatDoor.E.TD
open Go.Proofs.YthgknhkeifcflaaGreatDoor.E
set_option linter.unusedVariables false
def kd(a b c:Int):Int:=if c≥a∧c<w8 (a+26)then w8 (w8 (c-a)+b)else c
def g8(a b:Int)(t:List Int):List Int:=t.map (kd a b)
theorem Jg{a b:Int}{t:List Int}(h:Bt t):Bt (g8 a b t):=fun x hx=>by
 obtain⟨c,hc,rfl⟩:=List.mem_map.1 hx
 unfold kd
 split
 ·exact VD _
 ·exact h c hc
theorem U7{α:Type}{t:List α}{i:Nat}(h:i<t.length)(x:α):(t.set i x).take (i+1)=t.take i++[x]:=by
 rw[List.take_add_one,List.take_set_of_le (aG _),List.getElem?_set_self h];rfl
theorem Vn{α:Type}{t:List α}{i:Nat}(h:i<t.length):t.take (i+1)=t.take i++[t[i]]:=by
 rw[List.take_add_one,List.getElem?_eq_getElem h];rfl
theorem Vv(a b:Int)(n:Nat)(hn:n≤4294967296):∀ (d i:Nat) (t:List Int),t.length=n→i+d=n→nY a b t (n:Int) (i:Int)=some (t.take i++g8 a b (t.drop i),())∧oV a b t (i:Int)=some (t.take i++g8 a b (t.drop i),()):=by
 intro d
 induction d with
 | zero =>
  intro i t ht hi
  rw[EU,HT,ap,ap,a8 (by omega),aW (by omega)]
  unfold g8
  rw[List.map_nil,aH];exact⟨rfl,rfl⟩
 | succ d ih =>
  intro i t ht hi
  have hi':i<t.length:=by omega
  have hin:(0:Int)≤(i:Int)∧(i:Int)<(t.length:Int):=by omega
  have hdrop:g8 a b (t.drop i)=kd a b t[i]::g8 a b (t.drop (i+1)):=by rw[ai hi'];rfl
  obtain⟨k1,k2⟩:=ih (i+1) t ht (by omega)
  obtain⟨s1,s2⟩:=ih (i+1) (t.set i (w8 (w8 (t[i]-a)+b))) (by rw[aX];exact ht) (by omega)
  rw[U7 hi',List.drop_set_of_lt (by omega),ah]at s1 s2
  rw[Vn hi',ah]at k1 k2
  rw[EU,HT,an,ak hin.2,hdrop]
  simp only[bn hin,ci hi' (by omega),af,cF hi']
  by_cases c1:t[i]≥a
  ·simp only[ac c1,if_true]
   by_cases c2:t[i]<w8 (a+26)
   ·have e:kd a b t[i]=w8 (w8 (t[i]-a)+b):=by unfold kd;rw[bn ⟨c1,c2⟩]
    simp only[ac c2,if_true]
    rw[e];exact⟨s1,s2⟩
   ·have e:kd a b t[i]=t[i]:=by unfold kd;rw[bo (fun h=>c2 h.2)]
    simp only[ae c2,Bool.false_eq_true,if_false]
    rw[e];exact⟨k1,k2⟩
  ·have e:kd a b t[i]=t[i]:=by unfold kd;rw[bo (fun h=>c1 h.1)]
   simp only[ae c1,Bool.false_eq_true,if_false]
   rw[e];exact⟨k1,k2⟩
theorem vF(a b:Int)(t:List Int)(ht:t.length≤300):tA t a b=some (g8 a b t,())∧uJ t a b=some (g8 a b t,()):=by
 obtain⟨e1,e2⟩:=Vv a b t.length (by omega) t.length 0 t rfl (by omega)
 rw[List.take_zero,aM,bg]at e1 e2
 rw[Pu,TR,bn (by rw[ch];omega),bn (by rw[ch];omega)]
 exact⟨e1,e2⟩
theorem Px{l t:List Int}(h:l.length<t.length):cE l t = -1:=by
 have hb:=kX l t
 have:=(yu t l).1
 by_cases c:0≤cE l t
 ·have:=(this c).length_le;omega
 ·omega
theorem TM(s t:List Int)(hs:s.length≤300)(ht:t.length≤300):∀ (d i:Nat),i+d=s.length→uK s t (i:Int)=some (if cE (s.drop i) t = -1 then 0 else(i:Int)+cE (s.drop i) t+1,()):=by
 intro d
 induction d with
 | zero =>
  intro i hi
  have hw:w64 ((i:Int)+(t.length:Int))=((i+t.length:Nat):Int):=by rw[aq];omega
  have hd:s.drop i=[]:=aW (by omega)
  rw[HX,hw,hd]
  cases t with
  | nil =>
   rw[ak (by simp;omega),bn (by simp;omega)]
   rw[bn (by simp[hd]),aq]
   simp[cE]
  | cons c t =>
   rw[bo (by rw[ab,aR];omega)]
   simp[cE]
 | succ d ih =>
  intro i hi
  have hi':i<s.length:=by omega
  have hw:w64 ((i:Int)+(t.length:Int))=((i+t.length:Nat):Int):=by rw[aq];omega
  rw[HX,hw]
  by_cases c:i+t.length≤s.length
  ·have hpre:(t.isPrefixOf (s.drop i)=true)↔(s.drop i).take t.length=t:=by
    rw[List.isPrefixOf_iff_prefix,List.prefix_iff_eq_take];exact eq_comm
   have hcons:=ai hi'
   rw[an,al,af,af,show i+t.length-i=t.length by omega,ci hi' (by omega)]
   by_cases c2:(s.drop i).take t.length=t
   ·have e:cE (s.drop i) t=0:=by rw[hcons]at hpre c2 ⊢;unfold cE;rw[bn (hpre.2 c2)]
    rw[ak c2,e,bo (by decide)]
    congr 2
   ·have hn:¬ t.isPrefixOf (s.drop i)=true:=fun h=>c2 (hpre.1 h)
    have e:cE (s.drop i) t=if cE (s.drop (i+1)) t = -1 then -1 else cE (s.drop (i+1)) t+1:=by rw[hcons]at hn ⊢;exact(by rw[cE,bo hn])
    have hb:=kX (s.drop (i+1)) t
    rw[aj c2,ih (i+1) (by omega),e]
    by_cases c3:cE (s.drop (i+1)) t = -1
    ·rw[bn c3,bn c3,bn rfl]
    ·rw[bo c3,bo c3,am]
     congr 2;omega
  ·rw[ap,bn (Px (by rw[aQ];omega))]
theorem TN(s t:List Int)(hs:s.length≤300)(ht:t.length≤300):Aw s t=some (cE s t+1,()):=by
 rw[TV]
 have:=TM s t hs ht s.length 0 (by omega)
 rw[aM]at this
 rw[show(0:Int)=((0:Nat):Int)from rfl,this]
 have hb:=kX s t
 congr 2
 split <;> omega
def lm(s:List Int)(f t:Int):List Int:=if mnI t s.length<mxI f 1 then []else List.take ((mnI t s.length).toNat-(mxI f 1-1).toNat) (List.drop (mxI f 1-1).toNat s)
theorem RT{s:List Int}(hs:s.length≤300)(hb:Bt s)(f t:Int):(lm s f t).length≤300∧Bt (lm s f t):=by
 unfold lm
 split
 ·exact⟨Nat.zero_le _,fun x hx=>by cases hx⟩
 ·exact⟨by rw[aP,aQ];omega,fun x hx=>hb x (List.mem_of_mem_drop (List.mem_of_mem_take hx))⟩
theorem EE(s:List Int)(f t:Int)(hs:s.length≤300)(hf:-9000000≤f∧f≤9000000):tq s f t=some (lm s f t,()):=by
 have h1:1≤mxI f 1∧mxI f 1≤9000000:=by unfold mxI;split <;> omega
 have h2:mnI t s.length≤(s.length:Int):=by unfold mnI;split <;> omega
 rw[O3]
 unfold lm
 by_cases c:mxI f 1>mnI t s.length
 ·rw[ak c,bn c]
 ·rw[aj c,bo c,aq,bn (c:=_∧_) (by omega)]
theorem It(s:List Int)(f t:Int)(hs:s.length≤300)(hf:-9000000≤f∧f≤9000000):uL s f (mnI t s.length)=some (lm s f t,()):=by
 have hm:uR f 1=some (mxI f 1,()):=by
  rw[H8]
  unfold mxI
  by_cases c:f>1
  ·rw[ak c,am]
  ·rw[aj c]
   split
   ·rfl
   ·congr 2;omega
 rw[TZ,hm,aa]
 dsimp only
 unfold lm
 by_cases c:mnI t s.length<mxI f 1
 ·rw[ak c,bn c]
 ·have h1:1≤mxI f 1∧mxI f 1≤9000000:=by unfold mxI;split <;> omega
  have h2:mnI t s.length≤(s.length:Int):=by unfold mnI;split <;> omega
  rw[aj c,bo c,aq,al]
noncomputable def iS(name:List Int)(l:List bG):bG :=
 if name=[108,101,110,103,116,104] then⟨1,((cw (l.getD 0 bV)).length:Int)*1000000,[]⟩
 else if name=[105,110,116] then⟨1,Int.tdiv (cK (l.getD 0 bV)) 1000000*1000000,[]⟩
 else if name=[117,112,112,101,114] then⟨2,0,g8 97 65 (cw (l.getD 0 bV))⟩
 else if name=[108,111,119,101,114] then⟨2,0,g8 65 97 (cw (l.getD 0 bV))⟩
 else if name=[105,110,100,101,120] then⟨1,(cE (cw (l.getD 0 bV)) (cw (l.getD 1 bV))+1)*1000000,[]⟩
 else⟨2,0,lm (cw (l.getD 0 bV)) (dF (l.getD 1 bV)) (if 2<l.length then dF (l.getD 1 bV)+dF (l.getD 2 bV)-1 else((cw (l.getD 0 bV)).length:Int))⟩
theorem dd{l:List bG}(h:∀ v∈l,VG v)(i:Nat):VG (l.getD i bV):=by
 by_cases c:i<l.length
 ·rw[cF c];exact h _ (aV c)
 ·rw[List.getD_eq_getElem?_getD,List.getElem?_eq_none (by omega)];exact sr
theorem Li{l:List bG}(h:∀ v∈l,VG v)(name:List Int):VG (iS name l):=by
 obtain⟨t1,t2⟩:=eT (dd h 0)
 obtain⟨u1,u2⟩:=eT (dd h 1)
 unfold iS
 split
 ·exact ig (by unfold Dc;omega)
 split
 ·exact ig (sF (dD (dd h 0)).2.2).2.2
 split
 ·exact pH (by unfold g8;rw[bh];exact t1) (Jg t2)
 split
 ·exact pH (by unfold g8;rw[bh];exact t1) (Jg t2)
 split
 ·have:=kX (cw (l.getD 0 bV)) (cw (l.getD 1 bV))
  exact ig (by unfold Dc;omega)
 ·obtain⟨p1,p2⟩:=RT t1 t2 (dF (l.getD 1 bV)) (if 2<l.length then dF (l.getD 1 bV)+dF (l.getD 2 bV)-1 else((cw (l.getD 0 bV)).length:Int))
  exact pH p1 p2
theorem Ei{l:List bG}(h:∀ v∈l,VG v)(h2:2≤l.length)(h3:l.length≤3)(name:List Int):th name l bV=some (iS name l,()):=by
 obtain⟨t1,t2⟩:=eT (dd h 0)
 obtain⟨u1,u2⟩:=eT (dd h 1)
 obtain⟨w1,w2,w3⟩:=pi (dd h 1)
 obtain⟨x1,x2,x3⟩:=pi (dd h 2)
 obtain⟨n1,n2,n3⟩:=dD (dd h 0)
 have hix:=kX (cw (l.getD 0 bV)) (cw (l.getD 1 bV))
 rw[Eh,ap,al,fD,aa]
 dsimp only
 unfold iS
 by_cases c1:name=[108,101,110,103,116,104]
 ·rw[ak c1,bn c1,zg,aq,gO];rfl
 rw[aj c1,bo c1]
 by_cases c2:name=[105,110,116]
 ·rw[ak c2,bn c2,al,n1,aa]
  dsimp only
  rw[(sF n3).1,aa,gO];rfl
 rw[aj c2,bo c2]
 by_cases c3:name=[117,112,112,101,114]
 ·rw[ak c3,bn c3,(vF 97 65 _ t1).1,aa,kW];rfl
 rw[aj c3,bo c3]
 by_cases c4:name=[108,111,119,101,114]
 ·rw[ak c4,bn c4,(vF 65 97 _ t1).1,aa,kW];rfl
 rw[aj c4,bo c4]
 by_cases c5:name=[105,110,100,101,120]
 ·rw[ak c5,bn c5,al,fD,aa]
  dsimp only
  rw[Bw,al,aa]
  dsimp only
  rw[aq (n:=cE (cw (l.getD 0 bV)) (cw (l.getD 1 bV))+1),aq,gO];rfl
 rw[aj c5,bo c5,al,w1,aa]
 dsimp only
 by_cases c6:2<l.length
 ·rw[an,al,x1,aa]
  dsimp only
  rw[aq (n:=dF (l.getD 1 bV)+dF (l.getD 2 bV)),aq,EE _ _ _ t1 w3,aa,kW,bn c6];rfl
 ·rw[ap,EE _ _ _ t1 w3,aa,kW,bo c6];rfl
theorem Om{l:List bG}(h:∀ v∈l,VG v)(h1:1≤l.length)(h3:l.length≤3)(name:List Int):xN name l=some (iS name l,()):=by
 rw[Ol]
 by_cases c:2≤l.length
 ·exact Ei h c h3 name
 ·obtain⟨v,e⟩:=List.length_eq_one_iff.1 (show l.length=1 by omega)
  subst e
  have h2:=Ei (l:=[v,bV]) (fun w hw=>by
   rcases aK.1 hw with rfl | hw
   ·exact h _ (aD ..)
   ·rw[aJ.1 hw];exact sr) (by simp) (by simp) name
  rw[Eh,bn (by simp),vW,bo (c:=Nat.beq (List.length [v]) 0=true) (show ¬ Nat.beq 1 0=true by decide),bn (by rw[ch];simp),aa]
  dsimp only
  rw[bn (by rw[ch];show 2≤4294967296;decide)]
  exact h2
theorem TG{l:List bG}(h:∀ v∈l,VG v)(h1:1≤l.length)(h3:l.length≤3)(name:List Int)(hn:name∈kw2):Az name l=some (iS name l,()):=by
 have main:∀ l:List bG,(∀ v∈l,VG v)→1≤l.length→l.length≤3→(2≤l.length∨(name≠[105,110,100,101,120]∧name≠[115,117,98,115,116,114]))→mR name l=some (iS name l,()):=by
  intro l h h1 h3 h2
  obtain⟨t1,t2⟩:=eT (dd h 0)
  obtain⟨u1,u2⟩:=eT (dd h 1)
  obtain⟨w1,w2,w3⟩:=pi (dd h 1)
  obtain⟨x1,x2,x3⟩:=pi (dd h 2)
  obtain⟨n1,n2,n3⟩:=dD (dd h 0)
  have hix:=kX (cw (l.getD 0 bV)) (cw (l.getD 1 bV))
  rw[TQ]
  unfold iS
  by_cases c1:name=[108,101,110,103,116,104]
  ·rw[ak c1,bn c1,al,fM,aa]
   dsimp only
   rw[aq,fX,Int.mul_comm];rfl
  rw[aj c1,bo c1]
  by_cases c2:name=[105,110,116]
  ·rw[ak c2,bn c2,al,n2,aa]
   dsimp only
   rw[(sF n3).2.1,aa,fX];rfl
  rw[aj c2,bo c2]
  by_cases c5:name=[105,110,100,101,120]
  ·have hl2:2≤l.length:=h2.elim id fun h=>absurd c5 h.1
   rw[ak c5,al,fM,aa,al,fM,aa]
   dsimp only
   rw[TN _ _ t1 u1,aa]
   dsimp only
   rw[aq,fX,bo (by rw[c5];decide),bo (by rw[c5];decide),bn c5,Int.mul_comm];rfl
  rw[aj c5]
  by_cases c3:name=[117,112,112,101,114]
  ·rw[ak c3,bn c3,al,fM,aa]
   dsimp only
   rw[(vF 97 65 _ t1).2];rfl
  rw[aj c3,bo c3]
  by_cases c4:name=[108,111,119,101,114]
  ·rw[ak c4,bn c4,al,fM,aa]
   dsimp only
   rw[(vF 65 97 _ t1).2];rfl
  rw[aj c4,bo c4,bo c5]
  have hsub:name=[115,117,98,115,116,114]:=by
   unfold kw2 at hn
   simp only[aK,List.not_mem_nil,or_false]at hn
   rcases hn with h | h | h | h | h | h
   ·exact absurd h c1
   ·exact h
   ·exact absurd h c5
   ·exact absurd h c2
   ·exact absurd h c3
   ·exact absurd h c4
  have hl2:2≤l.length:=h2.elim id fun h=>absurd hsub h.2
  obtain⟨m1,m2,m3⟩:=dD (dd h 1)
  obtain⟨k1,k2,k3⟩:=dD (dd h 2)
  rw[T0,al,fM,aa,al,m2,aa]
  dsimp only
  by_cases c6:2<l.length
  ·rw[an,al,k2,aa]
   dsimp only
   rw[w2,x2,aq (n:=dF (l.getD 1 bV)+dF (l.getD 2 bV)),aq,bn c6]
   have hmin:AH ((cw (l.getD 0 bV)).length:Int) (dF (l.getD 1 bV)+dF (l.getD 2 bV)-1)=some (mnI (dF (l.getD 1 bV)+dF (l.getD 2 bV)-1) ((cw (l.getD 0 bV)).length:Int),()):=by
    rw[Uj]
    unfold mnI
    by_cases c7:((cw (l.getD 0 bV)).length:Int)<dF (l.getD 1 bV)+dF (l.getD 2 bV)-1
    ·rw[ak c7,bn c7]
    ·rw[aj c7,bo c7]
   rw[hmin,aa]
   dsimp only
   rw[It _ _ _ t1 w3];rfl
  ·rw[ap,w2,bo c6]
   have hmm:((cw (l.getD 0 bV)).length:Int)=mnI ((cw (l.getD 0 bV)).length:Int) ((cw (l.getD 0 bV)).length:Int):=by unfold mnI;split <;> rfl
   have:=It (cw (l.getD 0 bV)) (dF (l.getD 1 bV)) ((cw (l.getD 0 bV)).length:Int) t1 w3
   rw[← hmm]at this
   rw[this];rfl
 rw[T8]
 by_cases c:2≤l.length
 ·rw[ap,main l h h1 h3 (.inl c)];rfl
 ·obtain⟨v,e⟩:=List.length_eq_one_iff.1 (show l.length=1 by omega)
  subst e
  have h2:=main [v,bV] (fun w hw=>by
   rcases aK.1 hw with rfl | hw
   ·exact h _ (aD ..)
   ·rw[aJ.1 hw];exact sr) (by simp) (by simp) (.inl (by simp))
  have h2':mR name (List.append (List.append [] [v]) [(bG.mk 0 0 [])])=some (iS name [v],()):=h2
  rw[bn (by simp)]
  by_cases c5:name=[105,110,100,101,120]
  ·rw[ak c5,bn (by rw[ch];simp),bn (by rw[ch];show 2≤4294967296;decide),h2'];rfl
  ·rw[aj c5]
   by_cases c7:name=[115,117,98,115,116,114]
   ·rw[ak c7,bn (by rw[ch];simp),bn (by rw[ch];show 2≤4294967296;decide),h2'];rfl
   ·rw[aj c7,main [v] h h1 h3 (.inr ⟨c5,c7⟩)];rfl
theorem j5{α:Type}(l r:List α)(p q:α):(l++p::r).set l.length q=l++q::r:=by
 rw[List.set_append_right _ _ (aG _),Nat.sub_self];rfl
theorem jB{α:Type}(l r:List α)(p z:α):(l++p::r).getD l.length z=p:=by
 rw[List.getD_eq_getElem?_getD,List.getElem?_append_right (aG _),Nat.sub_self];rfl
def SP(l:List bC):Prop:=∀ p∈l,p.Set.length≤256
theorem pE{l m:List bC}(h:SP l)(g:SP m):SP (l++m):=fun p hp=>(aA.1 hp).elim (h p) (g p)
theorem kr{a:bC}{l:List bC}(h:a.Set.length≤256)(g:SP l):SP (a::l):=fun p hp=>(aK.1 hp).elim (fun e=>by rw[e];exact h) (g p)
theorem lV:SP []:=fun p hp=>by cases hp
theorem Kv{l:List bC}(h:SP l){i:Nat}{a:bC}(g:a.Set.length≤256):SP (l.set i a):=fun p hp=>(List.mem_or_eq_of_mem_set hp).elim (h p) fun e=>by rw[e];exact g
theorem Ku{l:List bC}(h:SP l)(i:Nat):(l.getD i b9).Set.length≤256:=by
 by_cases c:i<l.length
 ·rw[cF c];exact h _ (aV c)
 ·rw[List.getD_eq_getElem?_getD,List.getElem?_eq_none (by omega)];decide
def Plc(x:bE)(f:Nat→List bC)(L:Nat):Prop:=(∀ n,(f n).length=L)∧L+2≤4*cB x∧(∀ n,SP (f n)) ∧
 ∀ out:List bC,out.length+4*cB x≤100000→fE out x=some (out++f out.length,())∧fO out x=some (out++f out.length,())
def Kr(ks:List bE)(g:Nat→List bC)(L i d:Nat):Prop:=(∀ n,(g n).length=L)∧L+2*d≤4*cz (ks.drop i)∧(∀ n,SP (g n)) ∧
 ∀ out:List bC,out.length+4*cz (ks.drop i)≤100000→qt out ks (ks.length:Int) (i:Int)=some (out++g out.length,())∧∀ x:bE,x.Kids=ks→rz out (i:Int) x=some (out++g out.length,())
theorem Ll(ks:List bE)(h:∀ k∈ks,∃ f L,Plc k f L)(hl:ks.length≤1000):∀ d i,i+d=ks.length→∃ g L,Kr ks g L i d:=by
 intro d
 induction d with
 | zero =>
  intro i hi
  refine⟨fun _=>[],0,fun _=>rfl,by omega,fun _=>lV,fun out ho=>⟨?_,fun x hx=>?_⟩⟩
  ·rw[EG,ap,qu,aH]
  ·rw[Ii,hx,ap,rA,aH]
 | succ d ih =>
  intro i hi
  have hi':i<ks.length:=by omega
  obtain⟨g,L,g1,g2,gs,g3⟩:=ih (i+1) (by omega)
  obtain⟨f,M,f1,f2,fs,f3⟩:=h _ (aV hi')
  have hd:cz (ks.drop i)=cB ks[i]+cz (ks.drop (i+1)):=by rw[ai hi',cz]
  refine⟨fun n=>f n++g (n+M),M+L,fun n=>by rw[ag,f1,g1],by omega,fun n=>pE (fs n) (gs _),fun out ho=>?_⟩
  obtain⟨e1,e2⟩:=f3 out (by omega)
  have hlen:(out++f out.length).length=out.length+M:=by rw[ag,f1]
  obtain⟨e3,e4⟩:=g3 (out++f out.length) (by omega)
  rw[hlen]at e3 e4
  refine⟨?_,fun x hx=>?_⟩
  ·rw[EG,an,al,ck hi',e1,aa]
   dsimp only
   rw[ci hi' (by omega),e3,ah]
  ·have e5:=e4 x hx
   rw[Ii,hx,an,al,ck hi',e2,aa]
   dsimp only
   rw[ci hi' (by omega),e5,ah]
def Bf(p:bC)(a:Int):bC:=⟨p.Op,p.C,p.Set,p.Not,a,p.B⟩
def jz(n:Nat)(tot:Int):List Int→List bC→List bC
 | [],t=>t
 | j::js,t=>jz n tot js (t.set (j.toNat-n) (Bf (t.getD (j.toNat-n) b9) tot))
theorem C7(n:Nat)(tot:Int):∀ (js:List Int) (t:List bC),(jz n tot js t).length=t.length
 | [],t=>rfl
 | j::js,t=>by rw[jz,C7 n tot js,aX]
theorem C6(n:Nat)(tot:Int):∀ (js:List Int) (t:List bC),SP t→SP (jz n tot js t)
 | [],t,h=>h
 | j::js,t,h=>by rw[jz];exact C6 n tot js _ (Kv h (Ku h _))
theorem RI(pre:List bC)(js:List Int)(hjl:js.length≤1000):∀ (d i:Nat) (t:List bC),i+d=js.length→(∀ j∈js,(pre.length:Int)≤j∧j<((pre.length+t.length:Nat):Int))→pre.length+t.length≤200000 →
  qr (pre++t) js (js.length:Int) (i:Int)=some (pre++jz pre.length ((pre.length+t.length:Nat):Int) (js.drop i) t,()) ∧
  rC (pre++t) js (i:Int)=some (pre++jz pre.length ((pre.length+t.length:Nat):Int) (js.drop i) t,()):=by
 intro d
 induction d with
 | zero =>
  intro i t hi hj hb
  rw[Ey,Il,ap,ap,aW (by omega)]
  exact⟨rfl,rfl⟩
 | succ d ih =>
  intro i t hi hj hb
  have hi':i<js.length:=by omega
  have hji:=hj _ (aV hi')
  have hlen:(pre++t).length=pre.length+t.length:=ag
  have hge:pre.length≤js[i].toNat:=by omega
  have hget:(pre++t).getD js[i].toNat b9=t.getD (js[i].toNat-pre.length) b9:=by
   rw[List.getD_eq_getElem?_getD,List.getElem?_append_right hge,← List.getD_eq_getElem?_getD]
  have hset:∀ q,(pre++t).set js[i].toNat q=pre++t.set (js[i].toNat-pre.length) q:=fun q=>List.set_append_right _ _ hge
  obtain⟨e1,e2⟩:=ih (i+1) (t.set (js[i].toNat-pre.length) (Bf (t.getD (js[i].toNat-pre.length) b9) ((pre.length+t.length:Nat):Int))) (by omega) (by rw[aX];exact hj) (by rw[aX];exact hb)
  rw[aX]at e1 e2
  rw[ai hi',jz]
  unfold Bf at e1 e2 ⊢
  constructor
  ·rw[Ey,an,al,ck hi',bn (by rw[hlen];omega)]
   dsimp only
   rw[hget,hset,hlen,ci hi' (by omega)]
   exact e1
  ·rw[Il,an,al,ck hi',bn (by rw[hlen];omega)]
   dsimp only
   rw[hget,hset,hlen,ci hi' (by omega)]
   exact e2
def OrL(ks:List bE)(g:Nat→List bC)(h:Nat→List Int)(L i d:Nat):Prop:=(∀ n,(g n).length=L)∧L+2≤4*cz (ks.drop i)∧(∀ n,SP (g n))∧(∀ n,(h n).length=d∧∀ j∈h n,(n:Int)≤j∧j<((n+L:Nat):Int)) ∧
 ∀ (out:List bC) (js:List Int),js.length+d≤1000→out.length+4*cz (ks.drop i)≤100000 →
  qq out ks js (ks.take (ks.length-1)) ((ks.length-1:Nat):Int) (i:Int)=qr (out++g out.length) (js++h out.length) ((js++h out.length).length:Int) 0 ∧
  rB out ks js (i:Int)=rC (out++g out.length) (js++h out.length) 0
theorem RJ(ks:List bE)(h:∀ k∈ks,∃ f L,Plc k f L)(hl:ks.length≤1000)(h1:1≤ks.length):∀ d i,i+d+1=ks.length→∃ g h L,OrL ks g h L i d:=by
 have hw:w64 ((ks.length:Int)-1)=((ks.length-1:Nat):Int):=by rw[aq];omega
 have htl:(ks.take (ks.length-1)).length=ks.length-1:=by rw[aP];omega
 intro d
 induction d with
 | zero =>
  intro i hi
  have hi':i<ks.length:=by omega
  obtain⟨f,M,f1,f2,fs,f3⟩:=h _ (aV hi')
  have hd:cz (ks.drop i)=cB ks[i]+cz (ks.drop (i+1)):=by rw[ai hi',cz]
  refine⟨f,fun _=>[],M,f1,by omega,fs,fun n=>⟨rfl,fun j hj=>by cases hj⟩,fun out js hjs ho=>?_⟩
  obtain⟨e1,e2⟩:=f3 out (by omega)
  have hwi:w64 ((ks.length:Int)-1)=(i:Int):=by rw[hw];omega
  constructor
  ·rw[Ex,ap,hwi,al,ck hi',e1,aa,aH]
  ·rw[Ik,hwi,ap,al,ck hi',e2,aa,aH]
 | succ d ih =>
  intro i hi
  have hi':i<ks.length:=by omega
  obtain⟨g,h',L,g1,g2,gs,g3,g4⟩:=ih (i+1) (by omega)
  obtain⟨f,M,f1,f2,fs,f3⟩:=h _ (aV hi')
  have hd:cz (ks.drop i)=cB ks[i]+cz (ks.drop (i+1)):=by rw[ai hi',cz]
  refine⟨fun n=>⟨7,0,[],false,((n+1:Nat):Int),((n+1+M+1:Nat):Int)⟩::(f (n+1)++(⟨6,0,[],false,0,0⟩::g (n+1+M+1))),fun n=>((n+1+M:Nat):Int)::h' (n+1+M+1),L+M+2,fun n=>?_,by omega,fun n=>kr (Nat.zero_le _) (pE (fs _) (kr (Nat.zero_le _) (gs _))),fun n=>⟨?_,?_⟩,fun out js hjs ho=>?_⟩
  ·rw[aR,ag,aR,f1,g1];omega
  ·rw[aR,(g3 _).1]
  ·intro j hj
   rcases aK.1 hj with rfl | hj
   ·omega
   ·have:=(g3 _).2 j hj;omega
  ·have hw1:w64 ((out.length:Int)+1)=((out.length+1:Nat):Int):=by rw[aq];omega
   have fork:∀ p:bC,fE (List.append out [p]) ks[i]=some (out++p::f (out.length+1),())∧fO (List.append out [p]) ks[i]=some (out++p::f (out.length+1),()):=fun p=>by
    have hlp:(out++[p]).length=out.length+1:=by simp
    have:=f3 (out++[p]) (by omega)
    rw[hlp,ah]at this
    exact this
   have hv:∀ p q:bC,List.append (out++p::f (out.length+1)) [q]=out++p::(f (out.length+1)++[q]):=fun p q=>by simp
   have hvl:∀ p q:bC,(out++p::(f (out.length+1)++[q])).length=out.length+1+M+1:=fun p q=>by simp[f1];omega
   have hml:∀ p:bC,(out++p::f (out.length+1)).length=out.length+1+M:=fun p=>by simp[f1];omega
   have hrest:∀ p q:bC,out++p::(f (out.length+1)++[q])++g (out.length+1+M+1)=out++(p::(f (out.length+1)++(q::g (out.length+1+M+1)))):=fun p q=>by simp
   obtain⟨e1,e2⟩:=g4 (out++⟨7,0,[],false,((out.length+1:Nat):Int),((out.length+1+M+1:Nat):Int)⟩::(f (out.length+1)++[⟨6,0,[],false,0,0⟩])) (List.append js [((out.length+1+M:Nat):Int)]) (by show(js++[_]).length+_≤_;simp;omega) (by rw[hvl];omega)
   rw[hvl,hrest]at e1 e2
   have hjs':∀ a b:List Int,∀ c:Int,List.append a [c]++b=a++c::b:=fun a b c=>by simp
   rw[hjs']at e1 e2
   constructor
   ·rw[Ex,an,bn (by rw[htl];omega),bn (by rw[ch];omega),ck (by rw[htl];omega),List.getElem_take,(fork _).1,aa]
    dsimp only
    rw[bn (by rw[ch];omega),hml,bn (by rw[ch];omega),hv,hvl,al,af,jB,j5]
    dsimp only
    rw[hw1,ci hi' (by omega)]
    exact e1
   ·rw[Ik,hw,an,lG,bn (by rw[ch];omega),aa]
    dsimp only
    rw[al,ck hi',(fork _).2,aa]
    dsimp only
    rw[bn (by rw[ch];omega),lG,hml,bn (by rw[ch];omega),aa]
    dsimp only
    rw[hv,hvl,al,af,jB,j5,hvl,al,jB,j5]
    dsimp only
    rw[hw1,ci hi' (by omega)]
    exact e2
theorem SR{x:bE}(h:rx x=true):(∀ k∈x.Kids,rx k=true)∧mD x=true:=by
 rw[zY,az,zX,Bool.not_eq_true',List.any_eq_false]at h
 exact⟨fun k hk=>by have:=h.2 k hk;simpa using this,h.1⟩
theorem GR:∀ (n:Nat) (x:bE),cB x≤n→n≤1000→SG x→rx x=true→∃ f L,Plc x f L:=by
 intro n
 induction n with
 | zero=>intro x h;have:=mE x;omega
 | succ n ih =>
  intro x h hn hsg hx
  obtain⟨hs1,hs2⟩:=(wx x).1 hsg
  have hnx:=qR x
  rw[hnx]at h
  have hlen:=qQ x.Kids
  obtain⟨hk,hB⟩:=SR hx
  have hks:∀ k∈x.Kids,∃ f L,Plc k f L:=fun k hk'=>ih k (by have:=qS hk';omega) (by omega) (sn hs2 hk') (hk k hk')
  unfold mD at hB
  have one:∀ p:bC,p.Set.length≤256→(∀ out:List bC,out.length+4*cB x≤100000→fE out x=some (List.append out [p],())∧fO out x=some (List.append out [p],()))→∃ f L,Plc x f L:=fun p hps hp =>
   ⟨fun _=>[p],1,fun _=>rfl,by omega,fun _=>kr hps lV,hp⟩
  by_cases c1:x.Op=1
  ·refine one ⟨1,x.C,[],false,0,0⟩ (Nat.zero_le _) fun out ho=>?_
   rw[ix,iJ,ak c1,ak c1,bn (by rw[ch];omega)]
   exact⟨rfl,rfl⟩
  have m1:¬ decide (x.Op=1)=true:=by rw[ab];exact c1
  by_cases c2:x.Op=2
  ·refine one ⟨2,0,[],false,0,0⟩ (Nat.zero_le _) fun out ho=>?_
   rw[ix,iJ,bo m1,bo m1,ak c2,ak c2,lG,bn (by rw[ch];omega)]
   exact⟨rfl,rfl⟩
  have m2:¬ decide (x.Op=2)=true:=by rw[ab];exact c2
  by_cases c3:x.Op=3
  ·refine one ⟨3,0,x.Set,x.Not,0,0⟩ (hs1.elim (fun h=>h.2.2.2.2.2.1) fun h=>absurd c3 h.1) fun out ho=>?_
   rw[ix,iJ,bo m1,bo m1,bo m2,bo m2,ak c3,ak c3,bn (by rw[ch];omega)]
   exact⟨rfl,rfl⟩
  have m3:¬ decide (x.Op=3)=true:=by rw[ab];exact c3
  by_cases c4:x.Op=4
  ·refine one ⟨4,0,[],false,0,0⟩ (Nat.zero_le _) fun out ho=>?_
   rw[ix,iJ,bo m1,bo m1,bo m2,bo m2,bo m3,bo m3,ak c4,ak c4,lG,bn (by rw[ch];omega)]
   exact⟨rfl,rfl⟩
  have m4:¬ decide (x.Op=4)=true:=by rw[ab];exact c4
  by_cases c5:x.Op=5
  ·refine one ⟨5,0,[],false,0,0⟩ (Nat.zero_le _) fun out ho=>?_
   rw[ix,iJ,bo m1,bo m1,bo m2,bo m2,bo m3,bo m3,bo m4,bo m4,ak c5,ak c5,lG,bn (by rw[ch];omega)]
   exact⟨rfl,rfl⟩
  have m5:¬ decide (x.Op=5)=true:=by rw[ab];exact c5
  have start:∀ out,fE out x=(if(decide (x.Op=6))=true then qt out x.Kids (List.length x.Kids:Int) 0 else fE out x)∧fO out x=(if(decide (x.Op=6))=true then rz out 0 x else fO out x):=fun out=>by
   by_cases c6:x.Op=6
   ·rw[ak c6,ak c6,ix,iJ,bo m1,bo m1,bo m2,bo m2,bo m3,bo m3,bo m4,bo m4,bo m5,bo m5,ak c6,ak c6]
    exact⟨rfl,rfl⟩
   ·rw[aj c6,aj c6];exact⟨rfl,rfl⟩
  by_cases c6:x.Op=6
  ·obtain⟨g,L,g1,g2,gs,g3⟩:=Ll x.Kids hks (by omega) x.Kids.length 0 (by omega)
   rw[aM]at g2 g3
   refine⟨g,L,g1,by omega,gs,fun out ho=>?_⟩
   obtain⟨e1,e2⟩:=g3 out (by omega)
   rw[(start out).1,(start out).2,ak c6,ak c6]
   exact⟨e1,e2 x rfl⟩
  have m6:¬ decide (x.Op=6)=true:=by rw[ab];exact c6
  by_cases c7:x.Op=7
  ·have h2:2≤x.Kids.length:=by
    simp[c7]at hB;exact hB.2
   obtain⟨g,js,L,g1,g2,gs,g3,g4⟩:=RJ x.Kids hks (by omega) (by omega) (x.Kids.length-1) 0 (by omega)
   rw[aM]at g2 g4
   refine⟨fun n=>jz n ((n+L:Nat):Int) (js n) (g n),L,fun n=>by rw[C7,g1],by omega,fun n=>C6 _ _ _ _ (gs n),fun out ho=>?_⟩
   obtain⟨e1,e2⟩:=g4 out [] (by simp;omega) (by omega)
   obtain⟨e3,e4⟩:=RI out (js out.length) (by rw[(g3 _).1];omega) (js out.length).length 0 (g out.length) (by omega) (by rw[g1];exact(g3 _).2) (by rw[g1];omega)
   rw[bg]at e1 e2
   rw[aM,g1]at e3 e4
   have hw:w64 ((x.Kids.length:Int)-1)=((x.Kids.length-1:Nat):Int):=by rw[aq];omega
   have ht:List.take (((x.Kids.length-1:Nat):Int).toNat-0) (List.drop 0 x.Kids)=x.Kids.take (x.Kids.length-1):=by rw[af,Nat.sub_zero,aM]
   have htl:(x.Kids.take (x.Kids.length-1)).length=x.Kids.length-1:=by rw[aP];omega
   rw[ix,iJ,bo m1,bo m1,bo m2,bo m2,bo m3,bo m3,bo m4,bo m4,bo m5,bo m5,bo m6,bo m6,ak c7,ak c7,OW,UA,hw,al,ht,htl]
   have e1':qq out x.Kids [] (x.Kids.take (x.Kids.length-1)) ((x.Kids.length-1:Nat):Int) 0=_:=e1.trans e3
   have e2':rB out x.Kids [] 0=_:=e2.trans e4
   rw[e1',e2']
   exact⟨rfl,rfl⟩
  have m7:¬ decide (x.Op=7)=true:=by rw[ab];exact c7
  have hone:x.Op=8∨x.Op=9∨x.Op=10→∃ k,x.Kids=[k]:=fun ho=>by
   have:x.Kids.length=1:=by
    rcases ho with ho | ho | ho <;> (simp[ho]at hB;exact hB.2)
   exact List.length_eq_one_iff.1 this
  have hw1:∀ out:List bC,out.length≤100000→w64 ((out.length:Int)+1)=((out.length+1:Nat):Int):=fun out ho=>by rw[aq];omega
  by_cases c8:x.Op=8
  ·obtain⟨k,hk1⟩:=hone (.inl c8)
   obtain⟨f,M,f1,f2,fs,f3⟩:=hks k (by rw[hk1];exact aJ.2 rfl)
   have hnk:cB x=1+cB k:=by rw[hnx,hk1,cz,cz];omega
   refine⟨fun n=>⟨7,0,[],false,((n+1:Nat):Int),((n+1+M+1:Nat):Int)⟩::(f (n+1)++[⟨6,0,[],false,(n:Int),0⟩]),M+2,fun n=>by simp[f1],by omega,fun n=>kr (Nat.zero_le _) (pE (fs _) (kr (Nat.zero_le _) lV)),fun out ho=>?_⟩
   have fork:∀ p:bC,fE (List.append out [p]) k=some (out++p::f (out.length+1),())∧fO (List.append out [p]) k=some (out++p::f (out.length+1),()):=fun p=>by
    have hlp:(out++[p]).length=out.length+1:=by simp
    have:=f3 (out++[p]) (by omega)
    rw[hlp,ah]at this
    exact this
   have hv:∀ p q:bC,List.append (out++p::f (out.length+1)) [q]=out++p::(f (out.length+1)++[q]):=fun p q=>by simp
   have hvl:∀ p q:bC,(out++p::(f (out.length+1)++[q])).length=out.length+1+M+1:=fun p q=>by simp[f1];omega
   have hml:∀ p:bC,(out++p::f (out.length+1)).length=out.length+1+M:=fun p=>by simp[f1];omega
   rw[ix,iJ,bo m1,bo m1,bo m2,bo m2,bo m3,bo m3,bo m4,bo m4,bo m5,bo m5,bo m6,bo m6,bo m7,bo m7,ak c8,ak c8,hk1]
   constructor
   ·rw[bn (by rw[ch];omega),bn (by simp),show List.getD [k] 0 cf=k from rfl,(fork _).1,aa]
    dsimp only
    rw[hml,bn (by rw[ch];omega),hv,hvl,al,af,jB,j5]
    dsimp only
    rw[hw1 out (by omega),qu]
   ·rw[lG,bn (by rw[ch];omega),aa,bn (by simp),show List.getD [k] 0 cf=k from rfl]
    dsimp only
    rw[(fork _).2,aa]
    dsimp only
    rw[hml,bn (by rw[ch];omega),hv,hvl,al,af,jB,j5,hvl,al,jB,j5]
    dsimp only
    rw[hw1 out (by omega),rA]
  have m8:¬ decide (x.Op=8)=true:=by rw[ab];exact c8
  by_cases c9:x.Op=9
  ·obtain⟨k,hk1⟩:=hone (.inr (.inl c9))
   obtain⟨f,M,f1,f2,fs,f3⟩:=hks k (by rw[hk1];exact aJ.2 rfl)
   have hnk:cB x=1+cB k:=by rw[hnx,hk1,cz,cz];omega
   refine⟨fun n=>f n++[⟨7,0,[],false,(n:Int),((n+M+1:Nat):Int)⟩],M+1,fun n=>by simp[f1],by omega,fun n=>pE (fs _) (kr (Nat.zero_le _) lV),fun out ho=>?_⟩
   obtain⟨e1,e2⟩:=f3 out (by omega)
   have hml:(out++f out.length).length=out.length+M:=by simp[f1]
   have hw2:w64 (((out.length+M:Nat):Int)+1)=((out.length+M+1:Nat):Int):=by rw[aq];omega
   rw[ix,iJ,bo m1,bo m1,bo m2,bo m2,bo m3,bo m3,bo m4,bo m4,bo m5,bo m5,bo m6,bo m6,bo m7,bo m7,bo m8,bo m8,ak c9,ak c9,hk1]
   constructor
   ·rw[bn (by simp),show List.getD [k] 0 cf=k from rfl,e1,aa]
    dsimp only
    rw[hml,bn (by rw[ch];omega),hw2,qu,← ah]
    rfl
   ·rw[bn (by simp),show List.getD [k] 0 cf=k from rfl,e2,aa]
    dsimp only
    rw[hml,bn (by rw[ch];omega),hw2,rA,← ah]
    rfl
  have m9:¬ decide (x.Op=9)=true:=by rw[ab];exact c9
  by_cases c10:x.Op=10
  ·obtain⟨k,hk1⟩:=hone (.inr (.inr c10))
   obtain⟨f,M,f1,f2,fs,f3⟩:=hks k (by rw[hk1];exact aJ.2 rfl)
   have hnk:cB x=1+cB k:=by rw[hnx,hk1,cz,cz];omega
   refine⟨fun n=>⟨7,0,[],false,((n+1:Nat):Int),((n+1+M:Nat):Int)⟩::f (n+1),M+1,fun n=>by simp[f1],by omega,fun n=>kr (Nat.zero_le _) (fs _),fun out ho=>?_⟩
   have fork:∀ p:bC,fE (List.append out [p]) k=some (out++p::f (out.length+1),())∧fO (List.append out [p]) k=some (out++p::f (out.length+1),()):=fun p=>by
    have hlp:(out++[p]).length=out.length+1:=by simp
    have:=f3 (out++[p]) (by omega)
    rw[hlp,ah]at this
    exact this
   have hml:∀ p:bC,(out++p::f (out.length+1)).length=out.length+1+M:=fun p=>by simp[f1];omega
   rw[ix,iJ,bo m1,bo m1,bo m2,bo m2,bo m3,bo m3,bo m4,bo m4,bo m5,bo m5,bo m6,bo m6,bo m7,bo m7,bo m8,bo m8,bo m9,bo m9,ak c10,ak c10,hk1]
   constructor
   ·rw[bn (by rw[ch];omega),bn (by simp),show List.getD [k] 0 cf=k from rfl,(fork _).1,aa]
    dsimp only
    rw[hml,al,af,jB,j5]
    dsimp only
    rw[hw1 out (by omega),qu]
   ·rw[lG,bn (by rw[ch];omega),aa,bn (by simp),show List.getD [k] 0 cf=k from rfl]
    dsimp only
    rw[(fork _).2,aa]
    dsimp only
    rw[hml,al,af,jB,j5,hml,al,jB,j5]
    dsimp only
    rw[hw1 out (by omega),rA]
  have m10:¬ decide (x.Op=10)=true:=by rw[ab];exact c10
  refine⟨fun _=>[],0,fun _=>rfl,by omega,fun _=>lV,fun out ho=>?_⟩
  rw[ix,iJ,bo m1,bo m1,bo m2,bo m2,bo m3,bo m3,bo m4,bo m4,bo m5,bo m5,bo m6,bo m6,bo m7,bo m7,bo m8,bo m8,bo m9,bo m9,bo m10,bo m10,qu,rA,aH]
  exact⟨rfl,rfl⟩
theorem Rp{x:bE}(hn:cB x≤121)(hs:SG x)(hd:∃ v,v≤12∧jj x=some (v,())∧iY x=some (v,())):∃ l,xI x=some (l,())∧Am x=some (l,())∧l.length≤1000∧SP l:=by
 obtain⟨e1,e2⟩:=Sw hn hs hd
 rw[N4,Tp,e1,e2,aa,aa]
 dsimp only
 by_cases c:rx x=true
 ·rw[c,bo (by decide),bo (by decide)]
  obtain⟨f,L,f1,f2,fs,f3⟩:=GR 121 x hn (by decide) hs c
  obtain⟨e3,e4⟩:=f3 [] (by simp;omega)
  rw[List.length_nil,bg]at e3 e4
  rw[e3,e4,aa,aa]
  dsimp only
  have:=f1 0
  rw[lG,bn (by rw[ch];omega)]
  exact⟨_,rfl,rfl,by show(f 0++[_]).length≤1000;simp;omega,pE (fs 0) (kr (Nat.zero_le _) lV)⟩
 ·rw[aS]at c
  simp only[c,Bool.not_false,if_true]
  exact⟨_,rfl,rfl,by simp,lV⟩
theorem B5:∀ {l m:List Int},l.Pairwise (· < ·)→m.Pairwise (· < ·)→(∀ x,x∈l↔x∈m)→l=m
 | [],[],_,_,_=>rfl
 | [],b::m,_,_,h=>absurd ((h b).2 (aD ..)) (by simp)
 | a::l,[],_,_,h=>absurd ((h a).1 (aD ..)) (by simp)
 | a::l,b::m,hl,hm,h=>by
  have hl':=List.pairwise_cons.1 hl
  have hm':=List.pairwise_cons.1 hm
  have hab:a=b:=by
   rcases aK.1 ((h a).1 (aD ..))with e | e
   ·exact e
   ·rcases aK.1 ((h b).2 (aD ..))with e' | e'
    ·exact e'.symm
    ·have:=hl'.1 b e';have:=hm'.1 a e;omega
  subst hab
  rw[B5 hl'.2 hm'.2 fun x=>?_]
  constructor
  ·intro hx
   rcases aK.1 ((h x).1 (aE _ hx))with e | e
   ·have:=hl'.1 x hx;omega
   ·exact e
  ·intro hx
   rcases aK.1 ((h x).2 (aE _ hx))with e | e
   ·have:=hm'.1 x hx;omega
   ·exact e
theorem IV{l:List Int}(h:l.Nodup):(dV l).Pairwise (· < ·):=by
 have h1:(dV l).Pairwise (fun a b=>decide (a≤b)=true):=List.pairwise_mergeSort (fun a b c h1 h2=>by simp at *;omega) (fun a b=>by simp;omega) l
 have h2:(dV l).Nodup:=(List.mergeSort_perm l _).nodup_iff.2 h
 exact(h1.and h2).imp fun {a b} h=>by have:=of_decide_eq_true h.1;have:=h.2;omega
theorem B6{N:Int}:∀ (l:List Int) (lo:Int),l.Pairwise (· < ·)→(∀ x∈l,lo≤x∧x<N)→lo≤N→(l.length:Int)≤N-lo
 | [],lo,_,_,h=>by simp;omega
 | a::l,lo,hl,hb,h=>by
  have hl':=List.pairwise_cons.1 hl
  have ha:=hb a (aD ..)
  have:=B6 l (a+1) hl'.2 (fun x hx=>⟨by have:=hl'.1 x hx;omega,(hb x (aE _ hx)).2⟩) (by omega)
  rw[aR];omega
theorem ud{N:Nat}{l:List Int}(h:l.Nodup)(hb:∀ x∈l,0≤x∧x<(N:Int)):l.length≤N:=by
 have:=B6 (N:=N) (dV l) 0 (IV h) (fun x hx=>hb x (sortI_mem.1 hx)) (by omega)
 rw[A3]at this
 omega
def adj(l:List bC)(b e:Bool)(k:Nat):List Int :=
 if(l.getD k b9).Op=6 then [(l.getD k b9).A]else if(l.getD k b9).Op=7 then [(l.getD k b9).A,(l.getD k b9).B]
 else if(l.getD k b9).Op=4 then(if b=true then [(k:Int)+1]else [])else if(l.getD k b9).Op=5 then(if e=true then [(k:Int)+1]else [])else []
theorem KA(l:List bC)(b e:Bool)(k:Nat):(adj l b e k).length≤2:=by
 unfold adj
 split
 ·simp
 ·split
  ·simp
  ·split
   ·split <;> simp
   ·split
    ·split <;> simp
    ·simp
inductive Rch (l:List bC) (at_:List Int) (b e:Bool):Int→Prop
 | base {i:Int}:i∈at_→0≤i→i<(l.length:Int)→Rch l at_ b e i
 | step {k j:Int}:Rch l at_ b e k→j∈adj l b e k.toNat→0≤j→j<(l.length:Int)→Rch l at_ b e j
theorem Rch.bd{l:List bC}{at_:List Int}{b e:Bool}{i:Int}(h:Rch l at_ b e i):0≤i∧i<(l.length:Int):=by
 cases h with
 | base _ h1 h2=>exact⟨h1,h2⟩
 | step _ _ h1 h2=>exact⟨h1,h2⟩
def St(l:List bC)(seen:List Bool)(out:List Int):Prop:=seen.length=l.length∧(∀ i:Nat,i<l.length→seen.getD i false=decide ((i:Int)∈out))∧(∀ x∈out,0≤x∧x<(l.length:Int))∧out.Nodup
def Put(l:List bC)(seen:List Bool)(out:List Int)(ys:List Int)(seen':List Bool)(out':List Int):Prop :=
 St l seen' out'∧(∀ x,x∈out'↔x∈out∨(x∈ys∧0≤x∧x<(l.length:Int)))∧∃ t,out'=out++t
theorem oJ{l:List bC}(hl:l.length≤1000){seen:List Bool}{out:List Int}(h:St l seen out)(i:Int):∃ seen' out',kK i l seen out=some (l,seen',out',())∧Put l seen out [i] seen' out':=by
 obtain⟨h1,h2,h3,h4⟩:=h
 have hlen:=ud h4 h3
 rw[NG,eL,aa]
 dsimp only
 by_cases c:0≤i∧i≤w64 ((l.length:Int)-1)
 ·rw[ak c]
  rw[aq]at c
  have hi:i.toNat<l.length:=by omega
  have e:=h2 i.toNat hi
  rw[Int.toNat_of_nonneg c.1]at e
  rw[al,e]
  by_cases d:i∈out
  ·rw[ac d,bo (by decide)]
   exact⟨_,_,rfl,⟨h1,h2,h3,h4⟩,fun x=>⟨.inl,fun hx=>hx.elim id fun hx=>by rw[aJ.1 hx.1];exact d⟩,[],by simp⟩
  ·rw[ae d,bn (by decide),al,bn (by rw[ch];omega)]
   refine⟨_,_,rfl,⟨by rw[aX];exact h1,fun j hj=>?_,fun x hx=>?_,?_⟩,fun x=>?_,[i],rfl⟩
   ·show _=decide ((j:Int)∈out++[i])
    by_cases hji:i.toNat=j
    ·subst hji
     rw[nK (by omega),Int.toNat_of_nonneg c.1,ac (by simp)]
    ·rw[List.getD_eq_getElem?_getD,List.getElem?_set_ne hji,← List.getD_eq_getElem?_getD,h2 j hj]
     refine decide_eq_decide.2 ⟨fun hx=>ar _ hx,fun hx=>?_⟩
     rcases aA.1 hx with hx | hx
     ·exact hx
     ·have:=aJ.1 hx;omega
   ·rcases aA.1 (show x∈out++[i]from hx)with hx | hx
    ·exact h3 x hx
    ·rw[aJ.1 hx];omega
   ·show(out++[i]).Nodup
    rw[aB]
    exact⟨h4,by simp,fun a ha b hb=>by rw[aJ.1 hb];intro e;subst e;exact d ha⟩
   ·show x∈out++[i]↔_
    rw[aA,aJ]
    exact⟨fun hx=>hx.imp id fun hx=>⟨hx,by omega⟩,fun hx=>hx.imp id fun hx=>hx.1⟩
 ·rw[aj c]
  rw[aq]at c
  exact⟨_,_,rfl,⟨h1,h2,h3,h4⟩,fun x=>⟨.inl,fun hx=>hx.elim id fun hx=>absurd hx.2 (by rw[aJ.1 hx.1];omega)⟩,[],by simp⟩
theorem zI{l:List bC}{seen:List Bool}{out:List Int}(h:St l seen out):Put l seen out [] seen out:=⟨h,fun x=>⟨.inl,fun hx=>hx.elim id fun hx=>by cases hx.1⟩,[],by simp⟩
theorem Sf{l:List bC}{s0 s1 s2:List Bool}{o0 o1 o2:List Int}{i j:Int}(h1:Put l s0 o0 [i] s1 o1)(h2:Put l s1 o1 [j] s2 o2):Put l s0 o0 [i,j] s2 o2:=by
 obtain⟨a1,a2,t1,a3⟩:=h1
 obtain⟨b1,b2,t2,b3⟩:=h2
 refine⟨b1,fun x=>?_,t1++t2,by rw[b3,a3,ah]⟩
 rw[b2,a2,aJ,aJ,aK,aJ]
 constructor
 ·rintro ((h | h) | h)
  ·exact .inl h
  ·exact .inr ⟨.inl h.1,h.2⟩
  ·exact .inr ⟨.inr h.1,h.2⟩
 ·rintro (h | ⟨h | h,h'⟩)
  ·exact .inl (.inl h)
  ·exact .inl (.inr ⟨h,h'⟩)
  ·exact .inr ⟨h,h'⟩
theorem LB{l:List bC}(hl:l.length≤1000)(b e:Bool){seen:List Bool}{out:List Int}(h:St l seen out)(k:Nat)(hk:k<out.length) :
  ∃ seen' out',mi b e (k:Int) l seen out=mi b e ((k+1:Nat):Int) l seen' out'∧Put l seen out (adj l b e out[k].toNat) seen' out':=by
 have hlen:=ud h.2.2.2 h.2.2.1
 have hv:=h.2.2.1 _ (aV hk)
 have w1:w64 (out[k]+1)=((out[k].toNat:Nat):Int)+1:=by rw[aq];omega
 rw[xy,an,al,ck hk,al]
 have L3:∀ s o,jE b e (k:Int) l s o=mi b e ((k+1:Nat):Int) l s o:=fun s o=>by rw[NH,ci hk (by omega)]
 unfold adj
 generalize l.getD out[k].toNat b9=p
 by_cases c6:p.Op=6
 ·obtain⟨s1,o1,e1,e2⟩:=oJ hl h p.A
  rw[ak c6,bn c6,e1,aa]
  exact⟨s1,o1,L3 _ _,e2⟩
 rw[aj c6,bo c6]
 by_cases c7:p.Op=7
 ·obtain⟨s1,o1,e1,e2⟩:=oJ hl h p.A
  obtain⟨s2,o2,e3,e4⟩:=oJ hl e2.1 p.B
  rw[ak c7,bn c7,e1,aa]
  dsimp only
  rw[e3,aa]
  exact⟨s2,o2,L3 _ _,Sf e2 e4⟩
 rw[aj c7,bo c7]
 by_cases c4:p.Op=4
 ·rw[ak c4,bn c4]
  cases b with
  | true =>
   obtain⟨s1,o1,e1,e2⟩:=oJ hl h (w64 (out[k]+1))
   rw[bn rfl,bn rfl,e1,aa]
   rw[w1]at e2
   exact⟨s1,o1,L3 _ _,e2⟩
  | false=>rw[bo (by decide),bo (by decide)];exact⟨seen,out,L3 _ _,zI h⟩
 rw[aj c4,bo c4]
 by_cases c5:p.Op=5
 ·rw[ak c5,bn c5]
  cases e with
  | true =>
   obtain⟨s1,o1,e1,e2⟩:=oJ hl h (w64 (out[k]+1))
   rw[bn rfl,bn rfl,e1,aa]
   rw[w1]at e2
   exact⟨s1,o1,L3 _ _,e2⟩
  | false=>rw[bo (by decide),bo (by decide)];exact⟨seen,out,L3 _ _,zI h⟩
 rw[aj c5,bo c5]
 exact⟨seen,out,L3 _ _,zI h⟩
theorem LA{l:List bC}(hl:l.length≤1000)(at_:List Int)(b e:Bool):∀ (d k:Nat) (seen:List Bool) (out:List Int),St l seen out→k≤out.length→l.length-k≤d→(∀ x∈out,Rch l at_ b e x)→(∀ (j:Nat) (hj:j<out.length),j<k→∀ y∈adj l b e out[j].toNat,0≤y→y<(l.length:Int)→y∈out) →
  (∀ x∈at_,0≤x→x<(l.length:Int)→x∈out)→∃ out',mi b e (k:Int) l seen out=some (dV out',())∧out'.Nodup∧∀ x,x∈out'↔Rch l at_ b e x:=by
 intro d
 induction d with
 | zero =>
  intro k seen out h hk hd hR hc ha
  have hlen:=ud h.2.2.2 h.2.2.1
  have hko:k=out.length:=by omega
  rw[xy,ap,J5,bn (by rw[ch];omega),aa]
  refine⟨out,rfl,h.2.2.2,fun x=>⟨hR x,fun hx=>?_⟩⟩
  induction hx with
  | base h1 h2 h3=>exact ha _ h1 h2 h3
  | step h0 h1 h2 h3 ih =>
   obtain⟨j,hj,e⟩:=bk.1 ih
   exact hc j hj (by omega) _ (by rw[e];exact h1) h2 h3
 | succ d ihd =>
  intro k seen out h hk hd hR hc ha
  have hlen:=ud h.2.2.2 h.2.2.1
  by_cases hko:k=out.length
  ·rw[xy,ap,J5,bn (by rw[ch];omega),aa]
   refine⟨out,rfl,h.2.2.2,fun x=>⟨hR x,fun hx=>?_⟩⟩
   induction hx with
   | base h1 h2 h3=>exact ha _ h1 h2 h3
   | step h0 h1 h2 h3 ih =>
    obtain⟨j,hj,e⟩:=bk.1 ih
    exact hc j hj (by omega) _ (by rw[e];exact h1) h2 h3
  ·have hk':k<out.length:=by omega
   obtain⟨s1,o1,e1,p1,p2,t,p3⟩:=LB hl b e h k hk'
   rw[e1]
   have hv:=h.2.2.1 _ (aV hk')
   refine ihd (k+1) s1 o1 p1 (by rw[p3,ag];omega) (by omega) (fun x hx=>?_) (fun j hj hjk y hy y0 y1=>?_) (fun x hx x0 x1=>(p2 x).2 (.inl (ha x hx x0 x1)))
   ·rcases(p2 x).1 hx with hx | ⟨hx,x0,x1⟩
    ·exact hR x hx
    ·exact .step (hR _ (aV hk')) hx x0 x1
   ·have hjo:j<out.length:=by omega
    have ej:o1[j]=out[j]:=by subst p3;exact List.getElem_append_left hjo
    rw[ej]at hy
    by_cases hjk':j=k
    ·subst hjk';exact(p2 y).2 (.inr ⟨hy,y0,y1⟩)
    ·exact(p2 y).2 (.inl (hc j hjo (by omega) y hy y0 y1))
theorem Ov{l:List bC}(hl:l.length≤1000)(at_:List Int)(hat:at_.length≤1000000)(b e:Bool):∃ out,sV l at_ b e=some (dV out,())∧out.Nodup∧∀ x,x∈out↔Rch l at_ b e x:=by
 have key:∀ (d i:Nat) (seen:List Bool) (out:List Int),i+d=at_.length→St l seen out→(∀ x∈out,Rch l at_ b e x)→(∀ (j:Nat) (hj:j<at_.length),j<i→0≤at_[j]→at_[j]<(l.length:Int)→at_[j]∈out) →
   ∃ out',sW b e at_ (at_.length:Int) (i:Int) l seen out=some (dV out',())∧out'.Nodup∧∀ x,x∈out'↔Rch l at_ b e x:=by
  intro d
  induction d with
  | zero =>
   intro i seen out hi h hR ha
   rw[DK,ap]
   exact LA hl at_ b e l.length 0 seen out h (Nat.zero_le _) (by omega) hR (fun j hj h=>absurd h (by omega)) fun x hx x0 x1=>by
    obtain⟨j,hj,rfl⟩:=bk.1 hx
    exact ha j hj (by omega) x0 x1
  | succ d ih =>
   intro i seen out hi h hR ha
   have hi':i<at_.length:=by omega
   obtain⟨s1,o1,e1,p1,p2,t,p3⟩:=oJ hl h at_[i]
   rw[DK,an,al,ck hi',e1,aa]
   dsimp only
   rw[ci hi' (by omega)]
   refine ih (i+1) s1 o1 (by omega) p1 (fun x hx=>?_) fun j hj hji x0 x1=>?_
   ·rcases(p2 x).1 hx with hx | ⟨hx,x0,x1⟩
    ·exact hR x hx
    ·exact .base (by rw[aJ.1 hx];exact aV hi') x0 x1
   ·by_cases hj':j=i
    ·subst hj';exact(p2 _).2 (.inr ⟨aJ.2 rfl,x0,x1⟩)
    ·exact(p2 _).2 (.inl (ha j hj (by omega) x0 x1))
 rw[NI,bn ⟨by omega,by omega,by rw[ch];omega⟩,af]
 exact key at_.length 0 _ [] (by omega) ⟨a7,fun i hi=>by rw[List.getD_eq_getElem?_getD,List.getElem?_replicate,bn hi];rfl,fun x hx=>(by cases hx),List.nodup_nil⟩ (fun x hx=>by cases hx) (fun j hj h=>absurd h (by omega))
theorem CA:∀ (f:List Bool) (k:Nat),k<f.length→f.getD k false=false→(f.set k true).count false+1=f.count false
 | [],k,h,_=>absurd h (by simp)
 | a::f,0,h,e=>by
  have:a=false:=e
  subst this
  rw[List.set_cons_zero,List.count_cons,List.count_cons];simp
 | a::f,k+1,h,e=>by
  have:=CA f k (by simpa using h) e
  rw[List.set_cons_succ,List.count_cons,List.count_cons];omega
def Mk(l:List bC)(at_:List Int)(b e:Bool)(f:List Bool)(todo:List Int):Prop:=f.length=l.length∧(∀ k:Nat,f.getD k false=true→Rch l at_ b e k)∧(∀ y∈todo,0≤y→y<(l.length:Int)→Rch l at_ b e y) ∧
 ∀ k:Nat,f.getD k false=true→∀ y∈adj l b e k,0≤y→y<(l.length:Int)→f.getD y.toNat false=true∨y∈todo
theorem TH{l:List bC}(hl:l.length≤1000)(at_:List Int)(b e:Bool):∀ (d:Nat) (f:List Bool) (todo:List Int),3*f.count false+todo.length≤d→d≤100000→Mk l at_ b e f todo →
  ∃ f',fN l f b e todo=some (f',())∧Mk l at_ b e f' []∧(∀ k:Nat,f.getD k false=true→f'.getD k false=true)∧∀ y∈todo,0≤y→y<(l.length:Int)→f'.getD y.toNat false=true:=by
 intro d
 induction d with
 | zero =>
  intro f todo hd hd2 h
  have ht:todo=[]:=aZ.1 (by omega)
  subst ht
  rw[AQ,bo (by simp)]
  exact⟨f,rfl,h,fun k hk=>hk,fun y hy=>by cases hy⟩
 | succ d ih =>
  intro f todo hd hd2 h
  obtain⟨h1,h2,h3,h4⟩:=h
  by_cases ht:todo.length=0
  ·have ht:todo=[]:=aZ.1 ht
   subst ht
   rw[AQ,bo (by simp)]
   exact⟨f,rfl,⟨h1,h2,h3,h4⟩,fun k hk=>hk,fun y hy=>by cases hy⟩
  ·have w:w64 ((todo.length:Int)-1)=((todo.length-1:Nat):Int):=by rw[aq];omega
   have hlt:todo.length-1<todo.length:=by omega
   rw[AQ,an,w,al,al,ck hlt,af]
   have hsplit:todo=todo.take (todo.length-1)++[todo[todo.length-1]]:=vx (n:=todo.length-1) (by omega)
   have hrl:(todo.take (todo.length-1)).length=todo.length-1:=by rw[aP];omega
   generalize todo.take (todo.length-1)=rest at hsplit hrl
   generalize todo[todo.length-1]=v at hsplit
   have hmem:∀ y,y∈todo↔y∈rest∨y=v:=fun y=>by rw[hsplit,aA,aJ]
   have skip:(0≤v→v<(l.length:Int)→f.getD v.toNat false=true)→∃ f',fN l f b e rest=some (f',())∧Mk l at_ b e f' []∧(∀ k:Nat,f.getD k false=true→f'.getD k false=true)∧∀ y∈todo,0≤y→y<(l.length:Int)→f'.getD y.toNat false=true:=fun hv=>by
    obtain⟨f',e1,e2,e3,e4⟩:=ih f rest (by omega) (by omega) ⟨h1,h2,fun y hy=>h3 y ((hmem y).2 (.inl hy)),fun k hk y hy y0 y1=>by
     rcases h4 k hk y hy y0 y1 with h | h
     ·exact .inl h
     ·rcases(hmem y).1 h with h | h
      ·exact .inr h
      ·subst h;exact .inl (hv y0 y1)⟩
    refine⟨f',e1,e2,e3,fun y hy y0 y1=>?_⟩
    rcases(hmem y).1 hy with h | h
    ·exact e4 y h y0 y1
    ·subst h;exact e3 _ (hv y0 y1)
   by_cases c1:v≥(l.length:Int)
   ·rw[ak c1];exact skip fun _ h=>absurd h (by omega)
   rw[aj c1]
   by_cases c2:v<0
   ·rw[ak c2];exact skip fun h=>absurd h (by omega)
   rw[aj c2,al]
   by_cases c3:f.getD v.toNat false=true
   ·rw[bn c3];exact skip fun _ _=>c3
   rw[bo c3,al,al]
   have hvn:v.toNat<f.length:=by omega
   have hvr:Rch l at_ b e v:=h3 v ((hmem v).2 (.inr rfl)) (by omega) (by omega)
   have hcount:=CA f v.toNat hvn (by simpa using c3)
   have hw:w64 (v+1)=((v.toNat:Nat):Int)+1:=by rw[aq];omega
   have go:∃ f',fN l (f.set v.toNat true) b e (rest++adj l b e v.toNat)=some (f',())∧Mk l at_ b e f' []∧(∀ k:Nat,f.getD k false=true→f'.getD k false=true)∧∀ y∈todo,0≤y→y<(l.length:Int)→f'.getD y.toNat false=true:=by
    have hal:=KA l b e v.toNat
    have hget:∀ k:Nat,(f.set v.toNat true).getD k false=true↔f.getD k false=true∨k=v.toNat:=fun k=>by
     by_cases hk:v.toNat=k
     ·subst hk;rw[nK hvn];simp
     ·rw[List.getD_eq_getElem?_getD,List.getElem?_set_ne hk,← List.getD_eq_getElem?_getD]
      exact⟨.inl,fun h=>h.elim id fun h=>absurd h.symm hk⟩
    obtain⟨f',e1,e2,e3,e4⟩:=ih (f.set v.toNat true) (rest++adj l b e v.toNat) (by rw[ag];omega) (by omega) ⟨by rw[aX];exact h1,fun k hk=>by
      rcases(hget k).1 hk with h | h
      ·exact h2 k h
      ·subst h;rw[Int.toNat_of_nonneg (by omega)];exact hvr,
     fun y hy y0 y1=>by
      rcases aA.1 hy with hy | hy
      ·exact h3 y ((hmem y).2 (.inl hy)) y0 y1
      ·exact .step hvr hy y0 y1,
     fun k hk y hy y0 y1=>by
      rcases(hget k).1 hk with h | h
      ·rcases h4 k h y hy y0 y1 with h | h
       ·exact .inl ((hget _).2 (.inl h))
       ·rcases(hmem y).1 h with h | h
        ·exact .inr (ar _ h)
        ·exact .inl ((hget _).2 (.inr (by rw[h])))
      ·subst h;exact .inr (au _ hy)⟩
    refine⟨f',e1,e2,fun k hk=>e3 k ((hget k).2 (.inl hk)),fun y hy y0 y1=>?_⟩
    rcases(hmem y).1 hy with h | h
    ·exact e4 y (ar _ h) y0 y1
    ·exact e3 _ ((hget _).2 (.inr (by rw[h])))
   have hnil:rest++[]=rest:=aH _
   unfold adj at go
   revert go
   generalize l.getD v.toNat b9=p
   intro go
   by_cases c6:p.Op=6
   ·rw[bn c6]at go
    rw[ak c6,bn (by rw[ch];omega)]
    exact go
   rw[bo c6]at go
   rw[aj c6]
   by_cases c7:p.Op=7
   ·rw[bn c7]at go
    rw[ak c7,bn (by rw[ch];omega)]
    exact go
   rw[bo c7]at go
   rw[aj c7]
   by_cases c4:p.Op=4
   ·rw[bn c4]at go
    rw[ak c4]
    cases b with
    | true =>
     rw[bn rfl]at go
     rw[bn rfl,bn (by rw[ch];omega),hw]
     exact go
    | false =>
     rw[bo (by decide),hnil]at go
     rw[bo (by decide)]
     exact go
   rw[bo c4]at go
   rw[aj c4]
   by_cases c5:p.Op=5
   ·rw[bn c5]at go
    rw[ak c5]
    cases e with
    | true =>
     rw[bn rfl]at go
     rw[bn rfl,bn (by rw[ch];omega),hw]
     exact go
    | false =>
     rw[bo (by decide),hnil]at go
     rw[bo (by decide)]
     exact go
   rw[bo c5,hnil]at go
   rw[aj c5]
   exact go
theorem UR(f:List Bool)(hf:f.length≤1000):AR f=some (marks f 0 f.length,()):=by
 have key:∀ (d i:Nat) (t:List Int),i+d=f.length→t.length≤i→ry f t (i:Int)=some (t++marks f i d,()):=by
  intro d
  induction d with
  | zero =>
   intro i t hi ht
   rw[Ih,ap]
   show _=some (t++[],())
   rw[aH]
  | succ d ih =>
   intro i t hi ht
   have hi':i<f.length:=by omega
   rw[Ih,an,al,ci hi' (by omega),af,show d+1=1+d by omega,zr]
   have hm:marks f i 1=if f.getD i false=true then [(i:Int)]else []:=by
    unfold marks
    rw[show List.range' i 1=[i]from rfl,List.filter_cons]
    split <;> rfl
   rw[hm]
   by_cases c:f.getD i false=true
   ·rw[bn c,bn c,bn (by rw[ch];omega)]
    have:=ih (i+1) (t++[(i:Int)]) (by omega) (by simp;omega)
    rw[ah]at this
    exact this
   ·rw[bo c,bo c,bg]
    exact ih (i+1) t (by omega) (by omega)
 rw[Uz]
 have:=key f.length 0 [] (by omega) (aG _)
 rwa [bg]at this
theorem TI{l:List bC}(hl:l.length≤1000)(at_:List Int)(hat:at_.length≤1000000)(b e:Bool):∃ f:List Bool,ly l at_ b e=some (marks f 0 l.length,())∧∀ k:Nat,k<l.length→(f.getD k false=true↔Rch l at_ b e k):=by
 have key:∀ (d i:Nat) (f:List Bool),i+d=at_.length→Mk l at_ b e f []→(∀ (j:Nat) (hj:j<at_.length),j<i→0≤at_[j]→at_[j]<(l.length:Int)→f.getD at_[j].toNat false=true) →
   ∃ g:List Bool,uy l at_ b e f (i:Int)=some (marks g 0 l.length,())∧∀ k:Nat,k<l.length→(g.getD k false=true↔Rch l at_ b e k):=by
  intro d
  induction d with
  | zero =>
   intro i f hi h ha
   obtain⟨h1,h2,h3,h4⟩:=h
   rw[Hq,ap,UR f (by omega),aa,h1]
   refine⟨f,rfl,fun k hk=>⟨h2 k,fun hx=>?_⟩⟩
   have all:∀ y:Int,Rch l at_ b e y→f.getD y.toNat false=true:=fun y hy=>by
    induction hy with
    | base g1 g2 g3 =>
     obtain⟨j,hj,rfl⟩:=bk.1 g1
     exact ha j hj (by omega) g2 g3
    | step g0 g1 g2 g3 ih =>
     rcases h4 _ ih _ g1 g2 g3 with h | h
     ·exact h
     ·cases h
   have:=all k hx
   rwa [af]at this
  | succ d ih =>
   intro i f hi h ha
   have hi':i<at_.length:=by omega
   obtain⟨h1,h2,h3,h4⟩:=h
   rw[Hq,an,al,ck hi',Uy]
   have hc:=List.count_le_length (a:=false) (l:=f)
   obtain⟨f',e1,e2,e3,e4⟩:=TH hl at_ b e (3*f.count false+1) f [at_[i]] (by simp) (by omega) ⟨h1,h2,fun y hy y0 y1=>.base (by rw[aJ.1 hy];exact aV hi') y0 y1,fun k hk y hy y0 y1=>(h4 k hk y hy y0 y1).imp id fun h=>by cases h⟩
   rw[e1,aa]
   dsimp only
   rw[ci hi' (by omega)]
   refine ih (i+1) f' (by omega) e2 fun j hj hji x0 x1=>?_
   by_cases hj':j=i
   ·subst hj';exact e4 _ (aJ.2 rfl) x0 x1
   ·exact e3 _ (ha j hj (by omega) x0 x1)
 rw[SV,bn ⟨by omega,by omega,by rw[ch];omega⟩,af]
 have hno:∀ k:Nat,(List.replicate l.length false).getD k false=false:=fun k=>by
  rw[List.getD_eq_getElem?_getD,List.getElem?_replicate];split <;> rfl
 exact key at_.length 0 _ (by omega) ⟨a7,fun k hk=>(by rw[hno]at hk;cases hk),fun y hy=>(by cases hy),fun k hk=>(by rw[hno]at hk;cases hk)⟩ (fun j hj h=>absurd h (by omega))
theorem Cr{l:List bC}(hl:l.length≤1000)(at_:List Int)(hat:at_.length≤1000000)(b e:Bool):∃ m,sV l at_ b e=some (m,())∧ly l at_ b e=some (m,())∧m.Pairwise (· < ·)∧(∀ x∈m,0≤x∧x<(l.length:Int))∧m.length≤l.length:=by
 obtain⟨out,e1,e2,e3⟩:=Ov hl at_ hat b e
 obtain⟨f,e4,e5⟩:=TI hl at_ hat b e
 have he:dV out=marks f 0 l.length:=B5 (IV e2) (zq _ _ _) fun x=>by
  rw[sortI_mem,e3,marks_mem]
  constructor
  ·intro hx
   have hb:=hx.bd
   exact⟨x.toNat,by omega,by omega,by omega,(e5 _ (by omega)).2 (by rw[Int.toNat_of_nonneg hb.1];exact hx)⟩
  ·rintro ⟨i,rfl,h1,h2,h3⟩
   exact(e5 i (by omega)).1 h3
 refine⟨marks f 0 l.length,by rw[e1,he],e4,zq _ _ _,fun x hx=>?_,Gh _ _ _⟩
 obtain⟨i,rfl,h1,h2,_⟩:=marks_mem.1 hx
 omega
def plB(p:bC)(n:Int):Bool :=
 if p.Op=1 then decide (0≤p.C∧p.C≤255)&&((decide (p.Set=[]) && !p.Not)&&(decide (p.A=0)&&decide (p.B=0)))
 else if p.Op=3 then decide (p.C=0)&&(decide (p.A=0)&&decide (p.B=0))
 else if p.Op=6 then decide (p.C=0)&&((decide (p.Set=[]) && !p.Not)&&(decide (0≤p.A∧p.A≤w64 (n-1))&&decide (p.B=0)))
 else if p.Op=7 then decide (p.C=0)&&((decide (p.Set=[]) && !p.Not)&&(decide (0≤p.A∧p.A≤w64 (n-1))&&decide (0≤p.B∧p.B≤w64 (n-1))))
 else if p.Op=2∨p.Op=4∨p.Op=5∨p.Op=8 then decide (p.C=0)&&((decide (p.Set=[]) && !p.Not)&&(decide (p.A=0)&&decide (p.B=0)))
 else false
theorem UT(p:bC)(n:Int):AU p n=some (plB p n,()):=by
 rw[UG]
 simp only[UB,UC,UD,UE,UF,dN,aa]
 unfold plB
 generalize w64 (n-1)=m
 by_cases c1:p.Op=1
 ·by_cases hC:0≤p.C∧p.C≤255
  ·by_cases hs:p.Set=[] <;> by_cases hn:p.Not <;> by_cases hA:p.A=0 <;> by_cases hB:p.B=0 <;> simp[c1,hC,hs,hn,hA,hB]
  ·have hC':p.C≠0:=fun h=>hC (by omega)
   by_cases hs:p.Set=[] <;> by_cases hn:p.Not <;> by_cases hA:p.A=0 <;> by_cases hB:p.B=0 <;> simp[c1,hC,hC',hs,hn,hA,hB]
 by_cases hC:p.C=0
 ·by_cases c3:p.Op=3
  ·by_cases hA:p.A=0 <;> by_cases hB:p.B=0 <;> simp[c3,hC,hA,hB]
  by_cases c6:p.Op=6
  ·by_cases hs:p.Set=[] <;> by_cases hn:p.Not <;> by_cases hA:0≤p.A∧p.A≤m <;> by_cases hB:p.B=0 <;> simp[c6,hC,hs,hn,hA,hB]
  by_cases c7:p.Op=7
  ·by_cases hs:p.Set=[] <;> by_cases hn:p.Not <;> by_cases hA:0≤p.A∧p.A≤m <;> by_cases hB:0≤p.B∧p.B≤m <;> simp[c7,hC,hs,hn,hA,hB]
  by_cases c2:p.Op=2
  ·by_cases hs:p.Set=[] <;> by_cases hn:p.Not <;> by_cases hA:p.A=0 <;> by_cases hB:p.B=0 <;> simp[c2,hC,hs,hn,hA,hB]
  by_cases c4:p.Op=4
  ·by_cases hs:p.Set=[] <;> by_cases hn:p.Not <;> by_cases hA:p.A=0 <;> by_cases hB:p.B=0 <;> simp[c4,hC,hs,hn,hA,hB]
  by_cases c5:p.Op=5
  ·by_cases hs:p.Set=[] <;> by_cases hn:p.Not <;> by_cases hA:p.A=0 <;> by_cases hB:p.B=0 <;> simp[c5,hC,hs,hn,hA,hB]
  by_cases c8:p.Op=8
  ·by_cases hs:p.Set=[] <;> by_cases hn:p.Not <;> by_cases hA:p.A=0 <;> by_cases hB:p.B=0 <;> simp[c8,hC,hs,hn,hA,hB]
  have hno:¬ (1≤p.Op∧p.Op≤8):=by omega
  simp[c1,c2,c3,c4,c5,c6,c7,c8,hno]
 ·have e5:(decide (p.C=0))=false:=ae hC
  by_cases c3:p.Op=3
  ·simp[c3,hC]
  by_cases c6:p.Op=6
  ·simp[c6,hC]
  by_cases c7:p.Op=7
  ·simp[c7,hC]
  simp[c1,c3,c6,c7,hC]
theorem O7(p:bC)(n:Int)(b:Bool):ya p n b=some (decide (b=decide (p.Op=8))&&plB p n,()):=by
 rw[O6]
 simp only[O5,eL,aa]
 unfold plB
 generalize w64 (n-1)=m
 by_cases hb:b=decide (p.Op=8)
 ·rw[ac hb,bo (by decide),Bool.true_and]
  clear hb
  by_cases c1:p.Op=1
  ·by_cases hC:0≤p.C∧p.C≤255 <;> by_cases hs:p.Set=[] <;> by_cases hn:p.Not <;> by_cases hA:p.A=0 <;> by_cases hB:p.B=0 <;> simp[c1,hC,hs,hn,hA,hB]
  by_cases hC:p.C=0
  ·by_cases c3:p.Op=3
   ·by_cases hA:p.A=0 <;> by_cases hB:p.B=0 <;> simp[c3,hC,hA,hB]
   by_cases c6:p.Op=6
   ·by_cases hs:p.Set=[] <;> by_cases hn:p.Not <;> by_cases hA:0≤p.A∧p.A≤m <;> by_cases hB:p.B=0 <;> simp[c6,hC,hs,hn,hA,hB]
   by_cases c7:p.Op=7
   ·by_cases hs:p.Set=[] <;> by_cases hn:p.Not <;> by_cases hA:0≤p.A∧p.A≤m <;> by_cases hB:0≤p.B∧p.B≤m <;> simp[c7,hC,hs,hn,hA,hB]
   by_cases c2:p.Op=2
   ·by_cases hs:p.Set=[] <;> by_cases hn:p.Not <;> by_cases hA:p.A=0 <;> by_cases hB:p.B=0 <;> simp[c2,hC,hs,hn,hA,hB]
   by_cases c4:p.Op=4
   ·by_cases hs:p.Set=[] <;> by_cases hn:p.Not <;> by_cases hA:p.A=0 <;> by_cases hB:p.B=0 <;> simp[c4,hC,hs,hn,hA,hB]
   by_cases c5:p.Op=5
   ·by_cases hs:p.Set=[] <;> by_cases hn:p.Not <;> by_cases hA:p.A=0 <;> by_cases hB:p.B=0 <;> simp[c5,hC,hs,hn,hA,hB]
   by_cases c8:p.Op=8
   ·by_cases hs:p.Set=[] <;> by_cases hn:p.Not <;> by_cases hA:p.A=0 <;> by_cases hB:p.B=0 <;> simp[c8,hC,hs,hn,hA,hB]
   simp[c1,c2,c3,c4,c5,c6,c7,c8]
  ·by_cases c3:p.Op=3
   ·simp[c3,hC]
   by_cases c6:p.Op=6
   ·simp[c6,hC]
   by_cases c7:p.Op=7
   ·simp[c7,hC]
   simp[c1,c3,c6,c7,hC]
 ·rw[ae hb,bn (by decide),Bool.false_and]
def nfB(l:List bC):Bool:=decide (1≤(l.length:Int)∧(l.length:Int)≤400) && !dW (fun i=>!(plB (l.getD i b9) l.length&&decide (decide ((i:Int)=w64 ((l.length:Int)-1))=decide ((l.getD i b9).Op=8)))) l.length
theorem Ev(l:List bC)(hl:l.length≤1000):s8 l=some (nfB l,()):=by
 rw[N5,eL,aa]
 dsimp only
 unfold nfB
 by_cases c:1≤(l.length:Int)∧(l.length:Int)≤400
 ·rw[ac c,bo (by decide),Bool.true_and]
  have h:=gh (fun i=>ml l l (l.length:Int) i) l.length (fun i=>!(plB (l.getD i b9) l.length&&decide (decide ((i:Int)=w64 ((l.length:Int)-1))=decide ((l.getD i b9).Op=8)))) (some (false,())) (some (true,()))
   (fun i hi=>by
    show ml l l _ _=_
    rw[D5,an,al,ck hi,O7,aa,ci hi (by omega),cF hi,Bool.and_comm])
   (by show ml l l _ _=_;rw[D5,bo (by simp)])
  have h':ml l l (l.length:Int) 0=_:=h
  rw[h']
  split <;> simp_all
 ·rw[ae c,bn (by decide),Bool.false_and]
theorem US(l:List bC)(hl:l.length≤1000):An l=some (nfB l,()):=by
 rw[Tq]
 unfold nfB
 have h:=gh (fun i=>mN l (l.length:Int) i) l.length (fun i=>!(plB (l.getD i b9) l.length&&decide (decide ((i:Int)=w64 ((l.length:Int)-1))=decide ((l.getD i b9).Op=8)))) (some (false,())) (some (decide (1≤(l.length:Int)∧(l.length:Int)≤400),()))
  (fun i hi=>by
   show mN l _ _=_
   rw[HE,an,al,ck hi,UT,aa,cF hi,bn (c:=(0:Int)≤(i:Int)∧(i:Int)<(l.length:Int)) (by omega),ci hi (by omega)]
   dsimp only
   cases plB l[i] (l.length:Int) with
   | false=>rfl
   | true =>
    rw[bo (by decide),Bool.true_and]
    have:decide (decide (l[i].Op=8)=decide ((i:Int)=w64 ((l.length:Int)-1)))=decide (decide ((i:Int)=w64 ((l.length:Int)-1))=decide (l[i].Op=8)):=decide_eq_decide.2 eq_comm
    rw[this])
  (by show mN l _ _=_;rw[HE,bo (by simp),dN];rfl)
 have h':mN l (l.length:Int) 0=_:=h
 rw[h']
 split <;> simp_all
theorem EY(c:Int):∀ l:List Int,decide (dw l c≥0)=decide (c∈l)
 | []=>by simp[dw]
 | b::l=>by
  have ih:=EY c l
  have hb:=EW l c
  unfold dw
  by_cases h:b=c
  ·rw[bn h];simp[h]
  ·rw[bo h]
   have h':c≠b:=fun e=>h e.symm
   have hm:decide (c∈b::l)=decide (c∈l):=decide_eq_decide.2 (by rw[aK];exact⟨fun e=>e.resolve_left h',.inr⟩)
   rw[hm,← ih]
   by_cases d:dw l c = -1
   ·rw[bn d,d]
   ·rw[bo d];exact decide_eq_decide.2 (by omega)
theorem BZ(l:List Int)(c:Int):(l.any fun x=>decide (x=c))=decide (c∈l):=by
 cases h:decide (c∈l) with
 | true=>exact List.any_eq_true.2 ⟨c,of_decide_eq_true h,by simp⟩
 | false =>
  have h:=of_decide_eq_false h
  rw[← aS]
  intro e
  obtain⟨x,hx,e⟩:=List.any_eq_true.1 e
  exact h (by rw[← of_decide_eq_true e];exact hx)
theorem UI(l:List Int)(c:Int)(hl:l.length≤4294967296):AV l c=some (decide (c∈l),()):=by
 rw[UH]
 have h:=gh (fun i=>mX l c i) l.length (fun i=>decide (l.getD i 0=c)) (some (true,())) (some (false,()))
  (fun i hi=>by show mX l c _=_;rw[Im,an,al,ck hi,cF hi,ci hi (by omega)])
  (by show mX l c _=_;rw[Im,bo (by simp)])
 have h':mX l c 0=_:=h
 rw[h',eY l 0 (fun x=>decide (x=c)),BZ]
 by_cases d:c∈l
 ·rw[ac d,bn rfl]
 ·rw[ae d,bo (by decide)]
theorem Cy(l:List Int)(c:Int)(hl:l.length≤4294967296):Bq l c=some (decide (c∈l),()):=by
 rw[V9,Wl]
 obtain⟨k,e1,e2,_⟩:=iz (fun i=>nq l c (l.length:Int) i) () l.length (fun i=>decide (l.getD i 0=c))
  (fun i hi=>by
   show nq l c _ _=_
   rw[J1,an,al,ck hi,cF hi,ci hi (by omega)]
   have:decide (c=l[i])=decide (l[i]=c):=decide_eq_decide.2 eq_comm
   rw[this])
  (by show nq l c _ _=_;rw[J1,bo (by simp)])
 have e1':nq l c (l.length:Int) 0=some (k,()):=e1
 rw[e1',aa]
 dsimp only
 rw[e2,eY l 0 (fun x=>decide (x=c)),BZ]
def tkB(p:bC)(c:Int):Bool:=if p.Op=1 then decide (p.C=w64 c)else if p.Op=2 then true else if p.Op=3 then !decide (decide (c∈p.Set)=p.Not)else false
theorem I9(p:bC)(c:Int)(hl:p.Set.length≤4294967296):ym p c=some (tkB p c,())∧AW p c=some (tkB p c,()):=by
 rw[Ps,UJ,J8,JE,Jx,UI _ _ hl]
 simp only[aa,EY]
 unfold tkB
 by_cases c1:p.Op=1
 ·have:decide (w64 c=p.C)=decide (p.C=w64 c):=decide_eq_decide.2 eq_comm
  simp[c1,this]
 by_cases c2:p.Op=2
 ·simp[c2]
 by_cases c3:p.Op=3
 ·simp[c3]
 simp[c1,c2,c3]
def nxt(l:List bC)(c:Int)(m:List Int):List Int:=(m.filter fun k=>tkB (l.getD k.toNat b9) c).map fun k=>k+1
theorem Rx(l:List bC)(c:Int)(m:List Int):(nxt l c m).length≤m.length:=by
 unfold nxt
 rw[bh]
 exact List.length_filter_le ..
theorem Gz(l:List bC)(c k:Int)(m:List Int):nxt l c (k::m)=(if tkB (l.getD k.toNat b9) c=true then [k+1]else [])++nxt l c m:=by
 unfold nxt
 rw[List.filter_cons]
 split <;> rfl
def pG(l:List bC):Prop:=∀ p∈l,p.Set.length≤4294967296
theorem Rn{l:List bC}(hl:l.length≤1000)(hS:pG l){s:List Int}(hs:s.length≤4294967296)(p:Nat)(hp:p<s.length)(best:Int)(m:List Int)(hm:m.length≤1000)(hb:∀ x∈m,0≤x∧x<(l.length:Int)) :
  ∀ (d i:Nat) (t:List Int),i+d=m.length→t.length≤i→qj l s (p:Int) best t m (m.length:Int) (i:Int)=nO l s ((p+1:Nat):Int) best (t++nxt l s[p] (m.drop i)):=by
 intro d
 induction d with
 | zero =>
  intro i t hi ht
  rw[D0,ap,aW (by omega),ci hp (by omega)]
  show _=nO l s _ best (t++[])
  rw[aH]
 | succ d ih =>
  intro i t hi ht
  have hi':i<m.length:=by omega
  have hv:=hb _ (aV hi')
  have hvn:m[i].toNat<l.length:=by omega
  rw[D0,an,al,ck hi',al,al,ck hp,cF hvn,(I9 _ _ (hS _ (aV hvn))).1,aa,aq (n:=m[i]+1),ci hi' (by omega),ai hi',Gz,cF hvn]
  dsimp only
  by_cases c:tkB l[m[i].toNat] s[p]=true
  ·rw[bn c,bn c,bn (by rw[ch];omega)]
   have:=ih (i+1) (t++[m[i]+1]) (by omega) (by simp;omega)
   rw[ah]at this
   exact this
  ·rw[bo c,bo c,bg]
   exact ih (i+1) t (by omega) (by omega)
theorem Ro{l:List bC}(hl:l.length≤1000)(hS:pG l){s:List Int}(hs:s.length≤4294967296)(p:Nat)(hp:p<s.length)(best:Int)(m:List Int)(hm:m.length≤1000)(hb:∀ x∈m,0≤x∧x<(l.length:Int)) :
  ∀ (d i:Nat) (t:List Int),i+d=m.length→t.length≤i→rf l s m best (p:Int) t (i:Int)=(ly l (t++nxt l s[p] (m.drop i)) false (decide (((p+1:Nat):Int)=(s.length:Int)))).bind fun(r1:(List Int)×Unit)=>rc l s r1.1 best ((p+1:Nat):Int):=by
 intro d
 induction d with
 | zero =>
  intro i t hi ht
  rw[HB,ap,aW (by omega),ci hp (by omega)]
  show _=(ly l (t++[]) _ _).bind _
  rw[aH]
 | succ d ih =>
  intro i t hi ht
  have hi':i<m.length:=by omega
  have hv:=hb _ (aV hi')
  have hvn:m[i].toNat<l.length:=by omega
  rw[HB,an,al,ck hi',al,al,ck hp,cF hvn,(I9 _ _ (hS _ (aV hvn))).2,aa,aq (n:=m[i]+1),ci hi' (by omega),ai hi',Gz,cF hvn]
  dsimp only
  by_cases c:tkB l[m[i].toNat] s[p]=true
  ·rw[bn c,bn c,al,bn (by rw[ch];omega)]
   have:=ih (i+1) (t++[m[i]+1]) (by omega) (by simp;omega)
   rw[ah]at this
   exact this
  ·rw[bo c,bo c,bg]
   exact ih (i+1) t (by omega) (by omega)
theorem FP{m:List Int}(ha:m.Pairwise (· < ·)){N:Int}(hb:∀ x∈m,x<N)(h0:0<m.length):decide (N-1∈m)=decide (m[m.length-1]=N-1):=by
 refine decide_eq_decide.2 ⟨fun h=>?_,fun h=>by rw[← h];exact aV _⟩
 obtain⟨i,hi,e⟩:=bk.1 h
 have h1:=hb _ (aV (show m.length-1<m.length by omega))
 by_cases c:i=m.length-1
 ·subst c;exact e
 ·have:=List.pairwise_iff_getElem.1 ha i (m.length-1) hi (by omega) (by omega)
  omega
theorem Rd{l:List bC}(hl:l.length≤1000)(hS:pG l){s:List Int}(hs:s.length≤4294967296):∀ (d p:Nat),p+d=s.length→∀ (best:Int) (at_:List Int),at_.length≤1000 →
  ∃ v,nO l s (p:Int) best at_=some (v,())∧((ly l at_ (decide ((p:Int)=0)) (decide ((p:Int)=(s.length:Int)))).bind fun(r1:(List Int)×Unit)=>rc l s r1.1 best (p:Int))=some (v,()):=by
 intro d
 induction d with
 | zero =>
  intro p hp best at_ hat
  obtain⟨m,e1,e2,e3,e4,e5⟩:=Cr hl at_ (by omega) (decide ((p:Int)=0)) (decide ((p:Int)=(s.length:Int)))
  rw[DZ,e1,e2,aa,aa]
  dsimp only
  rw[Cy _ _ (by omega),aa,Hz,aq (n:=(l.length:Int)-1)]
  dsimp only
  have hi:∀ b,qi l s (p:Int) b m=some (b,()):=fun b=>by rw[xH,an]
  have hss:∀ b,re l s m b (p:Int)=some (b,()):=fun b=>by rw[HA,an]
  simp only[hi,hss]
  by_cases hm:0<m.length
  ·have w:w64 ((m.length:Int)-1)=((m.length-1:Nat):Int):=by rw[aq];omega
   rw[bn (c:=decide ((m.length:Int)>0)=true) (ac (by omega)),w,bn (c:=(0:Int)≤((m.length-1:Nat):Int)∧((m.length-1:Nat):Int)<(m.length:Int)) (by omega),ck (by omega),FP e3 (fun x hx=>(e4 x hx).2) hm]
   by_cases c:m[m.length-1]=(l.length:Int)-1
   ·rw[ac c,bn rfl];exact⟨_,rfl,rfl⟩
   ·rw[ae c,bo (by decide)];exact⟨_,rfl,rfl⟩
  ·have:m=[]:=aZ.1 (by omega)
   subst this
   rw[bo (c:=decide ((l.length:Int)-1∈([]:List Int))=true) (by simp),bo (by simp)]
   exact⟨_,rfl,rfl⟩
 | succ d ih =>
  intro p hp best at_ hat
  have hps:p<s.length:=by omega
  obtain⟨m,e1,e2,e3,e4,e5⟩:=Cr hl at_ (by omega) (decide ((p:Int)=0)) (decide ((p:Int)=(s.length:Int)))
  rw[DZ,e1,e2,aa,aa]
  dsimp only
  rw[Cy _ _ (by omega),aa,Hz,aq (n:=(l.length:Int)-1)]
  dsimp only
  by_cases hm:0<m.length
  ·have go:∀ b,∃ v,qi l s (p:Int) b m=some (v,())∧re l s m b (p:Int)=some (v,()):=fun b=>by
    have hn:=Rx l s[p] m
    have h1:=Rn hl hS hs p hps b m (by omega) e4 m.length 0 [] (by omega) (aG _)
    have h2:=Ro hl hS hs p hps b m (by omega) e4 m.length 0 [] (by omega) (aG _)
    rw[aM,bg]at h1 h2
    obtain⟨v,g1,g2⟩:=ih (p+1) (by omega) b (nxt l s[p] m) (by omega)
    rw[ae (p:=((p+1:Nat):Int)=0) (by omega)]at g2
    refine⟨v,?_,?_⟩
    ·rw[xH,ap,ap]
     exact h1.trans g1
    ·rw[HA,ap]
     exact h2.trans g2
   have w:w64 ((m.length:Int)-1)=((m.length-1:Nat):Int):=by rw[aq];omega
   rw[bn (c:=decide ((m.length:Int)>0)=true) (ac (by omega)),w,bn (c:=(0:Int)≤((m.length-1:Nat):Int)∧((m.length-1:Nat):Int)<(m.length:Int)) (by omega),ck (by omega),FP e3 (fun x hx=>(e4 x hx).2) hm]
   by_cases c:m[m.length-1]=(l.length:Int)-1
   ·rw[ac c,bn rfl,bn rfl];exact go _
   ·rw[ae c,bo (by decide),bo (by decide)];exact go _
  ·have:m=[]:=aZ.1 (by omega)
   subst this
   rw[bo (c:=decide ((l.length:Int)-1∈([]:List Int))=true) (by simp),bo (by simp),xH,ap,bn (by simp)]
   exact⟨_,rfl,rfl⟩
theorem Rc{l:List bC}(hl:l.length≤1000)(hS:pG l){s:List Int}(hs:s.length≤4294967296)(p:Nat)(hp:p≤s.length):∃ v,xG l s (p:Int)=some (v,())∧Al l s (p:Int)=some (v,())∧(nfB l=false→v = -1):=by
 rw[N1,Tm,Ev l hl,US l hl,eL,dN]
 simp only[aa]
 cases h:nfB l with
 | false=>exact⟨_,rfl,rfl,fun _=>rfl⟩
 | true =>
  have hin:decide (0≤(p:Int)∧(p:Int)≤(s.length:Int))=true:=ac (by omega)
  rw[hin]
  simp only[Bool.not_true,Bool.false_eq_true,if_false]
  obtain⟨v,e1,e2⟩:=Rd hl hS hs (s.length-p) p (by omega) (-1) [0] (by simp)
  exact⟨v,e1,e2,fun h=>by cases h⟩
theorem Re{l:List bC}(hl:l.length≤1000)(hS:pG l){s:List Int}(hs:s.length≤4294967296):∃ a b c,xF l s=some (a,b,c,())∧Ak l s=some (a,b,c,()):=by
 have key:∀ (d p:Nat),p+d=s.length+1→∃ a b c,s7 l s (p:Int)=some (a,b,c,())∧uD l s (p:Int)=some (a,b,c,())∧(nfB l=false→a=0∧b=0∧c=false):=by
  intro d
  induction d with
  | zero =>
   intro p hp
   rw[D4,HD,ap,ap]
   exact⟨_,_,_,rfl,rfl,fun _=>⟨rfl,rfl,rfl⟩⟩
  | succ d ih =>
   intro p hp
   obtain⟨v,e1,e2,e3⟩:=Rc hl hS hs p (by omega)
   have w:w64 ((p:Int)+1)=((p+1:Nat):Int):=by rw[aq];omega
   rw[D4,HD,an,an,e1,e2,aa,aa,w]
   dsimp only
   by_cases c:v≥0
   ·rw[ak c,ak c];exact⟨_,_,_,rfl,rfl,fun h=>absurd (e3 h) (by omega)⟩
   ·rw[aj c,aj c];exact ih (p+1) (by omega)
 obtain⟨a,b,c,e1,e2,e3⟩:=key (s.length+1) 0 (by omega)
 rw[N3,To,Ev l hl,aa]
 dsimp only
 cases h:nfB l with
 | false =>
  obtain⟨rfl,rfl,rfl⟩:=e3 h
  rw[bn (by decide)]
  exact⟨_,_,_,rfl,e2⟩
 | true=>rw[bo (by decide)];exact⟨a,b,c,e1,e2⟩
noncomputable def nH(pat s:List Int):Bool:=match oW pat s with
 | some (v,_)=>decide (v.N≠0)
 | none=>false
theorem sM(pat s:List Int)(hB:∀ b∈pat,0≤b∧b≤255)(hl:pat.length≤9223372036854775807)(hs:s.length≤4294967296):tk pat s=some (nH pat s,())∧oW pat s=some (⟨1,if nH pat s=true then 1000000 else 0,[]⟩,()):=by
 obtain⟨x,ok,e1,e2,h1,h2,h3,h4⟩:=Sx pat hB hl
 obtain⟨l,e3,e4,h5,h6⟩:=Rp h1 h2 h4
 obtain⟨a,b,c,e5,e6⟩:=Re h5 (fun p hp=>by have:=h6 p hp;omega) hs
 have hs':oW pat s=some (⟨1,if c=true then 1000000 else 0,[]⟩,()):=by
  rw[TU,e1,aa]
  dsimp only
  rw[Tn,e4,aa]
  dsimp only
  rw[e6,aa,aa]
  dsimp only
  rw[HS,AG]
  cases c with
  | true=>rw[bn rfl,aa,fX];rfl
  | false=>rw[bo (by decide),aa,fX];rfl
 have hf:nH pat s=c:=by
  unfold nH
  rw[hs']
  cases c <;> rfl
 rw[hf]
 refine⟨?_,hs'⟩
 rw[OA,e2,aa]
 dsimp only
 rw[N2,e3,aa]
 dsimp only
 rw[e5]
 rfl
theorem Gn{a b:Int}(ha:Dc a)(hb:Dc b):∃ v ok,sY a b=some (v,ok,())∧Dc v:=by
 have ha':=ha
 have hb':=hb
 unfold Dc at ha' hb'
 rw[DP,eK,eK]
 simp only[aa,ac ha',ac hb',Bool.not_true,Bool.false_eq_true,if_false,sv ha,sv hb]
 have x0:0≤(if a<0 then 0-a else a):=by split <;> omega
 have x1:(if a<0 then 0-a else a)≤9000000000000:=by split <;> omega
 have y0:0≤(if b<0 then 0-b else b):=by split <;> omega
 have y1:(if b<0 then 0-b else b)≤9000000000000:=by split <;> omega
 generalize (if a<0 then 0-a else a)=x at *
 generalize (if b<0 then 0-b else b)=y at *
 generalize (!(decide ((decide (a<0))=(decide (b<0)))))=n
 rw[Gk x0 x1 y0 y1 n]
 have p0:=Int.mul_nonneg x0 y0
 unfold oD Dc
 generalize x*y=p at *
 by_cases c:p/1000000>9000000000000
 ·rw[bn c];exact⟨_,_,rfl,by omega⟩
 ·rw[bo c]
  cases n with
  | true=>rw[bn rfl];exact⟨_,_,rfl,by omega⟩
  | false=>rw[bo (by decide)];exact⟨_,_,rfl,by omega⟩
theorem zS(n:Int):∃ v ok,((mt n).bind fun(r2:Int×Bool×Unit)=>some (r2.1,r2.2.1,()))=some (v,ok,())∧Dc v:=by
 rw[qz]
 unfold Dc
 by_cases c:-9000000000000≤n∧n≤9000000000000
 ·rw[bn c];exact⟨_,_,rfl,c⟩
 ·rw[bo c];exact⟨_,_,rfl,by omega⟩
theorem su{a b:Int}(ha:Dc a)(hb:Dc b):∃ v ok,nN a b=some (v,ok,())∧Dc v:=by
 unfold Dc at ha hb
 rw[DM,eK,eK]
 simp only[aa,ac ha,ac hb,Bool.not_true,Bool.false_eq_true,if_false]
 exact zS _
theorem I4{a b:Int}(ha:Dc a)(hb:Dc b):∃ v ok,sZ a b=some (v,ok,())∧Dc v:=by
 unfold Dc at ha hb
 rw[DS,eK,eK]
 simp only[aa,ac ha,ac hb,Bool.not_true,Bool.false_eq_true,if_false]
 exact zS _
theorem CL{a b:Int}(ha:Dc a)(hb:Dc b)(h0:b≠0):∃ v ok,qf a b=some (v,ok,())∧Dc v:=by
 unfold Dc at ha hb
 rw[DN,eK,eK]
 simp only[aa,ac ha,ac hb,ae h0,Bool.not_true,Bool.false_eq_true,if_false,bn h0]
 exact zS _
noncomputable def cO(op a b:Int):Int×Int:=match jF (op+9) a b with
 | some (n,e,_)=>(n,e)
 | none=>(0,0)
theorem zt{op a b:Int}(ha:Dc a)(hb:Dc b):jF (op+9) a b=some ((cO op a b).1,(cO op a b).2,())∧Dc (cO op a b).1∧0≤(cO op a b).2∧(cO op a b).2≤2:=by
 have key:∃ n e,jF (op+9) a b=some (n,e,())∧Dc n∧(0:Int)≤e∧e≤2:=by
  have z:Dc 0:=by unfold Dc;omega
  have L1:∀ {x:Option (Int×Bool×Unit)},(∃ v ok,x=some (v,ok,())∧Dc v)→∃ n e,(x.bind fun(r:Int×Bool×Unit)=>jG r.1 r.2.1)=some (n,e,())∧Dc n∧(0:Int)≤e∧e≤2:=fun {x} hx=>by
   obtain⟨v,ok,rfl,hv⟩:=hx
   rw[aa,tm]
   dsimp only
   cases ok with
   | true=>rw[bo (by decide)];exact⟨_,_,rfl,hv,by decide,by decide⟩
   | false=>rw[bn (by decide)];exact⟨_,_,rfl,z,by decide,by decide⟩
  rw[mo]
  by_cases c0:op+9=9
  ·rw[ak c0];exact L1 (su ha hb)
  rw[aj c0]
  by_cases c1:op+9=10
  ·rw[ak c1];exact L1 (I4 ha hb)
  rw[aj c1]
  by_cases c2:op+9=11
  ·rw[ak c2];exact L1 (Gn ha hb)
  rw[aj c2]
  by_cases cb:b=0
  ·rw[ak cb];exact⟨_,_,rfl,z,by decide,by decide⟩
  rw[aj cb]
  by_cases c4:op+9=13
  ·rw[ak c4,bn cb]
   refine⟨_,_,rfl,?_,by decide,by decide⟩
   unfold Dc at ha ⊢
   have h1:(a.tmod b).natAbs≤a.natAbs:=by
    rw[Int.natAbs_tmod];exact Nat.mod_le _ _
   omega
  rw[aj c4];exact L1 (CL ha hb cb)
 obtain⟨n,e,e1,e2⟩:=key
 unfold cO
 rw[e1];exact⟨rfl,e2⟩
theorem ua{op a b:Int}(ha:Dc a)(hb:Dc b):jF (op+9) a b=some ((cO op a b).1,(cO op a b).2,())∧Dc (cO op a b).1:=⟨(zt ha hb).1,(zt ha hb).2.1⟩
def ky(b:Bool):bG:=⟨1,if b=true then 1000000 else 0,[]⟩
theorem pM(b:Bool):VG (ky b):=ig (by unfold Dc;split <;> omega)
def zC(op c:Int):Bool:=if op=0 then decide (c<0)else if op=1 then decide (c≤0)else if op=2 then decide (c>0)else if op=3 then decide (c≥0)else if op=4 then decide (c=0)else !decide (c=0)
inductive R
 | err (e:Int)
 | stop
 | go (a:Int) (V:List bG) (C:List bq) (out:List Int) (st:List bG)
def b8(o:bB):Int :=
 if o.Code=4∨o.Code=5∨o.Code=6∨o.Code=9∨o.Code=24∨o.Code=26∨o.Code=27∨o.Code=28∨o.Code=31∨o.Code=32∨o.Code=33∨o.Code=35 then 1
 else if o.Code=7∨o.Code=8 then 2 else if o.Code=29 then o.N else if 12≤o.Code∧o.Code≤23 then 2 else 0
def fe(a:Int)(V:List bG)(C:List bq)(out:List Int)(st:List bG)(v:bG):R:=if st.length=64 then .err 7 else .go a V C out (st++[v])
noncomputable def dR(line:List Int)(nr:Int)(o:bB)(l:List bG):Int×bG :=
 if o.Code=1 then(0,⟨1,o.N,[]⟩)
 else if o.Code=2 then(if 300<o.S.length then 3 else 0,⟨2,0,o.S⟩)
 else if o.Code=9 then(0,pZ line (dF (l.getD 0 bV)))
 else if o.Code=10 then(0,⟨1,nr*1000000,[]⟩)
 else if o.Code=11 then(0,⟨1,((dj line).length:Int)*1000000,[]⟩)
 else if o.Code=17 then(if 300<(cw (l.getD 0 bV)++cw (l.getD 1 bV)).length then 3 else 0,⟨2,0,cw (l.getD 0 bV)++cw (l.getD 1 bV)⟩)
 else if o.Code=24 then(0,ky (nH o.S (cw (l.getD 0 bV))))
 else if o.Code=25 then(0,ky (nH o.S line))
 else if o.Code=26 then(0,ky (!lH (l.getD 0 bV)))
 else if o.Code=27 then(0,⟨1,0-cK (l.getD 0 bV),[]⟩)
 else if o.Code=28 then(0,ky (lH (l.getD 0 bV)))
 else if o.Code=29 then(0,iS o.S l)
 else if o.Code≤16 then((cO (o.Code-12) (cK (l.getD 0 bV)) (cK (l.getD 1 bV))).2,⟨1,(cO (o.Code-12) (cK (l.getD 0 bV)) (cK (l.getD 1 bV))).1,[]⟩)
 else(0,ky (zC (o.Code-18) (fS (l.getD 0 bV) (l.getD 1 bV))))
def lq(a:Int)(V:List bG)(C:List bq)(out:List Int)(st:List bG)(n:Int)(k:List Int)(v:bG):R:=match jf C n k v with
 | some C'=>fe a V C' out st v
 | none=>.err 4
noncomputable def fV(a:Int)(V:List bG)(C:List bq)(out:List Int)(st:List bG)(o:bB)(l:List bG):R :=
 if o.Code=3 then fe a V C out st (V.getD o.N.toNat bV)
 else if o.Code=4 then fe a (V.set o.N.toNat (l.getD 0 bV)) C out st (l.getD 0 bV)
 else if o.Code=5 then(if(cO 0 (cK (V.getD o.N.toNat bV)) (cK (l.getD 0 bV))).2=0 then
   fe a (V.set o.N.toNat ⟨1,(cO 0 (cK (V.getD o.N.toNat bV)) (cK (l.getD 0 bV))).1,[]⟩) C out st ⟨1,(cO 0 (cK (V.getD o.N.toNat bV)) (cK (l.getD 0 bV))).1,[]⟩
  else .err 1)
 else if o.Code=6 then fe a V C out st (iW C o.N (fj (l.getD 0 bV)))
 else if o.Code=7 then lq a V C out st o.N (fj (l.getD 0 bV)) (l.getD 1 bV)
 else if o.Code=8 then(if(cO 0 (cK (iW C o.N (fj (l.getD 0 bV)))) (cK (l.getD 1 bV))).2=0 then
   lq a V C out st o.N (fj (l.getD 0 bV)) ⟨1,(cO 0 (cK (iW C o.N (fj (l.getD 0 bV)))) (cK (l.getD 1 bV))).1,[]⟩
  else .err 1)
 else .go a V (nF C o.N (fj (l.getD 0 bV))) out st
def jk(a:Int)(V:List bG)(C:List bq)(out:List Int)(st:List bG)(t:List Int):R:=if 600<(out++t).length then .err 5 else .go a V C (out++t) st
noncomputable def doR(line:List Int)(nr:Int)(a:Int)(V:List bG)(C:List bq)(out:List Int)(st:List bG)(o:bB)(l:List bG):R :=
 if o.Code=36 then .stop
 else if o.Code=30 then .go o.N V C out st
 else if o.Code=31 then(if lH (l.getD 0 bV)=true then .go (a+1) V C out st else .go o.N V C out st)
 else if o.Code=32 then .go (a+1) V C out st
 else if o.Code=33 then jk (a+1) V C out st ((if o.N=1 then [32]else [])++cw (l.getD 0 bV))
 else if o.Code=34 then jk (a+1) V C out st [10]
 else if o.Code=3∨o.Code=4∨o.Code=5∨o.Code=6∨o.Code=7∨o.Code=8∨o.Code=35 then fV (a+1) V C out st o l
 else if(dR line nr o l).1=0 then fe (a+1) V C out st (dR line nr o l).2 else .err (dR line nr o l).1
noncomputable def j7(line:List Int)(nr:Int)(o:bB)(a:Int)(V:List bG)(C:List bq)(out:List Int)(st:List bG):R :=
 if(st.length:Int)<b8 o then .err 7
 else doR line nr a V C out (st.take (st.length-(b8 o).toNat)) o (st.drop (st.length-(b8 o).toNat))
def VmI(nv:Nat)(nc:Int)(V:List bG)(C:List bq)(out:List Int)(st:List bG):Prop :=
 (V.length=nv∧∀ v∈V,VG v)∧CG nc C∧(out.length≤600∧Bt out)∧(st.length≤64∧∀ v∈st,VG v)
theorem A7{o:bB}{n v c:Int}(h:opB o n v c=true):0≤b8 o∧b8 o≤3:=by
 unfold b8
 split
 ·omega
 split
 ·omega
 split
 ·rename_i h1 h2 h3
  unfold opB at h
  simp[h3]at h
  omega
 split <;> omega
theorem GA{o:bB}{n v c:Int}(h:opB o n v c=true):1≤o.Code∧o.Code≤36:=by
 unfold opB at h
 by_cases c0:1≤o.Code∧o.Code≤36
 ·exact c0
 ·have e:∀ k:Int,1≤k→k≤36→o.Code≠k:=fun k h1 h2 h3=>c0 (by omega)
  simp[e,c0]at h
theorem Gi{a b:Int}(ha:Dc a)(hb:Dc b):(cO 0 a b).2=0∨(cO 0 a b).2=1:=by
 obtain⟨v,ok,e,_⟩:=su ha hb
 unfold cO
 rw[mo,bn (by decide),e,aa,tm]
 dsimp only
 cases ok with
 | true=>rw[bo (by decide)];exact .inl rfl
 | false=>rw[bn (by decide)];exact .inr rfl
def pC(nv:Nat)(nc:Int)(n:Int):R→Prop
 | .go a V C out st=>(0≤a∧a<n)∧VmI nv nc V C out st
 | .err e=>1≤e∧e≤7
 | .stop=>True
theorem oH{nv:Nat}{nc n a:Int}{V:List bG}{C:List bq}{out:List Int}{st:List bG}{v:bG}(ha:0≤a∧a<n)(h:VmI nv nc V C out st)(hv:VG v):pC nv nc n (fe a V C out st v):=by
 obtain⟨h1,h2,h3,h4,h5⟩:=h
 unfold fe
 by_cases c:st.length=64
 ·rw[bn c];exact⟨by decide,by decide⟩
 ·rw[bo c]
  refine⟨ha,h1,h2,h3,by rw[ag,bj];omega,fun w hw=>?_⟩
  rcases aA.1 hw with hw | hw
  ·exact h5 w hw
  ·rw[aJ.1 hw];exact hv
theorem G5{nv:Nat}{nc n a:Int}{V:List bG}{C:List bq}{out:List Int}{st:List bG}{v:bG}{m:Int}{k:List Int}(ha:0≤a∧a<n)(h:VmI nv nc V C out st)(hm:0≤m∧m<nc)(hk:k.length≤300)(hv:VG v):pC nv nc n (lq a V C out st m k v):=by
 unfold lq
 cases e:jf C m k v with
 | none=>exact⟨by decide,by decide⟩
 | some C'=>exact oH ha ⟨h.1,Sc h.2.1 hm hk hv e,h.2.2⟩ hv
theorem U3{V:List bG}(h:∀ v∈V,VG v)(i:Nat){v:bG}(hv:VG v):∀ w∈V.set i v,VG w:=fun w hw=>by
 rcases List.mem_or_eq_of_mem_set hw with hw | hw
 ·exact h w hw
 ·rw[hw];exact hv
theorem Rl{nv:Nat}{nc n a:Int}{V:List bG}{C:List bq}{out:List Int}{st l:List bG}{o:bB}(ha:0≤a∧a<n)(h:VmI nv nc V C out st)(hl:∀ v∈l,VG v)(hN:(o.Code=7∨o.Code=8)→0≤o.N∧o.N<nc):pC nv nc n (fV a V C out st o l):=by
 have l0:=dd hl 0
 have l1:=dd hl 1
 have hset:∀ {v},VG v→VmI nv nc (V.set o.N.toNat v) C out st:=fun hv=>⟨⟨by rw[aX];exact h.1.1,U3 h.1.2 _ hv⟩,h.2⟩
 unfold fV
 by_cases c3:o.Code=3
 ·rw[bn c3];exact oH ha h (dd h.1.2 _)
 rw[bo c3]
 by_cases c4:o.Code=4
 ·rw[bn c4];exact oH ha (hset l0) l0
 rw[bo c4]
 by_cases c5:o.Code=5
 ·rw[bn c5]
  have hm:=ig (ua (op:=0) (dD (dd h.1.2 o.N.toNat)).2.2 (dD l0).2.2).2
  split
  ·exact oH ha (hset hm) hm
  ·exact⟨by decide,by decide⟩
 rw[bo c5]
 by_cases c6:o.Code=6
 ·rw[bn c6];exact oH ha h (sQ h.2.1 _ _)
 rw[bo c6]
 by_cases c7:o.Code=7
 ·rw[bn c7];exact G5 ha h (hN (.inl c7)) (Fg _) l1
 rw[bo c7]
 by_cases c8:o.Code=8
 ·rw[bn c8]
  have hm:=ig (ua (op:=0) (dD (sQ h.2.1 o.N (fj (l.getD 0 bV)))).2.2 (dD l1).2.2).2
  split
  ·exact G5 ha h (hN (.inr c8)) (Fg _) hm
  ·exact⟨by decide,by decide⟩
 rw[bo c8]
 exact⟨ha,h.1,Mg h.2.1 _ _,h.2.2⟩
def jo(line:List Int)(nr:Int):Prop:=(line.length≤2097152∧Bt line)∧0≤nr∧nr≤1000000
theorem VA{line:List Int}{nr:Int}{o:bB}{l:List bG}(hL:jo line nr)(hl:∀ v∈l,VG v)(hS:Bt o.S)(hN:o.Code=1→Dc o.N)(he:(dR line nr o l).1=0):VG (dR line nr o l).2:=by
 have l0:=dd hl 0
 have l1:=dd hl 1
 obtain⟨⟨hL1,hL2⟩,hL3⟩:=hL
 have hf:=p7 line
 unfold dR at he ⊢
 by_cases c1:o.Code=1
 ·rw[bn c1];exact ig (hN c1)
 rw[bo c1]at he ⊢
 by_cases c2:o.Code=2
 ·rw[bn c2]at he ⊢
  dsimp only at he
  exact pH (by by_cases c:300<o.S.length;rw[bn c]at he;cases he;omega) hS
 rw[bo c2]at he ⊢
 by_cases c9:o.Code=9
 ·rw[bn c9];exact(CW (by omega) hL2 _).2
 rw[bo c9]at he ⊢
 by_cases c10:o.Code=10
 ·rw[bn c10];exact ig (by unfold Dc;omega)
 rw[bo c10]at he ⊢
 by_cases c11:o.Code=11
 ·rw[bn c11];exact ig (by unfold Dc;omega)
 rw[bo c11]at he ⊢
 by_cases c17:o.Code=17
 ·rw[bn c17]at he ⊢
  dsimp only at he
  exact pH (by by_cases c:300<(cw (l.getD 0 bV)++cw (l.getD 1 bV)).length;rw[bn c]at he;cases he;omega) (fun x hx=>(aA.1 hx).elim ((eT l0).2 x) ((eT l1).2 x))
 rw[bo c17]at he ⊢
 by_cases c24:o.Code=24
 ·rw[bn c24];exact pM _
 rw[bo c24]at he ⊢
 by_cases c25:o.Code=25
 ·rw[bn c25];exact pM _
 rw[bo c25]at he ⊢
 by_cases c26:o.Code=26
 ·rw[bn c26];exact pM _
 rw[bo c26]at he ⊢
 by_cases c27:o.Code=27
 ·rw[bn c27];exact ig (by have:=(dD l0).2.2;unfold Dc at this ⊢;omega)
 rw[bo c27]at he ⊢
 by_cases c28:o.Code=28
 ·rw[bn c28];exact pM _
 rw[bo c28]at he ⊢
 by_cases c29:o.Code=29
 ·rw[bn c29];exact Li hl _
 rw[bo c29]at he ⊢
 by_cases c16:o.Code≤16
 ·rw[bn c16];exact ig (ua (dD l0).2.2 (dD l1).2.2).2
 ·rw[bo c16];exact pM _
theorem VB{line:List Int}{nr:Int}{o:bB}{l:List bG}(hl:∀ v∈l,VG v)(he:(dR line nr o l).1≠0):1≤(dR line nr o l).1∧(dR line nr o l).1≤7:=by
 have hm:=(zt (op:=o.Code-12) (dD (dd hl 0)).2.2 (dD (dd hl 1)).2.2).2.2
 unfold dR at he ⊢
 by_cases c1:o.Code=1
 ·rw[bn c1]at he;exact absurd rfl he
 rw[bo c1]at he ⊢
 by_cases c2:o.Code=2
 ·rw[bn c2]at he ⊢
  dsimp only at he ⊢
  by_cases c:300<o.S.length
  ·rw[bn c];exact⟨by decide,by decide⟩
  ·rw[bo c]at he;exact absurd rfl he
 rw[bo c2]at he ⊢
 by_cases c9:o.Code=9
 ·rw[bn c9]at he;exact absurd rfl he
 rw[bo c9]at he ⊢
 by_cases c10:o.Code=10
 ·rw[bn c10]at he;exact absurd rfl he
 rw[bo c10]at he ⊢
 by_cases c11:o.Code=11
 ·rw[bn c11]at he;exact absurd rfl he
 rw[bo c11]at he ⊢
 by_cases c17:o.Code=17
 ·rw[bn c17]at he ⊢
  dsimp only at he ⊢
  by_cases c:300<(cw (l.getD 0 bV)++cw (l.getD 1 bV)).length
  ·rw[bn c];exact⟨by decide,by decide⟩
  ·rw[bo c]at he;exact absurd rfl he
 rw[bo c17]at he ⊢
 by_cases c24:o.Code=24
 ·rw[bn c24]at he;exact absurd rfl he
 rw[bo c24]at he ⊢
 by_cases c25:o.Code=25
 ·rw[bn c25]at he;exact absurd rfl he
 rw[bo c25]at he ⊢
 by_cases c26:o.Code=26
 ·rw[bn c26]at he;exact absurd rfl he
 rw[bo c26]at he ⊢
 by_cases c27:o.Code=27
 ·rw[bn c27]at he;exact absurd rfl he
 rw[bo c27]at he ⊢
 by_cases c28:o.Code=28
 ·rw[bn c28]at he;exact absurd rfl he
 rw[bo c28]at he ⊢
 by_cases c29:o.Code=29
 ·rw[bn c29]at he;exact absurd rfl he
 rw[bo c29]at he ⊢
 by_cases c16:o.Code≤16
 ·rw[bn c16]at he ⊢
  dsimp only at he ⊢
  omega
 ·rw[bo c16]at he;exact absurd rfl he
theorem IJ{nv:Nat}{nc n a:Int}{V:List bG}{C:List bq}{out t:List Int}{st:List bG}(ha:0≤a∧a<n)(h:VmI nv nc V C out st)(ht:Bt t):pC nv nc n (jk a V C out st t):=by
 unfold jk
 by_cases c:600<(out++t).length
 ·rw[bn c];exact⟨by decide,by decide⟩
 ·rw[bo c]
  exact⟨ha,h.1,h.2.1,⟨by omega,fun x hx=>(aA.1 hx).elim (h.2.2.1.2 x) (ht x)⟩,h.2.2.2⟩
theorem zA{o:bB}{n v c:Int}(h:opB o n v c=true) :
  (o.Code=1→Dc o.N)∧((o.Code=3∨o.Code=4∨o.Code=5)→0≤o.N∧o.N<v)∧((o.Code=6∨o.Code=7∨o.Code=8∨o.Code=35)→0≤o.N∧o.N<c) ∧
  (o.Code=29→(1≤o.N∧o.N≤3)∧o.S∈kw2)∧((o.Code=30∨o.Code=31)→0≤o.N∧o.N≤w64 (n-1))∧(o.Code=33→0≤o.N∧o.N≤1):=by
 unfold opB at h
 refine⟨fun e=>?_,fun e=>?_,fun e=>?_,fun e=>?_,fun e=>?_,fun e=>?_⟩
 ·simp[e]at h;exact h.1
 ·rcases e with e | e | e <;> (simp[e]at h;omega)
 ·rcases e with e | e | e | e <;> (simp[e]at h;omega)
 ·simp[e]at h;exact h
 ·rcases e with e | e <;> (simp[e]at h;omega)
 ·simp[e]at h;omega
theorem I0{nv:Nat}{nc n a nr:Int}{line:List Int}{V:List bG}{C:List bq}{out:List Int}{st:List bG}{o:bB}(hn:n≤2000)(ha:0≤a∧a<n)(hlast:o.Code≠36→a+1<n)(hL:jo line nr)(h:VmI nv nc V C out st)(ho:opB o n nv nc=true)(hS:Bt o.S) :
  pC nv nc n (j7 line nr o a V C out st):=by
 obtain⟨k1,k2⟩:=A7 ho
 obtain⟨o1,o2,o3,o4,o5,o6⟩:=zA ho
 unfold j7
 by_cases c:(st.length:Int)<b8 o
 ·rw[bn c];exact⟨by decide,by decide⟩
 ·rw[bo c]
  have hl:∀ v∈st.drop (st.length-(b8 o).toNat),VG v:=fun v hv=>h.2.2.2.2 v (List.mem_of_mem_drop hv)
  have h':VmI nv nc V C out (st.take (st.length-(b8 o).toNat)):=⟨h.1,h.2.1,h.2.2.1,by rw[aP];have:=h.2.2.2.1;omega,fun v hv=>h.2.2.2.2 v (List.mem_of_mem_take hv)⟩
  generalize st.drop (st.length-(b8 o).toNat)=l at hl
  generalize st.take (st.length-(b8 o).toNat)=rest at h'
  unfold doR
  by_cases c36:o.Code=36
  ·rw[bn c36];trivial
  rw[bo c36]
  have ha1:0≤a+1∧a+1<n:=⟨by omega,hlast c36⟩
  have hN:(o.Code=30∨o.Code=31)→0≤o.N∧o.N<n:=fun e=>by
   have:=o5 e
   rw[aq]at this
   omega
  by_cases c30:o.Code=30
  ·rw[bn c30];exact⟨hN (.inl c30),h'⟩
  rw[bo c30]
  by_cases c31:o.Code=31
  ·rw[bn c31]
   split
   ·exact⟨ha1,h'⟩
   ·exact⟨hN (.inr c31),h'⟩
  rw[bo c31]
  by_cases c32:o.Code=32
  ·rw[bn c32];exact⟨ha1,h'⟩
  rw[bo c32]
  by_cases c33:o.Code=33
  ·rw[bn c33]
   refine IJ ha1 h' fun x hx=>?_
   rcases aA.1 hx with hx | hx
   ·split at hx
    ·rw[aJ.1 hx];omega
    ·cases hx
   ·exact(eT (dd hl 0)).2 x hx
  rw[bo c33]
  by_cases c34:o.Code=34
  ·rw[bn c34];exact IJ ha1 h' fun x hx=>by rw[aJ.1 hx];omega
  rw[bo c34]
  by_cases cn:o.Code=3∨o.Code=4∨o.Code=5∨o.Code=6∨o.Code=7∨o.Code=8∨o.Code=35
  ·rw[bn cn]
   exact Rl ha1 h' hl fun e=>o3 (by rcases e with e | e <;> simp[e])
  ·rw[bo cn]
   by_cases ce:(dR line nr o l).1=0
   ·rw[bn ce];exact oH ha1 h' (VA hL hl hS o1 ce)
   ·rw[bo ce];exact VB hl ce
abbrev WT:=bF×(List (List Int)×(List (List Int)×(List Int×(List (List Int)×(List Int×(Int×(Bool×Unit)))))))
def wT(s:bF)(line:List Int)(out:List Int):WT:=(s,([],([],(line,(dj line,(out,(0,(false,()))))))))
theorem j0(V:List bG)(C:List bq)(nr:Int)(line out:List Int)(e:Int):gX ⟨V,C,nr,0⟩ [] [] line (dj line) out 0 false e=some (wT ⟨V,C,nr,e⟩ line out,()):=by
 rw[HV]
 rw[bn (by simp)];rfl
def lW(line:List Int)(nr a:Int)(x:Option (bR×WT×Unit)):R→Prop
 | .err e=>e≠0∧∃ z s o,x=some (z,wT s line o,())∧s.Err=e
 | .stop=>False
 | .go b V C out st=>b=a∧x=some (⟨(),st⟩,wT ⟨V,C,nr,0⟩ line out,())
theorem kE(x:Option (bR×WT×Unit)):(x.bind fun(r:bR×(bF×((List (List Int))×((List (List Int))×((List Int)×((List (List Int))×((List Int)×(Int×(Bool×Unit))))))))×Unit) =>
  some (r.1,(r.2.1.1,(r.2.1.2.1,(r.2.1.2.2.1,(r.2.1.2.2.2.1,(r.2.1.2.2.2.2.1,(r.2.1.2.2.2.2.2.1,(r.2.1.2.2.2.2.2.2.1,(r.2.1.2.2.2.2.2.2.2.1,())))))))),()))=x:=by cases x <;> rfl
theorem oI(line:List Int)(nr a:Int)(V:List bG)(C:List bq)(out:List Int)(st:List bG)(v:bG)(hs:st.length≤64) :
  lW line nr a (lE ⟨(),st⟩ ⟨V,C,nr,0⟩ [] [] line (dj line) out 0 false v) (fe a V C out st v):=by
 rw[Ub]
 dsimp only
 unfold fe
 by_cases c:st.length=64
 ·rw[bn c,an,j0,aa]
  exact⟨by decide,_,_,_,rfl,rfl⟩
 ·rw[bo c,ap,bn (by rw[ch];omega)]
  exact⟨rfl,rfl⟩
theorem zu{op a b:Int}(ha:Dc a)(hb:Dc b)(h0:0≤op)(h4:op≤4)(V:List bG)(C:List bq)(nr:Int)(line out:List Int) :
  ((cO op a b).2=0→oY ⟨V,C,nr,0⟩ [] [] line (dj line) out 0 false op a b=some (⟨1,(cO op a b).1,[]⟩,wT ⟨V,C,nr,0⟩ line out,())) ∧
  ((cO op a b).2≠0→∃ v,oY ⟨V,C,nr,0⟩ [] [] line (dj line) out 0 false op a b=some (v,wT ⟨V,C,nr,(cO op a b).2⟩ line out,())):=by
 have key:∀ {x:Option (Int×Bool×Unit)},(∃ v ok,x=some (v,ok,())∧Dc v)→jF (op+9) a b=(x.bind fun(r:Int×Bool×Unit)=>jG r.1 r.2.1) →
   ((cO op a b).2=0→(x.bind fun(r:Int×Bool×Unit)=>lD r.1 r.2.1 (bQ.mk ⟨V,C,nr,0⟩ [] [] line (dj line) out 0 false) bV)=some (⟨1,(cO op a b).1,[]⟩,wT ⟨V,C,nr,0⟩ line out,())) ∧
   ((cO op a b).2≠0→∃ v,(x.bind fun(r:Int×Bool×Unit)=>lD r.1 r.2.1 (bQ.mk ⟨V,C,nr,0⟩ [] [] line (dj line) out 0 false) bV)=some (v,wT ⟨V,C,nr,(cO op a b).2⟩ line out,())):=by
  intro x hx hm
  obtain⟨v,ok,rfl,hv⟩:=hx
  rw[aa,tm]at hm
  rw[aa,HY]
  dsimp only at hm ⊢
  unfold cO
  cases ok with
  | true =>
   rw[bo (by decide)]at hm
   rw[bo (by decide),hm,fX]
   exact⟨fun _=>rfl,fun h=>absurd rfl h⟩
  | false =>
   rw[bn (by decide)]at hm
   rw[bn (by decide),hm,j0,fX]
   exact⟨(fun h=>by cases h),fun h=>⟨_,rfl⟩⟩
 rw[TX]
 by_cases c0:op=0
 ·rw[ak c0,Kz]
  exact key (su ha hb) (by rw[mo,an])
 rw[aj c0]
 by_cases c1:op=1
 ·rw[ak c1,Vi]
  exact key (I4 ha hb) (by rw[mo,ap,an])
 rw[aj c1]
 by_cases c2:op=2
 ·rw[ak c2,Rk]
  exact key (Gn ha hb) (by rw[mo,ap,ap,an])
 rw[aj c2]
 have hm:jF (op+9) a b=if(decide (b=0))=true then some (0,2,())else if(decide (op+9=13))=true then if b≠0 then some ((Int.tmod a b),0,())else none else(qf a b).bind fun(r3:Int×Bool×Unit)=>jG r3.1 r3.2.1:=by
  rw[mo,ap,ap,ap]
 by_cases cb:b=0
 ·rw[ak cb]at hm ⊢
  have hE:cO op a b=(0,2):=by unfold cO;rw[hm]
  rw[hE,j0,aa]
  exact⟨(fun h=>by cases h),fun h=>⟨_,rfl⟩⟩
 rw[aj cb]at hm ⊢
 have hd:=CL ha hb cb
 rw[Mb]
 by_cases c4:op=4
 ·rw[an,bn cb]at hm
  have hE:cO op a b=(Int.tmod a b,0):=by unfold cO;rw[hm]
  obtain⟨v,ok,e,_⟩:=hd
  rw[hE,e,aa,ak c4,bn cb,HY,bo (by decide),fX]
  exact⟨fun _=>rfl,fun h=>absurd rfl h⟩
 ·rw[ap]at hm
  have:=key hd hm
  obtain⟨v,ok,e,_⟩:=hd
  rw[e]at this ⊢
  rw[aa,aj c4]
  exact this
theorem G6(line:List Int)(nr a:Int)(V:List bG)(C:List bq)(out:List Int)(st:List bG)(v:bG)(n:Int)(k:List Int)(hs:st.length≤64)(hV:V.length≤100000)(hC:C.length≤100000) :
  lW line nr a (uO ⟨(),st⟩ ⟨V,C,nr,0⟩ [] [] line (dj line) out 0 false n k v) (lq a V C out st n k v):=by
 rw[T9,Se _ n k v hV hC,aa]
 unfold lq
 dsimp only
 cases e:jf C n k v with
 | none =>
  dsimp only
  rw[bn (by decide),j0,aa]
  exact⟨by decide,_,_,_,rfl,rfl⟩
 | some C' =>
  dsimp only
  rw[bo (by decide),kE]
  exact oI line nr a V C' out st v hs
theorem Rm{line:List Int}{nr a:Int}{V:List bG}{C:List bq}{out:List Int}{st l:List bG}{o:bB}{nv:Nat}{nc:Int}(hnv:nv≤100000)(h:VmI nv nc V C out st)(hl:∀ v∈l,VG v)(hlen:(l.length:Int)=b8 o)
  (hc:o.Code=3∨o.Code=4∨o.Code=5∨o.Code=6∨o.Code=7∨o.Code=8∨o.Code=35) (hN:(o.Code=3∨o.Code=4∨o.Code=5)→0≤o.N∧o.N<nv) :
  lW line nr a (AA ⟨(),st⟩ ⟨V,C,nr,0⟩ [] [] line (dj line) out 0 false o l) (fV a V C out st o l):=by
 obtain⟨⟨hV,hVg⟩,hC,hO,hs,hsg⟩:=h
 have hV1:V.length≤100000:=by omega
 have hC1:C.length≤100000:=by have:=hC.1;omega
 have l0:=dd hl 0
 have l1:=dd hl 1
 rw[Ua]
 dsimp only
 unfold fV
 by_cases c3:o.Code=3
 ·have hN:=hN (.inl c3)
  rw[ak c3,bn c3,al,kE]
  exact oI line nr a V C out st _ hs
 rw[aj c3,bo c3]
 by_cases c4:o.Code=4
 ·have hN:=hN (.inr (.inl c4))
  have hk:b8 o=1:=by unfold b8;simp[c4]
  rw[ak c4,bn c4,al,al,al,kE]
  exact oI line nr a _ C out st _ hs
 rw[aj c4,bo c4]
 by_cases c5:o.Code=5
 ·have hN:=hN (.inr (.inr c5))
  have hk:b8 o=1:=by unfold b8;simp[c5]
  obtain⟨_,n2,n3⟩:=dD (dd hVg o.N.toNat)
  obtain⟨_,m2,m3⟩:=dD l0
  rw[ak c5,bn c5,al,n2,aa,al,m2,aa]
  dsimp only
  obtain⟨q1,q2⟩:=zu n3 m3 (Int.le_refl 0) (by decide) V C nr line out
  by_cases ce:(cO 0 (cK (V.getD o.N.toNat bV)) (cK (l.getD 0 bV))).2=0
  ·rw[q1 ce,aa,bn ce]
   unfold wT
   dsimp only
   rw[bn (by simp),al,kE]
   exact oI line nr a _ C out st _ hs
  ·obtain⟨v,q⟩:=q2 ce
   have he:(cO 0 (cK (V.getD o.N.toNat bV)) (cK (l.getD 0 bV))).2=1:=(Gi n3 m3).resolve_left ce
   rw[q,aa,bo ce,he]
   unfold wT
   dsimp only
   rw[bo (by simp)]
   exact⟨by decide,_,_,_,rfl,rfl⟩
 rw[aj c5,bo c5]
 by_cases c6:o.Code=6
 ·have hk:b8 o=1:=by unfold b8;simp[c6]
  rw[ak c6,bn c6,al,(i7 l0).2,aa]
  dsimp only
  rw[(sR ⟨V,C,nr,0⟩ o.N _ hC1).2,aa,kE]
  exact oI line nr a V C out st _ hs
 rw[aj c6,bo c6]
 by_cases c7:o.Code=7
 ·have hk:b8 o=2:=by unfold b8;simp[c7]
  rw[ak c7,bn c7,al,(i7 l0).2,aa,al,kE]
  exact G6 line nr a V C out st _ _ _ hs hV1 hC1
 rw[aj c7,bo c7]
 by_cases c8:o.Code=8
 ·have hk:b8 o=2:=by unfold b8;simp[c8]
  obtain⟨_,n2,n3⟩:=dD (sQ hC o.N (fj (l.getD 0 bV)))
  obtain⟨_,m2,m3⟩:=dD l1
  rw[ak c8,bn c8,al,(i7 l0).2,aa]
  dsimp only
  rw[(sR ⟨V,C,nr,0⟩ o.N _ hC1).2,aa]
  dsimp only
  rw[n2,aa,al,m2,aa]
  dsimp only
  obtain⟨q1,q2⟩:=zu n3 m3 (Int.le_refl 0) (by decide) V C nr line out
  by_cases ce:(cO 0 (cK (iW C o.N (fj (l.getD 0 bV)))) (cK (l.getD 1 bV))).2=0
  ·rw[q1 ce,aa,bn ce]
   unfold wT
   dsimp only
   rw[bn (by simp),kE]
   exact G6 line nr a V C out st _ _ _ hs hV1 hC1
  ·obtain⟨v,q⟩:=q2 ce
   have he:=(Gi n3 m3).resolve_left ce
   rw[q,aa,bo ce,he]
   unfold wT
   dsimp only
   rw[bo (by simp)]
   exact⟨by decide,_,_,_,rfl,rfl⟩
 rw[aj c8,bo c8]
 have c35:o.Code=35:=by omega
 have hk:b8 o=1:=by unfold b8;simp[c35]
 rw[ak c35,al,(i7 l0).2,aa]
 dsimp only
 rw[(CO ⟨V,C,nr,0⟩ o.N _ hV1 hC1).2,aa]
 exact⟨rfl,rfl⟩
theorem fw(line:List Int)(nr a:Int)(V:List bG)(C:List bq)(out:List Int)(st:List bG)(v:bG)(hs:st.length≤64) :
  lW line nr a (eR ⟨(),st⟩ ⟨V,C,nr,0⟩ [] [] line (dj line) out 0 false v) (fe a V C out st v):=by
 rw[H5,bn (by simp),kE]
 exact oI line nr a V C out st v hs
theorem Bc(line:List Int)(nr a:Int)(V:List bG)(C:List bq)(out:List Int)(st:List bG)(v:bG){e:Int}(he:e≠0) :
  lW line nr a (eR ⟨(),st⟩ ⟨V,C,nr,e⟩ [] [] line (dj line) out 0 false v) (.err e):=by
 rw[H5,aj he]
 exact⟨he,_,_,_,rfl,rfl⟩
theorem wH(b:Bool):oU b=some (ky b,()):=by
 rw[HS,AG]
 cases b with
 | true=>rw[bn rfl,aa,fX];rfl
 | false=>rw[bo (by decide),aa,fX];rfl
theorem VC{line:List Int}{nr a:Int}{V:List bG}{C:List bq}{out:List Int}{st l:List bG}{o:bB}(hL:jo line nr)(hs:st.length≤64)(hl:∀ v∈l,VG v)(hlen:(l.length:Int)=b8 o)(hO:1≤o.Code∧o.Code≤29)
  (hn:¬ (o.Code=3∨o.Code=4∨o.Code=5∨o.Code=6∨o.Code=7∨o.Code=8∨o.Code=35)) (hS:Bt o.S) (hSl:o.S.length≤2097152) (hcall:o.Code=29→(1≤o.N∧o.N≤3)∧o.S∈kw2) :
  lW line nr a (AE ⟨(),st⟩ ⟨V,C,nr,0⟩ [] [] line (dj line) out 0 false o l) (if(dR line nr o l).1=0 then fe a V C out st (dR line nr o l).2 else .err (dR line nr o l).1):=by
 obtain⟨⟨hL1,hL2⟩,hL3⟩:=hL
 have hf:=p7 line
 have l0:=dd hl 0
 have l1:=dd hl 1
 rw[Ug]
 dsimp only
 unfold dR
 by_cases c1:o.Code=1
 ·rw[ak c1,bn c1,fX,aa,bn rfl]
  exact fw line nr a V C out st _ hs
 rw[aj c1,bo c1]
 by_cases c2:o.Code=2
 ·rw[ak c2,bn c2]
  dsimp only
  by_cases c:300<o.S.length
  ·rw[an,bn c,j0,aa,bo (by decide)]
   exact Bc line nr a V C out st _ (by decide)
  ·rw[ap,bo c,bn rfl]
   exact fw line nr a V C out st _ hs
 rw[aj c2,bo c2]
 by_cases c9:o.Code=9
 ·have hk:b8 o=1:=by unfold b8;simp[c9]
  obtain⟨_,n2,n3⟩:=dD l0
  obtain⟨w1,w2,w3⟩:=pi l0
  rw[ak c9,bn c9,al,TT,n2,aa,bn rfl]
  dsimp only
  rw[w2]
  unfold pZ
  obtain⟨_,r2,_⟩:=oK (s:=line) (by omega) hL2
  obtain⟨_,z2,_⟩:=oK (s:=[]) (by simp) (fun x hx=>by cases hx)
  by_cases d:dF (l.getD 0 bV)=0
  ·rw[ak d,bn d,r2,aa,aa]
   exact fw line nr a V C out st _ hs
  ·rw[aj d,bo d,dN,aa]
   dsimp only
   by_cases e:1≤dF (l.getD 0 bV)∧dF (l.getD 0 bV)≤((dj line).length:Int)
   ·have hi:(dF (l.getD 0 bV)-1).toNat<(dj line).length:=by omega
    obtain⟨g1,g2⟩:=CX (P:=fun x=>0≤x∧x≤255) hL2 (aV hi)
    obtain⟨_,q2,_⟩:=oK (s:=(dj line)[(dF (l.getD 0 bV)-1).toNat]) (by omega) g1
    rw[ac e,bo (by decide),bn e,aq,al,cF hi,q2,aa,aa]
    exact fw line nr a V C out st _ hs
   ·rw[ae e,bn (by decide),bo e,z2,aa,aa]
    exact fw line nr a V C out st _ hs
 rw[aj c9,bo c9]
 by_cases c10:o.Code=10
 ·rw[ak c10,bn c10,aq,fX,aa,bn rfl,Int.mul_comm]
  exact fw line nr a V C out st _ hs
 rw[aj c10,bo c10]
 by_cases c11:o.Code=11
 ·rw[ak c11,bn c11,aq,fX,aa,bn rfl,Int.mul_comm]
  exact fw line nr a V C out st _ hs
 rw[aj c11,bo c11]
 by_cases c17:o.Code=17
 ·have hk:b8 o=2:=by unfold b8;simp[c17]
  have t0:=(eT l0).1
  have t1:=(eT l1).1
  rw[ak c17,bn c17,al,al,TS,fM,fM,aa,aa]
  dsimp only
  rw[al]
  by_cases c:300<(cw (l.getD 0 bV)++cw (l.getD 1 bV)).length
  ·rw[an,bn c,j0,aa,bo (by decide)]
   exact Bc line nr a V C out st _ (by decide)
  ·rw[ap,bo c,bn rfl]
   exact fw line nr a V C out st _ hs
 rw[aj c17,bo c17]
 by_cases c24:o.Code=24
 ·have hk:b8 o=1:=by unfold b8;simp[c24]
  have t0:=(eT l0).1
  rw[ak c24,bn c24,al,fM,aa]
  dsimp only
  rw[(sM o.S _ hS (by omega) (by omega)).2,aa,bn rfl]
  exact fw line nr a V C out st _ hs
 rw[aj c24,bo c24]
 by_cases c25:o.Code=25
 ·rw[ak c25,bn c25,(sM o.S line hS (by omega) (by omega)).2,aa,bn rfl]
  exact fw line nr a V C out st _ hs
 rw[aj c25,bo c25]
 by_cases c26:o.Code=26
 ·have hk:b8 o=1:=by unfold b8;simp[c26]
  rw[ak c26,bn c26,al,(ph _).2,aa,wH,aa,bn rfl]
  exact fw line nr a V C out st _ hs
 rw[aj c26,bo c26]
 by_cases c27:o.Code=27
 ·have hk:b8 o=1:=by unfold b8;simp[c27]
  obtain⟨_,n2,n3⟩:=dD l0
  unfold Dc at n3
  rw[ak c27,bn c27,al,n2,aa]
  dsimp only
  rw[aq,fX,aa,bn rfl]
  exact fw line nr a V C out st _ hs
 rw[aj c27,bo c27]
 by_cases c28:o.Code=28
 ·have hk:b8 o=1:=by unfold b8;simp[c28]
  rw[ak c28,bn c28,al,(ph _).2,aa,wH,aa,bn rfl]
  exact fw line nr a V C out st _ hs
 rw[aj c28,bo c28]
 by_cases c29:o.Code=29
 ·have hk:b8 o=o.N:=by unfold b8;simp[c29]
  obtain⟨hn1,hn2⟩:=hcall c29
  rw[ak c29,bn c29,TG hl (by omega) (by omega) _ hn2,aa,bn rfl]
  exact fw line nr a V C out st _ hs
 rw[aj c29,bo c29]
 have hk:b8 o=2:=by
  have hr:12≤o.Code∧o.Code≤23:=by omega
  have e:∀ k:Int,(k<12∨23<k)→o.Code≠k:=fun k h1 h2=>by omega
  unfold b8
  rw[am,am,bo c29,bn hr]
 by_cases c16:o.Code≤16
 ·obtain⟨_,n2,n3⟩:=dD l0
  obtain⟨_,m2,m3⟩:=dD l1
  rw[ak c16,bn c16,al,n2,aa,al,m2,aa]
  dsimp only
  rw[aq]
  obtain⟨q1,q2⟩:=zu (op:=o.Code-12) n3 m3 (by omega) (by omega) V C nr line out
  by_cases ce:(cO (o.Code-12) (cK (l.getD 0 bV)) (cK (l.getD 1 bV))).2=0
  ·rw[q1 ce,aa,bn ce]
   exact fw line nr a V C out st _ hs
  ·obtain⟨v,q⟩:=q2 ce
   rw[q,aa,bo ce]
   exact Bc line nr a V C out st _ ce
 ·have hcmp:=(Cu l0 l1).2
  rw[aj c16,bo c16,al,al,aq,TY,hcmp,aa,al]
  dsimp only
  have hord:List.getD [(decide (fS (l.getD 0 bV) (l.getD 1 bV)<0)),(decide (fS (l.getD 0 bV) (l.getD 1 bV)≤0)),(decide (fS (l.getD 0 bV) (l.getD 1 bV)>0)),(decide (fS (l.getD 0 bV) (l.getD 1 bV)≥0)),(decide (fS (l.getD 0 bV) (l.getD 1 bV)=0)),(!(decide (fS (l.getD 0 bV) (l.getD 1 bV)=0)))] (o.Code-18).toNat false=zC (o.Code-18) (fS (l.getD 0 bV) (l.getD 1 bV)):=by
   have h6:o.Code=18∨o.Code=19∨o.Code=20∨o.Code=21∨o.Code=22∨o.Code=23:=by omega
   rcases h6 with e | e | e | e | e | e <;> (rw[e];rfl)
  rw[hord,wH,aa,aa,bn rfl]
  exact fw line nr a V C out st _ hs
abbrev IT:=bF×(List Int×(List Int×(List bG×(Int×Unit))))
def iT(s:bF)(line out:List Int)(st:List bG)(e:Int):IT:=(s,(line,(out,(st,(e,())))))
theorem iX(s:bF)(line out:List Int)(st:List bG)(e:Int):gQ s line out st 0 e=some (iT s line out st e,()):=by
 rw[EP,bn (by simp)];rfl
theorem Oy(s:bF)(line out:List Int)(st:List bG){e:Int}(he:e≠0)(f:Int):gQ s line out st e f=some (iT s line out st e,()):=by
 rw[EP,aj he];rfl
def lS(line:List Int)(nr a:Int)(x:Option (IT×Unit)):R→Prop
 | .err e=>e≠0∧∃ s o t,x=some (iT s line o t e,())
 | .stop=>False
 | .go b V C out st=>b=a∧x=some (iT ⟨V,C,nr,0⟩ line out st 0,())
theorem dX(x:Option (IT×Unit)):(x.bind fun(r:(bF×((List Int)×((List Int)×((List bG)×(Int×Unit)))))×Unit) =>
  some ((r.1.1,(r.1.2.1,(r.1.2.2.1,(r.1.2.2.2.1,(r.1.2.2.2.2.1,()))))),()))=x:=by cases x <;> rfl
theorem eD(line:List Int)(nr a:Int)(V:List bG)(C:List bq)(out:List Int)(st:List bG)(v:bG)(hs:st.length≤64) :
  lS line nr a (eA ⟨V,C,nr,0⟩ line out st 0 v) (fe a V C out st v):=by
 rw[Pm]
 unfold fe
 by_cases c:st.length=64
 ·rw[bn c,an,iX,aa]
  exact⟨by decide,_,_,_,rfl⟩
 ·rw[bo c,ap,bn (by rw[ch];omega)]
  exact⟨rfl,rfl⟩
theorem GT{a b:bG}(ha:VG a)(hb:VG b)(s:bF)(line out:List Int)(st:List bG) :
  ((cO 0 (cK a) (cK b)).2=0→qB s line out st 0 a b=some (⟨1,(cO 0 (cK a) (cK b)).1,[]⟩,iT s line out st 0,())) ∧
  ((cO 0 (cK a) (cK b)).2≠0→∃ v,qB s line out st 0 a b=some (v,iT s line out st 1,())):=by
 obtain⟨n1,n2,n3⟩:=dD ha
 obtain⟨m1,m2,m3⟩:=dD hb
 obtain⟨v,ok,e,_⟩:=su n3 m3
 have hm:jF (0+9) (cK a) (cK b)=(nN (cK a) (cK b)).bind fun(r0:Int×Bool×Unit)=>jG r0.1 r0.2.1:=by rw[mo,bn (by decide)]
 rw[e,aa,tm]at hm
 dsimp only at hm
 rw[Pk,n1,m1,aa,aa]
 dsimp only
 rw[e,aa,iX]
 dsimp only
 unfold cO
 cases ok with
 | true =>
  rw[bo (by decide)]at hm
  rw[hm,bo (by decide),gO]
  exact⟨fun _=>rfl,fun h=>absurd rfl h⟩
 | false =>
  rw[bn (by decide)]at hm
  rw[hm,bn (by decide),gO]
  exact⟨(fun h=>by cases h),fun h=>⟨_,rfl⟩⟩
theorem G4(line:List Int)(nr a:Int)(V:List bG)(C:List bq)(out:List Int)(st:List bG)(v:bG)(n:Int)(k:List Int)(hs:st.length≤64)(hV:V.length≤100000)(hC:C.length≤100000) :
  lS line nr a (tw ⟨V,C,nr,0⟩ line out st 0 n k v) (lq a V C out st n k v):=by
 rw[ER,bo (by simp),Sd _ n k v hV hC,aa]
 unfold lq
 dsimp only
 cases e:jf C n k v with
 | none =>
  dsimp only
  rw[bn (by decide),iX,aa]
  exact⟨by decide,_,_,_,rfl⟩
 | some C' =>
  dsimp only
  rw[bo (by decide),dX]
  exact eD line nr a V C' out st v hs
theorem vv(s:bF)(line out t:List Int)(st:List bG)(e:Int)(h:out.length+t.length≤1000000):nX s line out st e t=some (iT s line (out++t) st (if 600<(out++t).length∧e=0 then 5 else e),()):=by
 rw[Po,al]
 by_cases c:600<(out++t).length
 ·rw[an]
  by_cases d:e=0
  ·subst d;rw[iX,bn ⟨c,rfl⟩];rfl
  ·rw[Oy _ _ _ _ d,bo (fun h=>d h.2)];rfl
 ·rw[ap,bo (fun h=>c h.1)];rfl
theorem Vg{line:List Int}{nr a:Int}{V:List bG}{C:List bq}{out:List Int}{st l:List bG}{o:bB}{nv:Nat}{nc:Int}(hnv:nv≤100000)(h:VmI nv nc V C out st)(hl:∀ v∈l,VG v)(hlen:(l.length:Int)=b8 o)
  (hc:o.Code=4∨o.Code=5∨o.Code=7∨o.Code=8∨o.Code=35) (hN:(o.Code=4∨o.Code=5)→0≤o.N∧o.N<nv) :
  lS line nr a (tz ⟨V,C,nr,0⟩ line out st 0 o l) (fV a V C out st o l):=by
 obtain⟨⟨hV,hVg⟩,hC,hO,hs,hsg⟩:=h
 have hV1:V.length≤100000:=by omega
 have hC1:C.length≤100000:=by have:=hC.1;omega
 have l0:=dd hl 0
 have l1:=dd hl 1
 rw[ET]
 dsimp only
 unfold fV
 rw[bo (c:=o.Code=3) (by omega)]
 by_cases c4:o.Code=4
 ·have hN:=hN (.inl c4)
  have hk:b8 o=1:=by unfold b8;simp[c4]
  rw[ak c4,bn c4,al,al,al,dX]
  exact eD line nr a _ C out st _ hs
 rw[aj c4,bo c4]
 by_cases c5:o.Code=5
 ·have hN:=hN (.inr c5)
  have hk:b8 o=1:=by unfold b8;simp[c5]
  obtain⟨q1,q2⟩:=GT (dd hVg o.N.toNat) l0 ⟨V,C,nr,0⟩ line out st
  rw[ak c5,bn c5,al,al]
  by_cases ce:(cO 0 (cK (V.getD o.N.toNat bV)) (cK (l.getD 0 bV))).2=0
  ·rw[q1 ce,aa,bn ce]
   unfold iT
   dsimp only
   rw[bn (by simp),al,dX]
   exact eD line nr a _ C out st _ hs
  ·obtain⟨v,q⟩:=q2 ce
   rw[q,aa,bo ce]
   unfold iT
   dsimp only
   rw[bo (by simp)]
   exact⟨by decide,_,_,_,rfl⟩
 rw[aj c5,bo c5,bo (c:=o.Code=6) (by omega)]
 by_cases c7:o.Code=7
 ·have hk:b8 o=2:=by unfold b8;simp[c7]
  rw[ak c7,bn c7,al,fD,aa]
  dsimp only
  rw[(i7 l0).1,aa,al,dX]
  exact G4 line nr a V C out st _ _ _ hs hV1 hC1
 rw[aj c7,bo c7]
 by_cases c8:o.Code=8
 ·have hk:b8 o=2:=by unfold b8;simp[c8]
  rw[ak c8,bn c8,al,fD,aa]
  dsimp only
  rw[(i7 l0).1,aa]
  dsimp only
  rw[(sR ⟨V,C,nr,0⟩ o.N _ hC1).1,aa,al]
  dsimp only
  obtain⟨q1,q2⟩:=GT (sQ hC o.N (fj (l.getD 0 bV))) l1 ⟨V,C,nr,0⟩ line out st
  by_cases ce:(cO 0 (cK (iW C o.N (fj (l.getD 0 bV)))) (cK (l.getD 1 bV))).2=0
  ·rw[q1 ce,aa,bn ce]
   unfold iT
   dsimp only
   rw[dX]
   exact G4 line nr a V C out st _ _ _ hs hV1 hC1
  ·obtain⟨v,q⟩:=q2 ce
   rw[q,aa,bo ce]
   unfold iT
   dsimp only
   rw[ER,bn (by simp)]
   exact⟨by decide,_,_,_,rfl⟩
 rw[aj c8,bo c8]
 have c35:o.Code=35:=by omega
 have hk:b8 o=1:=by unfold b8;simp[c35]
 rw[ak c35,al,fD,aa]
 dsimp only
 rw[(i7 l0).1,aa]
 dsimp only
 rw[(CO ⟨V,C,nr,0⟩ o.N _ hV1 hC1).1,aa]
 exact⟨rfl,rfl⟩
theorem RK{line:List Int}{nr a:Int}{V:List bG}{C:List bq}{out:List Int}{st l:List bG}{o:bB}{nv:Nat}{nc:Int}(h:VmI nv nc V C out st)(hl:∀ v∈l,VG v)(hlen:(l.length:Int)=b8 o)(hc:o.Code=33∨o.Code=34) :
  lS line nr a (tz ⟨V,C,nr,0⟩ line out st 0 o l) (jk a V C out st (if o.Code=33 then(if o.N=1 then [32]else [])++cw (l.getD 0 bV)else [10])):=by
 obtain⟨⟨hV,hVg⟩,hC,⟨hO,hO2⟩,hs,hsg⟩:=h
 have l0:=dd hl 0
 have t0:=(eT l0).1
 have fin:∀ (t:List Int) (e:Int),e=(if 600<(out++t).length then 5 else 0)→lS line nr a (some (iT ⟨V,C,nr,0⟩ line (out++t) st e,())) (jk a V C out st t):=fun t e he=>by
  unfold jk
  by_cases c:600<(out++t).length
  ·rw[bn c]at he ⊢;subst he;exact⟨by decide,_,_,_,rfl⟩
  ·rw[bo c]at he ⊢;subst he;exact⟨rfl,rfl⟩
 rw[ET,ap,ap,ap,ap,ap]
 by_cases c33:o.Code=33
 ·have hk:b8 o=1:=by unfold b8;simp[c33]
  rw[ak c33,bn c33]
  by_cases c1:o.N=1
  ·rw[ak c1,bn c1,vv _ _ _ _ _ _ (by simp;omega),aa,al,fD,aa]
   unfold iT
   dsimp only
   generalize cw (l.getD 0 bV)=t at *
   rw[vv _ _ _ _ _ _ (by rw[ag,bj];omega),aa,ah]
   refine fin _ _ ?_
   unfold iT
   dsimp only
   by_cases d:600<(out++[32]).length
   ·have h2:600<(out++([32]++t)).length:=by simp at d ⊢;omega
    have e1:(if 600<(out++[32]).length∧(0:Int)=0 then(5:Int)else 0)=5:=bn ⟨d,rfl⟩
    rw[e1,bn h2,bo (by simp)]
   ·have e1:(if 600<(out++[32]).length∧(0:Int)=0 then(5:Int)else 0)=0:=bo (fun h=>d h.1)
    rw[e1]
    simp
  ·rw[aj c1,bo c1,al,fD,aa,dX]
   dsimp only
   rw[vv _ _ _ _ _ _ (by omega),bg]
   exact fin _ _ (by simp)
 ·have c34:o.Code=34:=by omega
  rw[aj c33,bo c33,ak c34,dX,vv _ _ _ _ _ _ (by simp;omega)]
  exact fin _ _ (by simp)
theorem pN(b:Bool):mn b=some (ky b,()):=by
 rw[Oj]
 cases b with
 | true=>rw[bn rfl,gO];rfl
 | false=>rw[bo (by decide),gO];rfl
theorem Q3{line:List Int}{nr a:Int}{V:List bG}{C:List bq}{out:List Int}{st l:List bG}{o:bB}{nv:Nat}{nc:Int}(hL:jo line nr)(h:VmI nv nc V C out st)(hl:∀ v∈l,VG v)(hlen:(l.length:Int)=b8 o)(hO:1≤o.Code∧o.Code≤29)
  (hn:¬ (o.Code=4∨o.Code=5∨o.Code=7∨o.Code=8)) (hS:Bt o.S) (hSl:o.S.length≤2097152) (hN:o.Code=3→0≤o.N∧o.N<nv) (hcall:o.Code=29→(1≤o.N∧o.N≤3)∧o.S∈kw2) :
  lS line nr a (yj ⟨V,C,nr,0⟩ line out st 0 o l) (if o.Code=3∨o.Code=6 then fV a V C out st o l else if(dR line nr o l).1=0 then fe a V C out st (dR line nr o l).2 else .err (dR line nr o l).1):=by
 obtain⟨⟨hL1,hL2⟩,hL3⟩:=hL
 obtain⟨⟨hV,hVg⟩,hC,hO',hs,hsg⟩:=h
 have hC1:C.length≤100000:=by have:=hC.1;omega
 have hf:=p7 line
 have l0:=dd hl 0
 have l1:=dd hl 1
 rw[Pj]
 dsimp only
 by_cases c3:o.Code=3
 ·have hN:=hN c3
  rw[ap,ap,ak c3,bn (c:=o.Code=3∨o.Code=6) (.inl c3),al,dX]
  unfold fV
  rw[bn c3]
  exact eD line nr a V C out st _ hs
 by_cases c6:o.Code=6
 ·have hk:b8 o=1:=by unfold b8;simp[c6]
  rw[ap,ap,ap,ak c6,bn (c:=o.Code=3∨o.Code=6) (.inr c6),al,fD,aa]
  dsimp only
  rw[(i7 l0).1,aa]
  dsimp only
  rw[(sR ⟨V,C,nr,0⟩ o.N _ hC1).1,aa,dX]
  unfold fV
  rw[am,am,am,bn c6]
  exact eD line nr a V C out st _ hs
 rw[bo (c:=o.Code=3∨o.Code=6) (fun h=>h.elim c3 c6)]
 unfold dR
 by_cases c1:o.Code=1
 ·rw[ak c1,bn c1,gO,aa,bn rfl,dX]
  exact eD line nr a V C out st _ hs
 rw[aj c1,bo c1]
 by_cases c2:o.Code=2
 ·rw[ak c2,bn c2]
  dsimp only
  by_cases c:300<o.S.length
  ·rw[an,bn c,iX,aa,bo (by decide)]
   exact⟨by decide,_,_,_,rfl⟩
  ·rw[ap,bo c,bn rfl,kW,aa,dX]
   exact eD line nr a V C out st _ hs
 rw[aj c2,bo c2,aj c3,aj c6]
 by_cases c9:o.Code=9
 ·have hk:b8 o=1:=by unfold b8;simp[c9]
  rw[ak c9,bn c9,al,(pi l0).1,aa]
  dsimp only
  rw[(CW (by omega) hL2 _).1,aa,dX,bn rfl]
  exact eD line nr a V C out st _ hs
 rw[aj c9,bo c9]
 by_cases c10:o.Code=10
 ·rw[ak c10,bn c10,aq,gO,aa,bn rfl,dX]
  exact eD line nr a V C out st _ hs
 rw[aj c10,bo c10]
 by_cases c11:o.Code=11
 ·rw[ak c11,bn c11,Eo line (by omega),aa]
  dsimp only
  rw[zg,aq,gO,aa,bn rfl,dX]
  exact eD line nr a V C out st _ hs
 rw[aj c11,bo c11]
 by_cases c24:o.Code=24
 ·have hk:b8 o=1:=by unfold b8;simp[c24]
  have t0:=(eT l0).1
  rw[ak c24,bo (c:=o.Code=17) (by omega),bn c24,al,fD,aa]
  dsimp only
  rw[(sM o.S _ hS (by omega) (by omega)).1,aa,pN,aa,bn rfl,dX]
  exact eD line nr a V C out st _ hs
 rw[aj c24]
 by_cases c25:o.Code=25
 ·rw[ak c25,bo (c:=o.Code=17) (by omega),bo c24,bn c25,(sM o.S line hS (by omega) (by omega)).1,aa,pN,aa,bn rfl,dX]
  exact eD line nr a V C out st _ hs
 rw[aj c25]
 by_cases c26:o.Code=26
 ·have hk:b8 o=1:=by unfold b8;simp[c26]
  rw[ak c26,bo (c:=o.Code=17) (by omega),bo c24,bo c25,bn c26,al,(ph _).1,aa,pN,aa,bn rfl,dX]
  exact eD line nr a V C out st _ hs
 rw[aj c26]
 by_cases c27:o.Code=27
 ·have hk:b8 o=1:=by unfold b8;simp[c27]
  obtain⟨n1,n2,n3⟩:=dD l0
  unfold Dc at n3
  rw[ak c27,bo (c:=o.Code=17) (by omega),bo c24,bo c25,bo c26,bn c27,al,n1,aa]
  dsimp only
  rw[aq,gO,aa,bn rfl,dX]
  exact eD line nr a V C out st _ hs
 rw[aj c27]
 by_cases c28:o.Code=28
 ·have hk:b8 o=1:=by unfold b8;simp[c28]
  rw[ak c28,bo (c:=o.Code=17) (by omega),bo c24,bo c25,bo c26,bo c27,bn c28,al,(ph _).1,aa,pN,aa,bn rfl,dX]
  exact eD line nr a V C out st _ hs
 rw[aj c28]
 by_cases c29:o.Code=29
 ·have hk:b8 o=o.N:=by unfold b8;simp[c29]
  obtain⟨hn1,hn2⟩:=hcall c29
  rw[ak c29,bo (c:=o.Code=17) (by omega),bo c24,bo c25,bo c26,bo c27,bo c28,bn c29,Om hl (by omega) (by omega),aa,bn rfl,dX]
  exact eD line nr a V C out st _ hs
 rw[aj c29,bo c24,bo c25,bo c26,bo c27,bo c28,bo c29]
 have hk:b8 o=2:=by
  have hr:12≤o.Code∧o.Code≤23:=by omega
  unfold b8
  rw[am,am,bo c29,bn hr]
 rw[al,al,aq (n:=o.Code-12),aq,OX,eL,aa]
 dsimp only
 by_cases c17:o.Code=17
 ·have t0:=(eT l0).1
  have t1:=(eT l1).1
  rw[ap,an,bn c17,fD,fD,aa,aa]
  dsimp only
  rw[al]
  by_cases c:300<(cw (l.getD 0 bV)++cw (l.getD 1 bV)).length
  ·rw[an,bn c,aa,bo (c:=(3:Int)=0) (by decide)]
   dsimp only
   rw[bn (by decide),iX,aa]
   exact⟨by decide,_,_,_,rfl⟩
  ·rw[ap,bo c,kW,aa,aa,bn (c:=(0:Int)=0) rfl]
   dsimp only
   rw[bo (by simp),dX]
   exact eD line nr a V C out st _ hs
 rw[bo c17]
 by_cases c16:o.Code≤16
 ·obtain⟨n1,n2,n3⟩:=dD l0
  obtain⟨m1,m2,m3⟩:=dD l1
  rw[an,bn c16,n1,aa,m1,aa]
  dsimp only
  rw[(ua (op:=o.Code-12) n3 m3).1,aa,gO,aa,aa]
  dsimp only
  by_cases ce:(cO (o.Code-12) (cK (l.getD 0 bV)) (cK (l.getD 1 bV))).2=0
  ·rw[bn ce,ac ce,bo (by decide),dX]
   exact eD line nr a V C out st _ hs
  ·rw[bo ce,ae ce,bn (by decide),iX,aa]
   exact⟨ce,_,_,_,rfl⟩
 ·have hcmp:=(Cu l0 l1).1
  rw[ap,ap,bo c16,hcmp,aa]
  dsimp only
  have hord:xR (o.Code-12+9) (fS (l.getD 0 bV) (l.getD 1 bV))=some (zC (o.Code-18) (fS (l.getD 0 bV) (l.getD 1 bV)),()):=by
   have h6:o.Code=18∨o.Code=19∨o.Code=20∨o.Code=21∨o.Code=22∨o.Code=23:=by omega
   rw[Ow]
   rcases h6 with e | e | e | e | e | e <;> (rw[e];rfl)
  rw[hord,aa,pN,aa,aa,bn (c:=(0:Int)=0) rfl]
  dsimp only
  rw[bo (by simp),dX]
  exact eD line nr a V C out st _ hs
inductive Fin
 | err (e:Int)
 | fin (V:List bG) (C:List bq) (out:List Int)
noncomputable def mK(ops:List bB)(line:List Int)(nr:Int):Nat→Int→List bG→List bq→List Int→List bG→Fin
 | 0,_,_,_,_,_=>.err 6
 | n+1,a,V,C,out,st=>match j7 line nr (ops.getD a.toNat cH) a V C out st with
  | .err e=>.err e
  | .stop=>.fin V C out
  | .go a' V' C' out' st'=>mK ops line nr n a' V' C' out' st'
def OpsI(ops:List bB)(nv:Nat)(nc:Int):Prop:=gv ops nv nc=true∧lP ops
theorem OpsI.get{ops:List bB}{nv:Nat}{nc:Int}(h:OpsI ops nv nc){i:Nat}(hi:i<ops.length) :
  opB ops[i] ops.length nv nc=true∧Bt ops[i].S∧ops[i].S.length≤2097152∧(ops[i].Code≠36→i+1<ops.length)∧ops.length≤1500:=by
 obtain⟨h1,h2⟩:=h
 unfold gv at h1
 rw[az,az,ab,ab,Bool.not_eq_true',List.any_eq_false]at h1
 obtain⟨h3,h4,h5⟩:=h1
 have h6:=h5 _ (aV hi)
 obtain⟨h7,h8⟩:=h2.2 _ (aV hi)
 refine⟨by simpa using h6,h7,h8,fun hc=>?_,by omega⟩
 rcases Nat.lt_or_ge (i+1) ops.length with h | h
 ·exact h
 ·have e:ops.length-1=i:=by omega
  rw[e,cF hi]at h4
  exact absurd h4 hc
theorem Vr{o:bB}(h:1≤o.Code∧o.Code≤36):AD o=some (b8 o,()):=by
 rw[Uf]
 simp only[Ue,dN,aa]
 unfold b8
 by_cases hr:12≤o.Code∧o.Code≤23
 ·have n:∀ k:Int,(k<12∨23<k)→¬ o.Code=k:=fun k h1 h2=>by omega
  simp[n,hr.1,hr.2]
 ·have ee:o.Code=1∨o.Code=2∨o.Code=3∨o.Code=4∨o.Code=5∨o.Code=6∨o.Code=7∨o.Code=8∨o.Code=9∨o.Code=10∨o.Code=11∨o.Code=24∨o.Code=25∨o.Code=26∨o.Code=27∨o.Code=28∨o.Code=29∨o.Code=30∨o.Code=31∨o.Code=32∨o.Code=33∨o.Code=34∨o.Code=35∨o.Code=36:=by omega
  rcases ee with e | e | e | e | e | e | e | e | e | e | e | e | e | e | e | e | e | e | e | e | e | e | e | e <;> simp[e]
theorem Vp{o:bB}(h:1≤o.Code∧o.Code≤36):yn o=some (b8 o,()):=by
 rw[Pr]
 simp only[Pp,Pq]
 unfold b8
 by_cases hr:12≤o.Code∧o.Code≤23
 ·have n:∀ k:Int,(k<12∨23<k)→¬ o.Code=k:=fun k h1 h2=>by omega
  simp[n,hr.1,hr.2]
 ·have ee:o.Code=1∨o.Code=2∨o.Code=3∨o.Code=4∨o.Code=5∨o.Code=6∨o.Code=7∨o.Code=8∨o.Code=9∨o.Code=10∨o.Code=11∨o.Code=24∨o.Code=25∨o.Code=26∨o.Code=27∨o.Code=28∨o.Code=29∨o.Code=30∨o.Code=31∨o.Code=32∨o.Code=33∨o.Code=34∨o.Code=35∨o.Code=36:=by omega
  rcases ee with e | e | e | e | e | e | e | e | e | e | e | e | e | e | e | e | e | e | e | e | e | e | e | e <;> simp[e]
def wz(line:List Int)(nr a:Int)(V:List bG)(C:List bq)(out:List Int)(x:Option (Int×Bool×bR×WT×Unit)):R→Prop
 | .err e=>e≠0∧∃ p b z s o,x=some (p,b,z,wT s line o,())∧s.Err=e
 | .stop=>∃ z,x=some (a,false,z,wT ⟨V,C,nr,0⟩ line out,())
 | .go b V' C' out' st=>x=some (b,true,⟨(),st⟩,wT ⟨V',C',nr,0⟩ line out',())
theorem IY{line:List Int}{nr a:Int}{V:List bG}{C:List bq}{out:List Int}{x:Option (bR×WT×Unit)}{r:R}(ha:w64 (a+1)=a+1)(h:lW line nr (a+1) x r) :
  wz line nr a V C out (x.bind fun(r0:bR×(bF×((List (List Int))×((List (List Int))×((List Int)×((List (List Int))×((List Int)×(Int×(Bool×Unit))))))))×Unit) =>
   j1 a r0.1.l r0.1.stack r0.2.1.1 r0.2.1.2.1 r0.2.1.2.2.1 r0.2.1.2.2.2.1 r0.2.1.2.2.2.2.1 r0.2.1.2.2.2.2.2.1 r0.2.1.2.2.2.2.2.2.1 r0.2.1.2.2.2.2.2.2.2.1) r:=by
 cases r with
 | err e =>
  obtain⟨h1,z,s,o,rfl,h2⟩:=h
  rw[aa,gY]
  exact⟨h1,_,_,_,_,_,rfl,h2⟩
 | stop=>exact h.elim
 | go b V' C' out' st =>
  obtain⟨rfl,rfl⟩:=h
  rw[aa,gY,ha]
  rfl
theorem CN{α:Type}(st:List α)(K:Nat)(hK:K≤st.length):List.append [] (List.take (st.length-(K:Int).toNat) (List.drop (K:Int).toNat st))=st.drop K:=by
 rw[af,a8 (by rw[aQ];exact aG _)];rfl
theorem rE(s:bF)(line out t:List Int)(h:out.length+t.length≤1000000):oZ s [] [] line (dj line) out 0 false t =
  if 600<(out++t).length then(if s.Err=0 then some (wT ⟨s.Vars,s.Cells,s.Nr,5⟩ line out,())else some (wT s line out,()))else some (wT s line (out++t),()):=by
 rw[T1,aq]
 by_cases c:600<(out++t).length
 ·have c':=c
  rw[ag]at c'
  rw[an,bn c,HV]
  by_cases d:s.Err=0
  ·rw[ak d,bn d];rfl
  ·rw[aj d,bo d];rfl
 ·have c':=c
  rw[ag]at c'
  rw[ap,bo c,al];rfl
theorem Vf{line:List Int}{nr a:Int}{V:List bG}{C:List bq}{out:List Int}{st:List bG}{o:bB}{nv:Nat}{nc n:Int}(hnv:nv≤100000)(ha:0≤a∧a<2000)(hL:jo line nr)(h:VmI nv nc V C out st)(ho:opB o n nv nc=true)(hS:Bt o.S)(hSl:o.S.length≤2097152) :
  wz line nr a V C out (uQ ⟨(),st⟩ ⟨V,C,nr,0⟩ [] [] line (dj line) out 0 false o a) (j7 line nr o a V C out st):=by
 have hcode:=GA ho
 obtain⟨k1,k2⟩:=A7 ho
 obtain⟨o1,o2,o3,o4,o5,o6⟩:=zA ho
 have hst:=h.2.2.2.1
 have hw1:w64 (a+1)=a+1:=aq
 rw[Ud,Vr hcode,aa]
 dsimp only
 unfold j7
 have hw:w64 ((st.length:Int)-b8 o)=(st.length:Int)-b8 o:=aq
 rw[hw]
 by_cases c:(st.length:Int)<b8 o
 ·rw[bn c,an,j0,aa]
  exact⟨by decide,_,_,_,_,_,rfl,rfl⟩
 ·have hK:(st.length:Int)-b8 o=((st.length-(b8 o).toNat:Nat):Int):=by omega
  have hKl:st.length-(b8 o).toNat≤st.length:=Nat.sub_le _ _
  rw[bo c,hK,ap,al,bn (by rw[ch,aP];omega),al,CN _ _ hKl,af]
  have hlen:((st.drop (st.length-(b8 o).toNat)).length:Int)=b8 o:=by rw[aQ];omega
  have hl:∀ v∈st.drop (st.length-(b8 o).toNat),VG v:=fun v hv=>h.2.2.2.2 v (List.mem_of_mem_drop hv)
  have h':VmI nv nc V C out (st.take (st.length-(b8 o).toNat)):=⟨h.1,h.2.1,h.2.2.1,by rw[aP];omega,fun v hv=>h.2.2.2.2 v (List.mem_of_mem_take hv)⟩
  generalize st.drop (st.length-(b8 o).toNat)=l at *
  generalize st.take (st.length-(b8 o).toNat)=rest at *
  have hrs:=h'.2.2.2.1
  have hout:=h'.2.2.1.1
  have l0:=dd hl 0
  have t0:=(eT l0).1
  unfold doR
  by_cases c36:o.Code=36
  ·rw[ak c36,bn c36];exact⟨_,rfl⟩
  rw[aj c36,bo c36]
  by_cases c30:o.Code=30
  ·rw[ak c30,bn c30];rfl
  rw[aj c30,bo c30]
  by_cases c31:o.Code=31
  ·have hk:b8 o=1:=by unfold b8;simp[c31]
   rw[ak c31,bn c31,al,(ph _).2,aa]
   dsimp only
   cases lH (l.getD 0 bV) with
   | true=>rw[bo (by decide),bn rfl,gY,hw1];rfl
   | false=>rw[bn (by decide),bo (by decide)];rfl
  rw[aj c31,bo c31]
  by_cases c32:o.Code=32
  ·rw[ak c32,bn c32,gY,hw1];rfl
  rw[aj c32,bo c32]
  by_cases c33:o.Code=33
  ·have hk:b8 o=1:=by unfold b8;simp[c33]
   rw[ak c33,bn c33]
   unfold jk
   by_cases cN:o.N=1
   ·rw[ak cN,bn cN,rE _ _ _ _ (by simp;omega)]
    by_cases d:600<(out++[32]).length
    ·have d2:600<(out++([32]++cw (l.getD 0 bV))).length:=by
      rw[ag,ag];rw[ag]at d;omega
     rw[bn d,bn (c:=_=(0:Int)) rfl,aa,al,fM,aa,bn d2]
     unfold wT
     dsimp only
     rw[rE _ _ _ _ (by omega)]
     by_cases d3:600<(out++cw (l.getD 0 bV)).length
     ·rw[bn d3,bo (by simp),aa,gY]
      exact⟨by decide,_,_,_,_,_,rfl,rfl⟩
     ·rw[bo d3,aa,gY]
      exact⟨by decide,_,_,_,_,_,rfl,rfl⟩
    ·rw[bo d,aa,al,fM,aa]
     unfold wT
     dsimp only
     rw[rE _ _ _ _ (by rw[ag,bj];omega),ah]
     by_cases d2:600<(out++([32]++cw (l.getD 0 bV))).length
     ·rw[bn d2,bn d2,bn (c:=_=(0:Int)) rfl,aa,gY]
      exact⟨by decide,_,_,_,_,_,rfl,rfl⟩
     ·rw[bo d2,bo d2,aa,gY,hw1];rfl
   ·rw[aj cN,bo cN,al,fM,aa,bg]
    dsimp only
    rw[rE _ _ _ _ (by omega)]
    by_cases d2:600<(out++cw (l.getD 0 bV)).length
    ·rw[bn d2,bn d2,bn (c:=_=(0:Int)) rfl,aa,gY]
     exact⟨by decide,_,_,_,_,_,rfl,rfl⟩
    ·rw[bo d2,bo d2,aa,gY,hw1];rfl
  rw[aj c33,bo c33]
  by_cases c34:o.Code=34
  ·rw[ak c34,bn c34,rE _ _ _ _ (by simp;omega)]
   unfold jk
   by_cases d2:600<(out++[10]).length
   ·rw[bn d2,bn d2,bn (c:=_=(0:Int)) rfl,aa,gY]
    exact⟨by decide,_,_,_,_,_,rfl,rfl⟩
   ·rw[bo d2,bo d2,aa,gY,hw1];rfl
  rw[aj c34,bo c34]
  have named:(o.Code=3∨o.Code=4∨o.Code=5∨o.Code=6∨o.Code=7∨o.Code=8∨o.Code=35)→wz line nr a V C out (j2 a l true ⟨(),rest⟩ (bQ.mk ⟨V,C,nr,0⟩ [] [] line (dj line) out 0 false) o) (fV (a+1) V C out rest o l):=fun hc=>by
   rw[H4,bn rfl]
   exact IY hw1 (Rm hnv h' hl hlen hc o2)
  by_cases c3:o.Code=3
  ·rw[ak c3,bn (.inl c3),ac c3];exact named (.inl c3)
  rw[aj c3]
  by_cases c4:o.Code=4
  ·rw[ak c4,bn (.inr (.inl c4)),ac c4];exact named (.inr (.inl c4))
  rw[aj c4]
  by_cases c5:o.Code=5
  ·rw[ak c5,bn (.inr (.inr (.inl c5))),ac c5];exact named (.inr (.inr (.inl c5)))
  rw[aj c5]
  by_cases c6:o.Code=6
  ·rw[ak c6,bn (.inr (.inr (.inr (.inl c6)))),ac c6];exact named (.inr (.inr (.inr (.inl c6))))
  rw[aj c6]
  by_cases c7:o.Code=7
  ·rw[ak c7,bn (.inr (.inr (.inr (.inr (.inl c7))))),ac c7];exact named (.inr (.inr (.inr (.inr (.inl c7)))))
  rw[aj c7]
  by_cases c8:o.Code=8
  ·rw[ak c8,bn (.inr (.inr (.inr (.inr (.inr (.inl c8)))))),ac c8];exact named (.inr (.inr (.inr (.inr (.inr (.inl c8))))))
  rw[aj c8]
  by_cases c35:o.Code=35
  ·rw[bn (.inr (.inr (.inr (.inr (.inr (.inr c35)))))),ac c35];exact named (.inr (.inr (.inr (.inr (.inr (.inr c35))))))
  have hno:¬ (o.Code=3∨o.Code=4∨o.Code=5∨o.Code=6∨o.Code=7∨o.Code=8∨o.Code=35):=by omega
  rw[ae c35,bo hno,H4,bo (by decide)]
  exact IY hw1 (VC hL hrs hl hlen (by omega) hno hS hSl o4)
theorem Pf{ops:List bB}{a t:Int}(s:bF)(line out:List Int)(st:List bG){e:Int}(he:e≠0):kT ops a t s line out st e=some (iT s line out st e,()):=by
 rw[yk,aj he];rfl
def sk(ops:List bB)(line:List Int)(nr t:Int)(V:List bG)(C:List bq)(out:List Int)(x:Option (IT×Unit)):R→Prop
 | .err e=>e≠0∧∃ s o u,x=some (iT s line o u e,())
 | .stop=>∃ u,x=some (iT ⟨V,C,nr,0⟩ line out u 0,())
 | .go b V' C' out' st=>x=kT ops b (t+1) ⟨V',C',nr,0⟩ line out' st 0
theorem yw{ops:List bB}{line:List Int}{nr a t:Int}{V:List bG}{C:List bq}{out:List Int}{x:Option (IT×Unit)}{r:R}(ht:w64 (t+1)=t+1)(h:lS line nr a x r) :
  sk ops line nr t V C out (x.bind fun(r0:(bF×((List Int)×((List Int)×((List bG)×(Int×Unit)))))×Unit)=>kU ops a t r0.1.1 r0.1.2.1 r0.1.2.2.1 r0.1.2.2.2.1 r0.1.2.2.2.2.1) r:=by
 cases r with
 | err e =>
  obtain⟨h1,s,o,u,rfl⟩:=h
  rw[aa,nW]
  exact⟨h1,_,_,_,Pf _ _ _ _ h1⟩
 | stop=>exact h.elim
 | go b V' C' out' st =>
  obtain⟨rfl,rfl⟩:=h
  rw[aa,nW,ht]
  rfl
theorem PQ{ops:List bB}{line:List Int}{nr t:Int}{V:List bG}{C:List bq}{out:List Int}{st:List bG}{nv:Nat}{nc:Int}(hnv:nv≤100000)(hops:OpsI ops nv nc)(i:Nat)(hi:i<ops.length)(ht:1≤t∧t≤20000)(hL:jo line nr)(h:VmI nv nc V C out st) :
  sk ops line nr t V C out (kT ops (i:Int) t ⟨V,C,nr,0⟩ line out st 0) (j7 line nr ops[i] (i:Int) V C out st):=by
 obtain⟨ho,hS,hSl,hlast,hlen⟩:=hops.get hi
 have hcode:=GA ho
 obtain⟨k1,k2⟩:=A7 ho
 obtain⟨o1,o2,o3,o4,o5,o6⟩:=zA ho
 have hst:=h.2.2.2.1
 have hw1:w64 ((i:Int)+1)=(i:Int)+1:=aq
 have hwt:w64 (t+1)=t+1:=aq
 rw[yk,bn (by simp),ap,al,ck hi]
 generalize ops[i]=o at *
 rw[Vp hcode,aa,Pl]
 dsimp only
 unfold j7
 have hw:w64 ((st.length:Int)-b8 o)=(st.length:Int)-b8 o:=aq
 rw[hw]
 by_cases c:(st.length:Int)<b8 o
 ·rw[bn c,an,iX,aa,bn ⟨by omega,by omega,by rw[ch];omega⟩,aa]
  unfold iT
  dsimp only
  rw[bn (by simp)]
  exact⟨by decide,_,_,_,rfl⟩
 ·have hK:(st.length:Int)-b8 o=((st.length-(b8 o).toNat:Nat):Int):=by omega
  have hKl:st.length-(b8 o).toNat≤st.length:=Nat.sub_le _ _
  rw[bo c,hK,ap,al,bn (by rw[ch,aP];omega),al,CN _ _ hKl,af,aa]
  have hlen:((st.drop (st.length-(b8 o).toNat)).length:Int)=b8 o:=by rw[aQ];omega
  have hl:∀ v∈st.drop (st.length-(b8 o).toNat),VG v:=fun v hv=>h.2.2.2.2 v (List.mem_of_mem_drop hv)
  have h':VmI nv nc V C out (st.take (st.length-(b8 o).toNat)):=⟨h.1,h.2.1,h.2.2.1,by rw[aP];omega,fun v hv=>h.2.2.2.2 v (List.mem_of_mem_take hv)⟩
  generalize st.drop (st.length-(b8 o).toNat)=l at *
  generalize st.take (st.length-(b8 o).toNat)=rest at *
  dsimp only
  rw[bo (by simp)]
  unfold doR
  by_cases c36:o.Code=36
  ·rw[ak c36,bn c36];exact⟨_,rfl⟩
  rw[aj c36,bo c36]
  by_cases c30:o.Code=30
  ·rw[ak c30,bn c30,nW,hwt];rfl
  rw[aj c30,bo c30]
  by_cases c31:o.Code=31
  ·have hk:b8 o=1:=by unfold b8;simp[c31]
   rw[ak c31,bn c31,al,(ph _).1,aa]
   dsimp only
   cases lH (l.getD 0 bV) with
   | true=>rw[bo (by decide),bn rfl,nW,hwt,hw1];rfl
   | false=>rw[bn (by decide),bo (by decide),nW,hwt];rfl
  rw[aj c31,bo c31]
  by_cases c32:o.Code=32
  ·rw[ak c32,bn c32,nW,hwt,hw1];rfl
  rw[aj c32,bo c32]
  have store:(o.Code=4∨o.Code=5∨o.Code=7∨o.Code=8∨o.Code=35)→sk ops line nr t V C out (iZ ops (w64 ((i:Int)+1)) t l true (bI.mk ⟨V,C,nr,0⟩ line out rest 0) o) (fV ((i:Int)+1) V C out rest o l):=fun hc=>by
   rw[yl,bn rfl,hw1]
   exact yw hwt (Vg hnv h' hl hlen hc (fun e=>o2 (.inr e)))
  have outp:∀ b,b=true→(o.Code=33∨o.Code=34)→sk ops line nr t V C out (iZ ops (w64 ((i:Int)+1)) t l b (bI.mk ⟨V,C,nr,0⟩ line out rest 0) o) (jk ((i:Int)+1) V C out rest (if o.Code=33 then(if o.N=1 then [32]else [])++cw (l.getD 0 bV)else [10])):=fun b hb hc=>by
   rw[yl,bn hb,hw1]
   exact yw hwt (RK h' hl hlen hc)
  by_cases c4:o.Code=4
  ·rw[ak c4,am,am,bn (.inr (.inl c4)),ac c4];exact store (.inl c4)
  rw[aj c4]
  by_cases c5:o.Code=5
  ·rw[ak c5,am,am,bn (.inr (.inr (.inl c5))),ac c5];exact store (.inr (.inl c5))
  rw[aj c5]
  by_cases c7:o.Code=7
  ·rw[ak c7,am,am,bn (.inr (.inr (.inr (.inr (.inl c7))))),ac c7];exact store (.inr (.inr (.inl c7)))
  rw[aj c7]
  by_cases c8:o.Code=8
  ·rw[ak c8,am,am,bn (.inr (.inr (.inr (.inr (.inr (.inl c8)))))),ac c8];exact store (.inr (.inr (.inr (.inl c8))))
  rw[aj c8]
  by_cases c35:o.Code=35
  ·rw[ak c35,am,am,bn (.inr (.inr (.inr (.inr (.inr (.inr c35)))))),ac c35];exact store (.inr (.inr (.inr (.inr c35))))
  rw[aj c35]
  by_cases c33:o.Code=33
  ·have:=outp _ (ac c33) (.inl c33)
   rw[bn c33]at this
   rw[ak c33,bn c33];exact this
  rw[aj c33,bo c33]
  by_cases c34:o.Code=34
  ·have:=outp _ (ac c34) (.inr c34)
   rw[bo c33]at this
   rw[bn c34];exact this
  rw[bo c34,yl,aj c34,hw1]
  have hl1:=yw (ops:=ops) (V:=V) (C:=C) (out:=out) hwt (Q3 (a:=(i:Int)+1) hL h' hl hlen (by omega) (by omega) hS hSl (fun e=>o2 (.inl e)) o4)
  have hr:(if o.Code=3∨o.Code=6 then fV ((i:Int)+1) V C out rest o l else if(dR line nr o l).1=0 then fe ((i:Int)+1) V C out rest (dR line nr o l).2 else .err (dR line nr o l).1) =
    (if o.Code=3∨o.Code=4∨o.Code=5∨o.Code=6∨o.Code=7∨o.Code=8∨o.Code=35 then fV ((i:Int)+1) V C out rest o l else if(dR line nr o l).1=0 then fe ((i:Int)+1) V C out rest (dR line nr o l).2 else .err (dR line nr o l).1):=by
   by_cases c36':o.Code=3∨o.Code=6
   ·rw[bn c36',al]
   ·rw[bo c36',bo (c:=o.Code=3∨o.Code=4∨o.Code=5∨o.Code=6∨o.Code=7∨o.Code=8∨o.Code=35) (by omega)]
  rw[← hr]
  exact hl1
def FRelI(nv:Nat)(nc:Int)(line:List Int)(nr:Int)(x:Option (IT×Unit)):Fin→Prop
 | .err e=>(1≤e∧e≤7)∧∃ s o u,x=some (iT s line o u e,())
 | .fin V C out=>(∃ u,x=some (iT ⟨V,C,nr,0⟩ line out u 0,()))∧VmI nv nc V C out []
def BJ(line:List Int)(nr:Int)(x:Option (WT×Unit)):Fin→Prop
 | .err e=>∃ s o,x=some (wT s line o,())∧s.Err=e
 | .fin V C out=>x=some (wT ⟨V,C,nr,0⟩ line out,())
theorem SF{ops:List bB}{line:List Int}{nr:Int}{nv:Nat}{nc:Int}(hnv:nv≤100000)(hops:OpsI ops nv nc)(hL:jo line nr):∀ (n:Nat) (a:Int) (V:List bG) (C:List bq) (out:List Int) (st:List bG),n≤20000→0≤a∧a<(ops.length:Int)→VmI nv nc V C out st →
  FRelI nv nc line nr (kT ops a ((20001-n:Nat):Int) ⟨V,C,nr,0⟩ line out st 0) (mK ops line nr n a V C out st):=by
 intro n
 induction n with
 | zero =>
  intro a V C out st hn ha h
  rw[yk,bn (by simp),bn (by decide),iX,aa]
  exact⟨⟨by decide,by decide⟩,_,_,_,rfl⟩
 | succ n ih =>
  intro a V C out st hn ha h
  obtain⟨i,rfl⟩:=Int.eq_ofNat_of_zero_le ha.1
  have hi:i<ops.length:=by omega
  obtain⟨ho,hS,hSl,hlast,hlen⟩:=hops.get hi
  have h1:=PQ hnv hops i hi (t:=((20001-(n+1):Nat):Int)) (by omega) hL h
  have h2:=I0 (line:=line) (nr:=nr) (n:=(ops.length:Int)) (a:=(i:Int)) (o:=ops[i]) (by omega) (by omega) (fun hc=>by have:=hlast hc;omega) hL h ho hS
  unfold mK
  rw[af,cF hi]
  revert h1 h2
  cases j7 line nr ops[i] (i:Int) V C out st with
  | err e=>intro h1 h2;exact⟨h2,h1.2⟩
  | stop=>intro h1 h2;exact⟨h1,h.1,h.2.1,h.2.2.1,by simp,fun v hv=>by cases hv⟩
  | go b V' C' out' st' =>
   intro h1 h2
   have h3:=ih b V' C' out' st' (by omega) h2.1 h2.2
   have e:((20001-(n+1):Nat):Int)+1=((20001-n:Nat):Int):=by omega
   rw[← e]at h3
   have h4:kT ops (i:Int) ((20001-(n+1):Nat):Int) ⟨V,C,nr,0⟩ line out st 0=_:=h1
   rw[h4]
   exact h3
theorem SI{ops:List bB}{line:List Int}{nr:Int}{nv:Nat}{nc:Int}(hnv:nv≤100000)(hops:OpsI ops nv nc)(hL:jo line nr):∀ (n:Nat) (a:Int) (V:List bG) (C:List bq) (out:List Int) (st:List bG),n≤20000→0≤a∧a<(ops.length:Int)→VmI nv nc V C out st →
  BJ line nr (rl ops a ((20000-n:Nat):Int) (bQ.mk ⟨V,C,nr,0⟩ [] [] line (dj line) out 0 false) ⟨(),st⟩) (mK ops line nr n a V C out st):=by
 have stopE:∀ (a t:Int) (s:bF) (o:List Int) (z:bR) (e:Int),s.Err=e→e≠0→∃ s' o',rl ops a t (bQ.mk s [] [] line (dj line) o 0 false) z=some (wT s' line o',())∧s'.Err=e:=fun a t s o z e h1 h2=>by
  rw[uP,aj (by dsimp only;rw[h1];exact h2)]
  exact⟨_,_,rfl,h1⟩
 intro n
 induction n with
 | zero =>
  intro a V C out st hn ha h
  rw[uP,bn (by simp),bn (by decide),j0,aa]
  exact⟨_,_,rfl,rfl⟩
 | succ n ih =>
  intro a V C out st hn ha h
  obtain⟨i,rfl⟩:=Int.eq_ofNat_of_zero_le ha.1
  have hi:i<ops.length:=by omega
  obtain⟨ho,hS,hSl,hlast,hlen⟩:=hops.get hi
  have h1:=Vf (line:=line) (nr:=nr) (a:=(i:Int)) (o:=ops[i]) hnv (by omega) hL h ho hS hSl
  have h2:=I0 (line:=line) (nr:=nr) (n:=(ops.length:Int)) (a:=(i:Int)) (o:=ops[i]) (by omega) (by omega) (fun hc=>by have:=hlast hc;omega) hL h ho hS
  unfold mK
  rw[af,cF hi,uP,bn (by simp),ap,al,ck hi,aq]
  revert h1 h2
  cases j7 line nr ops[i] (i:Int) V C out st with
  | err e =>
   intro h1 h2
   obtain⟨g1,p,b,z,s,o,g2,g3⟩:=h1
   rw[g2,aa]
   dsimp only
   cases b with
   | true=>rw[bo (by decide)];exact stopE _ _ s o z e g3 g1
   | false=>rw[bn (by decide)];exact⟨_,_,rfl,g3⟩
  | stop =>
   intro h1 h2
   obtain⟨z,g2⟩:=h1
   rw[g2,aa]
   rfl
  | go b V' C' out' st' =>
   intro h1 h2
   have h3:=ih b V' C' out' st' (by omega) h2.1 h2.2
   have e:((20000-(n+1):Nat):Int)+1=((20000-n:Nat):Int):=by omega
   rw[← e]at h3
   have h4:uQ ⟨(),st⟩ ⟨V,C,nr,0⟩ [] [] line (dj line) out 0 false ops[i] (i:Int)=_:=h1
   rw[h4,aa]
   dsimp only
   rw[bo (by decide)]
   exact h3
def StI(nv:Nat)(nc:Int)(s:bF):Prop:=(s.Vars.length=nv∧∀ v∈s.Vars,VG v)∧CG nc s.Cells∧(0≤s.Nr∧s.Nr≤1000000)∧s.Err=0
def StG(nv:Nat)(nc:Int)(s:bF):Prop:=(s.Vars.length=nv∧∀ v∈s.Vars,VG v)∧CG nc s.Cells∧(0≤s.Nr∧s.Nr≤1000000)∧0≤s.Err∧s.Err≤7
theorem StI.g{nv:Nat}{nc:Int}{s:bF}(h:StI nv nc s):StG nv nc s:=⟨h.1,h.2.1,h.2.2.1,by have:=h.2.2.2;omega⟩
theorem StG.i{nv:Nat}{nc:Int}{s:bF}(h:StG nv nc s)(he:s.Err=0):StI nv nc s:=⟨h.1,h.2.1,h.2.2.1,he⟩
theorem StG.of{nv:Nat}{nc:Int}{s:bF}(h:eS s nv nc=true)(hb:fg s):StG nv nc s:=by
 unfold eS at h
 rw[az,az,az,az,az,ab,Bool.not_eq_true',List.any_eq_false,ab,ab,ab,Bool.not_eq_true']at h
 obtain⟨h1,h2,h3,h4,h5,h6⟩:=h
 have hbad:∀ i (hi:i<s.Cells.length),(0≤s.Cells[i].Name∧s.Cells[i].Name<nc∧s.Cells[i].Key.length≤300∧dQ s.Cells[i].Val=true)∧(0<i→dl (s.Cells[i-1]'(by omega)) s.Cells[i]=true):=fun i hi=>by
  have:=anyB_false.1 h6 i hi
  unfold iU at this
  rw[cF hi,cF (show i-1<s.Cells.length by omega)]at this
  simp only[Bool.or_eq_false_iff,decide_eq_false_iff_not,Bool.not_eq_false',Bool.and_eq_false_iff]at this
  obtain⟨g1,g2,g3,g4,g5⟩:=this
  refine⟨⟨by omega,by omega,by omega,g4⟩,fun h0=>?_⟩
  rcases g5 with g5 | g5
  ·omega
  ·exact g5
 refine⟨⟨by omega,fun v hv=>⟨by simpa using h2 v hv,hb.1.2 v hv⟩⟩,⟨by omega,fun c hc=>?_,?_⟩,h4,h5⟩
 ·obtain⟨i,hi,rfl⟩:=bk.1 hc
  obtain⟨g1,g2,g3,g4⟩:=(hbad i hi).1
  exact⟨g1,g2,g3,g4,hb.2.2 _ hc⟩
 ·rw[List.pairwise_iff_getElem]
  intro i j hi hj hij
  have key:∀ (d j:Nat) (hj:j<s.Cells.length),j=i+1+d→dl s.Cells[i] s.Cells[j]=true:=by
   intro d
   induction d with
   | zero=>intro j hj e;subst e;exact(hbad (i+1) hj).2 (by omega)
   | succ d ih =>
    intro j hj e
    have h1:=ih (j-1) (by omega) (by omega)
    exact wO h1 ((hbad j hj).2 (by omega))
  exact key (j-i-1) j hj (by omega)
theorem StI.of{nv:Nat}{nc:Int}{s:bF}(h:eS s nv nc=true)(hb:fg s)(he:s.Err=0):StI nv nc s:=(StG.of h hb).i he
theorem StG.to{nv:Nat}{nc:Int}{s:bF}(h:StG nv nc s)(hnv:nv≤100000):eS s nv nc=true∧fg s:=by
 obtain⟨⟨h1,h2⟩,⟨c1,c2,c3⟩,h4,h5⟩:=h
 refine⟨?_,⟨by omega,fun v hv=>(h2 v hv).2⟩,by omega,fun c hc=>(c2 c hc).2.2.2.2⟩
 unfold eS
 rw[az,az,az,az,az,ab,Bool.not_eq_true',List.any_eq_false,ab,ab,ab,Bool.not_eq_true']
 refine⟨by omega,fun v hv=>by rw[(h2 v hv).1];decide,by omega,h4,by omega,anyB_false.2 fun i hi=>?_⟩
 unfold iU
 obtain⟨g1,g2,g3,g4⟩:=c2 _ (aV hi)
 rw[cF hi,cF (show i-1<s.Cells.length by omega),ae (by omega),ae (by omega),ae (by omega),g4.1]
 by_cases c:i=0
 ·subst c;rfl
 ·rw[List.pairwise_iff_getElem.1 c3 (i-1) i (by omega) hi (by omega)];simp
theorem StI.to{nv:Nat}{nc:Int}{s:bF}(h:StI nv nc s)(hnv:nv≤100000):eS s nv nc=true∧fg s:=h.g.to hnv
def jx(s:bF)(nr:Int):Fin→bF×List Int
 | .err e=>(⟨s.Vars,s.Cells,s.Nr,e⟩,[])
 | .fin V C out=>(⟨V,C,nr,0⟩,out)
theorem Ml{nv:Nat}{nc:Int}{line:List Int}{nr:Int}{x:Option (IT×Unit)}{r:Fin}(h:FRelI nv nc line nr x r)(s:bF)(hv:s.Vars.length≤100000)(hc:s.Cells.length≤100000) :
  (x.bind fun(r8:(bF×((List Int)×((List Int)×((List bG)×(Int×Unit)))))×Unit) =>
   (tv r8.1.1 r8.1.2.1 r8.1.2.2.1 r8.1.2.2.2.1 r8.1.2.2.2.2.1 s).bind fun(r9:bF×(List Int)×(Unit×((List Int)×((List Int)×((List bG)×(Int×Unit)))))×Unit) =>
   some (r9.1,r9.2.1,()))=some ((jx s nr r).1,(jx s nr r).2,()):=by
 cases r with
 | err e =>
  obtain⟨h1,s',o,u,rfl⟩:=h
  rw[aa]
  unfold iT
  dsimp only
  rw[yi,ae (show ¬ e=0 by omega),bn (by decide),pT hv hc]
  rfl
 | fin V C out =>
  obtain⟨⟨u,rfl⟩,_⟩:=h
  rw[aa]
  unfold iT
  dsimp only
  rw[yi,bo (by simp)]
  rfl
theorem Mn{line:List Int}{nr:Int}{x:Option (WT×Unit)}{r:Fin}(h:BJ line nr x r)(hne:∀ e,r = .err e→e≠0)(s:bF)(hv:s.Vars.length≤100000)(hc:s.Cells.length≤100000) :
  (x.bind fun(r0:(bF×((List (List Int))×((List (List Int))×((List Int)×((List (List Int))×((List Int)×(Int×(Bool×Unit))))))))×Unit) =>
   (Au (bQ.mk r0.1.1 r0.1.2.1 r0.1.2.2.1 r0.1.2.2.2.1 r0.1.2.2.2.2.1 r0.1.2.2.2.2.2.1 r0.1.2.2.2.2.2.2.1 r0.1.2.2.2.2.2.2.2.1) s).bind fun(r1:bF×(List Int)×bQ×Unit) =>
   some (r1.1,r1.2.1,()))=some ((jx s nr r).1,(jx s nr r).2,()):=by
 cases r with
 | err e =>
  obtain⟨s',o,rfl,h2⟩:=h
  rw[aa]
  unfold wT
  dsimp only
  rw[Av]
  dsimp only
  rw[h2,ae (hne e rfl),bn (by decide),pU hv hc]
  rfl
 | fin V C out =>
  have h':x=_:=h
  rw[h',aa]
  unfold wT
  dsimp only
  rw[Av,bo (by simp)]
  rfl
theorem Mm{nv:Nat}{nc:Int}{line:List Int}{nr:Int}{x:Option (IT×Unit)}{r:Fin}(h:FRelI nv nc line nr x r)(s:bF)(hs:StI nv nc s)(hnr:0≤nr∧nr≤1000000):StG nv nc (jx s nr r).1∧(jx s nr r).2.length≤600∧Bt (jx s nr r).2:=by
 cases r with
 | err e =>
  have h1:=h.1
  exact⟨⟨hs.1,hs.2.1,hs.2.2.1,by show 0≤e;omega,by show e≤7;omega⟩,Nat.zero_le _,fun x hx=>by cases hx⟩
 | fin V C out =>
  obtain⟨_,g1,g2,g3,g4⟩:=h
  exact⟨⟨g1,g2,hnr,by show(0:Int)≤0;omega,by show(0:Int)≤7;omega⟩,g3⟩
def PrI(p:bD):Prop:=fd p=true∧hU p
theorem PrI.nv{p:bD}(h:PrI p):p.Vars.length≤8:=by
 have h1:=h.1
 unfold fd la at h1
 simp only[az,ab]at h1
 omega
theorem PrI.main{p:bD}(h:PrI p):OpsI p.Main p.Vars.length p.Cells.length:=by
 have h1:=h.1
 unfold fd at h1
 simp only[az]at h1
 exact⟨h1.2.2.2.2,h.2.2.2.2⟩
theorem PrI.start{p:bD}(h:PrI p):OpsI p.Start p.Vars.length p.Cells.length:=by
 have h1:=h.1
 unfold fd at h1
 simp only[az]at h1
 exact⟨h1.2.2.2.1,h.2.2.2.1⟩
theorem OpsI.pos{ops:List bB}{nv:Nat}{nc:Int}(h:OpsI ops nv nc):0<(ops.length:Int):=by
 have h1:=h.1
 unfold gv at h1
 rw[az,ab]at h1
 omega
noncomputable def fk(p:bD)(s:bF)(line:List Int):bF×List Int :=
 if s.Nr≥1000000 then(⟨s.Vars,s.Cells,s.Nr,1⟩,[])else jx s (s.Nr+1) (mK p.Main line (s.Nr+1) 20000 0 s.Vars s.Cells [] [])
theorem FRelI.ne{nv:Nat}{nc:Int}{line:List Int}{nr:Int}{x:Option (IT×Unit)}{r:Fin}(h:FRelI nv nc line nr x r):∀ e,r = .err e→e≠0:=by
 intro e he
 subst he
 have:=h.1
 omega
theorem tX{p:bD}{s:bF}{line:List Int}(hp:PrI p)(hs:StI p.Vars.length p.Cells.length s)(hl:line.length≤2097152∧Bt line) :
  tb p s line=some ((fk p s line).1,(fk p s line).2,())∧AB p s line=some ((fk p s line).1,(fk p s line).2,()) ∧
  StG p.Vars.length p.Cells.length (fk p s line).1∧(fk p s line).2.length≤600∧Bt (fk p s line).2:=by
 have hnv:=hp.nv
 obtain⟨hb1,hb2⟩:=hs.to (by omega)
 have hv:s.Vars.length≤100000:=by have:=hs.1.1;omega
 have hc:s.Cells.length≤100000:=by have:=hs.2.1.1;omega
 have hs':=hs
 obtain⟨h1,h2,h3,h4⟩:=hs
 have hfl:=p7 line
 have hs0:s=⟨s.Vars,s.Cells,s.Nr,0⟩:=by obtain⟨a,b,c,d⟩:=s;dsimp only at h4;rw[h4]
 rw[Eb,Uc,xJ p hp.2,xL s _ _ hb2,pT hv hc,pU hv hc,TK line (by omega)]
 simp only[aa,hp.1,hb1,Bool.not_true,Bool.false_eq_true,if_false,h4,decide_true]
 rw[aq]
 unfold fk
 by_cases c:s.Nr≥1000000
 ·rw[ak c,bn c,an,iX,aa,j0,aa]
  unfold iT wT
  dsimp only
  rw[yi,bn (by decide),pT hv hc,H3,H2,uP,bo (by simp)]
  simp only[aa]
  rw[Av,bn (by simp),pU hv hc]
  refine⟨?_,?_,⟨h1,h2,h3,by show(0:Int)≤1;omega,by show(1:Int)≤7;omega⟩,Nat.zero_le _,(fun x hx=>by cases hx)⟩ <;> first | rfl | trivial
 ·have hL:jo line (s.Nr+1):=⟨hl,by omega,by omega⟩
  have hI:VmI p.Vars.length (p.Cells.length:Int) s.Vars s.Cells [] []:=⟨h1,h2,⟨by simp,fun x hx=>by cases hx⟩,by simp,fun x hx=>by cases hx⟩
  have r1:=SF (by omega) hp.main hL 20000 0 s.Vars s.Cells [] [] (aG _) ⟨Int.le_refl _,hp.main.pos⟩ hI
  have r2:=SI (by omega) hp.main hL 20000 0 s.Vars s.Cells [] [] (aG _) ⟨Int.le_refl _,hp.main.pos⟩ hI
  have e1:=Ml r1 s hv hc
  have e2:=Mn r2 r1.ne s hv hc
  have e3:=Mm r1 s hs' ⟨by omega,by omega⟩
  rw[aj c,bo c,ap,Pn,H3,H2]
  exact⟨e1,e2,e3⟩
noncomputable def mL(p:bD)(s:bF)(line:List Int):bF×List Int :=
 if fd p=true∧eS s p.Vars.length p.Cells.length=true∧s.Err=0 then fk p s line else(s,[])
theorem Lx{s:bF}(hc:s.Vars.length≤2097152∧s.Cells.length≤2097152):gN s=some (s,()):=by
 have h1:pj s.Vars=some (s.Vars,()):=by
  rw[vW,bn (c:=0+s.Vars.length≤room) (by rw[ch];omega)]
  by_cases c:Nat.beq s.Vars.length 0=true
  ·have e:s.Vars=[]:=aZ.1 (Nat.eq_of_beq_eq_true c)
   rw[bn c,e];exact lZ _
  ·rw[bo c];rfl
 have h2:rQ s.Cells=some (s.Cells,()):=by
  rw[Bk,bn (c:=0+s.Cells.length≤room) (by rw[ch];omega)]
  by_cases c:Nat.beq s.Cells.length 0=true
  ·have e:s.Cells=[]:=aZ.1 (Nat.eq_of_beq_eq_true c)
   rw[bn c,e];exact lZ _
  ·rw[bo c];rfl
 rw[xQ,h1,h2];rfl
theorem SH{p:bD}{s:bF}{line:List Int}(hp:hU p)(hs:fg s)(hl:line.length≤2097152∧Bt line)(hc:s.Vars.length≤2097152∧s.Cells.length≤2097152):tb p s line=some ((mL p s line).1,(mL p s line).2,()):=by
 unfold mL
 by_cases c:fd p=true∧eS s p.Vars.length p.Cells.length=true∧s.Err=0
 ·obtain⟨c1,c2,c3⟩:=c
  rw[bn ⟨c1,c2,c3⟩]
  exact(tX ⟨c1,hp⟩ (StI.of c2 hs c3) hl).1
 ·rw[bo c,Eb,xJ p hp,xL s _ _ hs,Lx hc]
  simp only[aa]
  cases c1:fd p with
  | false=>rfl
  | true =>
   simp only[Bool.not_true,Bool.false_eq_true,if_false]
   cases c2:eS s p.Vars.length p.Cells.length with
   | false=>rfl
   | true =>
    have c3:¬ s.Err=0:=fun h=>c ⟨c1,c2,h⟩
    simp only[Bool.not_true,Bool.false_eq_true,if_false,ae c3]
    rfl
def Gr(n:Nat):bF:=⟨List.replicate n bV,[],0,0⟩
noncomputable def IZ(p:bD):bF×List Int:=jx (Gr p.Vars.length) 0 (mK p.Start [] 0 20000 0 (Gr p.Vars.length).Vars [] [] [])
end Go.Proofs.YthgknhkeifcflaaGreatDoor.E.TD
namespace Go.Proofs.YthgknhkeifcflaaGreatDoor.E
set_option linter.unusedVariables false
theorem A5{α:Type}(L:Int→Int→Option (Int×Unit))(S:α→Int→Option (Int×Unit))(l:List α)(Q:α→Prop)(hl:l.length≤9223372036854775807)
  (hS:∀ x∈l,∀ k:Int,0≤k→k≤1048576→∃ r,S x k=some (r,())∧r≤1048576∧(0≤r→Q x))
  (stop:∀ k,L k (l.length:Int)=some (k,()))
  (step:∀ (k:Int) (i:Nat) (h:i<l.length),L k i=(S l[i] k).bind fun(r0:Int×Unit)=>if(decide (r0.1<0))=true then some ((-1),())else L r0.1 ((i+1:Nat):Int))
  (n:Int) (h0:0≤n) (h1:n≤1048576):∃ r,L n 0=some (r,())∧r≤1048576∧(0≤r→∀ x∈l,Q x):=by
 have key:∀ (d i:Nat) (k:Int),i+d=l.length→0≤k→k≤1048576→∃ r,L k i=some (r,())∧r≤1048576∧(0≤r→∀ j (h:j<l.length),i≤j→Q l[j]):=by
  intro d
  induction d with
  | zero =>
   intro i k hd k0 k1
   have hi:i=l.length:=by omega
   subst hi
   exact⟨k,stop k,k1,fun _ j hj hij=>by omega⟩
  | succ d ih =>
   intro i k hd k0 k1
   have hi:i<l.length:=by omega
   obtain⟨r,e1,e2,e3⟩:=hS l[i] (aV hi) k k0 k1
   rw[step k i hi,e1,aa]
   by_cases h:r<0
   ·rw[ak h]
    exact⟨-1,rfl,by omega,fun h=>by omega⟩
   ·rw[aj h]
    obtain⟨r',g1,g2,g3⟩:=ih (i+1) r (by omega) (by omega) e2
    refine⟨r',g1,g2,fun hr j hj hij=>?_⟩
    by_cases e:j=i
    ·subst e;exact e3 (by omega)
    ·exact g3 hr j hj (by omega)
 obtain⟨r,e1,e2,e3⟩:=key l.length 0 n (by omega) h0 h1
 exact⟨r,e1,e2,fun hr x hx=>by
  obtain⟨j,hj,rfl⟩:=bk.1 hx
  exact e3 hr j hj (by omega)⟩
theorem zp{α:Type}(L:List α→Int→Int→Option (Int×List α×Unit))(H:List α→Int→Int→Option (Int×Unit))(P:α→Prop)(b:Nat)(bd:Int)
  (stop:∀ a k,L a k (a.length:Int)=some (k,a,())) (hstop:∀ a k,H a k (a.length:Int)=some (k,()))
  (step:∀ (a:List α) (k:Int) (i:Nat) (h:i<a.length),a.length≤4294967296→P a[i]→0≤k→k+b≤bd →
   ∃ y k',L a k i=L (a.set i y) k' ((i+1:Nat):Int)∧k≤k'∧k'≤k+b∧∀ (c:List α) (hc:i<c.length),c.length≤4294967296→c[i]=y→H c k i=H c k' ((i+1:Nat):Int))
  (l:List α) (k:Int) (hl:l.length≤4294967296) (hP:∀ x∈l,P x) (hk:0≤k) (hb:k+b*l.length≤bd) :
  ∃ k' l',L l k 0=some (k',l',())∧H l' k 0=some (k',())∧l'.length=l.length∧k≤k'∧k'≤k+b*l.length:=by
 have hs:∀ d:Nat,(b*((d+1:Nat):Int):Int)=b*d+b:=fun d=>by rw[Int.natCast_add,Int.mul_add];simp
 have hz:∀ d:Nat,(0:Int)≤b*d:=fun d=>by exact_mod_cast Nat.zero_le (b*d)
 have key:∀ (d i:Nat) (a:List α) (k:Int),i+d=a.length→a.length≤4294967296→(∀ j (h:j<a.length),i≤j→P a[j])→0≤k→k+b*d≤bd →
   ∃ k' a',L a k (i:Int)=some (k',a',())∧k≤k'∧k'≤k+b*d∧a'.length=a.length∧(∀ j,j<i→a'[j]? = a[j]?) ∧
    ∀ c:List α,c.length=a.length→(∀ j,i≤j→c[j]? = a'[j]?)→H c k (i:Int)=some (k',()):=by
  intro d
  induction d with
  | zero =>
   intro i a k hd hl hp hk hb
   have hi:i=a.length:=by omega
   subst hi
   refine⟨k,a,stop a k,Int.le_refl k,by simp,rfl,fun _ _=>rfl,fun c hc _=>?_⟩
   rw[← hc];exact hstop c k
  | succ d ih =>
   intro i a k hd hl hp hk hb
   have hi:i<a.length:=by omega
   have h0:=hz d
   rw[hs]at hb
   obtain⟨y,k1,e1,e2,e3,e4⟩:=step a k i hi hl (hp i hi (aG i)) hk (by omega)
   obtain⟨k',a',f1,f2,f3,f4,f5,f6⟩:=ih (i+1) (a.set i y) k1 (by rw[aX];omega) (by rw[aX];exact hl)
    (fun j hj hij=>by rw[List.getElem_set_ne (by omega)];exact hp j (by rw[aX]at hj;exact hj) (by omega)) (by omega) (by omega)
   rw[aX]at f4 f6
   refine⟨k',a',e1.trans f1,by omega,by rw[hs];omega,f4,fun j hj=>?_,fun c hc hcj=>?_⟩
   ·rw[f5 j (by omega),List.getElem?_set_ne (by omega)]
   ·have hic:i<c.length:=by omega
    have hc0:c[i]? = some y:=by rw[hcj i (aG i),f5 i (by omega),List.getElem?_set_self hi]
    rw[List.getElem?_eq_getElem hic]at hc0
    rw[e4 c hic (by omega) (aN hc0)]
    exact f6 c hc fun j hj=>hcj j (by omega)
 obtain⟨k',a',e1,e2,e3,e4,_,e6⟩:=key l.length 0 l k (by omega) hl (fun j hj _=>hP _ (aV hj)) hk hb
 exact⟨k',a',e1,e6 a' e4 fun _ _=>rfl,e4,e2,e3⟩
end Go.Proofs.YthgknhkeifcflaaGreatDoor.E
namespace Go.Proofs.YthgknhkeifcflaaGreatDoor.E.TD
open Go.Proofs.YthgknhkeifcflaaGreatDoor.E
set_option linter.unusedVariables false
theorem Ra(n:Nat):∀ (k:Int) (s:List Int),k≤9223372036854775807→0≤k→k<10 ^ n→s.length+n≤1000→∃ t,tL k s=some (t,()):=by
 induction n with
 | zero =>
  intro k s h h0 hk hs
  have:k=0:=by simp at hk;omega
  subst this
  rw[FE,bo (by simp),bn (by show 1+s.length≤_;omega)]
  exact⟨_,rfl⟩
 | succ n ih =>
  intro k s h h0 hk hs
  rw[FE]
  by_cases h:k>0
  ·rw[ak h,bn (by show 1+s.length≤_;omega),ba h0,aq (n:=k/10)]
   refine ih (k/10) _ (by omega) (by omega) ?_ (by show(s.length+1)+n≤1000;omega)
   rw[Int.pow_succ]at hk
   omega
  ·rw[aj h,bn (by show 1+s.length≤_;omega)]
   exact⟨_,rfl⟩
theorem Rb(k:Int)(h:k≤9223372036854775807):∃ t,gR k=some (t,()):=by
 rw[Qo]
 by_cases h0:k≤0
 ·rw[ak h0];exact⟨_,rfl⟩
 ·rw[aj h0]
  exact Ra 19 k [] h (by omega) (by omega) (by simp)
open Classical in
noncomputable def mB(k:Int):List Int:=if h:∃ t,gR k=some (t,())then Classical.choose h else []
theorem kZ(k:Int)(h:k≤9223372036854775807):gR k=some (mB k,()):=by
 have:=Rb k h
 unfold mB
 rw[dif_pos this]
 exact Classical.choose_spec this
def kq(M:Nat)(x:bK):Prop:=x.Line.length≤M
def fh(M:Nat)(x:bP):Prop:=x.S.length≤M
def fR(M:Nat)(x:bG):Prop:=x.S.length≤M
def fy(M:Nat)(x:bJ):Prop:=x.Key.length≤M∧fh M x.Val
def ia(M:Nat)(x:bq):Prop:=x.Key.length≤M∧fR M x.Val
def gd(M:Nat)(x:bO):Prop:=(x.Vars.length≤M∧∀ y∈x.Vars,fh M y)∧(x.Cells.length≤M∧∀ y∈x.Cells,fy M y)
def fQ(M:Nat)(x:bF):Prop:=(x.Vars.length≤M∧∀ y∈x.Vars,fR M y)∧(x.Cells.length≤M∧∀ y∈x.Cells,ia M y)
def gH(M:Nat)(x:bL):Prop:=gd M x.State∧x.Done.length≤M∧x.Out.length≤M
def eI(M:Nat)(x:bA):Prop:=fQ M x.State∧x.Done.length≤M∧x.Out.length≤M
theorem M4{d:Nat}{x:bK}(h:df (G:=gam) (d+3) (.nm 16) x):kq 9223372036854775807 x:=by
 have h':_∧_∧(x.Line.length≤9223372036854775807∧_)∧_:=h
 unfold kq
 exact h'.2.2.1.1
theorem Dw{d:Nat}{x:bP}(h:df (G:=gam) (d+3) (.nm 13) x):fh 9223372036854775807 x:=by
 have h':_∧_∧(x.S.length≤9223372036854775807∧_)∧_:=h
 unfold fh
 exact h'.2.2.1.1
theorem M3{d:Nat}{x:bJ}(h:df (G:=gam) (d+4) (.nm 14) x):fy 9223372036854775807 x:=by
 have h':_∧(x.Key.length≤9223372036854775807∧_)∧df (G:=gam) (d+3) (.nm 13) x.Val∧_:=h
 unfold fy
 exact⟨h'.2.1.1,Dw (d:=d+0) h'.2.2.1⟩
theorem M7{d:Nat}{x:bO}(h:df (G:=gam) (d+6) (.nm 12) x):gd 9223372036854775807 x:=by
 have h':(x.Vars.length≤9223372036854775807∧∀ y∈x.Vars,df (G:=gam) (d+4) (.nm 13) y)∧(x.Cells.length≤9223372036854775807∧∀ y∈x.Cells,df (G:=gam) (d+4) (.nm 14) y)∧_∧_∧_:=h
 unfold gd
 exact⟨⟨h'.1.1,fun y hy=>Dw (d:=d+1) (h'.1.2 y hy)⟩,⟨h'.2.1.1,fun y hy=>M3 (d:=d+0) (h'.2.1.2 y hy)⟩⟩
theorem M5{d:Nat}{x:bL}(h:df (G:=gam) (d+7) (.nm 15) x):gH 9223372036854775807 x:=by
 have h':df (G:=gam) (d+6) (.nm 12) x.State∧(x.Done.length≤9223372036854775807∧_)∧(x.Out.length≤9223372036854775807∧_)∧_:=h
 unfold gH
 exact⟨M7 (d:=d+0) h'.1,h'.2.1.1,h'.2.2.1.1⟩
theorem Nk(x:bK)(n:Int)(h:kq 9223372036854775807 x)(h0:0≤n)(h1:n≤1048576):∃ r,yX x n=some (r,())∧r≤1048576∧(0≤r→kq 1048576 x):=by
 unfold kq at h
 rw[Qs]
 have hl0:=h
 rw[aq (n:=n-(x.Line.length:Int))]
 by_cases c0:n-(x.Line.length:Int)<0
 ·rw[ak c0];exact⟨-1,rfl,by omega,fun h=>by omega⟩
 rw[aj c0]
 exact⟨_,rfl,by omega,fun _=>by unfold kq;exact by omega⟩
def sS(x:bK):bt:=⟨x.Who,x.Seq,x.Line⟩
theorem Nv(x:bK)(h:kq 1048576 x):qM x=some (sS x,()):=by
 unfold kq at h
 rw[QE]
 rfl
theorem DF(x:bP)(n:Int)(h:fh 9223372036854775807 x)(h0:0≤n)(h1:n≤1048576):∃ r,qL x n=some (r,())∧r≤1048576∧(0≤r→fh 1048576 x):=by
 unfold fh at h
 rw[QB]
 have hl0:=h
 rw[aq (n:=n-(x.S.length:Int))]
 by_cases c0:n-(x.S.length:Int)<0
 ·rw[ak c0];exact⟨-1,rfl,by omega,fun h=>by omega⟩
 rw[aj c0]
 exact⟨_,rfl,by omega,fun _=>by unfold fh;exact by omega⟩
def kJ(x:bP):bG:=⟨x.Kind,x.N,x.S⟩
theorem DI(x:bP)(h:fh 1048576 x):tV x=some (kJ x,()):=by
 unfold fh at h
 rw[QN]
 rfl
theorem Dy{x:bP}{M:Nat}(h:fh M x):fR M (kJ x):=by
 unfold fh at h
 unfold fR kJ
 exact h
theorem Du(x:bG)(h:fR 2097152 x):tG x x=some (true,()):=by
 unfold fR at h
 rw[Qb]
 simp
theorem Ns(l:List bP)(n:Int)(h:l.length≤9223372036854775807∧∀ x∈l,fh 9223372036854775807 x)(h0:0≤n)(h1:n≤1048576):∃ r,y8 l n=some (r,())∧r≤1048576∧(0≤r→l.length≤1048576∧∀ x∈l,fh 1048576 x):=by
 have hl:=h.1
 rw[QA,aq (n:=n-(l.length:Int))]
 by_cases c:n-(l.length:Int)<0
 ·rw[ak c];exact⟨-1,rfl,by omega,fun h=>by omega⟩
 ·rw[aj c]
  obtain⟨r,e1,e2,e3⟩:=A5 (fun k i=>ou l k i) qL l (fh 1048576) (by omega) (fun x hx k k0 k1=>DF x k (h.2 x hx) k0 k1)
   (fun k=>by show ou l k _=_;rw[FJ,bo (by simp)])
   (fun k i hi=>by show ou l k i=_;rw[FJ,an,al,ck hi,ci hi (by omega)]) (n-l.length) (by omega) (by omega)
  exact⟨r,e1,e2,fun hr=>⟨by omega,e3 hr⟩⟩
theorem NB(l:List bP)(h:l.length≤1048576∧∀ x∈l,fh 1048576 x):ze l=some (l.map kJ,()):=by
 rw[QM,bn (by have:=h.1;rw[ch];omega)]
 have:=rM (fun acc i=>oB l acc i) kJ l (fun acc i hi ha=>by
  show oB l acc i=_
  have hl:=h.1
  rw[FO,an,al,ck hi,DI _ (h.2 _ (aV hi)),aa,al,ci hi (by omega),af]
  ) (fun acc ha=>by
  show oB l acc _=_
  rw[FO,bo (by simp)]) (List.replicate (List.length l:Int).toNat bV) (by simp)
 exact this
theorem M2(l:List bG)(h:l.length≤2097152∧∀ x∈l,fR 2097152 x):yM l l=some (true,()):=by
 have hl:=h.1
 rw[Qa,bo (by simp)]
 exact pI (fun i=>oo l l i) l _ (fun i hi=>by
  show oo l l i=_
  rw[Fq,an,al,al,ck hi,Du _ (h.2 _ (aV hi)),aa,bo (by simp),ci hi (by omega)]) (by
  show oo l l _=_
  rw[Fq,bo (by simp)])
theorem Nh(l:List bG)(k:Int)(h:l.length≤2097152∧∀ x∈l,fR 2097152 x)(hk:0≤k)(hb:k+6291456≤2305843009213693952):∃ k' l',yV l k=some (k',l',())∧yQ l' k=some (k',())∧l'.length=l.length∧k≤k'∧k'≤k+6291456:=by
 have hl:=h.1
 rw[Qp]
 have step:∀ (a:List bG) (k:Int) (i:Nat) (hi:i<a.length),a.length≤4294967296→(fR 2097152) a[i]→0≤k→k+(3:Nat)≤2305843009213693952→∃ y k',jW a k i=jW (a.set i y) k' ((i+1:Nat):Int)∧k≤k'∧k'≤k+(3:Nat)∧∀ (d:List bG) (hd:i<d.length),d.length≤4294967296→d[i]=y→jS d k i=jS d k' ((i+1:Nat):Int):=by
  intro a k i hi ha hp hk hb
  have c:(0:Int)≤(i:Int)∧(i:Int)<(a.length:Int):=by omega
  refine⟨⟨k,k+1,mB (k+1+1)⟩,k+1+1+1,?_,by omega,by omega,fun d hd hdl hdy=>?_⟩
  ·show jW a k i=jW _ _ _
   rw[FF,ak c.2,bn c,aq (n:=k+1),aq (n:=k+1+1),aq (n:=k+1+1+1),ci hi (by omega),kZ _ (by omega)]
   simp only[aX,bn c,aa,af,nK,hi,List.set_set]
  ·show jS d k i=jS _ _ _
   have c2:(0:Int)≤(i:Int)∧(i:Int)<(d.length:Int):=by omega
   rw[Fz,ak c2.2,aq (n:=k+1),aq (n:=k+1+1),aq (n:=k+1+1+1),ci hd (by omega),kZ _ (by omega),ck hd,hdy]
   simp only[bn c2,aa,decide_true,Bool.not_true,Bool.false_eq_true,if_false]
 obtain⟨k',l',e1,e2,e3,e4,e5⟩:=zp (fun a k i=>jW a k i) (fun a k i=>jS a k i) (fR 2097152) 3 2305843009213693952
  (fun a k=>by show jW a k _=_;rw[FF,bo (by simp)])
  (fun a k=>by show jS a k _=_;rw[Fz,bo (by simp)])
  step l k (by omega) (h.2) hk (by omega)
 exact⟨k',l',e1,by rw[Qg];exact e2,e3,e4,by omega⟩
theorem Ni(x:bJ)(n:Int)(h:fy 9223372036854775807 x)(h0:0≤n)(h1:n≤1048576):∃ r,tM x n=some (r,())∧r≤1048576∧(0≤r→fy 1048576 x):=by
 unfold fy at h
 rw[Qr]
 have hl0:=h.1
 rw[aq (n:=n-(x.Key.length:Int))]
 by_cases c0:n-(x.Key.length:Int)<0
 ·rw[ak c0];exact⟨-1,rfl,by omega,fun h=>by omega⟩
 rw[aj c0]
 obtain⟨r1,e1,f1,g1⟩:=DF x.Val (n-(x.Key.length:Int)) (h.2) (by omega) (by omega)
 rw[e1,aa]
 dsimp only
 by_cases c1:r1<0
 ·rw[ak c1];exact⟨-1,rfl,by omega,fun h=>by omega⟩
 rw[aj c1]
 exact⟨_,rfl,by omega,fun _=>by unfold fy;exact⟨by omega,g1 (by omega)⟩⟩
def me(x:bJ):bq:=⟨x.Name,x.Key,(kJ x.Val)⟩
theorem Nt(x:bJ)(h:fy 1048576 x):y9 x=some (me x,()):=by
 unfold fy at h
 rw[QD]
 rw[DI _ (h.2),aa]
 rfl
theorem M8{x:bJ}{M:Nat}(h:fy M x):ia M (me x):=by
 unfold fy at h
 unfold ia me
 exact⟨h.1,Dy (h.2)⟩
theorem MW(x:bq)(h:ia 2097152 x):yG x x=some (true,()):=by
 unfold ia at h
 rw[P0]
 rw[Du _ (h.2)]
 simp
theorem Nj(l:List bJ)(n:Int)(h:l.length≤9223372036854775807∧∀ x∈l,fy 9223372036854775807 x)(h0:0≤n)(h1:n≤1048576):∃ r,yW l n=some (r,())∧r≤1048576∧(0≤r→l.length≤1048576∧∀ x∈l,fy 1048576 x):=by
 have hl:=h.1
 rw[Qq,aq (n:=n-(l.length:Int))]
 by_cases c:n-(l.length:Int)<0
 ·rw[ak c];exact⟨-1,rfl,by omega,fun h=>by omega⟩
 ·rw[aj c]
  obtain⟨r,e1,e2,e3⟩:=A5 (fun k i=>oq l k i) tM l (fy 1048576) (by omega) (fun x hx k k0 k1=>Ni x k (h.2 x hx) k0 k1)
   (fun k=>by show oq l k _=_;rw[FG,bo (by simp)])
   (fun k i hi=>by show oq l k i=_;rw[FG,an,al,ck hi,ci hi (by omega)]) (n-l.length) (by omega) (by omega)
  exact⟨r,e1,e2,fun hr=>⟨by omega,e3 hr⟩⟩
theorem Nu(l:List bJ)(h:l.length≤1048576∧∀ x∈l,fy 1048576 x):za l=some (l.map me,()):=by
 rw[QC,bn (by have:=h.1;rw[ch];omega)]
 have:=rM (fun acc i=>ov l acc i) me l (fun acc i hi ha=>by
  show ov l acc i=_
  have hl:=h.1
  rw[FK,an,al,ck hi,Nt _ (h.2 _ (aV hi)),aa,al,ci hi (by omega),af]
  ) (fun acc ha=>by
  show ov l acc _=_
  rw[FK,bo (by simp)]) (List.replicate (List.length l:Int).toNat cj) (by simp)
 exact this
theorem MX(l:List bq)(h:l.length≤2097152∧∀ x∈l,ia 2097152 x):yH l l=some (true,()):=by
 have hl:=h.1
 rw[PZ,bo (by simp)]
 exact pI (fun i=>oh l l i) l _ (fun i hi=>by
  show oh l l i=_
  rw[Fj,an,al,al,ck hi,MW _ (h.2 _ (aV hi)),aa,bo (by simp),ci hi (by omega)]) (by
  show oh l l _=_
  rw[Fj,bo (by simp)])
theorem Nd(l:List bq)(k:Int)(h:l.length≤2097152∧∀ x∈l,ia 2097152 x)(hk:0≤k)(hb:k+10485760≤2305843009213693952):∃ k' l',yR l k=some (k',l',())∧yN l' k=some (k',())∧l'.length=l.length∧k≤k'∧k'≤k+10485760:=by
 have hl:=h.1
 rw[Qh]
 have step:∀ (a:List bq) (k:Int) (i:Nat) (hi:i<a.length),a.length≤4294967296→(ia 2097152) a[i]→0≤k→k+(5:Nat)≤2305843009213693952→∃ y k',jT a k i=jT (a.set i y) k' ((i+1:Nat):Int)∧k≤k'∧k'≤k+(5:Nat)∧∀ (d:List bq) (hd:i<d.length),d.length≤4294967296→d[i]=y→jQ d k i=jQ d k' ((i+1:Nat):Int):=by
  intro a k i hi ha hp hk hb
  have c:(0:Int)≤(i:Int)∧(i:Int)<(a.length:Int):=by omega
  refine⟨⟨k,mB (k+1),⟨k+1+1,k+1+1+1,mB (k+1+1+1+1)⟩⟩,k+1+1+1+1+1,?_,by omega,by omega,fun d hd hdl hdy=>?_⟩
  ·show jT a k i=jT _ _ _
   rw[FA,ak c.2,bn c,aq (n:=k+1),aq (n:=k+1+1),aq (n:=k+1+1+1),aq (n:=k+1+1+1+1),aq (n:=k+1+1+1+1+1),ci hi (by omega),kZ _ (by omega),kZ _ (by omega)]
   simp only[aX,bn c,aa,af,nK,hi,List.set_set]
  ·show jQ d k i=jQ _ _ _
   have c2:(0:Int)≤(i:Int)∧(i:Int)<(d.length:Int):=by omega
   rw[Ft,ak c2.2,aq (n:=k+1),aq (n:=k+1+1),aq (n:=k+1+1+1),aq (n:=k+1+1+1+1),aq (n:=k+1+1+1+1+1),ci hd (by omega),kZ _ (by omega),kZ _ (by omega),ck hd,hdy]
   simp only[bn c2,aa,decide_true,Bool.not_true,Bool.false_eq_true,if_false]
 obtain⟨k',l',e1,e2,e3,e4,e5⟩:=zp (fun a k i=>jT a k i) (fun a k i=>jQ a k i) (ia 2097152) 5 2305843009213693952
  (fun a k=>by show jT a k _=_;rw[FA,bo (by simp)])
  (fun a k=>by show jQ a k _=_;rw[Ft,bo (by simp)])
  step l k (by omega) (h.2) hk (by omega)
 exact⟨k',l',e1,by rw[Qc];exact e2,e3,e4,by omega⟩
theorem Nq(x:bO)(n:Int)(h:gd 9223372036854775807 x)(h0:0≤n)(h1:n≤1048576):∃ r,y7 x n=some (r,())∧r≤1048576∧(0≤r→gd 1048576 x):=by
 unfold gd at h
 rw[Qy]
 obtain⟨r0,e0,f0,g0⟩:=Ns x.Vars n (h.1) (by omega) (by omega)
 rw[e0,aa]
 dsimp only
 by_cases c0:r0<0
 ·rw[ak c0];exact⟨-1,rfl,by omega,fun h=>by omega⟩
 rw[aj c0]
 obtain⟨r1,e1,f1,g1⟩:=Nj x.Cells r0 (h.2) (by omega) (by omega)
 rw[e1,aa]
 dsimp only
 by_cases c1:r1<0
 ·rw[ak c1];exact⟨-1,rfl,by omega,fun h=>by omega⟩
 rw[aj c1]
 exact⟨_,rfl,by omega,fun _=>by unfold gd;exact⟨g0 (by omega),g1 (by omega)⟩⟩
def qe(x:bO):bF:=⟨(x.Vars.map kJ),(x.Cells.map me),x.Nr,x.Err⟩
theorem NA(x:bO)(h:gd 1048576 x):zd x=some (qe x,()):=by
 unfold gd at h
 rw[QK]
 rw[NB _ (h.1),aa]
 rw[Nu _ (h.2),aa]
 rfl
theorem Nc{x:bO}{M:Nat}(h:gd M x):fQ M (qe x):=by
 unfold gd at h
 unfold fQ qe
 exact⟨⟨by rw[bh];exact(h.1).1,fun y hy=>by obtain⟨x',hx',rfl⟩:=List.mem_map.1 hy;exact Dy ((h.1).2 x' hx')⟩,⟨by rw[bh];exact(h.2).1,fun y hy=>by obtain⟨x',hx',rfl⟩:=List.mem_map.1 hy;exact M8 ((h.2).2 x' hx')⟩⟩
theorem M1(x:bF)(h:fQ 2097152 x):yL x x=some (true,()):=by
 unfold fQ at h
 rw[P8]
 rw[M2 _ (h.1),MX _ (h.2)]
 simp
theorem Ng(x:bF)(k:Int)(h:fQ 2097152 x)(hk:0≤k)(hb:k+16777216≤2305843009213693952):∃ k' x',yU x k=some (k',x',())∧yP x' k=some (k',())∧k≤k'∧k'≤k+16777216:=by
 unfold fQ at h
 obtain⟨k0,x0,a0,b0,_,c0,d0⟩:=Nh x.Vars k (h.1) (by omega) (by omega)
 obtain⟨k1,x1,a1,b1,_,c1,d1⟩:=Nd x.Cells k0 (h.2) (by omega) (by omega)
 refine⟨k1,⟨x0,x1,x.Nr,x.Err⟩,?_,?_,by omega,by omega⟩
 ·rw[Qm,a0,aa,a1,aa]
 ·rw[Qf,b0,aa,ap,b1,aa,ap]
theorem Nl(l:List Int)(n:Int)(h:l.length≤9223372036854775807)(h0:0≤n)(h1:n≤1048576):∃ r,yY l n=some (r,())∧r≤1048576∧(0≤r→l.length≤1048576):=by
 have hl:=h
 rw[Qt,aq (n:=n-(l.length:Int))]
 by_cases c:n-(l.length:Int)<0
 ·rw[ak c];exact⟨-1,rfl,by omega,fun h=>by omega⟩
 ·rw[aj c]
  exact⟨_,rfl,by omega,fun _=>by omega⟩
theorem Nw(l:List Int)(h:l.length≤1048576):zb l=some (l,()):=by
 rw[QF,bn (by have:=h;rw[ch];omega)]
 have:=rM (fun acc i=>ow l acc i) id l (fun acc i hi ha=>by
  show ow l acc i=_
  have hl:=h
  rw[FL,an,al,al,ci hi (by omega),ck hi,af]
  rfl
  ) (fun acc ha=>by
  show ow l acc _=_
  rw[FL,bo (by simp)]) (List.replicate (List.length l:Int).toNat 0) (by simp)
 rw[List.map_id]at this
 exact this
theorem MY(l:List Int)(h:l.length≤2097152):yI l l=some (true,()):=by
 have hl:=h
 rw[P3,bo (by simp)]
 exact pI (fun i=>oi l l i) l _ (fun i hi=>by
  show oi l l i=_
  rw[Fl,an,al,al,bo (by simp),ci hi (by omega)]) (by
  show oi l l _=_
  rw[Fl,bo (by simp)])
theorem Ne(l:List Int)(k:Int)(h:l.length≤2097152)(hk:0≤k)(hb:k+2097152≤2305843009213693952):∃ k' l',yS l k=some (k',l',())∧yO l' k=some (k',())∧l'.length=l.length∧k≤k'∧k'≤k+2097152:=by
 have hl:=h
 rw[Qi]
 have step:∀ (a:List Int) (k:Int) (i:Nat) (hi:i<a.length),a.length≤4294967296→(fun _=>True) a[i]→0≤k→k+(1:Nat)≤2305843009213693952→∃ y k',jU a k i=jU (a.set i y) k' ((i+1:Nat):Int)∧k≤k'∧k'≤k+(1:Nat)∧∀ (d:List Int) (hd:i<d.length),d.length≤4294967296→d[i]=y→jR d k i=jR d k' ((i+1:Nat):Int):=by
  intro a k i hi ha hp hk hb
  have c:(0:Int)≤(i:Int)∧(i:Int)<(a.length:Int):=by omega
  refine⟨k,k+1,?_,by omega,by omega,fun d hd hdl hdy=>?_⟩
  ·show jU a k i=jU _ _ _
   rw[FB,ak c.2,bn c,aq (n:=k+1),ci hi (by omega),af]
  ·show jR d k i=jR _ _ _
   have c2:(0:Int)≤(i:Int)∧(i:Int)<(d.length:Int):=by omega
   rw[Fw,ak c2.2,bn c2,ck hd,hdy,bo (by simp),aq (n:=k+1),ci hd (by omega)]
 obtain⟨k',l',e1,e2,e3,e4,e5⟩:=zp (fun a k i=>jU a k i) (fun a k i=>jR a k i) (fun _=>True) 1 2305843009213693952
  (fun a k=>by show jU a k _=_;rw[FB,bo (by simp)])
  (fun a k=>by show jR a k _=_;rw[Fw,bo (by simp)])
  step l k (by omega) (fun _ _=>trivial) hk (by omega)
 exact⟨k',l',e1,by rw[Qd];exact e2,e3,e4,by omega⟩
theorem Nm(x:bL)(n:Int)(h:gH 9223372036854775807 x)(h0:0≤n)(h1:n≤1048576):∃ r,yZ x n=some (r,())∧r≤1048576∧(0≤r→gH 1048576 x):=by
 unfold gH at h
 rw[Qu]
 obtain⟨r0,e0,f0,g0⟩:=Nq x.State n (h.1) (by omega) (by omega)
 rw[e0,aa]
 dsimp only
 by_cases c0:r0<0
 ·rw[ak c0];exact⟨-1,rfl,by omega,fun h=>by omega⟩
 rw[aj c0]
 obtain⟨r1,e1,f1,g1⟩:=Nl x.Done r0 (h.2.1) (by omega) (by omega)
 rw[e1,aa]
 dsimp only
 by_cases c1:r1<0
 ·rw[ak c1];exact⟨-1,rfl,by omega,fun h=>by omega⟩
 rw[aj c1]
 have hl2:=h.2.2
 rw[aq (n:=r1-(x.Out.length:Int))]
 by_cases c2:r1-(x.Out.length:Int)<0
 ·rw[ak c2];exact⟨-1,rfl,by omega,fun h=>by omega⟩
 rw[aj c2]
 exact⟨_,rfl,by omega,fun _=>by unfold gH;exact⟨g0 (by omega),g1 (by omega),by omega⟩⟩
def nL(x:bL):bA:=⟨(qe x.State),x.Done,x.Out⟩
theorem Nx(x:bL)(h:gH 1048576 x):ox x=some (nL x,()):=by
 unfold gH at h
 rw[QG]
 rw[NA _ (h.1),aa]
 rw[Nw _ (h.2.1),aa]
 rfl
theorem M9{x:bL}{M:Nat}(h:gH M x):eI M (nL x):=by
 unfold gH at h
 unfold eI nL
 exact⟨Nc (h.1),h.2.1,h.2.2⟩
theorem Dr(x:bA)(h:eI 2097152 x):oj x x=some (true,()):=by
 unfold eI at h
 rw[P4]
 rw[M1 _ (h.1),MY _ (h.2.1)]
 simp
theorem Dz(x:bA)(k:Int)(h:eI 2097152 x)(hk:0≤k)(hb:k+18874368≤2305843009213693952):∃ k' x',tI x k=some (k',x',())∧tH x' k=some (k',())∧k≤k'∧k'≤k+18874368:=by
 unfold eI at h
 obtain⟨k0,x0,a0,b0,c0,d0⟩:=Ng x.State k (h.1) (by omega) (by omega)
 obtain⟨k1,x1,a1,b1,_,c1,d1⟩:=Ne x.Done k0 (h.2.1) (by omega) (by omega)
 refine⟨k1,⟨x0,x1,x.Out⟩,?_,?_,by omega,by omega⟩
 ·rw[Qj,a0,aa,a1,aa]
 ·rw[Qe,b0,aa,ap,b1,aa,ap]
theorem DE(l:List (List Int))(n:Int)(h:l.length≤9223372036854775807∧∀ x∈l,x.length≤9223372036854775807)(h0:0≤n)(h1:n≤1048576):∃ r,tQ l n=some (r,())∧r≤1048576∧(0≤r→l.length≤1048576∧∀ x∈l,x.length≤1048576):=by
 have hl:=h.1
 rw[Qz,aq (n:=n-(l.length:Int))]
 by_cases c:n-(l.length:Int)<0
 ·rw[ak c];exact⟨-1,rfl,by omega,fun h=>by omega⟩
 ·rw[aj c]
  have key:∀ (d i:Nat) (k:Int),i+d=l.length→0≤k→k≤1048576→∃ r,tR l k i=some (r,())∧r≤1048576∧(0≤r→∀ j (h:j<l.length),i≤j→l[j].length≤1048576):=by
   intro d
   induction d with
   | zero =>
    intro i k hd k0 k1
    rw[FI,ap]
    exact⟨k,rfl,k1,fun _ j hj hij=>by omega⟩
   | succ d ih =>
    intro i k hd k0 k1
    have hi:i<l.length:=by omega
    have hx:=h.2 _ (aV hi)
    rw[FI,an,al,ck hi,ci hi (by omega),aq (n:=k-(l[i].length:Int))]
    by_cases g:k-(l[i].length:Int)<0
    ·rw[ak g];exact⟨-1,rfl,by omega,fun h=>by omega⟩
    ·rw[aj g]
     obtain⟨r,e1,e2,e3⟩:=ih (i+1) (k-(l[i].length:Int)) (by omega) (by omega) (by omega)
     refine⟨r,e1,e2,fun hr j hj hij=>?_⟩
     by_cases e:j=i
     ·subst e;omega
     ·exact e3 hr j hj (by omega)
  obtain⟨r,e1,e2,e3⟩:=key l.length 0 (n-l.length) (by omega) (by omega) (by omega)
  exact⟨r,e1,e2,fun hr=>⟨by omega,fun x hx=>by
   obtain⟨j,hj,rfl⟩:=bk.1 hx
   exact e3 hr j hj (by omega)⟩⟩
theorem DH(l:List (List Int))(h:l.length≤1048576∧∀ x∈l,x.length≤1048576):tU l=some (l,()):=by
 rw[QL,bn (by have:=h.1;rw[ch];omega)]
 have:=rM (fun acc i=>oA l acc i) id l (fun acc i hi ha=>by
  show oA l acc i=_
  have hl:=h.1
  rw[FN,an,al,al,ci hi (by omega),af,cF hi]
  rfl) (fun acc ha=>by
  show oA l acc _=_
  rw[FN,bo (by simp)]) (List.replicate (List.length l:Int).toNat []) (by simp)
 rw[List.map_id]at this
 exact this
theorem Dt(l:List (List Int))(h:l.length≤2097152∧∀ x∈l,x.length≤2097152):tF l l=some (true,()):=by
 have hl:=h.1
 rw[P9,bo (by simp)]
 exact pI (fun i=>om l l i) l _ (fun i hi=>by
  show om l l i=_
  rw[Fp,an,al,al,bo (by simp),ci hi (by omega)]) (by
  show om l l _=_
  rw[Fp,bo (by simp)])
theorem DB(l:List (List Int))(k:Int)(h:l.length≤2097152∧∀ x∈l,x.length≤2097152)(hk:0≤k)(hb:k+2097152≤2305843009213693952):∃ k',tK l k=some (k',())∧k≤k'∧k'≤k+2097152:=by
 have hl:=h.1
 rw[Qn]
 obtain⟨k',e1,e2,e3⟩:=Gg (fun a k i=>my a k i) (fun _=>True) 1 2305843009213693952 (fun a k=>by show my a k _=_;rw[FD,bo (by simp)])
  (fun a k i hi ha hp hk hb=>⟨mB k,k+1,by
   show my a k i=my _ _ _
   rw[FD,an,kZ _ (by omega),aa,al,aq (n:=k+1),ci hi (by omega),af],by omega,by omega⟩) l k (by omega) (fun _ _=>trivial) hk (by omega)
 exact⟨k',e1,e2,by omega⟩
def eJ(M:Nat)(x:bM):Prop:=x.S.length≤M
def ib(M:Nat)(x:bB):Prop:=x.S.length≤M
def ga(M:Nat)(x:bN):Prop:=(x.Vars.length≤M∧∀ y∈x.Vars,y.length≤M)∧(x.Cells.length≤M∧∀ y∈x.Cells,y.length≤M)∧(x.Start.length≤M∧∀ y∈x.Start,eJ M y)∧(x.Main.length≤M∧∀ y∈x.Main,eJ M y)
def kp(M:Nat)(x:bD):Prop:=(x.Vars.length≤M∧∀ y∈x.Vars,y.length≤M)∧(x.Cells.length≤M∧∀ y∈x.Cells,y.length≤M)∧(x.Start.length≤M∧∀ y∈x.Start,ib M y)∧(x.Main.length≤M∧∀ y∈x.Main,ib M y)
theorem Dv{d:Nat}{x:bM}(h:df (G:=gam) (d+3) (.nm 1) x):eJ 9223372036854775807 x:=by
 have h':_∧_∧(x.S.length≤9223372036854775807∧_)∧_:=h
 unfold eJ
 exact h'.2.2.1.1
theorem M6{d:Nat}{x:bN}(h:df (G:=gam) (d+5) (.nm 0) x):ga 9223372036854775807 x:=by
 have h':(x.Vars.length≤9223372036854775807∧∀ y∈x.Vars,(y.length≤9223372036854775807∧∀ b∈y,0≤b∧b≤255))∧(x.Cells.length≤9223372036854775807∧∀ y∈x.Cells,(y.length≤9223372036854775807∧∀ b∈y,0≤b∧b≤255))∧(x.Start.length≤9223372036854775807∧∀ y∈x.Start,df (G:=gam) (d+3) (.nm 1) y)∧(x.Main.length≤9223372036854775807∧∀ y∈x.Main,df (G:=gam) (d+3) (.nm 1) y)∧_:=h
 unfold ga
 exact⟨⟨h'.1.1,fun y hy=>(h'.1.2 y hy).1⟩,⟨h'.2.1.1,fun y hy=>(h'.2.1.2 y hy).1⟩,⟨h'.2.2.1.1,fun y hy=>Dv (d:=d+0) (h'.2.2.1.2 y hy)⟩,⟨h'.2.2.2.1.1,fun y hy=>Dv (d:=d+0) (h'.2.2.2.1.2 y hy)⟩⟩
theorem Nn(x:bM)(n:Int)(h:eJ 9223372036854775807 x)(h0:0≤n)(h1:n≤1048576):∃ r,tN x n=some (r,())∧r≤1048576∧(0≤r→eJ 1048576 x):=by
 unfold eJ at h
 rw[Qw]
 have hl0:=h
 rw[aq (n:=n-(x.S.length:Int))]
 by_cases c0:n-(x.S.length:Int)<0
 ·rw[ak c0];exact⟨-1,rfl,by omega,fun h=>by omega⟩
 rw[aj c0]
 exact⟨_,rfl,by omega,fun _=>by unfold eJ;exact by omega⟩
def kI(x:bM):bB:=⟨x.Code,x.N,x.S⟩
theorem Ny(x:bM)(h:eJ 1048576 x):zc x=some (kI x,()):=by
 unfold eJ at h
 rw[QI]
 rfl
theorem Dx{x:bM}{M:Nat}(h:eJ M x):ib M (kI x):=by
 unfold eJ at h
 unfold ib kI
 exact h
theorem MZ(x:bB)(h:ib 2097152 x):yJ x x=some (true,()):=by
 unfold ib at h
 rw[P6]
 simp
theorem DD(l:List bM)(n:Int)(h:l.length≤9223372036854775807∧∀ x∈l,eJ 9223372036854775807 x)(h0:0≤n)(h1:n≤1048576):∃ r,tO l n=some (r,())∧r≤1048576∧(0≤r→l.length≤1048576∧∀ x∈l,eJ 1048576 x):=by
 have hl:=h.1
 rw[Qv,aq (n:=n-(l.length:Int))]
 by_cases c:n-(l.length:Int)<0
 ·rw[ak c];exact⟨-1,rfl,by omega,fun h=>by omega⟩
 ·rw[aj c]
  obtain⟨r,e1,e2,e3⟩:=A5 (fun k i=>ot l k i) tN l (eJ 1048576) (by omega) (fun x hx k k0 k1=>Nn x k (h.2 x hx) k0 k1)
   (fun k=>by show ot l k _=_;rw[FH,bo (by simp)])
   (fun k i hi=>by show ot l k i=_;rw[FH,an,al,ck hi,ci hi (by omega)]) (n-l.length) (by omega) (by omega)
  exact⟨r,e1,e2,fun hr=>⟨by omega,e3 hr⟩⟩
theorem DG(l:List bM)(h:l.length≤1048576∧∀ x∈l,eJ 1048576 x):tT l=some (l.map kI,()):=by
 rw[QH,bn (by have:=h.1;rw[ch];omega)]
 have:=rM (fun acc i=>oy l acc i) kI l (fun acc i hi ha=>by
  show oy l acc i=_
  have hl:=h.1
  rw[FM,an,al,ck hi,Ny _ (h.2 _ (aV hi)),aa,al,ci hi (by omega),af]
  ) (fun acc ha=>by
  show oy l acc _=_
  rw[FM,bo (by simp)]) (List.replicate (List.length l:Int).toNat cH) (by simp)
 exact this
theorem Ds(l:List bB)(h:l.length≤2097152∧∀ x∈l,ib 2097152 x):tE l l=some (true,()):=by
 have hl:=h.1
 rw[P5,bo (by simp)]
 exact pI (fun i=>ol l l i) l _ (fun i hi=>by
  show ol l l i=_
  rw[Fm,an,al,al,ck hi,MZ _ (h.2 _ (aV hi)),aa,bo (by simp),ci hi (by omega)]) (by
  show ol l l _=_
  rw[Fm,bo (by simp)])
theorem DA(l:List bB)(k:Int)(h:l.length≤2097152∧∀ x∈l,ib 2097152 x)(hk:0≤k)(hb:k+6291456≤2305843009213693952):∃ k',tJ l k=some (k',())∧k≤k'∧k'≤k+6291456:=by
 have hl:=h.1
 rw[Qk]
 have step:∀ (a:List bB) (k:Int) (i:Nat) (hi:i<a.length),a.length≤4294967296→(ib 2097152) a[i]→0≤k→k+(3:Nat)≤2305843009213693952→∃ y k',jV a k i=jV (a.set i y) k' ((i+1:Nat):Int)∧k≤k'∧k'≤k+(3:Nat):=by
  intro a k i hi ha hp hk hb
  have c:(0:Int)≤(i:Int)∧(i:Int)<(a.length:Int):=by omega
  refine⟨⟨k,k+1,mB (k+1+1)⟩,k+1+1+1,?_,by omega,by omega⟩
  show jV a k i=jV _ _ _
  rw[FC,ak c.2,bn c,aq (n:=k+1),aq (n:=k+1+1),aq (n:=k+1+1+1),ci hi (by omega),kZ _ (by omega)]
  simp only[aX,bn c,aa,af,nK,hi,List.set_set]
 obtain⟨k',e1,e2,e3⟩:=Gg (fun a k i=>jV a k i) (ib 2097152) 3 2305843009213693952 (fun a k=>by show jV a k _=_;rw[FC,bo (by simp)]) step l k (by omega) h.2 hk (by omega)
 exact⟨k',e1,e2,by omega⟩
theorem Np(x:bN)(n:Int)(h:ga 9223372036854775807 x)(h0:0≤n)(h1:n≤1048576):∃ r,y6 x n=some (r,())∧r≤1048576∧(0≤r→ga 1048576 x):=by
 unfold ga at h
 rw[Qx]
 obtain⟨r0,e0,f0,g0⟩:=DE x.Vars n (h.1) (by omega) (by omega)
 rw[e0,aa]
 dsimp only
 by_cases c0:r0<0
 ·rw[ak c0];exact⟨-1,rfl,by omega,fun h=>by omega⟩
 rw[aj c0]
 obtain⟨r1,e1,f1,g1⟩:=DE x.Cells r0 (h.2.1) (by omega) (by omega)
 rw[e1,aa]
 dsimp only
 by_cases c1:r1<0
 ·rw[ak c1];exact⟨-1,rfl,by omega,fun h=>by omega⟩
 rw[aj c1]
 obtain⟨r2,e2,f2,g2⟩:=DD x.Start r1 (h.2.2.1) (by omega) (by omega)
 rw[e2,aa]
 dsimp only
 by_cases c2:r2<0
 ·rw[ak c2];exact⟨-1,rfl,by omega,fun h=>by omega⟩
 rw[aj c2]
 obtain⟨r3,e3,f3,g3⟩:=DD x.Main r2 (h.2.2.2) (by omega) (by omega)
 rw[e3,aa]
 dsimp only
 by_cases c3:r3<0
 ·rw[ak c3];exact⟨-1,rfl,by omega,fun h=>by omega⟩
 rw[aj c3]
 exact⟨_,rfl,by omega,fun _=>by unfold ga;exact⟨g0 (by omega),g1 (by omega),g2 (by omega),g3 (by omega)⟩⟩
def mf(x:bN):bD:=⟨x.Vars,x.Cells,(x.Start.map kI),(x.Main.map kI)⟩
theorem Nz(x:bN)(h:ga 1048576 x):oz x=some (mf x,()):=by
 unfold ga at h
 rw[QJ]
 rw[DH _ (h.1),aa]
 rw[DH _ (h.2.1),aa]
 rw[DG _ (h.2.2.1),aa]
 rw[DG _ (h.2.2.2),aa]
 rfl
theorem Na{x:bN}{M:Nat}(h:ga M x):kp M (mf x):=by
 unfold ga at h
 unfold kp mf
 exact⟨h.1,h.2.1,⟨by rw[bh];exact(h.2.2.1).1,fun y hy=>by obtain⟨x',hx',rfl⟩:=List.mem_map.1 hy;exact Dx ((h.2.2.1).2 x' hx')⟩,⟨by rw[bh];exact(h.2.2.2).1,fun y hy=>by obtain⟨x',hx',rfl⟩:=List.mem_map.1 hy;exact Dx ((h.2.2.2).2 x' hx')⟩⟩
theorem M0(x:bD)(h:kp 2097152 x):yK x x=some (true,()):=by
 unfold kp at h
 rw[P7]
 rw[Dt _ (h.1),Dt _ (h.2.1),Ds _ (h.2.2.1),Ds _ (h.2.2.2)]
 simp
theorem Nf(x:bD)(k:Int)(h:kp 2097152 x)(hk:0≤k)(hb:k+16777216≤2305843009213693952):∃ k',yT x k=some (k',())∧k≤k'∧k'≤k+16777216:=by
 unfold kp at h
 obtain⟨k0,a0,c0,d0⟩:=DB x.Vars k (h.1) (by omega) (by omega)
 obtain⟨k1,a1,c1,d1⟩:=DB x.Cells k0 (h.2.1) (by omega) (by omega)
 obtain⟨k2,a2,c2,d2⟩:=DA x.Start k1 (h.2.2.1) (by omega) (by omega)
 obtain⟨k3,a3,c3,d3⟩:=DA x.Main k2 (h.2.2.2) (by omega) (by omega)
 refine⟨k3,?_,by omega,by omega⟩
 rw[Ql,a0,aa,a1,aa,a2,aa,a3,aa]
theorem UP(l:List Int)(hl:l.length≤9223372036854775807):AY l=some (!decide ((10:Int)∈l),()):=by
 rw[UO]
 have key:∀ (d i:Nat),i+d=l.length→vl l i=some (!decide ((10:Int)∈l.drop i),()):=by
  intro d
  induction d with
  | zero =>
   intro i hd
   rw[Iq,ap,aW (by omega)];simp
  | succ d ih =>
   intro i hd
   have hi:i<l.length:=by omega
   rw[Iq,an,al,ck hi,ci hi hl,ih (i+1) (by omega),ai hi]
   by_cases h:l[i]=10
   ·rw[ak h,h];simp
   ·rw[aj h]
    have h':¬ (10:Int)=l[i]:=fun e=>h e.symm
    simp only[aK,h',false_or]
 have:=key l.length 0 (by omega)
 simpa using this
def fB(c:bt):Bool :=
 if c.Who = -1 then decide (c.Seq=0)&&decide (c.Line=[])
 else decide (0≤c.Who∧c.Who≤2)&&(decide (1≤c.Seq∧c.Seq≤100000)&&(decide ((c.Line.length:Int)≤60) && !decide ((10:Int)∈c.Line)))
theorem SX(c:bt)(hl:c.Line.length≤9223372036854775807):z7 c=some (fB c,()):=by
 rw[SW]
 unfold fB
 simp only[dN,UP _ hl,aa,ab]
 by_cases h1:c.Who = -1
 ·simp only[bn h1]
  by_cases h2:c.Seq=0
  ·simp only[bn h2,ac h2,Bool.true_and]
  ·simp only[bo h2,ae h2,Bool.false_and]
 ·simp only[bo h1]
  by_cases h2:0≤c.Who∧c.Who≤2
  ·simp only[bn h2,ac h2,Bool.true_and]
   by_cases h3:1≤c.Seq∧c.Seq≤100000
   ·simp only[bn h3,ac h3,Bool.true_and]
    by_cases h4:(c.Line.length:Int)≤60
    ·simp only[bn h4,ac h4,Bool.true_and]
    ·simp only[bo h4,ae h4,Bool.false_and]
   ·simp only[bo h3,ae h3,Bool.false_and]
  ·simp only[bo h2,ae h2,Bool.false_and]
def Kl(m:bA):Prop:=fg m.State∧m.Done.length≤2097152∧m.Out.length≤2097152
theorem CT{d:Nat}{x:bP}(h:df (G:=gam) (d+3) (.nm 13) x):Bt x.S:=by
 have h':_∧_∧(x.S.length≤9223372036854775807∧∀ b∈x.S,0≤b∧b≤255)∧_:=h
 exact h'.2.2.1.2
theorem Mu{d:Nat}{x:bJ}(h:df (G:=gam) (d+4) (.nm 14) x):Bt x.Val.S:=by
 have h':_∧(x.Key.length≤9223372036854775807∧_)∧df (G:=gam) (d+3) (.nm 13) x.Val∧_:=h
 exact CT (d:=d+0) h'.2.2.1
def sm(x:bO):Prop:=(∀ y∈x.Vars,Bt y.S)∧∀ y∈x.Cells,Bt y.Val.S
theorem My{d:Nat}{x:bO}(h:df (G:=gam) (d+6) (.nm 12) x):sm x:=by
 have h':(x.Vars.length≤9223372036854775807∧∀ y∈x.Vars,df (G:=gam) (d+4) (.nm 13) y)∧(x.Cells.length≤9223372036854775807∧∀ y∈x.Cells,df (G:=gam) (d+4) (.nm 14) y)∧_∧_∧_:=h
 exact⟨fun y hy=>CT (d:=d+1) (h'.1.2 y hy),fun y hy=>Mu (d:=d+0) (h'.2.1.2 y hy)⟩
theorem Mw{d:Nat}{x:bL}(h:df (G:=gam) (d+7) (.nm 15) x):sm x.State:=by
 have h':df (G:=gam) (d+6) (.nm 12) x.State∧(x.Done.length≤9223372036854775807∧_)∧(x.Out.length≤9223372036854775807∧_)∧_:=h
 exact My (d:=d+0) h'.1
theorem CS{d:Nat}{x:bM}(h:df (G:=gam) (d+3) (.nm 1) x):∀ b∈x.S,0≤b∧b≤255:=by
 have h':_∧_∧(x.S.length≤9223372036854775807∧∀ b∈x.S,0≤b∧b≤255)∧_:=h
 exact h'.2.2.1.2
def BO(x:bN):Prop:=(∀ y∈x.Start,∀ b∈y.S,0≤b∧b≤255)∧∀ y∈x.Main,∀ b∈y.S,0≤b∧b≤255
theorem Mx{d:Nat}{x:bN}(h:df (G:=gam) (d+5) (.nm 0) x):BO x:=by
 have h':_∧_∧(x.Start.length≤9223372036854775807∧∀ y∈x.Start,df (G:=gam) (d+3) (.nm 1) y)∧(x.Main.length≤9223372036854775807∧∀ y∈x.Main,df (G:=gam) (d+3) (.nm 1) y)∧_:=h
 exact⟨fun y hy=>CS (d:=d+0) (h'.2.2.1.2 y hy),fun y hy=>CS (d:=d+0) (h'.2.2.2.1.2 y hy)⟩
theorem B7{l:List bM}(h:l.length≤1048576∧∀ y∈l,eJ 1048576 y)(hb:∀ y∈l,∀ b∈y.S,0≤b∧b≤255):lP (l.map kI):=by
 refine⟨by rw[bh];have:=h.1;omega,fun o ho=>?_⟩
 obtain⟨y,hy,rfl⟩:=List.mem_map.1 ho
 have:=h.2 y hy
 unfold eJ at this
 exact⟨hb y hy,by show y.S.length≤_;omega⟩
theorem KQ{x:bN}(h:ga 1048576 x)(hb:BO x):hU (mf x):=by
 unfold ga at h
 obtain⟨h1,h2,h3,h4⟩:=h
 exact⟨⟨by show x.Vars.length≤_;have:=h1.1;omega,fun y hy=>by have:=h1.2 y hy;omega⟩,⟨by show x.Cells.length≤_;have:=h2.1;omega,fun y hy=>by have:=h2.2 y hy;omega⟩,B7 h3 hb.1,B7 h4 hb.2⟩
theorem KR{x:bO}(h:gd 1048576 x)(hb:sm x):fg (qe x):=by
 unfold gd at h
 obtain⟨h1,h2⟩:=h
 refine⟨⟨by show(x.Vars.map kJ).length≤_;rw[bh];have:=h1.1;omega,fun v hv=>?_⟩,by show(x.Cells.map me).length≤_;rw[bh];have:=h2.1;omega,fun c hc=>?_⟩
 ·obtain⟨y,hy,rfl⟩:=List.mem_map.1 hv;exact hb.1 y hy
 ·obtain⟨y,hy,rfl⟩:=List.mem_map.1 hc;exact hb.2 y hy
theorem KP{x:bL}(h:gH 1048576 x)(hb:sm x.State):Kl (nL x):=by
 unfold gH at h
 exact⟨KR h.1 hb,by show x.Done.length≤_;have:=h.2.1;omega,by show x.Out.length≤_;have:=h.2.2;omega⟩
theorem Dn{x:bN}(h:ga 1048576 x):kp 2097152 (mf x):=by
 have:=Na h
 unfold kp ib at *
 obtain⟨h1,h2,h3,h4⟩:=this
 exact⟨⟨by omega,fun y hy=>by have:=h1.2 y hy;omega⟩,⟨by omega,fun y hy=>by have:=h2.2 y hy;omega⟩,⟨by omega,fun y hy=>by have:=h3.2 y hy;omega⟩,⟨by omega,fun y hy=>by have:=h4.2 y hy;omega⟩⟩
theorem MR{x:bA}(h:eI 1048576 x):eI 2097152 x:=by
 unfold eI fQ fR ia fR at *
 obtain⟨⟨⟨a1,a2⟩,b1,b2⟩,c1,c2⟩:=h
 exact⟨⟨⟨by omega,fun y hy=>by have:=a2 y hy;omega⟩,by omega,fun y hy=>by have:=b2 y hy;omega⟩,by omega,by omega⟩
theorem StG.gi{nv:Nat}{nc:Int}{s:bF}(h:StG nv nc s)(hn:nv≤100000):fQ 2097152 s:=by
 obtain⟨⟨h1,h2⟩,⟨c1,c2,c3⟩,_⟩:=h
 unfold fQ
 refine⟨⟨by omega,fun v hv=>?_⟩,⟨by omega,fun c hc=>?_⟩⟩
 ·have:=(h2 v hv).bd.2
  unfold fR;omega
 ·obtain⟨_,_,g3,g4⟩:=c2 c hc
  have:=g4.bd.2
  unfold ia fR
  exact⟨by omega,by omega⟩
theorem Lt(l:List Int)(hl:l.length≤4294967296):Bl l=some (l,()):=by
 rw[V1,bn (show 0+l.length≤room by rw[ch];omega)]
 cases l with
 | nil=>exact lZ _
 | cons a l=>rfl
theorem Ls(l:List bG)(hl:l.length≤4294967296):pj l=some (l,()):=by
 rw[vW,bn (show 0+l.length≤room by rw[ch];omega)]
 cases l with
 | nil=>exact lZ _
 | cons a l=>rfl
theorem Lr(l:List bq)(hl:l.length≤4294967296):rQ l=some (l,()):=by
 rw[Bk,bn (show 0+l.length≤room by rw[ch];omega)]
 cases l with
 | nil=>exact lZ _
 | cons a l=>rfl
theorem rm{n:Nat}(h:n≤2097152):0+n≤room:=by rw[ch];omega
theorem LW(x:bF)(h:fQ 2097152 x):gN x=some (x,()):=by
 unfold fQ at h
 rw[xQ,Ls _ (by have:=h.1.1;omega),aa,Lr _ (by have:=h.2.1;omega)];rfl
theorem LX(x:bF)(h:fQ 2097152 x):lC x=some (x,()):=by
 unfold fQ at h
 rw[HQ,bn (rm h.1.1),bn (rm h.2.1)];rfl
theorem LV(x:bA)(h:eI 2097152 x):xP x=some (x,()):=by
 unfold eI at h
 rw[Ou,LW _ h.1,aa,Lt _ (by have:=h.2.1;omega)];rfl
theorem CB(x:bA)(h:eI 2097152 x):rn x=some (x,()):=by
 unfold eI at h
 rw[Uh,LX _ h.1,aa,bn (rm h.2.1)];rfl
def MG(p:bD)(m:bA):Prop:=StG p.Vars.length p.Cells.length m.State∧(m.Done.length=3∧∀ n∈m.Done,0≤n∧n≤100000)∧m.Out.length≤1500
theorem MG.gi{p:bD}{m:bA}(hp:PrI p)(h:MG p m):eI 2097152 m:=by
 have:=hp.nv
 exact⟨h.1.gi (by omega),by have:=h.2.1.1;omega,by have:=h.2.2;omega⟩
theorem MG.to{p:bD}{m:bA}(hp:PrI p)(h:MG p m):fH p m=true∧fg m.State∧m.Done.length≤2097152:=by
 have:=hp.nv
 obtain⟨h1,⟨h2,h3⟩,h4⟩:=h
 obtain⟨b1,b2⟩:=h1.to (by omega)
 refine⟨?_,b2,by omega⟩
 unfold fH
 have e:(m.Done.any fun n=>!decide (0≤n∧n≤100000))=false:=List.any_eq_false.2 fun n hn=>by rw[ac (h3 n hn)];decide
 rw[hp.1,b1,e,ac (show(m.Done.length:Int)=3 by omega),ac (show(m.Out.length:Int)≤1500 by omega)]
 rfl
theorem MG.of{p:bD}{m:bA}(h:fH p m=true)(hb:fg m.State):fd p=true∧MG p m:=by
 unfold fH at h
 rw[az,az,az,az,ab,ab,Bool.not_eq_true',List.any_eq_false]at h
 obtain⟨h1,h2,h3,h4,h5⟩:=h
 exact⟨h1,StG.of h2 hb,⟨by omega,fun n hn=>by have:=h4 n hn;simpa using this⟩,by omega⟩
noncomputable def eN(p:bD):bA:=⟨(IZ p).1,[0,0,0],(IZ p).2⟩
theorem QX(l:List Int):xY l=some (decide ((l.length:Int)≤60) && !decide ((10:Int)∈l),()):=by
 have e:decide ([(10:Int)] <:+: l)=decide ((10:Int)∈l):=decide_eq_decide.2 ⟨fun h=>List.singleton_sublist.1 (List.IsInfix.sublist h),fun h=>by
  obtain⟨s,t,rfl⟩:=List.append_of_mem h
  exact⟨s,t,by simp⟩⟩
 rw[OJ]
 by_cases c:(l.length:Int)≤60
 ·rw[ak c,wU l [10] (by omega),e,ac c,Bool.true_and];rfl
 ·rw[aj c,ae c,Bool.false_and]
theorem LC(c:bt):xz c=some (fB c,()):=by
 rw[NJ,QX,eL,eL]
 simp only[aa]
 unfold fB
 by_cases h:c.Who = -1
 ·rw[ak h,bn h]
  cases decide (c.Seq=0) <;> rfl
 ·rw[aj h,bo h]
  cases decide (0≤c.Who∧c.Who≤2) <;> cases decide (1≤c.Seq∧c.Seq≤100000) <;> cases decide ((c.Line.length:Int)≤60) <;> rfl
noncomputable def doV(p:bD)(m:bA)(c:bt):bA :=
 if c.Who<0 then m else if c.Seq≤m.Done.getD c.Who.toNat 0 then m
 else if m.State.Err=0 then
  (if m.Out.length+(fk p m.State c.Line).2.length>1500 then⟨⟨m.State.Vars,m.State.Cells,m.State.Nr,5⟩,m.Done.set c.Who.toNat c.Seq,m.Out⟩
  else⟨(fk p m.State c.Line).1,m.Done.set c.Who.toNat c.Seq,m.Out++(fk p m.State c.Line).2⟩)
 else⟨m.State,m.Done.set c.Who.toNat c.Seq,m.Out⟩
theorem wP{c:bt}(h:fB c=true)(h0:¬ c.Who<0):c.Who≤2∧(1≤c.Seq∧c.Seq≤100000)∧c.Line.length≤60:=by
 unfold fB at h
 rw[am,az,az,az,ab,ab,ab]at h
 exact⟨h.1.2,h.2.1,by have:=h.2.2.1;omega⟩
theorem Mc{p:bD}{m:bA}{c:bt}(hp:PrI p)(hm:MG p m)(hc:fB c=true)(hb:Bt c.Line):MG p (doV p m c):=by
 unfold doV
 by_cases c1:c.Who<0
 ·rw[bn c1];exact hm
 rw[bo c1]
 by_cases c2:c.Seq≤m.Done.getD c.Who.toNat 0
 ·rw[bn c2];exact hm
 rw[bo c2]
 obtain⟨b1,b2,b3⟩:=wP hc c1
 obtain⟨h1,⟨h2,h3⟩,h4⟩:=hm
 have hd:(m.Done.set c.Who.toNat c.Seq).length=3∧∀ n∈m.Done.set c.Who.toNat c.Seq,0≤n∧n≤100000:=⟨by rw[aX];exact h2,fun n hn=>by
  rcases List.mem_or_eq_of_mem_set hn with hn | hn
  ·exact h3 n hn
  ·omega⟩
 by_cases c3:m.State.Err=0
 ·obtain⟨_,_,g1,g2,g3⟩:=tX hp (h1.i c3) ⟨by omega,hb⟩
  rw[bn c3]
  by_cases c4:m.Out.length+(fk p m.State c.Line).2.length>1500
  ·rw[bn c4]
   exact⟨⟨h1.1,h1.2.1,h1.2.2.1,by show(0:Int)≤5;omega,by show(5:Int)≤7;omega⟩,hd,h4⟩
  ·rw[bo c4]
   exact⟨g1,hd,by show(m.Out++_).length≤_;rw[ag];omega⟩
 ·rw[bo c3]
  exact⟨h1,hd,h4⟩
theorem Md{p:bD}{m:bA}{c:bt}(hp:PrI p)(hm:MG p m)(hc:fB c=true)(hb:Bt c.Line):AF p m c=some (doV p m c,()):=by
 rw[Ui,CB m (hm.gi hp),aa]
 dsimp only
 unfold doV
 by_cases c1:c.Who<0
 ·rw[ak c1,bn c1]
 obtain⟨b1,b2,b3⟩:=wP hc c1
 obtain⟨h1,⟨h2,h3⟩,h4⟩:=hm
 rw[aj c1,bo c1,al]
 by_cases c2:c.Seq≤m.Done.getD c.Who.toNat 0
 ·rw[ak c2,bn c2]
 rw[aj c2,bo c2,al]
 by_cases c3:m.State.Err=0
 ·obtain⟨_,e2,g1,g2,g3⟩:=tX hp (h1.i c3) ⟨by omega,hb⟩
  rw[ac c3,bo (by decide),bn c3,e2,aa]
  dsimp only
  rw[aq]
  by_cases c4:m.Out.length+(fk p m.State c.Line).2.length>1500
  ·rw[an,bn c4]
  ·rw[ap,bo c4,al]
 ·rw[ae c3,bn (by decide),bo c3]
noncomputable def mC(p:bD)(m:bA)(c:bt):bA:=if fH p m=true∧fB c=true then doV p m c else m
theorem Rg{p:bD}{m:bA}{c:bt}(hp:hU p)(hm:eI 2097152 m)(hs:fg m.State)(hb:Bt c.Line):s6 p m c=some (mC p m c,()):=by
 rw[NX,LV m hm,N0 p m hp hs (by have:=hm.2.1;omega),LC,aa,aa,aa]
 dsimp only
 unfold mC
 by_cases c0:fH p m=true∧fB c=true
 ·obtain⟨k1,k2⟩:=c0
  obtain⟨hpB,hG⟩:=MG.of k1 hs
  have hP:PrI p:=⟨hpB,hp⟩
  rw[bn (c:=fH p m=true∧fB c=true) ⟨k1,k2⟩,k1,k2,bo (by decide),bo (by decide)]
  unfold doV
  by_cases c1:c.Who<0
  ·rw[ak c1,bn c1]
  obtain⟨b1,b2,b3⟩:=wP k2 c1
  obtain⟨h1,⟨h2,h3⟩,h4⟩:=hG
  rw[aj c1,bo c1,al]
  by_cases c2:c.Seq≤m.Done.getD c.Who.toNat 0
  ·rw[ak c2,bn c2]
  rw[aj c2,bo c2,al,SH hp hs ⟨by omega,hb⟩ ⟨hs.1.1,hs.2.1⟩,aa]
  have hnv:=hP.nv
  by_cases c3:m.State.Err=0
  ·obtain⟨_,e2,g1,g2,g3⟩:=tX hP (h1.i c3) ⟨by omega,hb⟩
   have er:mL p m.State c.Line=fk p m.State c.Line:=by unfold mL;rw[bn ⟨hpB,(h1.to (by omega)).1,c3⟩]
   rw[er,bn c3]
   dsimp only
   rw[aq]
   by_cases c4:m.Out.length+(fk p m.State c.Line).2.length>1500
   ·rw[an,bn c4]
   ·rw[ap,bo c4,al]
  ·have er:mL p m.State c.Line=(m.State,[]):=by unfold mL;rw[bo (fun h=>c3 h.2.2)]
   rw[er,bo c3]
   dsimp only
   rw[List.length_nil,aq,ap,al,aH]
 ·rw[bo c0]
  cases k1:fH p m with
  | false=>rw[bn (by decide)]
  | true =>
   rw[bo (by decide)]
   cases k2:fB c with
   | false=>rw[bn (by decide)]
   | true=>exact absurd ⟨k1,k2⟩ c0
theorem Rh{p:bD}{m:bA}{c:bt}(hp:hU p)(hm:eI 2097152 m)(hs:fg m.State)(hb:Bt c.Line)(hl:c.Line.length≤2097152):Ai p m c=some (mC p m c,()):=by
 rw[Tj,Tl p m hp hs (by have:=hm.2.1;omega),SX c (by omega),CB m hm]
 simp only[aa]
 unfold mC
 by_cases c0:fH p m=true∧fB c=true
 ·obtain⟨k1,k2⟩:=c0
  obtain⟨hpB,hG⟩:=MG.of k1 hs
  simp only[k1,k2,and_self,if_true,Bool.not_true,Bool.false_eq_true,if_false,Md ⟨hpB,hp⟩ hG k2 hb,aa]
 ·rw[bo c0]
  cases k1:fH p m with
  | false=>rw[bn (by decide)]
  | true =>
   rw[bo (by decide)]
   cases k2:fB c with
   | false=>rw[bn (by decide)]
   | true=>exact absurd ⟨k1,k2⟩ c0
theorem Rf{p:bD}{m:bA}{c:bt}(hp:hU p)(hm:eI 2097152 m)(hs:fg m.State)(hb:Bt c.Line):eI 2097152 (mC p m c):=by
 unfold mC
 by_cases c0:fH p m=true∧fB c=true
 ·obtain⟨hpB,hG⟩:=MG.of c0.1 hs
  rw[bn c0];exact(Mc ⟨hpB,hp⟩ hG c0.2 hb).gi ⟨hpB,hp⟩
 ·rw[bo c0];exact hm
end Go.Proofs.YthgknhkeifcflaaGreatDoor.E.TD
