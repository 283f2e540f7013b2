/- What the pure statement needs (2). No condition. -/
import Derived.Test.YthgknhkeifcflaaGreatDoorM1
import Derived.Test.YthgknhkeifcflaaGreatDoorTEe1
import Derived.Test.YthgknhkeifcflaaGreatDoorTEe2
import Derived.Test.YthgknhkeifcflaaGreatDoorTEe3
import Derived.Test.YthgknhkeifcflaaGreatDoorTEe4
namespace Go.Proofs.YthgknhkeifcflaaGreatDoor.E.TE
open Go.Proofs.YthgknhkeifcflaaGreatDoor.E
set_option linter.unusedVariables false
def j9(a b c:Int):Int:=if c≥a∧c<w8 (a+26)then w8 (w8 (c-a)+b)else c
def gR(a b:Int)(t:List Int):List Int:=t.map (j9 a b)
theorem I0{a b:Int}{t:List Int}(h:Bt t):Bt (gR a b t):=fun x hx=>by
 obtain⟨c,hc,rfl⟩:=List.mem_map.1 hx
 unfold j9
 split
 ·exact UX _
 ·exact h c hc
theorem Uq{α:Type}{t:List α}{i:Nat}(h:i<t.length)(x:α):(t.set i x).take (i+1)=t.take i++[x]:=by
 rw[List.take_add_one,List.take_set_of_le (aG _),List.getElem?_set_self h];rfl
theorem UH{α:Type}{t:List α}{i:Nat}(h:i<t.length):t.take (i+1)=t.take i++[t[i]]:=by
 rw[List.take_add_one,List.getElem?_eq_getElem h];rfl
theorem UP(a b:Int)(n:Nat)(hn:n≤4294967296):∀ (d i:Nat) (t:List Int),t.length=n→i+d=n→nZ a b t (n:Int) (i:Int)=some (t.take i++gR a b (t.drop i),())∧oQ a b t (i:Int)=some (t.take i++gR a b (t.drop i),()):=by
 intro d
 induction d with
 | zero =>
  intro i t ht hi
  rw[EI,HF,ap,ap,a8 (by omega),aW (by omega)]
  unfold gR
  rw[List.map_nil,aH];exact⟨rfl,rfl⟩
 | succ d ih =>
  intro i t ht hi
  have hi':i<t.length:=by omega
  have hin:(0:Int)≤(i:Int)∧(i:Int)<(t.length:Int):=by omega
  have hdrop:gR a b (t.drop i)=j9 a b t[i]::gR a b (t.drop (i+1)):=by rw[ai hi'];rfl
  obtain⟨k1,k2⟩:=ih (i+1) t ht (by omega)
  obtain⟨s1,s2⟩:=ih (i+1) (t.set i (w8 (w8 (t[i]-a)+b))) (by rw[aX];exact ht) (by omega)
  rw[Uq hi',List.drop_set_of_lt (by omega),ah]at s1 s2
  rw[UH hi',ah]at k1 k2
  rw[EI,HF,an,ak hin.2,hdrop]
  simp only[bm hin,ch hi' (by omega),af,cE hi']
  by_cases c1:t[i]≥a
  ·simp only[ac c1,if_true]
   by_cases c2:t[i]<w8 (a+26)
   ·have e:j9 a b t[i]=w8 (w8 (t[i]-a)+b):=by unfold j9;rw[bm ⟨c1,c2⟩]
    simp only[ac c2,if_true]
    rw[e];exact⟨s1,s2⟩
   ·have e:j9 a b t[i]=t[i]:=by unfold j9;rw[bn (fun h=>c2 h.2)]
    simp only[ae c2,Bool.false_eq_true,if_false]
    rw[e];exact⟨k1,k2⟩
  ·have e:j9 a b t[i]=t[i]:=by unfold j9;rw[bn (fun h=>c1 h.1)]
   simp only[ae c1,Bool.false_eq_true,if_false]
   rw[e];exact⟨k1,k2⟩
theorem vx(a b:Int)(t:List Int)(ht:t.length≤300):tt t a b=some (gR a b t,())∧uD t a b=some (gR a b t,()):=by
 obtain⟨e1,e2⟩:=UP a b t.length (by omega) t.length 0 t rfl (by omega)
 rw[List.take_zero,aM,bg]at e1 e2
 rw[OT,S7,bm (by rw[cg];omega),bm (by rw[cg];omega)]
 exact⟨e1,e2⟩
theorem OW{l t:List Int}(h:l.length<t.length):cD l t = -1:=by
 have hb:=kX l t
 have:=(yk t l).1
 by_cases c:0≤cD l t
 ·have:=(this c).length_le;omega
 ·omega
theorem SX(s t:List Int)(hs:s.length≤300)(ht:t.length≤300):∀ (d i:Nat),i+d=s.length→uF s t (i:Int)=some (if cD (s.drop i) t = -1 then 0 else(i:Int)+cD (s.drop i) t+1,()):=by
 intro d
 induction d with
 | zero =>
  intro i hi
  have hw:w64 ((i:Int)+(t.length:Int))=((i+t.length:Nat):Int):=by rw[aq];omega
  have hd:s.drop i=[]:=aW (by omega)
  rw[HJ,hw,hd]
  cases t with
  | nil =>
   rw[ak (by simp;omega),bm (by simp;omega)]
   rw[bm (by simp[hd]),aq]
   simp[cD]
  | cons c t =>
   rw[bn (by rw[ab,aR];omega)]
   simp[cD]
 | succ d ih =>
  intro i hi
  have hi':i<s.length:=by omega
  have hw:w64 ((i:Int)+(t.length:Int))=((i+t.length:Nat):Int):=by rw[aq];omega
  rw[HJ,hw]
  by_cases c:i+t.length≤s.length
  ·have hpre:(t.isPrefixOf (s.drop i)=true)↔(s.drop i).take t.length=t:=by
    rw[List.isPrefixOf_iff_prefix,List.prefix_iff_eq_take];exact eq_comm
   have hcons:=ai hi'
   rw[an,al,af,af,show i+t.length-i=t.length by omega,ch hi' (by omega)]
   by_cases c2:(s.drop i).take t.length=t
   ·have e:cD (s.drop i) t=0:=by rw[hcons]at hpre c2 ⊢;unfold cD;rw[bm (hpre.2 c2)]
    rw[ak c2,e,bn (by decide)]
    congr 2
   ·have hn:¬ t.isPrefixOf (s.drop i)=true:=fun h=>c2 (hpre.1 h)
    have e:cD (s.drop i) t=if cD (s.drop (i+1)) t = -1 then -1 else cD (s.drop (i+1)) t+1:=by rw[hcons]at hn ⊢;exact(by rw[cD,bn hn])
    have hb:=kX (s.drop (i+1)) t
    rw[aj c2,ih (i+1) (by omega),e]
    by_cases c3:cD (s.drop (i+1)) t = -1
    ·rw[bm c3,bm c3,bm rfl]
    ·rw[bn c3,bn c3,am]
     congr 2;omega
  ·rw[ap,bm (OW (by rw[aQ];omega))]
theorem SY(s t:List Int)(hs:s.length≤300)(ht:t.length≤300):Af s t=some (cD s t+1,()):=by
 rw[Tb]
 have:=SX s t hs ht s.length 0 (by omega)
 rw[aM]at this
 rw[show(0:Int)=((0:Nat):Int)from rfl,this]
 have hb:=kX s t
 congr 2
 split <;> omega
def lm(s:List Int)(f t:Int):List Int:=if mnI t s.length<mxI f 1 then []else List.take ((mnI t s.length).toNat-(mxI f 1-1).toNat) (List.drop (mxI f 1-1).toNat s)
theorem Rf{s:List Int}(hs:s.length≤300)(hb:Bt s)(f t:Int):(lm s f t).length≤300∧Bt (lm s f t):=by
 unfold lm
 split
 ·exact⟨Nat.zero_le _,fun x hx=>by cases hx⟩
 ·exact⟨by rw[aP,aQ];omega,fun x hx=>hb x (List.mem_of_mem_drop (List.mem_of_mem_take hx))⟩
theorem Er(s:List Int)(f t:Int)(hs:s.length≤300)(hf:-9000000≤f∧f≤9000000):tl s f t=some (lm s f t,()):=by
 have h1:1≤mxI f 1∧mxI f 1≤9000000:=by unfold mxI;split <;> omega
 have h2:mnI t s.length≤(s.length:Int):=by unfold mnI;split <;> omega
 rw[Ot]
 unfold lm
 by_cases c:mxI f 1>mnI t s.length
 ·rw[ak c,bm c]
 ·rw[aj c,bn c,aq,bm (c:=_∧_) (by omega)]
theorem Ia(s:List Int)(f t:Int)(hs:s.length≤300)(hf:-9000000≤f∧f≤9000000):uG s f (mnI t s.length)=some (lm s f t,()):=by
 have hm:oW f 1=some (mxI f 1,()):=by
  rw[Aw]
  unfold mxI
  by_cases c:f>1
  ·rw[ak c,am]
  ·rw[aj c]
   split
   ·rfl
   ·congr 2;omega
 rw[Tf,hm,aa]
 dsimp only
 unfold lm
 by_cases c:mnI t s.length<mxI f 1
 ·rw[ak c,bm c]
 ·have h1:1≤mxI f 1∧mxI f 1≤9000000:=by unfold mxI;split <;> omega
  have h2:mnI t s.length≤(s.length:Int):=by unfold mnI;split <;> omega
  rw[aj c,bn c,aq,al]
noncomputable def iL(name:List Int)(l:List bF):bF :=
 if name=[108,101,110,103,116,104] then⟨1,((ct (l.getD 0 bU)).length:Int)*1000000,[]⟩
 else if name=[105,110,116] then⟨1,Int.tdiv (cJ (l.getD 0 bU)) 1000000*1000000,[]⟩
 else if name=[117,112,112,101,114] then⟨2,0,gR 97 65 (ct (l.getD 0 bU))⟩
 else if name=[108,111,119,101,114] then⟨2,0,gR 65 97 (ct (l.getD 0 bU))⟩
 else if name=[105,110,100,101,120] then⟨1,(cD (ct (l.getD 0 bU)) (ct (l.getD 1 bU))+1)*1000000,[]⟩
 else⟨2,0,lm (ct (l.getD 0 bU)) (dB (l.getD 1 bU)) (if 2<l.length then dB (l.getD 1 bU)+dB (l.getD 2 bU)-1 else((ct (l.getD 0 bU)).length:Int))⟩
theorem cZ{l:List bF}(h:∀ v∈l,VG v)(i:Nat):VG (l.getD i bU):=by
 by_cases c:i<l.length
 ·rw[cE c];exact h _ (aV c)
 ·rw[List.getD_eq_getElem?_getD,List.getElem?_eq_none (by omega)];exact pD
theorem KY{l:List bF}(h:∀ v∈l,VG v)(name:List Int):VG (iL name l):=by
 obtain⟨t1,t2⟩:=eO (cZ h 0)
 obtain⟨u1,u2⟩:=eO (cZ h 1)
 unfold iL
 split
 ·exact g9 (by unfold Dc;omega)
 split
 ·exact g9 (sA (dA (cZ h 0)).2.2).2.2
 split
 ·exact pE (by unfold gR;rw[bh];exact t1) (I0 t2)
 split
 ·exact pE (by unfold gR;rw[bh];exact t1) (I0 t2)
 split
 ·have:=kX (ct (l.getD 0 bU)) (ct (l.getD 1 bU))
  exact g9 (by unfold Dc;omega)
 ·obtain⟨p1,p2⟩:=Rf t1 t2 (dB (l.getD 1 bU)) (if 2<l.length then dB (l.getD 1 bU)+dB (l.getD 2 bU)-1 else((ct (l.getD 0 bU)).length:Int))
  exact pE p1 p2
theorem D6{l:List bF}(h:∀ v∈l,VG v)(h2:2≤l.length)(h3:l.length≤3)(name:List Int):tc name l bU=some (iL name l,()):=by
 obtain⟨t1,t2⟩:=eO (cZ h 0)
 obtain⟨u1,u2⟩:=eO (cZ h 1)
 obtain⟨w1,w2,w3⟩:=pe (cZ h 1)
 obtain⟨x1,x2,x3⟩:=pe (cZ h 2)
 obtain⟨n1,n2,n3⟩:=dA (cZ h 0)
 have hix:=kX (ct (l.getD 0 bU)) (ct (l.getD 1 bU))
 rw[D5,ap,al,fw,aa]
 dsimp only
 unfold iL
 by_cases c1:name=[108,101,110,103,116,104]
 ·rw[ak c1,bm c1,yW,aq,gG];rfl
 rw[aj c1,bn c1]
 by_cases c2:name=[105,110,116]
 ·rw[ak c2,bm c2,al,n1,aa]
  dsimp only
  rw[(sA n3).1,aa,gG];rfl
 rw[aj c2,bn c2]
 by_cases c3:name=[117,112,112,101,114]
 ·rw[ak c3,bm c3,(vx 97 65 _ t1).1,aa,kW];rfl
 rw[aj c3,bn c3]
 by_cases c4:name=[108,111,119,101,114]
 ·rw[ak c4,bm c4,(vx 65 97 _ t1).1,aa,kW];rfl
 rw[aj c4,bn c4]
 by_cases c5:name=[105,110,100,101,120]
 ·rw[ak c5,bm c5,al,fw,aa]
  dsimp only
  rw[Bk,al,aa]
  dsimp only
  rw[aq (n:=cD (ct (l.getD 0 bU)) (ct (l.getD 1 bU))+1),aq,gG];rfl
 rw[aj c5,bn c5,al,w1,aa]
 dsimp only
 by_cases c6:2<l.length
 ·rw[an,al,x1,aa]
  dsimp only
  rw[aq (n:=dB (l.getD 1 bU)+dB (l.getD 2 bU)),aq,Er _ _ _ t1 w3,aa,kW,bm c6];rfl
 ·rw[ap,Er _ _ _ t1 w3,aa,kW,bn c6];rfl
theorem NM{l:List bF}(h:∀ v∈l,VG v)(h1:1≤l.length)(h3:l.length≤3)(name:List Int):xE name l=some (iL name l,()):=by
 rw[NL]
 by_cases c:2≤l.length
 ·exact D6 h c h3 name
 ·obtain⟨v,e⟩:=List.length_eq_one_iff.1 (show l.length=1 by omega)
  subst e
  have h2:=D6 (l:=[v,bU]) (fun w hw=>by
   rcases aK.1 hw with rfl | hw
   ·exact h _ (aD ..)
   ·rw[aJ.1 hw];exact pD) (by simp) (by simp) name
  rw[D5,bm (by simp),vO,bn (c:=Nat.beq (List.length [v]) 0=true) (show ¬ Nat.beq 1 0=true by decide),bm (by rw[cg];simp),aa]
  dsimp only
  rw[bm (by rw[cg];show 2≤4294967296;decide)]
  exact h2
theorem SR{l:List bF}(h:∀ v∈l,VG v)(h1:1≤l.length)(h3:l.length≤3)(name:List Int)(hn:name∈kw2):Ai name l=some (iL name l,()):=by
 have main:∀ l:List bF,(∀ v∈l,VG v)→1≤l.length→l.length≤3→(2≤l.length∨(name≠[105,110,100,101,120]∧name≠[115,117,98,115,116,114]))→mQ name l=some (iL name l,()):=by
  intro l h h1 h3 h2
  obtain⟨t1,t2⟩:=eO (cZ h 0)
  obtain⟨u1,u2⟩:=eO (cZ h 1)
  obtain⟨w1,w2,w3⟩:=pe (cZ h 1)
  obtain⟨x1,x2,x3⟩:=pe (cZ h 2)
  obtain⟨n1,n2,n3⟩:=dA (cZ h 0)
  have hix:=kX (ct (l.getD 0 bU)) (ct (l.getD 1 bU))
  rw[S6]
  unfold iL
  by_cases c1:name=[108,101,110,103,116,104]
  ·rw[ak c1,bm c1,al,fE,aa]
   dsimp only
   rw[aq,fP,Int.mul_comm];rfl
  rw[aj c1,bn c1]
  by_cases c2:name=[105,110,116]
  ·rw[ak c2,bm c2,al,n2,aa]
   dsimp only
   rw[(sA n3).2.1,aa,fP];rfl
  rw[aj c2,bn c2]
  by_cases c5:name=[105,110,100,101,120]
  ·have hl2:2≤l.length:=h2.elim id fun h=>absurd c5 h.1
   rw[ak c5,al,fE,aa,al,fE,aa]
   dsimp only
   rw[SY _ _ t1 u1,aa]
   dsimp only
   rw[aq,fP,bn (by rw[c5];decide),bn (by rw[c5];decide),bm c5,Int.mul_comm];rfl
  rw[aj c5]
  by_cases c3:name=[117,112,112,101,114]
  ·rw[ak c3,bm c3,al,fE,aa]
   dsimp only
   rw[(vx 97 65 _ t1).2];rfl
  rw[aj c3,bn c3]
  by_cases c4:name=[108,111,119,101,114]
  ·rw[ak c4,bm c4,al,fE,aa]
   dsimp only
   rw[(vx 65 97 _ t1).2];rfl
  rw[aj c4,bn c4,bn c5]
  have hsub:name=[115,117,98,115,116,114]:=by
   unfold kw2 at hn
   simp only[aK,List.not_mem_nil,or_false]at hn
   rcases hn with h | h | h | h | h | h
   ·exact absurd h c1
   ·exact h
   ·exact absurd h c5
   ·exact absurd h c2
   ·exact absurd h c3
   ·exact absurd h c4
  have hl2:2≤l.length:=h2.elim id fun h=>absurd hsub h.2
  obtain⟨m1,m2,m3⟩:=dA (cZ h 1)
  obtain⟨k1,k2,k3⟩:=dA (cZ h 2)
  rw[Tg,al,fE,aa,al,m2,aa]
  dsimp only
  by_cases c6:2<l.length
  ·rw[an,al,k2,aa]
   dsimp only
   rw[w2,x2,aq (n:=dB (l.getD 1 bU)+dB (l.getD 2 bU)),aq,bm c6]
   have hmin:rj ((ct (l.getD 0 bU)).length:Int) (dB (l.getD 1 bU)+dB (l.getD 2 bU)-1)=some (mnI (dB (l.getD 1 bU)+dB (l.getD 2 bU)-1) ((ct (l.getD 0 bU)).length:Int),()):=by
    rw[HS]
    unfold mnI
    by_cases c7:((ct (l.getD 0 bU)).length:Int)<dB (l.getD 1 bU)+dB (l.getD 2 bU)-1
    ·rw[ak c7,bm c7]
    ·rw[aj c7,bn c7]
   rw[hmin,aa]
   dsimp only
   rw[Ia _ _ _ t1 w3];rfl
  ·rw[ap,w2,bn c6]
   have hmm:((ct (l.getD 0 bU)).length:Int)=mnI ((ct (l.getD 0 bU)).length:Int) ((ct (l.getD 0 bU)).length:Int):=by unfold mnI;split <;> rfl
   have:=Ia (ct (l.getD 0 bU)) (dB (l.getD 1 bU)) ((ct (l.getD 0 bU)).length:Int) t1 w3
   rw[← hmm]at this
   rw[this];rfl
 rw[To]
 by_cases c:2≤l.length
 ·rw[ap,main l h h1 h3 (.inl c)];rfl
 ·obtain⟨v,e⟩:=List.length_eq_one_iff.1 (show l.length=1 by omega)
  subst e
  have h2:=main [v,bU] (fun w hw=>by
   rcases aK.1 hw with rfl | hw
   ·exact h _ (aD ..)
   ·rw[aJ.1 hw];exact pD) (by simp) (by simp) (.inl (by simp))
  have h2':mQ name (List.append (List.append [] [v]) [(bF.mk 0 0 [])])=some (iL name [v],()):=h2
  rw[bm (by simp)]
  by_cases c5:name=[105,110,100,101,120]
  ·rw[ak c5,bm (by rw[cg];simp),bm (by rw[cg];show 2≤4294967296;decide),h2'];rfl
  ·rw[aj c5]
   by_cases c7:name=[115,117,98,115,116,114]
   ·rw[ak c7,bm (by rw[cg];simp),bm (by rw[cg];show 2≤4294967296;decide),h2'];rfl
   ·rw[aj c7,main [v] h h1 h3 (.inr ⟨c5,c7⟩)];rfl
theorem j3{α:Type}(l r:List α)(p q:α):(l++p::r).set l.length q=l++q::r:=by
 rw[List.set_append_right _ _ (aG _),Nat.sub_self];rfl
theorem jx{α:Type}(l r:List α)(p z:α):(l++p::r).getD l.length z=p:=by
 rw[List.getD_eq_getElem?_getD,List.getElem?_append_right (aG _),Nat.sub_self];rfl
def SP(l:List bB):Prop:=∀ p∈l,p.Set.length≤256
theorem pA{l m:List bB}(h:SP l)(g:SP m):SP (l++m):=fun p hp=>(aA.1 hp).elim (h p) (g p)
theorem kr{a:bB}{l:List bB}(h:a.Set.length≤256)(g:SP l):SP (a::l):=fun p hp=>(aK.1 hp).elim (fun e=>by rw[e];exact h) (g p)
theorem lT:SP []:=fun p hp=>by cases hp
theorem Kd{l:List bB}(h:SP l){i:Nat}{a:bB}(g:a.Set.length≤256):SP (l.set i a):=fun p hp=>(List.mem_or_eq_of_mem_set hp).elim (h p) fun e=>by rw[e];exact g
theorem Kc{l:List bB}(h:SP l)(i:Nat):(l.getD i b8).Set.length≤256:=by
 by_cases c:i<l.length
 ·rw[cE c];exact h _ (aV c)
 ·rw[List.getD_eq_getElem?_getD,List.getElem?_eq_none (by omega)];decide
def Plc(x:bD)(f:Nat→List bB)(L:Nat):Prop:=(∀ n,(f n).length=L)∧L+2≤4*cA x∧(∀ n,SP (f n)) ∧
 ∀ out:List bB,out.length+4*cA x≤100000→fx out x=some (out++f out.length,())∧fG out x=some (out++f out.length,())
def J9(ks:List bD)(g:Nat→List bB)(L i d:Nat):Prop:=(∀ n,(g n).length=L)∧L+2*d≤4*cy (ks.drop i)∧(∀ n,SP (g n)) ∧
 ∀ out:List bB,out.length+4*cy (ks.drop i)≤100000→qn out ks (ks.length:Int) (i:Int)=some (out++g out.length,())∧∀ x:bD,x.Kids=ks→rv out (i:Int) x=some (out++g out.length,())
theorem K1(ks:List bD)(h:∀ k∈ks,∃ f L,Plc k f L)(hl:ks.length≤1000):∀ d i,i+d=ks.length→∃ g L,J9 ks g L i d:=by
 intro d
 induction d with
 | zero =>
  intro i hi
  refine⟨fun _=>[],0,fun _=>rfl,by omega,fun _=>lT,fun out ho=>⟨?_,fun x hx=>?_⟩⟩
  ·rw[Et,ap,qo,aH]
  ·rw[H1,hx,ap,ry,aH]
 | succ d ih =>
  intro i hi
  have hi':i<ks.length:=by omega
  obtain⟨g,L,g1,g2,gs,g3⟩:=ih (i+1) (by omega)
  obtain⟨f,M,f1,f2,fs,f3⟩:=h _ (aV hi')
  have hd:cy (ks.drop i)=cA ks[i]+cy (ks.drop (i+1)):=by rw[ai hi',cy]
  refine⟨fun n=>f n++g (n+M),M+L,fun n=>by rw[ag,f1,g1],by omega,fun n=>pA (fs n) (gs _),fun out ho=>?_⟩
  obtain⟨e1,e2⟩:=f3 out (by omega)
  have hlen:(out++f out.length).length=out.length+M:=by rw[ag,f1]
  obtain⟨e3,e4⟩:=g3 (out++f out.length) (by omega)
  rw[hlen]at e3 e4
  refine⟨?_,fun x hx=>?_⟩
  ·rw[Et,an,al,ci hi',e1,aa]
   dsimp only
   rw[ch hi' (by omega),e3,ah]
  ·have e5:=e4 x hx
   rw[H1,hx,an,al,ci hi',e2,aa]
   dsimp only
   rw[ch hi' (by omega),e5,ah]
def A5(p:bB)(a:Int):bB:=⟨p.Op,p.C,p.Set,p.Not,a,p.B⟩
def ju(n:Nat)(tot:Int):List Int→List bB→List bB
 | [],t=>t
 | j::js,t=>ju n tot js (t.set (j.toNat-n) (A5 (t.getD (j.toNat-n) b8) tot))
theorem CZ(n:Nat)(tot:Int):∀ (js:List Int) (t:List bB),(ju n tot js t).length=t.length
 | [],t=>rfl
 | j::js,t=>by rw[ju,CZ n tot js,aX]
theorem CY(n:Nat)(tot:Int):∀ (js:List Int) (t:List bB),SP t→SP (ju n tot js t)
 | [],t,h=>h
 | j::js,t,h=>by rw[ju];exact CY n tot js _ (Kd h (Kc h _))
theorem Q4(pre:List bB)(js:List Int)(hjl:js.length≤1000):∀ (d i:Nat) (t:List bB),i+d=js.length→(∀ j∈js,(pre.length:Int)≤j∧j<((pre.length+t.length:Nat):Int))→pre.length+t.length≤200000 →
  qm (pre++t) js (js.length:Int) (i:Int)=some (pre++ju pre.length ((pre.length+t.length:Nat):Int) (js.drop i) t,()) ∧
  rA (pre++t) js (i:Int)=some (pre++ju pre.length ((pre.length+t.length:Nat):Int) (js.drop i) t,()):=by
 intro d
 induction d with
 | zero =>
  intro i t hi hj hb
  rw[El,H4,ap,ap,aW (by omega)]
  exact⟨rfl,rfl⟩
 | succ d ih =>
  intro i t hi hj hb
  have hi':i<js.length:=by omega
  have hji:=hj _ (aV hi')
  have hlen:(pre++t).length=pre.length+t.length:=ag
  have hge:pre.length≤js[i].toNat:=by omega
  have hget:(pre++t).getD js[i].toNat b8=t.getD (js[i].toNat-pre.length) b8:=by
   rw[List.getD_eq_getElem?_getD,List.getElem?_append_right hge,← List.getD_eq_getElem?_getD]
  have hset:∀ q,(pre++t).set js[i].toNat q=pre++t.set (js[i].toNat-pre.length) q:=fun q=>List.set_append_right _ _ hge
  obtain⟨e1,e2⟩:=ih (i+1) (t.set (js[i].toNat-pre.length) (A5 (t.getD (js[i].toNat-pre.length) b8) ((pre.length+t.length:Nat):Int))) (by omega) (by rw[aX];exact hj) (by rw[aX];exact hb)
  rw[aX]at e1 e2
  rw[ai hi',ju]
  unfold A5 at e1 e2 ⊢
  constructor
  ·rw[El,an,al,ci hi',bm (by rw[hlen];omega)]
   dsimp only
   rw[hget,hset,hlen,ch hi' (by omega)]
   exact e1
  ·rw[H4,an,al,ci hi',bm (by rw[hlen];omega)]
   dsimp only
   rw[hget,hset,hlen,ch hi' (by omega)]
   exact e2
def OrL(ks:List bD)(g:Nat→List bB)(h:Nat→List Int)(L i d:Nat):Prop:=(∀ n,(g n).length=L)∧L+2≤4*cy (ks.drop i)∧(∀ n,SP (g n))∧(∀ n,(h n).length=d∧∀ j∈h n,(n:Int)≤j∧j<((n+L:Nat):Int)) ∧
 ∀ (out:List bB) (js:List Int),js.length+d≤1000→out.length+4*cy (ks.drop i)≤100000 →
  ql out ks js (ks.take (ks.length-1)) ((ks.length-1:Nat):Int) (i:Int)=qm (out++g out.length) (js++h out.length) ((js++h out.length).length:Int) 0 ∧
  rz out ks js (i:Int)=rA (out++g out.length) (js++h out.length) 0
theorem Q5(ks:List bD)(h:∀ k∈ks,∃ f L,Plc k f L)(hl:ks.length≤1000)(h1:1≤ks.length):∀ d i,i+d+1=ks.length→∃ g h L,OrL ks g h L i d:=by
 have hw:w64 ((ks.length:Int)-1)=((ks.length-1:Nat):Int):=by rw[aq];omega
 have htl:(ks.take (ks.length-1)).length=ks.length-1:=by rw[aP];omega
 intro d
 induction d with
 | zero =>
  intro i hi
  have hi':i<ks.length:=by omega
  obtain⟨f,M,f1,f2,fs,f3⟩:=h _ (aV hi')
  have hd:cy (ks.drop i)=cA ks[i]+cy (ks.drop (i+1)):=by rw[ai hi',cy]
  refine⟨f,fun _=>[],M,f1,by omega,fs,fun n=>⟨rfl,fun j hj=>by cases hj⟩,fun out js hjs ho=>?_⟩
  obtain⟨e1,e2⟩:=f3 out (by omega)
  have hwi:w64 ((ks.length:Int)-1)=(i:Int):=by rw[hw];omega
  constructor
  ·rw[Ek,ap,hwi,al,ci hi',e1,aa,aH]
  ·rw[H3,hwi,ap,al,ci hi',e2,aa,aH]
 | succ d ih =>
  intro i hi
  have hi':i<ks.length:=by omega
  obtain⟨g,h',L,g1,g2,gs,g3,g4⟩:=ih (i+1) (by omega)
  obtain⟨f,M,f1,f2,fs,f3⟩:=h _ (aV hi')
  have hd:cy (ks.drop i)=cA ks[i]+cy (ks.drop (i+1)):=by rw[ai hi',cy]
  refine⟨fun n=>⟨7,0,[],false,((n+1:Nat):Int),((n+1+M+1:Nat):Int)⟩::(f (n+1)++(⟨6,0,[],false,0,0⟩::g (n+1+M+1))),fun n=>((n+1+M:Nat):Int)::h' (n+1+M+1),L+M+2,fun n=>?_,by omega,fun n=>kr (Nat.zero_le _) (pA (fs _) (kr (Nat.zero_le _) (gs _))),fun n=>⟨?_,?_⟩,fun out js hjs ho=>?_⟩
  ·rw[aR,ag,aR,f1,g1];omega
  ·rw[aR,(g3 _).1]
  ·intro j hj
   rcases aK.1 hj with rfl | hj
   ·omega
   ·have:=(g3 _).2 j hj;omega
  ·have hw1:w64 ((out.length:Int)+1)=((out.length+1:Nat):Int):=by rw[aq];omega
   have fork:∀ p:bB,fx (List.append out [p]) ks[i]=some (out++p::f (out.length+1),())∧fG (List.append out [p]) ks[i]=some (out++p::f (out.length+1),()):=fun p=>by
    have hlp:(out++[p]).length=out.length+1:=by simp
    have:=f3 (out++[p]) (by omega)
    rw[hlp,ah]at this
    exact this
   have hv:∀ p q:bB,List.append (out++p::f (out.length+1)) [q]=out++p::(f (out.length+1)++[q]):=fun p q=>by simp
   have hvl:∀ p q:bB,(out++p::(f (out.length+1)++[q])).length=out.length+1+M+1:=fun p q=>by simp[f1];omega
   have hml:∀ p:bB,(out++p::f (out.length+1)).length=out.length+1+M:=fun p=>by simp[f1];omega
   have hrest:∀ p q:bB,out++p::(f (out.length+1)++[q])++g (out.length+1+M+1)=out++(p::(f (out.length+1)++(q::g (out.length+1+M+1)))):=fun p q=>by simp
   obtain⟨e1,e2⟩:=g4 (out++⟨7,0,[],false,((out.length+1:Nat):Int),((out.length+1+M+1:Nat):Int)⟩::(f (out.length+1)++[⟨6,0,[],false,0,0⟩])) (List.append js [((out.length+1+M:Nat):Int)]) (by show(js++[_]).length+_≤_;simp;omega) (by rw[hvl];omega)
   rw[hvl,hrest]at e1 e2
   have hjs':∀ a b:List Int,∀ c:Int,List.append a [c]++b=a++c::b:=fun a b c=>by simp
   rw[hjs']at e1 e2
   constructor
   ·rw[Ek,an,bm (by rw[htl];omega),bm (by rw[cg];omega),ci (by rw[htl];omega),List.getElem_take,(fork _).1,aa]
    dsimp only
    rw[bm (by rw[cg];omega),hml,bm (by rw[cg];omega),hv,hvl,al,af,jx,j3]
    dsimp only
    rw[hw1,ch hi' (by omega)]
    exact e1
   ·rw[H3,hw,an,lE,bm (by rw[cg];omega),aa]
    dsimp only
    rw[al,ci hi',(fork _).2,aa]
    dsimp only
    rw[bm (by rw[cg];omega),lE,hml,bm (by rw[cg];omega),aa]
    dsimp only
    rw[hv,hvl,al,af,jx,j3,hvl,al,jx,j3]
    dsimp only
    rw[hw1,ch hi' (by omega)]
    exact e2
theorem R7{x:bD}(h:rx x=true):(∀ k∈x.Kids,rx k=true)∧mC x=true:=by
 rw[zK,az,zJ,Bool.not_eq_true',List.any_eq_false]at h
 exact⟨fun k hk=>by have:=h.2 k hk;simpa using this,h.1⟩
theorem GF:∀ (n:Nat) (x:bD),cA x≤n→n≤1000→SG x→rx x=true→∃ f L,Plc x f L:=by
 intro n
 induction n with
 | zero=>intro x h;have:=mD x;omega
 | succ n ih =>
  intro x h hn hsg hx
  obtain⟨hs1,hs2⟩:=(wl x).1 hsg
  have hnx:=qN x
  rw[hnx]at h
  have hlen:=qM x.Kids
  obtain⟨hk,hB⟩:=R7 hx
  have hks:∀ k∈x.Kids,∃ f L,Plc k f L:=fun k hk'=>ih k (by have:=qO hk';omega) (by omega) (si hs2 hk') (hk k hk')
  unfold mC at hB
  have one:∀ p:bB,p.Set.length≤256→(∀ out:List bB,out.length+4*cA x≤100000→fx out x=some (List.append out [p],())∧fG out x=some (List.append out [p],()))→∃ f L,Plc x f L:=fun p hps hp =>
   ⟨fun _=>[p],1,fun _=>rfl,by omega,fun _=>kr hps lT,hp⟩
  by_cases c1:x.Op=1
  ·refine one ⟨1,x.C,[],false,0,0⟩ (Nat.zero_le _) fun out ho=>?_
   rw[ik,iA,ak c1,ak c1,bm (by rw[cg];omega)]
   exact⟨rfl,rfl⟩
  have m1:¬ decide (x.Op=1)=true:=by rw[ab];exact c1
  by_cases c2:x.Op=2
  ·refine one ⟨2,0,[],false,0,0⟩ (Nat.zero_le _) fun out ho=>?_
   rw[ik,iA,bn m1,bn m1,ak c2,ak c2,lE,bm (by rw[cg];omega)]
   exact⟨rfl,rfl⟩
  have m2:¬ decide (x.Op=2)=true:=by rw[ab];exact c2
  by_cases c3:x.Op=3
  ·refine one ⟨3,0,x.Set,x.Not,0,0⟩ (hs1.elim (fun h=>h.2.2.2.2.2.1) fun h=>absurd c3 h.1) fun out ho=>?_
   rw[ik,iA,bn m1,bn m1,bn m2,bn m2,ak c3,ak c3,bm (by rw[cg];omega)]
   exact⟨rfl,rfl⟩
  have m3:¬ decide (x.Op=3)=true:=by rw[ab];exact c3
  by_cases c4:x.Op=4
  ·refine one ⟨4,0,[],false,0,0⟩ (Nat.zero_le _) fun out ho=>?_
   rw[ik,iA,bn m1,bn m1,bn m2,bn m2,bn m3,bn m3,ak c4,ak c4,lE,bm (by rw[cg];omega)]
   exact⟨rfl,rfl⟩
  have m4:¬ decide (x.Op=4)=true:=by rw[ab];exact c4
  by_cases c5:x.Op=5
  ·refine one ⟨5,0,[],false,0,0⟩ (Nat.zero_le _) fun out ho=>?_
   rw[ik,iA,bn m1,bn m1,bn m2,bn m2,bn m3,bn m3,bn m4,bn m4,ak c5,ak c5,lE,bm (by rw[cg];omega)]
   exact⟨rfl,rfl⟩
  have m5:¬ decide (x.Op=5)=true:=by rw[ab];exact c5
  have start:∀ out,fx out x=(if(decide (x.Op=6))=true then qn out x.Kids (List.length x.Kids:Int) 0 else fx out x)∧fG out x=(if(decide (x.Op=6))=true then rv out 0 x else fG out x):=fun out=>by
   by_cases c6:x.Op=6
   ·rw[ak c6,ak c6,ik,iA,bn m1,bn m1,bn m2,bn m2,bn m3,bn m3,bn m4,bn m4,bn m5,bn m5,ak c6,ak c6]
    exact⟨rfl,rfl⟩
   ·rw[aj c6,aj c6];exact⟨rfl,rfl⟩
  by_cases c6:x.Op=6
  ·obtain⟨g,L,g1,g2,gs,g3⟩:=K1 x.Kids hks (by omega) x.Kids.length 0 (by omega)
   rw[aM]at g2 g3
   refine⟨g,L,g1,by omega,gs,fun out ho=>?_⟩
   obtain⟨e1,e2⟩:=g3 out (by omega)
   rw[(start out).1,(start out).2,ak c6,ak c6]
   exact⟨e1,e2 x rfl⟩
  have m6:¬ decide (x.Op=6)=true:=by rw[ab];exact c6
  by_cases c7:x.Op=7
  ·have h2:2≤x.Kids.length:=by
    simp[c7]at hB;exact hB.2
   obtain⟨g,js,L,g1,g2,gs,g3,g4⟩:=Q5 x.Kids hks (by omega) (by omega) (x.Kids.length-1) 0 (by omega)
   rw[aM]at g2 g4
   refine⟨fun n=>ju n ((n+L:Nat):Int) (js n) (g n),L,fun n=>by rw[CZ,g1],by omega,fun n=>CY _ _ _ _ (gs n),fun out ho=>?_⟩
   obtain⟨e1,e2⟩:=g4 out [] (by simp;omega) (by omega)
   obtain⟨e3,e4⟩:=Q4 out (js out.length) (by rw[(g3 _).1];omega) (js out.length).length 0 (g out.length) (by omega) (by rw[g1];exact(g3 _).2) (by rw[g1];omega)
   rw[bg]at e1 e2
   rw[aM,g1]at e3 e4
   have hw:w64 ((x.Kids.length:Int)-1)=((x.Kids.length-1:Nat):Int):=by rw[aq];omega
   have ht:List.take (((x.Kids.length-1:Nat):Int).toNat-0) (List.drop 0 x.Kids)=x.Kids.take (x.Kids.length-1):=by rw[af,Nat.sub_zero,aM]
   have htl:(x.Kids.take (x.Kids.length-1)).length=x.Kids.length-1:=by rw[aP];omega
   rw[ik,iA,bn m1,bn m1,bn m2,bn m2,bn m3,bn m3,bn m4,bn m4,bn m5,bn m5,bn m6,bn m6,ak c7,ak c7,Oj,TT,hw,al,ht,htl]
   have e1':ql out x.Kids [] (x.Kids.take (x.Kids.length-1)) ((x.Kids.length-1:Nat):Int) 0=_:=e1.trans e3
   have e2':rz out x.Kids [] 0=_:=e2.trans e4
   rw[e1',e2']
   exact⟨rfl,rfl⟩
  have m7:¬ decide (x.Op=7)=true:=by rw[ab];exact c7
  have hone:x.Op=8∨x.Op=9∨x.Op=10→∃ k,x.Kids=[k]:=fun ho=>by
   have:x.Kids.length=1:=by
    rcases ho with ho | ho | ho <;> (simp[ho]at hB;exact hB.2)
   exact List.length_eq_one_iff.1 this
  have hw1:∀ out:List bB,out.length≤100000→w64 ((out.length:Int)+1)=((out.length+1:Nat):Int):=fun out ho=>by rw[aq];omega
  by_cases c8:x.Op=8
  ·obtain⟨k,hk1⟩:=hone (.inl c8)
   obtain⟨f,M,f1,f2,fs,f3⟩:=hks k (by rw[hk1];exact aJ.2 rfl)
   have hnk:cA x=1+cA k:=by rw[hnx,hk1,cy,cy];omega
   refine⟨fun n=>⟨7,0,[],false,((n+1:Nat):Int),((n+1+M+1:Nat):Int)⟩::(f (n+1)++[⟨6,0,[],false,(n:Int),0⟩]),M+2,fun n=>by simp[f1],by omega,fun n=>kr (Nat.zero_le _) (pA (fs _) (kr (Nat.zero_le _) lT)),fun out ho=>?_⟩
   have fork:∀ p:bB,fx (List.append out [p]) k=some (out++p::f (out.length+1),())∧fG (List.append out [p]) k=some (out++p::f (out.length+1),()):=fun p=>by
    have hlp:(out++[p]).length=out.length+1:=by simp
    have:=f3 (out++[p]) (by omega)
    rw[hlp,ah]at this
    exact this
   have hv:∀ p q:bB,List.append (out++p::f (out.length+1)) [q]=out++p::(f (out.length+1)++[q]):=fun p q=>by simp
   have hvl:∀ p q:bB,(out++p::(f (out.length+1)++[q])).length=out.length+1+M+1:=fun p q=>by simp[f1];omega
   have hml:∀ p:bB,(out++p::f (out.length+1)).length=out.length+1+M:=fun p=>by simp[f1];omega
   rw[ik,iA,bn m1,bn m1,bn m2,bn m2,bn m3,bn m3,bn m4,bn m4,bn m5,bn m5,bn m6,bn m6,bn m7,bn m7,ak c8,ak c8,hk1]
   constructor
   ·rw[bm (by rw[cg];omega),bm (by simp),show List.getD [k] 0 b9=k from rfl,(fork _).1,aa]
    dsimp only
    rw[hml,bm (by rw[cg];omega),hv,hvl,al,af,jx,j3]
    dsimp only
    rw[hw1 out (by omega),qo]
   ·rw[lE,bm (by rw[cg];omega),aa,bm (by simp),show List.getD [k] 0 b9=k from rfl]
    dsimp only
    rw[(fork _).2,aa]
    dsimp only
    rw[hml,bm (by rw[cg];omega),hv,hvl,al,af,jx,j3,hvl,al,jx,j3]
    dsimp only
    rw[hw1 out (by omega),ry]
  have m8:¬ decide (x.Op=8)=true:=by rw[ab];exact c8
  by_cases c9:x.Op=9
  ·obtain⟨k,hk1⟩:=hone (.inr (.inl c9))
   obtain⟨f,M,f1,f2,fs,f3⟩:=hks k (by rw[hk1];exact aJ.2 rfl)
   have hnk:cA x=1+cA k:=by rw[hnx,hk1,cy,cy];omega
   refine⟨fun n=>f n++[⟨7,0,[],false,(n:Int),((n+M+1:Nat):Int)⟩],M+1,fun n=>by simp[f1],by omega,fun n=>pA (fs _) (kr (Nat.zero_le _) lT),fun out ho=>?_⟩
   obtain⟨e1,e2⟩:=f3 out (by omega)
   have hml:(out++f out.length).length=out.length+M:=by simp[f1]
   have hw2:w64 (((out.length+M:Nat):Int)+1)=((out.length+M+1:Nat):Int):=by rw[aq];omega
   rw[ik,iA,bn m1,bn m1,bn m2,bn m2,bn m3,bn m3,bn m4,bn m4,bn m5,bn m5,bn m6,bn m6,bn m7,bn m7,bn m8,bn m8,ak c9,ak c9,hk1]
   constructor
   ·rw[bm (by simp),show List.getD [k] 0 b9=k from rfl,e1,aa]
    dsimp only
    rw[hml,bm (by rw[cg];omega),hw2,qo,← ah]
    rfl
   ·rw[bm (by simp),show List.getD [k] 0 b9=k from rfl,e2,aa]
    dsimp only
    rw[hml,bm (by rw[cg];omega),hw2,ry,← ah]
    rfl
  have m9:¬ decide (x.Op=9)=true:=by rw[ab];exact c9
  by_cases c10:x.Op=10
  ·obtain⟨k,hk1⟩:=hone (.inr (.inr c10))
   obtain⟨f,M,f1,f2,fs,f3⟩:=hks k (by rw[hk1];exact aJ.2 rfl)
   have hnk:cA x=1+cA k:=by rw[hnx,hk1,cy,cy];omega
   refine⟨fun n=>⟨7,0,[],false,((n+1:Nat):Int),((n+1+M:Nat):Int)⟩::f (n+1),M+1,fun n=>by simp[f1],by omega,fun n=>kr (Nat.zero_le _) (fs _),fun out ho=>?_⟩
   have fork:∀ p:bB,fx (List.append out [p]) k=some (out++p::f (out.length+1),())∧fG (List.append out [p]) k=some (out++p::f (out.length+1),()):=fun p=>by
    have hlp:(out++[p]).length=out.length+1:=by simp
    have:=f3 (out++[p]) (by omega)
    rw[hlp,ah]at this
    exact this
   have hml:∀ p:bB,(out++p::f (out.length+1)).length=out.length+1+M:=fun p=>by simp[f1];omega
   rw[ik,iA,bn m1,bn m1,bn m2,bn m2,bn m3,bn m3,bn m4,bn m4,bn m5,bn m5,bn m6,bn m6,bn m7,bn m7,bn m8,bn m8,bn m9,bn m9,ak c10,ak c10,hk1]
   constructor
   ·rw[bm (by rw[cg];omega),bm (by simp),show List.getD [k] 0 b9=k from rfl,(fork _).1,aa]
    dsimp only
    rw[hml,al,af,jx,j3]
    dsimp only
    rw[hw1 out (by omega),qo]
   ·rw[lE,bm (by rw[cg];omega),aa,bm (by simp),show List.getD [k] 0 b9=k from rfl]
    dsimp only
    rw[(fork _).2,aa]
    dsimp only
    rw[hml,al,af,jx,j3,hml,al,jx,j3]
    dsimp only
    rw[hw1 out (by omega),ry]
  have m10:¬ decide (x.Op=10)=true:=by rw[ab];exact c10
  refine⟨fun _=>[],0,fun _=>rfl,by omega,fun _=>lT,fun out ho=>?_⟩
  rw[ik,iA,bn m1,bn m1,bn m2,bn m2,bn m3,bn m3,bn m4,bn m4,bn m5,bn m5,bn m6,bn m6,bn m7,bn m7,bn m8,bn m8,bn m9,bn m9,bn m10,bn m10,qo,ry,aH]
  exact⟨rfl,rfl⟩
theorem QJ{x:bD}(hn:cA x≤121)(hs:SG x)(hd:∃ v,v≤12∧jf x=some (v,())∧iS x=some (v,())):∃ l,xz x=some (l,())∧z6 x=some (l,())∧l.length≤1000∧SP l:=by
 obtain⟨e1,e2⟩:=RO hn hs hd
 rw[Nt,SC,e1,e2,aa,aa]
 dsimp only
 by_cases c:rx x=true
 ·rw[c,bn (by decide),bn (by decide)]
  obtain⟨f,L,f1,f2,fs,f3⟩:=GF 121 x hn (by decide) hs c
  obtain⟨e3,e4⟩:=f3 [] (by simp;omega)
  rw[List.length_nil,bg]at e3 e4
  rw[e3,e4,aa,aa]
  dsimp only
  have:=f1 0
  rw[lE,bm (by rw[cg];omega)]
  exact⟨_,rfl,rfl,by show(f 0++[_]).length≤1000;simp;omega,pA (fs 0) (kr (Nat.zero_le _) lT)⟩
 ·rw[aS]at c
  simp only[c,Bool.not_false,if_true]
  exact⟨_,rfl,rfl,by simp,lT⟩
theorem BS:∀ {l m:List Int},l.Pairwise (· < ·)→m.Pairwise (· < ·)→(∀ x,x∈l↔x∈m)→l=m
 | [],[],_,_,_=>rfl
 | [],b::m,_,_,h=>absurd ((h b).2 (aD ..)) (by simp)
 | a::l,[],_,_,h=>absurd ((h a).1 (aD ..)) (by simp)
 | a::l,b::m,hl,hm,h=>by
  have hl':=List.pairwise_cons.1 hl
  have hm':=List.pairwise_cons.1 hm
  have hab:a=b:=by
   rcases aK.1 ((h a).1 (aD ..))with e | e
   ·exact e
   ·rcases aK.1 ((h b).2 (aD ..))with e' | e'
    ·exact e'.symm
    ·have:=hl'.1 b e';have:=hm'.1 a e;omega
  subst hab
  rw[BS hl'.2 hm'.2 fun x=>?_]
  constructor
  ·intro hx
   rcases aK.1 ((h x).1 (aE _ hx))with e | e
   ·have:=hl'.1 x hx;omega
   ·exact e
  ·intro hx
   rcases aK.1 ((h x).2 (aE _ hx))with e | e
   ·have:=hm'.1 x hx;omega
   ·exact e
theorem IA{l:List Int}(h:l.Nodup):(dR l).Pairwise (· < ·):=by
 have h1:(dR l).Pairwise (fun a b=>decide (a≤b)=true):=List.pairwise_mergeSort (fun a b c h1 h2=>by simp at *;omega) (fun a b=>by simp;omega) l
 have h2:(dR l).Nodup:=(List.mergeSort_perm l _).nodup_iff.2 h
 exact(h1.and h2).imp fun {a b} h=>by have:=of_decide_eq_true h.1;have:=h.2;omega
theorem BU{N:Int}:∀ (l:List Int) (lo:Int),l.Pairwise (· < ·)→(∀ x∈l,lo≤x∧x<N)→lo≤N→(l.length:Int)≤N-lo
 | [],lo,_,_,h=>by simp;omega
 | a::l,lo,hl,hb,h=>by
  have hl':=List.pairwise_cons.1 hl
  have ha:=hb a (aD ..)
  have:=BU l (a+1) hl'.2 (fun x hx=>⟨by have:=hl'.1 x hx;omega,(hb x (aE _ hx)).2⟩) (by omega)
  rw[aR];omega
theorem tY{N:Nat}{l:List Int}(h:l.Nodup)(hb:∀ x∈l,0≤x∧x<(N:Int)):l.length≤N:=by
 have:=BU (N:=N) (dR l) 0 (IA h) (fun x hx=>hb x (sortI_mem.1 hx)) (by omega)
 rw[AQ]at this
 omega
def adj(l:List bB)(b e:Bool)(k:Nat):List Int :=
 if(l.getD k b8).Op=6 then [(l.getD k b8).A]else if(l.getD k b8).Op=7 then [(l.getD k b8).A,(l.getD k b8).B]
 else if(l.getD k b8).Op=4 then(if b=true then [(k:Int)+1]else [])else if(l.getD k b8).Op=5 then(if e=true then [(k:Int)+1]else [])else []
theorem Ki(l:List bB)(b e:Bool)(k:Nat):(adj l b e k).length≤2:=by
 unfold adj
 split
 ·simp
 ·split
  ·simp
  ·split
   ·split <;> simp
   ·split
    ·split <;> simp
    ·simp
inductive Rch (l:List bB) (at_:List Int) (b e:Bool):Int→Prop
 | base {i:Int}:i∈at_→0≤i→i<(l.length:Int)→Rch l at_ b e i
 | step {k j:Int}:Rch l at_ b e k→j∈adj l b e k.toNat→0≤j→j<(l.length:Int)→Rch l at_ b e j
theorem Rch.bd{l:List bB}{at_:List Int}{b e:Bool}{i:Int}(h:Rch l at_ b e i):0≤i∧i<(l.length:Int):=by
 cases h with
 | base _ h1 h2=>exact⟨h1,h2⟩
 | step _ _ h1 h2=>exact⟨h1,h2⟩
def St(l:List bB)(seen:List Bool)(out:List Int):Prop:=seen.length=l.length∧(∀ i:Nat,i<l.length→seen.getD i false=decide ((i:Int)∈out))∧(∀ x∈out,0≤x∧x<(l.length:Int))∧out.Nodup
def Put(l:List bB)(seen:List Bool)(out:List Int)(ys:List Int)(seen':List Bool)(out':List Int):Prop :=
 St l seen' out'∧(∀ x,x∈out'↔x∈out∨(x∈ys∧0≤x∧x<(l.length:Int)))∧∃ t,out'=out++t
theorem oH{l:List bB}(hl:l.length≤1000){seen:List Bool}{out:List Int}(h:St l seen out)(i:Int):∃ seen' out',kK i l seen out=some (l,seen',out',())∧Put l seen out [i] seen' out':=by
 obtain⟨h1,h2,h3,h4⟩:=h
 have hlen:=tY h4 h3
 rw[M1,eI,aa]
 dsimp only
 by_cases c:0≤i∧i≤w64 ((l.length:Int)-1)
 ·rw[ak c]
  rw[aq]at c
  have hi:i.toNat<l.length:=by omega
  have e:=h2 i.toNat hi
  rw[Int.toNat_of_nonneg c.1]at e
  rw[al,e]
  by_cases d:i∈out
  ·rw[ac d,bn (by decide)]
   exact⟨_,_,rfl,⟨h1,h2,h3,h4⟩,fun x=>⟨.inl,fun hx=>hx.elim id fun hx=>by rw[aJ.1 hx.1];exact d⟩,[],by simp⟩
  ·rw[ae d,bm (by decide),al,bm (by rw[cg];omega)]
   refine⟨_,_,rfl,⟨by rw[aX];exact h1,fun j hj=>?_,fun x hx=>?_,?_⟩,fun x=>?_,[i],rfl⟩
   ·show _=decide ((j:Int)∈out++[i])
    by_cases hji:i.toNat=j
    ·subst hji
     rw[mc (by omega),Int.toNat_of_nonneg c.1,ac (by simp)]
    ·rw[List.getD_eq_getElem?_getD,List.getElem?_set_ne hji,← List.getD_eq_getElem?_getD,h2 j hj]
     refine decide_eq_decide.2 ⟨fun hx=>ar _ hx,fun hx=>?_⟩
     rcases aA.1 hx with hx | hx
     ·exact hx
     ·have:=aJ.1 hx;omega
   ·rcases aA.1 (show x∈out++[i]from hx)with hx | hx
    ·exact h3 x hx
    ·rw[aJ.1 hx];omega
   ·show(out++[i]).Nodup
    rw[aB]
    exact⟨h4,by simp,fun a ha b hb=>by rw[aJ.1 hb];intro e;subst e;exact d ha⟩
   ·show x∈out++[i]↔_
    rw[aA,aJ]
    exact⟨fun hx=>hx.imp id fun hx=>⟨hx,by omega⟩,fun hx=>hx.imp id fun hx=>hx.1⟩
 ·rw[aj c]
  rw[aq]at c
  exact⟨_,_,rfl,⟨h1,h2,h3,h4⟩,fun x=>⟨.inl,fun hx=>hx.elim id fun hx=>absurd hx.2 (by rw[aJ.1 hx.1];omega)⟩,[],by simp⟩
theorem zt{l:List bB}{seen:List Bool}{out:List Int}(h:St l seen out):Put l seen out [] seen out:=⟨h,fun x=>⟨.inl,fun hx=>hx.elim id fun hx=>by cases hx.1⟩,[],by simp⟩
theorem Rz{l:List bB}{s0 s1 s2:List Bool}{o0 o1 o2:List Int}{i j:Int}(h1:Put l s0 o0 [i] s1 o1)(h2:Put l s1 o1 [j] s2 o2):Put l s0 o0 [i,j] s2 o2:=by
 obtain⟨a1,a2,t1,a3⟩:=h1
 obtain⟨b1,b2,t2,b3⟩:=h2
 refine⟨b1,fun x=>?_,t1++t2,by rw[b3,a3,ah]⟩
 rw[b2,a2,aJ,aJ,aK,aJ]
 constructor
 ·rintro ((h | h) | h)
  ·exact .inl h
  ·exact .inr ⟨.inl h.1,h.2⟩
  ·exact .inr ⟨.inr h.1,h.2⟩
 ·rintro (h | ⟨h | h,h'⟩)
  ·exact .inl (.inl h)
  ·exact .inl (.inr ⟨h,h'⟩)
  ·exact .inr ⟨h,h'⟩
theorem Lf{l:List bB}(hl:l.length≤1000)(b e:Bool){seen:List Bool}{out:List Int}(h:St l seen out)(k:Nat)(hk:k<out.length) :
  ∃ seen' out',mh b e (k:Int) l seen out=mh b e ((k+1:Nat):Int) l seen' out'∧Put l seen out (adj l b e out[k].toNat) seen' out':=by
 have hlen:=tY h.2.2.2 h.2.2.1
 have hv:=h.2.2.1 _ (aV hk)
 have w1:w64 (out[k]+1)=((out[k].toNat:Nat):Int)+1:=by rw[aq];omega
 rw[xl,an,al,ci hk,al]
 have L3:∀ s o,jA b e (k:Int) l s o=mh b e ((k+1:Nat):Int) l s o:=fun s o=>by rw[M2,ch hk (by omega)]
 unfold adj
 generalize l.getD out[k].toNat b8=p
 by_cases c6:p.Op=6
 ·obtain⟨s1,o1,e1,e2⟩:=oH hl h p.A
  rw[ak c6,bm c6,e1,aa]
  exact⟨s1,o1,L3 _ _,e2⟩
 rw[aj c6,bn c6]
 by_cases c7:p.Op=7
 ·obtain⟨s1,o1,e1,e2⟩:=oH hl h p.A
  obtain⟨s2,o2,e3,e4⟩:=oH hl e2.1 p.B
  rw[ak c7,bm c7,e1,aa]
  dsimp only
  rw[e3,aa]
  exact⟨s2,o2,L3 _ _,Rz e2 e4⟩
 rw[aj c7,bn c7]
 by_cases c4:p.Op=4
 ·rw[ak c4,bm c4]
  cases b with
  | true =>
   obtain⟨s1,o1,e1,e2⟩:=oH hl h (w64 (out[k]+1))
   rw[bm rfl,bm rfl,e1,aa]
   rw[w1]at e2
   exact⟨s1,o1,L3 _ _,e2⟩
  | false=>rw[bn (by decide),bn (by decide)];exact⟨seen,out,L3 _ _,zt h⟩
 rw[aj c4,bn c4]
 by_cases c5:p.Op=5
 ·rw[ak c5,bm c5]
  cases e with
  | true =>
   obtain⟨s1,o1,e1,e2⟩:=oH hl h (w64 (out[k]+1))
   rw[bm rfl,bm rfl,e1,aa]
   rw[w1]at e2
   exact⟨s1,o1,L3 _ _,e2⟩
  | false=>rw[bn (by decide),bn (by decide)];exact⟨seen,out,L3 _ _,zt h⟩
 rw[aj c5,bn c5]
 exact⟨seen,out,L3 _ _,zt h⟩
theorem Le{l:List bB}(hl:l.length≤1000)(at_:List Int)(b e:Bool):∀ (d k:Nat) (seen:List Bool) (out:List Int),St l seen out→k≤out.length→l.length-k≤d→(∀ x∈out,Rch l at_ b e x)→(∀ (j:Nat) (hj:j<out.length),j<k→∀ y∈adj l b e out[j].toNat,0≤y→y<(l.length:Int)→y∈out) →
  (∀ x∈at_,0≤x→x<(l.length:Int)→x∈out)→∃ out',mh b e (k:Int) l seen out=some (dR out',())∧out'.Nodup∧∀ x,x∈out'↔Rch l at_ b e x:=by
 intro d
 induction d with
 | zero =>
  intro k seen out h hk hd hR hc ha
  have hlen:=tY h.2.2.2 h.2.2.1
  have hko:k=out.length:=by omega
  rw[xl,ap,JP,bm (by rw[cg];omega),aa]
  refine⟨out,rfl,h.2.2.2,fun x=>⟨hR x,fun hx=>?_⟩⟩
  induction hx with
  | base h1 h2 h3=>exact ha _ h1 h2 h3
  | step h0 h1 h2 h3 ih =>
   obtain⟨j,hj,e⟩:=bk.1 ih
   exact hc j hj (by omega) _ (by rw[e];exact h1) h2 h3
 | succ d ihd =>
  intro k seen out h hk hd hR hc ha
  have hlen:=tY h.2.2.2 h.2.2.1
  by_cases hko:k=out.length
  ·rw[xl,ap,JP,bm (by rw[cg];omega),aa]
   refine⟨out,rfl,h.2.2.2,fun x=>⟨hR x,fun hx=>?_⟩⟩
   induction hx with
   | base h1 h2 h3=>exact ha _ h1 h2 h3
   | step h0 h1 h2 h3 ih =>
    obtain⟨j,hj,e⟩:=bk.1 ih
    exact hc j hj (by omega) _ (by rw[e];exact h1) h2 h3
  ·have hk':k<out.length:=by omega
   obtain⟨s1,o1,e1,p1,p2,t,p3⟩:=Lf hl b e h k hk'
   rw[e1]
   have hv:=h.2.2.1 _ (aV hk')
   refine ihd (k+1) s1 o1 p1 (by rw[p3,ag];omega) (by omega) (fun x hx=>?_) (fun j hj hjk y hy y0 y1=>?_) (fun x hx x0 x1=>(p2 x).2 (.inl (ha x hx x0 x1)))
   ·rcases(p2 x).1 hx with hx | ⟨hx,x0,x1⟩
    ·exact hR x hx
    ·exact .step (hR _ (aV hk')) hx x0 x1
   ·have hjo:j<out.length:=by omega
    have ej:o1[j]=out[j]:=by subst p3;exact List.getElem_append_left hjo
    rw[ej]at hy
    by_cases hjk':j=k
    ·subst hjk';exact(p2 y).2 (.inr ⟨hy,y0,y1⟩)
    ·exact(p2 y).2 (.inl (hc j hjo (by omega) y hy y0 y1))
theorem NT{l:List bB}(hl:l.length≤1000)(at_:List Int)(hat:at_.length≤1000000)(b e:Bool):∃ out,sO l at_ b e=some (dR out,())∧out.Nodup∧∀ x,x∈out↔Rch l at_ b e x:=by
 have key:∀ (d i:Nat) (seen:List Bool) (out:List Int),i+d=at_.length→St l seen out→(∀ x∈out,Rch l at_ b e x)→(∀ (j:Nat) (hj:j<at_.length),j<i→0≤at_[j]→at_[j]<(l.length:Int)→at_[j]∈out) →
   ∃ out',sP b e at_ (at_.length:Int) (i:Int) l seen out=some (dR out',())∧out'.Nodup∧∀ x,x∈out'↔Rch l at_ b e x:=by
  intro d
  induction d with
  | zero =>
   intro i seen out hi h hR ha
   rw[Dx,ap]
   exact Le hl at_ b e l.length 0 seen out h (Nat.zero_le _) (by omega) hR (fun j hj h=>absurd h (by omega)) fun x hx x0 x1=>by
    obtain⟨j,hj,rfl⟩:=bk.1 hx
    exact ha j hj (by omega) x0 x1
  | succ d ih =>
   intro i seen out hi h hR ha
   have hi':i<at_.length:=by omega
   obtain⟨s1,o1,e1,p1,p2,t,p3⟩:=oH hl h at_[i]
   rw[Dx,an,al,ci hi',e1,aa]
   dsimp only
   rw[ch hi' (by omega)]
   refine ih (i+1) s1 o1 (by omega) p1 (fun x hx=>?_) fun j hj hji x0 x1=>?_
   ·rcases(p2 x).1 hx with hx | ⟨hx,x0,x1⟩
    ·exact hR x hx
    ·exact .base (by rw[aJ.1 hx];exact aV hi') x0 x1
   ·by_cases hj':j=i
    ·subst hj';exact(p2 _).2 (.inr ⟨aJ.2 rfl,x0,x1⟩)
    ·exact(p2 _).2 (.inl (ha j hj (by omega) x0 x1))
 rw[M3,bm ⟨by omega,by omega,by rw[cg];omega⟩,af]
 exact key at_.length 0 _ [] (by omega) ⟨a7,fun i hi=>by rw[List.getD_eq_getElem?_getD,List.getElem?_replicate,bm hi];rfl,fun x hx=>(by cases hx),List.nodup_nil⟩ (fun x hx=>by cases hx) (fun j hj h=>absurd h (by omega))
theorem Cp:∀ (f:List Bool) (k:Nat),k<f.length→f.getD k false=false→(f.set k true).count false+1=f.count false
 | [],k,h,_=>absurd h (by simp)
 | a::f,0,h,e=>by
  have:a=false:=e
  subst this
  rw[List.set_cons_zero,List.count_cons,List.count_cons];simp
 | a::f,k+1,h,e=>by
  have:=Cp f k (by simpa using h) e
  rw[List.set_cons_succ,List.count_cons,List.count_cons];omega
def Mk(l:List bB)(at_:List Int)(b e:Bool)(f:List Bool)(todo:List Int):Prop:=f.length=l.length∧(∀ k:Nat,f.getD k false=true→Rch l at_ b e k)∧(∀ y∈todo,0≤y→y<(l.length:Int)→Rch l at_ b e y) ∧
 ∀ k:Nat,f.getD k false=true→∀ y∈adj l b e k,0≤y→y<(l.length:Int)→f.getD y.toNat false=true∨y∈todo
theorem SS{l:List bB}(hl:l.length≤1000)(at_:List Int)(b e:Bool):∀ (d:Nat) (f:List Bool) (todo:List Int),3*f.count false+todo.length≤d→d≤100000→Mk l at_ b e f todo →
  ∃ f',fF l f b e todo=some (f',())∧Mk l at_ b e f' []∧(∀ k:Nat,f.getD k false=true→f'.getD k false=true)∧∀ y∈todo,0≤y→y<(l.length:Int)→f'.getD y.toNat false=true:=by
 intro d
 induction d with
 | zero =>
  intro f todo hd hd2 h
  have ht:todo=[]:=aZ.1 (by omega)
  subst ht
  rw[AE,bn (by simp)]
  exact⟨f,rfl,h,fun k hk=>hk,fun y hy=>by cases hy⟩
 | succ d ih =>
  intro f todo hd hd2 h
  obtain⟨h1,h2,h3,h4⟩:=h
  by_cases ht:todo.length=0
  ·have ht:todo=[]:=aZ.1 ht
   subst ht
   rw[AE,bn (by simp)]
   exact⟨f,rfl,⟨h1,h2,h3,h4⟩,fun k hk=>hk,fun y hy=>by cases hy⟩
  ·have w:w64 ((todo.length:Int)-1)=((todo.length-1:Nat):Int):=by rw[aq];omega
   have hlt:todo.length-1<todo.length:=by omega
   rw[AE,an,w,al,al,ci hlt,af]
   have hsplit:todo=todo.take (todo.length-1)++[todo[todo.length-1]]:=vn (n:=todo.length-1) (by omega)
   have hrl:(todo.take (todo.length-1)).length=todo.length-1:=by rw[aP];omega
   generalize todo.take (todo.length-1)=rest at hsplit hrl
   generalize todo[todo.length-1]=v at hsplit
   have hmem:∀ y,y∈todo↔y∈rest∨y=v:=fun y=>by rw[hsplit,aA,aJ]
   have skip:(0≤v→v<(l.length:Int)→f.getD v.toNat false=true)→∃ f',fF l f b e rest=some (f',())∧Mk l at_ b e f' []∧(∀ k:Nat,f.getD k false=true→f'.getD k false=true)∧∀ y∈todo,0≤y→y<(l.length:Int)→f'.getD y.toNat false=true:=fun hv=>by
    obtain⟨f',e1,e2,e3,e4⟩:=ih f rest (by omega) (by omega) ⟨h1,h2,fun y hy=>h3 y ((hmem y).2 (.inl hy)),fun k hk y hy y0 y1=>by
     rcases h4 k hk y hy y0 y1 with h | h
     ·exact .inl h
     ·rcases(hmem y).1 h with h | h
      ·exact .inr h
      ·subst h;exact .inl (hv y0 y1)⟩
    refine⟨f',e1,e2,e3,fun y hy y0 y1=>?_⟩
    rcases(hmem y).1 hy with h | h
    ·exact e4 y h y0 y1
    ·subst h;exact e3 _ (hv y0 y1)
   by_cases c1:v≥(l.length:Int)
   ·rw[ak c1];exact skip fun _ h=>absurd h (by omega)
   rw[aj c1]
   by_cases c2:v<0
   ·rw[ak c2];exact skip fun h=>absurd h (by omega)
   rw[aj c2,al]
   by_cases c3:f.getD v.toNat false=true
   ·rw[bm c3];exact skip fun _ _=>c3
   rw[bn c3,al,al]
   have hvn:v.toNat<f.length:=by omega
   have hvr:Rch l at_ b e v:=h3 v ((hmem v).2 (.inr rfl)) (by omega) (by omega)
   have hcount:=Cp f v.toNat hvn (by simpa using c3)
   have hw:w64 (v+1)=((v.toNat:Nat):Int)+1:=by rw[aq];omega
   have go:∃ f',fF l (f.set v.toNat true) b e (rest++adj l b e v.toNat)=some (f',())∧Mk l at_ b e f' []∧(∀ k:Nat,f.getD k false=true→f'.getD k false=true)∧∀ y∈todo,0≤y→y<(l.length:Int)→f'.getD y.toNat false=true:=by
    have hal:=Ki l b e v.toNat
    have hget:∀ k:Nat,(f.set v.toNat true).getD k false=true↔f.getD k false=true∨k=v.toNat:=fun k=>by
     by_cases hk:v.toNat=k
     ·subst hk;rw[mc hvn];simp
     ·rw[List.getD_eq_getElem?_getD,List.getElem?_set_ne hk,← List.getD_eq_getElem?_getD]
      exact⟨.inl,fun h=>h.elim id fun h=>absurd h.symm hk⟩
    obtain⟨f',e1,e2,e3,e4⟩:=ih (f.set v.toNat true) (rest++adj l b e v.toNat) (by rw[ag];omega) (by omega) ⟨by rw[aX];exact h1,fun k hk=>by
      rcases(hget k).1 hk with h | h
      ·exact h2 k h
      ·subst h;rw[Int.toNat_of_nonneg (by omega)];exact hvr,
     fun y hy y0 y1=>by
      rcases aA.1 hy with hy | hy
      ·exact h3 y ((hmem y).2 (.inl hy)) y0 y1
      ·exact .step hvr hy y0 y1,
     fun k hk y hy y0 y1=>by
      rcases(hget k).1 hk with h | h
      ·rcases h4 k h y hy y0 y1 with h | h
       ·exact .inl ((hget _).2 (.inl h))
       ·rcases(hmem y).1 h with h | h
        ·exact .inr (ar _ h)
        ·exact .inl ((hget _).2 (.inr (by rw[h])))
      ·subst h;exact .inr (au _ hy)⟩
    refine⟨f',e1,e2,fun k hk=>e3 k ((hget k).2 (.inl hk)),fun y hy y0 y1=>?_⟩
    rcases(hmem y).1 hy with h | h
    ·exact e4 y (ar _ h) y0 y1
    ·exact e3 _ ((hget _).2 (.inr (by rw[h])))
   have hnil:rest++[]=rest:=aH _
   unfold adj at go
   revert go
   generalize l.getD v.toNat b8=p
   intro go
   by_cases c6:p.Op=6
   ·rw[bm c6]at go
    rw[ak c6,bm (by rw[cg];omega)]
    exact go
   rw[bn c6]at go
   rw[aj c6]
   by_cases c7:p.Op=7
   ·rw[bm c7]at go
    rw[ak c7,bm (by rw[cg];omega)]
    exact go
   rw[bn c7]at go
   rw[aj c7]
   by_cases c4:p.Op=4
   ·rw[bm c4]at go
    rw[ak c4]
    cases b with
    | true =>
     rw[bm rfl]at go
     rw[bm rfl,bm (by rw[cg];omega),hw]
     exact go
    | false =>
     rw[bn (by decide),hnil]at go
     rw[bn (by decide)]
     exact go
   rw[bn c4]at go
   rw[aj c4]
   by_cases c5:p.Op=5
   ·rw[bm c5]at go
    rw[ak c5]
    cases e with
    | true =>
     rw[bm rfl]at go
     rw[bm rfl,bm (by rw[cg];omega),hw]
     exact go
    | false =>
     rw[bn (by decide),hnil]at go
     rw[bn (by decide)]
     exact go
   rw[bn c5,hnil]at go
   rw[aj c5]
   exact go
theorem Ua(f:List Bool)(hf:f.length≤1000):AF f=some (marks f 0 f.length,()):=by
 have key:∀ (d i:Nat) (t:List Int),i+d=f.length→t.length≤i→ru f t (i:Int)=some (t++marks f i d,()):=by
  intro d
  induction d with
  | zero =>
   intro i t hi ht
   rw[H0,ap]
   show _=some (t++[],())
   rw[aH]
  | succ d ih =>
   intro i t hi ht
   have hi':i<f.length:=by omega
   rw[H0,an,al,ch hi' (by omega),af,show d+1=1+d by omega,ze]
   have hm:marks f i 1=if f.getD i false=true then [(i:Int)]else []:=by
    unfold marks
    rw[show List.range' i 1=[i]from rfl,List.filter_cons]
    split <;> rfl
   rw[hm]
   by_cases c:f.getD i false=true
   ·rw[bm c,bm c,bm (by rw[cg];omega)]
    have:=ih (i+1) (t++[(i:Int)]) (by omega) (by simp;omega)
    rw[ah]at this
    exact this
   ·rw[bn c,bn c,bg]
    exact ih (i+1) t (by omega) (by omega)
 rw[TS]
 have:=key f.length 0 [] (by omega) (aG _)
 rwa [bg]at this
theorem ST{l:List bB}(hl:l.length≤1000)(at_:List Int)(hat:at_.length≤1000000)(b e:Bool):∃ f:List Bool,ly l at_ b e=some (marks f 0 l.length,())∧∀ k:Nat,k<l.length→(f.getD k false=true↔Rch l at_ b e k):=by
 have key:∀ (d i:Nat) (f:List Bool),i+d=at_.length→Mk l at_ b e f []→(∀ (j:Nat) (hj:j<at_.length),j<i→0≤at_[j]→at_[j]<(l.length:Int)→f.getD at_[j].toNat false=true) →
   ∃ g:List Bool,ut l at_ b e f (i:Int)=some (marks g 0 l.length,())∧∀ k:Nat,k<l.length→(g.getD k false=true↔Rch l at_ b e k):=by
  intro d
  induction d with
  | zero =>
   intro i f hi h ha
   obtain⟨h1,h2,h3,h4⟩:=h
   rw[Hh,ap,Ua f (by omega),aa,h1]
   refine⟨f,rfl,fun k hk=>⟨h2 k,fun hx=>?_⟩⟩
   have all:∀ y:Int,Rch l at_ b e y→f.getD y.toNat false=true:=fun y hy=>by
    induction hy with
    | base g1 g2 g3 =>
     obtain⟨j,hj,rfl⟩:=bk.1 g1
     exact ha j hj (by omega) g2 g3
    | step g0 g1 g2 g3 ih =>
     rcases h4 _ ih _ g1 g2 g3 with h | h
     ·exact h
     ·cases h
   have:=all k hx
   rwa [af]at this
  | succ d ih =>
   intro i f hi h ha
   have hi':i<at_.length:=by omega
   obtain⟨h1,h2,h3,h4⟩:=h
   rw[Hh,an,al,ci hi',TR]
   have hc:=List.count_le_length (a:=false) (l:=f)
   obtain⟨f',e1,e2,e3,e4⟩:=SS hl at_ b e (3*f.count false+1) f [at_[i]] (by simp) (by omega) ⟨h1,h2,fun y hy y0 y1=>.base (by rw[aJ.1 hy];exact aV hi') y0 y1,fun k hk y hy y0 y1=>(h4 k hk y hy y0 y1).imp id fun h=>by cases h⟩
   rw[e1,aa]
   dsimp only
   rw[ch hi' (by omega)]
   refine ih (i+1) f' (by omega) e2 fun j hj hji x0 x1=>?_
   by_cases hj':j=i
   ·subst hj';exact e4 _ (aJ.2 rfl) x0 x1
   ·exact e3 _ (ha j hj (by omega) x0 x1)
 rw[Sb,bm ⟨by omega,by omega,by rw[cg];omega⟩,af]
 have hno:∀ k:Nat,(List.replicate l.length false).getD k false=false:=fun k=>by
  rw[List.getD_eq_getElem?_getD,List.getElem?_replicate];split <;> rfl
 exact key at_.length 0 _ (by omega) ⟨a7,fun k hk=>(by rw[hno]at hk;cases hk),fun y hy=>(by cases hy),fun k hk=>(by rw[hno]at hk;cases hk)⟩ (fun j hj h=>absurd h (by omega))
theorem Cg{l:List bB}(hl:l.length≤1000)(at_:List Int)(hat:at_.length≤1000000)(b e:Bool):∃ m,sO l at_ b e=some (m,())∧ly l at_ b e=some (m,())∧m.Pairwise (· < ·)∧(∀ x∈m,0≤x∧x<(l.length:Int))∧m.length≤l.length:=by
 obtain⟨out,e1,e2,e3⟩:=NT hl at_ hat b e
 obtain⟨f,e4,e5⟩:=ST hl at_ hat b e
 have he:dR out=marks f 0 l.length:=BS (IA e2) (zd _ _ _) fun x=>by
  rw[sortI_mem,e3,marks_mem]
  constructor
  ·intro hx
   have hb:=hx.bd
   exact⟨x.toNat,by omega,by omega,by omega,(e5 _ (by omega)).2 (by rw[Int.toNat_of_nonneg hb.1];exact hx)⟩
  ·rintro ⟨i,rfl,h1,h2,h3⟩
   exact(e5 i (by omega)).1 h3
 refine⟨marks f 0 l.length,by rw[e1,he],e4,zd _ _ _,fun x hx=>?_,FS _ _ _⟩
 obtain⟨i,rfl,h1,h2,_⟩:=marks_mem.1 hx
 omega
def plB(p:bB)(n:Int):Bool :=
 if p.Op=1 then decide (0≤p.C∧p.C≤255)&&((decide (p.Set=[]) && !p.Not)&&(decide (p.A=0)&&decide (p.B=0)))
 else if p.Op=3 then decide (p.C=0)&&(decide (p.A=0)&&decide (p.B=0))
 else if p.Op=6 then decide (p.C=0)&&((decide (p.Set=[]) && !p.Not)&&(decide (0≤p.A∧p.A≤w64 (n-1))&&decide (p.B=0)))
 else if p.Op=7 then decide (p.C=0)&&((decide (p.Set=[]) && !p.Not)&&(decide (0≤p.A∧p.A≤w64 (n-1))&&decide (0≤p.B∧p.B≤w64 (n-1))))
 else if p.Op=2∨p.Op=4∨p.Op=5∨p.Op=8 then decide (p.C=0)&&((decide (p.Set=[]) && !p.Not)&&(decide (p.A=0)&&decide (p.B=0)))
 else false
theorem Uc(p:bB)(n:Int):AG p n=some (plB p n,()):=by
 rw[TZ]
 simp only[TU,TV,TW,TX,TY,d8,aa]
 unfold plB
 generalize w64 (n-1)=m
 by_cases c1:p.Op=1
 ·by_cases hC:0≤p.C∧p.C≤255
  ·by_cases hs:p.Set=[] <;> by_cases hn:p.Not <;> by_cases hA:p.A=0 <;> by_cases hB:p.B=0 <;> simp[c1,hC,hs,hn,hA,hB]
  ·have hC':p.C≠0:=fun h=>hC (by omega)
   by_cases hs:p.Set=[] <;> by_cases hn:p.Not <;> by_cases hA:p.A=0 <;> by_cases hB:p.B=0 <;> simp[c1,hC,hC',hs,hn,hA,hB]
 by_cases hC:p.C=0
 ·by_cases c3:p.Op=3
  ·by_cases hA:p.A=0 <;> by_cases hB:p.B=0 <;> simp[c3,hC,hA,hB]
  by_cases c6:p.Op=6
  ·by_cases hs:p.Set=[] <;> by_cases hn:p.Not <;> by_cases hA:0≤p.A∧p.A≤m <;> by_cases hB:p.B=0 <;> simp[c6,hC,hs,hn,hA,hB]
  by_cases c7:p.Op=7
  ·by_cases hs:p.Set=[] <;> by_cases hn:p.Not <;> by_cases hA:0≤p.A∧p.A≤m <;> by_cases hB:0≤p.B∧p.B≤m <;> simp[c7,hC,hs,hn,hA,hB]
  by_cases c2:p.Op=2
  ·by_cases hs:p.Set=[] <;> by_cases hn:p.Not <;> by_cases hA:p.A=0 <;> by_cases hB:p.B=0 <;> simp[c2,hC,hs,hn,hA,hB]
  by_cases c4:p.Op=4
  ·by_cases hs:p.Set=[] <;> by_cases hn:p.Not <;> by_cases hA:p.A=0 <;> by_cases hB:p.B=0 <;> simp[c4,hC,hs,hn,hA,hB]
  by_cases c5:p.Op=5
  ·by_cases hs:p.Set=[] <;> by_cases hn:p.Not <;> by_cases hA:p.A=0 <;> by_cases hB:p.B=0 <;> simp[c5,hC,hs,hn,hA,hB]
  by_cases c8:p.Op=8
  ·by_cases hs:p.Set=[] <;> by_cases hn:p.Not <;> by_cases hA:p.A=0 <;> by_cases hB:p.B=0 <;> simp[c8,hC,hs,hn,hA,hB]
  have hno:¬ (1≤p.Op∧p.Op≤8):=by omega
  simp[c1,c2,c3,c4,c5,c6,c7,c8,hno]
 ·have e5:(decide (p.C=0))=false:=ae hC
  by_cases c3:p.Op=3
  ·simp[c3,hC]
  by_cases c6:p.Op=6
  ·simp[c6,hC]
  by_cases c7:p.Op=7
  ·simp[c7,hC]
  simp[c1,c3,c6,c7,hC]
theorem Ox(p:bB)(n:Int)(b:Bool):xV p n b=some (decide (b=decide (p.Op=8))&&plB p n,()):=by
 rw[Ow]
 simp only[Ov,eI,aa]
 unfold plB
 generalize w64 (n-1)=m
 by_cases hb:b=decide (p.Op=8)
 ·rw[ac hb,bn (by decide),Bool.true_and]
  clear hb
  by_cases c1:p.Op=1
  ·by_cases hC:0≤p.C∧p.C≤255 <;> by_cases hs:p.Set=[] <;> by_cases hn:p.Not <;> by_cases hA:p.A=0 <;> by_cases hB:p.B=0 <;> simp[c1,hC,hs,hn,hA,hB]
  by_cases hC:p.C=0
  ·by_cases c3:p.Op=3
   ·by_cases hA:p.A=0 <;> by_cases hB:p.B=0 <;> simp[c3,hC,hA,hB]
   by_cases c6:p.Op=6
   ·by_cases hs:p.Set=[] <;> by_cases hn:p.Not <;> by_cases hA:0≤p.A∧p.A≤m <;> by_cases hB:p.B=0 <;> simp[c6,hC,hs,hn,hA,hB]
   by_cases c7:p.Op=7
   ·by_cases hs:p.Set=[] <;> by_cases hn:p.Not <;> by_cases hA:0≤p.A∧p.A≤m <;> by_cases hB:0≤p.B∧p.B≤m <;> simp[c7,hC,hs,hn,hA,hB]
   by_cases c2:p.Op=2
   ·by_cases hs:p.Set=[] <;> by_cases hn:p.Not <;> by_cases hA:p.A=0 <;> by_cases hB:p.B=0 <;> simp[c2,hC,hs,hn,hA,hB]
   by_cases c4:p.Op=4
   ·by_cases hs:p.Set=[] <;> by_cases hn:p.Not <;> by_cases hA:p.A=0 <;> by_cases hB:p.B=0 <;> simp[c4,hC,hs,hn,hA,hB]
   by_cases c5:p.Op=5
   ·by_cases hs:p.Set=[] <;> by_cases hn:p.Not <;> by_cases hA:p.A=0 <;> by_cases hB:p.B=0 <;> simp[c5,hC,hs,hn,hA,hB]
   by_cases c8:p.Op=8
   ·by_cases hs:p.Set=[] <;> by_cases hn:p.Not <;> by_cases hA:p.A=0 <;> by_cases hB:p.B=0 <;> simp[c8,hC,hs,hn,hA,hB]
   simp[c1,c2,c3,c4,c5,c6,c7,c8]
  ·by_cases c3:p.Op=3
   ·simp[c3,hC]
   by_cases c6:p.Op=6
   ·simp[c6,hC]
   by_cases c7:p.Op=7
   ·simp[c7,hC]
   simp[c1,c3,c6,c7,hC]
 ·rw[ae hb,bm (by decide),Bool.false_and]
def nfB(l:List bB):Bool:=decide (1≤(l.length:Int)∧(l.length:Int)≤400) && !dV (fun i=>!(plB (l.getD i b8) l.length&&decide (decide ((i:Int)=w64 ((l.length:Int)-1))=decide ((l.getD i b8).Op=8)))) l.length
theorem Ei(l:List bB)(hl:l.length≤1000):s4 l=some (nfB l,()):=by
 rw[Nu,eI,aa]
 dsimp only
 unfold nfB
 by_cases c:1≤(l.length:Int)∧(l.length:Int)≤400
 ·rw[ac c,bn (by decide),Bool.true_and]
  have h:=iP (fun i=>mj l l (l.length:Int) i) l.length (fun i=>!(plB (l.getD i b8) l.length&&decide (decide ((i:Int)=w64 ((l.length:Int)-1))=decide ((l.getD i b8).Op=8)))) (some (false,())) (some (true,()))
   (fun i hi=>by
    show mj l l _ _=_
    rw[DQ,an,al,ci hi,Ox,aa,ch hi (by omega),cE hi,Bool.and_comm])
   (by show mj l l _ _=_;rw[DQ,bn (by simp)])
  have h':mj l l (l.length:Int) 0=_:=h
  rw[h']
  split <;> simp_all
 ·rw[ae c,bm (by decide),Bool.false_and]
theorem Ub(l:List bB)(hl:l.length≤1000):z7 l=some (nfB l,()):=by
 rw[SD]
 unfold nfB
 have h:=iP (fun i=>mM l (l.length:Int) i) l.length (fun i=>!(plB (l.getD i b8) l.length&&decide (decide ((i:Int)=w64 ((l.length:Int)-1))=decide ((l.getD i b8).Op=8)))) (some (false,())) (some (decide (1≤(l.length:Int)∧(l.length:Int)≤400),()))
  (fun i hi=>by
   show mM l _ _=_
   rw[Hu,an,al,ci hi,Uc,aa,cE hi,bm (c:=(0:Int)≤(i:Int)∧(i:Int)<(l.length:Int)) (by omega),ch hi (by omega)]
   dsimp only
   cases plB l[i] (l.length:Int) with
   | false=>rfl
   | true =>
    rw[bn (by decide),Bool.true_and]
    have:decide (decide (l[i].Op=8)=decide ((i:Int)=w64 ((l.length:Int)-1)))=decide (decide ((i:Int)=w64 ((l.length:Int)-1))=decide (l[i].Op=8)):=decide_eq_decide.2 eq_comm
    rw[this])
  (by show mM l _ _=_;rw[Hu,bn (by simp),d8];rfl)
 have h':mM l (l.length:Int) 0=_:=h
 rw[h']
 split <;> simp_all
theorem EM(c:Int):∀ l:List Int,decide (dr l c≥0)=decide (c∈l)
 | []=>by simp[dr]
 | b::l=>by
  have ih:=EM c l
  have hb:=EK l c
  unfold dr
  by_cases h:b=c
  ·rw[bm h];simp[h]
  ·rw[bn h]
   have h':c≠b:=fun e=>h e.symm
   have hm:decide (c∈b::l)=decide (c∈l):=decide_eq_decide.2 (by rw[aK];exact⟨fun e=>e.resolve_left h',.inr⟩)
   rw[hm,← ih]
   by_cases d:dr l c = -1
   ·rw[bm d,d]
   ·rw[bn d];exact decide_eq_decide.2 (by omega)
theorem BN(l:List Int)(c:Int):(l.any fun x=>decide (x=c))=decide (c∈l):=by
 cases h:decide (c∈l) with
 | true=>exact List.any_eq_true.2 ⟨c,of_decide_eq_true h,by simp⟩
 | false =>
  have h:=of_decide_eq_false h
  rw[← aS]
  intro e
  obtain⟨x,hx,e⟩:=List.any_eq_true.1 e
  exact h (by rw[← of_decide_eq_true e];exact hx)
theorem T1(l:List Int)(c:Int)(hl:l.length≤4294967296):AH l c=some (decide (c∈l),()):=by
 rw[T0]
 have h:=iP (fun i=>mW l c i) l.length (fun i=>decide (l.getD i 0=c)) (some (true,())) (some (false,()))
  (fun i hi=>by show mW l c _=_;rw[H5,an,al,ci hi,cE hi,ch hi (by omega)])
  (by show mW l c _=_;rw[H5,bn (by simp)])
 have h':mW l c 0=_:=h
 rw[h',fm l 0 (fun x=>decide (x=c)),BN]
 by_cases d:c∈l
 ·rw[ac d,bm rfl]
 ·rw[ae d,bn (by decide)]
theorem Cm(l:List Int)(c:Int)(hl:l.length≤4294967296):Bg l c=some (decide (c∈l),()):=by
 rw[Vp,VB]
 obtain⟨k,e1,e2,_⟩:=im (fun i=>nn l c (l.length:Int) i) () l.length (fun i=>decide (l.getD i 0=c))
  (fun i hi=>by
   show nn l c _ _=_
   rw[JL,an,al,ci hi,cE hi,ch hi (by omega)]
   have:decide (c=l[i])=decide (l[i]=c):=decide_eq_decide.2 eq_comm
   rw[this])
  (by show nn l c _ _=_;rw[JL,bn (by simp)])
 have e1':nn l c (l.length:Int) 0=some (k,()):=e1
 rw[e1',aa]
 dsimp only
 rw[e2,fm l 0 (fun x=>decide (x=c)),BN]
def tkB(p:bB)(c:Int):Bool:=if p.Op=1 then decide (p.C=w64 c)else if p.Op=2 then true else if p.Op=3 then !decide (decide (c∈p.Set)=p.Not)else false
theorem IR(p:bB)(c:Int)(hl:p.Set.length≤4294967296):ye p c=some (tkB p c,())∧AJ p c=some (tkB p c,()):=by
 rw[OS,T2,JS,Jn,Jg,T1 _ _ hl]
 simp only[aa,EM]
 unfold tkB
 by_cases c1:p.Op=1
 ·have:decide (w64 c=p.C)=decide (p.C=w64 c):=decide_eq_decide.2 eq_comm
  simp[c1,this]
 by_cases c2:p.Op=2
 ·simp[c2]
 by_cases c3:p.Op=3
 ·simp[c3]
 simp[c1,c2,c3]
def nxt(l:List bB)(c:Int)(m:List Int):List Int:=(m.filter fun k=>tkB (l.getD k.toNat b8) c).map fun k=>k+1
theorem QR(l:List bB)(c:Int)(m:List Int):(nxt l c m).length≤m.length:=by
 unfold nxt
 rw[bh]
 exact List.length_filter_le ..
theorem Gm(l:List bB)(c k:Int)(m:List Int):nxt l c (k::m)=(if tkB (l.getD k.toNat b8) c=true then [k+1]else [])++nxt l c m:=by
 unfold nxt
 rw[List.filter_cons]
 split <;> rfl
def pC(l:List bB):Prop:=∀ p∈l,p.Set.length≤4294967296
theorem QH{l:List bB}(hl:l.length≤1000)(hS:pC l){s:List Int}(hs:s.length≤4294967296)(p:Nat)(hp:p<s.length)(best:Int)(m:List Int)(hm:m.length≤1000)(hb:∀ x∈m,0≤x∧x<(l.length:Int)) :
  ∀ (d i:Nat) (t:List Int),i+d=m.length→t.length≤i→qe l s (p:Int) best t m (m.length:Int) (i:Int)=nN l s ((p+1:Nat):Int) best (t++nxt l s[p] (m.drop i)):=by
 intro d
 induction d with
 | zero =>
  intro i t hi ht
  rw[DM,ap,aW (by omega),ch hp (by omega)]
  show _=nN l s _ best (t++[])
  rw[aH]
 | succ d ih =>
  intro i t hi ht
  have hi':i<m.length:=by omega
  have hv:=hb _ (aV hi')
  have hvn:m[i].toNat<l.length:=by omega
  rw[DM,an,al,ci hi',al,al,ci hp,cE hvn,(IR _ _ (hS _ (aV hvn))).1,aa,aq (n:=m[i]+1),ch hi' (by omega),ai hi',Gm,cE hvn]
  dsimp only
  by_cases c:tkB l[m[i].toNat] s[p]=true
  ·rw[bm c,bm c,bm (by rw[cg];omega)]
   have:=ih (i+1) (t++[m[i]+1]) (by omega) (by simp;omega)
   rw[ah]at this
   exact this
  ·rw[bn c,bn c,bg]
   exact ih (i+1) t (by omega) (by omega)
theorem QI{l:List bB}(hl:l.length≤1000)(hS:pC l){s:List Int}(hs:s.length≤4294967296)(p:Nat)(hp:p<s.length)(best:Int)(m:List Int)(hm:m.length≤1000)(hb:∀ x∈m,0≤x∧x<(l.length:Int)) :
  ∀ (d i:Nat) (t:List Int),i+d=m.length→t.length≤i→rc l s m best (p:Int) t (i:Int)=(ly l (t++nxt l s[p] (m.drop i)) false (decide (((p+1:Nat):Int)=(s.length:Int)))).bind fun(r1:(List Int)×Unit)=>q8 l s r1.1 best ((p+1:Nat):Int):=by
 intro d
 induction d with
 | zero =>
  intro i t hi ht
  rw[Hr,ap,aW (by omega),ch hp (by omega)]
  show _=(ly l (t++[]) _ _).bind _
  rw[aH]
 | succ d ih =>
  intro i t hi ht
  have hi':i<m.length:=by omega
  have hv:=hb _ (aV hi')
  have hvn:m[i].toNat<l.length:=by omega
  rw[Hr,an,al,ci hi',al,al,ci hp,cE hvn,(IR _ _ (hS _ (aV hvn))).2,aa,aq (n:=m[i]+1),ch hi' (by omega),ai hi',Gm,cE hvn]
  dsimp only
  by_cases c:tkB l[m[i].toNat] s[p]=true
  ·rw[bm c,bm c,al,bm (by rw[cg];omega)]
   have:=ih (i+1) (t++[m[i]+1]) (by omega) (by simp;omega)
   rw[ah]at this
   exact this
  ·rw[bn c,bn c,bg]
   exact ih (i+1) t (by omega) (by omega)
theorem FD{m:List Int}(ha:m.Pairwise (· < ·)){N:Int}(hb:∀ x∈m,x<N)(h0:0<m.length):decide (N-1∈m)=decide (m[m.length-1]=N-1):=by
 refine decide_eq_decide.2 ⟨fun h=>?_,fun h=>by rw[← h];exact aV _⟩
 obtain⟨i,hi,e⟩:=bk.1 h
 have h1:=hb _ (aV (show m.length-1<m.length by omega))
 by_cases c:i=m.length-1
 ·subst c;exact e
 ·have:=List.pairwise_iff_getElem.1 ha i (m.length-1) hi (by omega) (by omega)
  omega
theorem Qx{l:List bB}(hl:l.length≤1000)(hS:pC l){s:List Int}(hs:s.length≤4294967296):∀ (d p:Nat),p+d=s.length→∀ (best:Int) (at_:List Int),at_.length≤1000 →
  ∃ v,nN l s (p:Int) best at_=some (v,())∧((ly l at_ (decide ((p:Int)=0)) (decide ((p:Int)=(s.length:Int)))).bind fun(r1:(List Int)×Unit)=>q8 l s r1.1 best (p:Int))=some (v,()):=by
 intro d
 induction d with
 | zero =>
  intro p hp best at_ hat
  obtain⟨m,e1,e2,e3,e4,e5⟩:=Cg hl at_ (by omega) (decide ((p:Int)=0)) (decide ((p:Int)=(s.length:Int)))
  rw[DL,e1,e2,aa,aa]
  dsimp only
  rw[Cm _ _ (by omega),aa,Hp,aq (n:=(l.length:Int)-1)]
  dsimp only
  have hi:∀ b,qd l s (p:Int) b m=some (b,()):=fun b=>by rw[xy,an]
  have hss:∀ b,q9 l s m b (p:Int)=some (b,()):=fun b=>by rw[Hq,an]
  simp only[hi,hss]
  by_cases hm:0<m.length
  ·have w:w64 ((m.length:Int)-1)=((m.length-1:Nat):Int):=by rw[aq];omega
   rw[bm (c:=decide ((m.length:Int)>0)=true) (ac (by omega)),w,bm (c:=(0:Int)≤((m.length-1:Nat):Int)∧((m.length-1:Nat):Int)<(m.length:Int)) (by omega),ci (by omega),FD e3 (fun x hx=>(e4 x hx).2) hm]
   by_cases c:m[m.length-1]=(l.length:Int)-1
   ·rw[ac c,bm rfl];exact⟨_,rfl,rfl⟩
   ·rw[ae c,bn (by decide)];exact⟨_,rfl,rfl⟩
  ·have:m=[]:=aZ.1 (by omega)
   subst this
   rw[bn (c:=decide ((l.length:Int)-1∈([]:List Int))=true) (by simp),bn (by simp)]
   exact⟨_,rfl,rfl⟩
 | succ d ih =>
  intro p hp best at_ hat
  have hps:p<s.length:=by omega
  obtain⟨m,e1,e2,e3,e4,e5⟩:=Cg hl at_ (by omega) (decide ((p:Int)=0)) (decide ((p:Int)=(s.length:Int)))
  rw[DL,e1,e2,aa,aa]
  dsimp only
  rw[Cm _ _ (by omega),aa,Hp,aq (n:=(l.length:Int)-1)]
  dsimp only
  by_cases hm:0<m.length
  ·have go:∀ b,∃ v,qd l s (p:Int) b m=some (v,())∧q9 l s m b (p:Int)=some (v,()):=fun b=>by
    have hn:=QR l s[p] m
    have h1:=QH hl hS hs p hps b m (by omega) e4 m.length 0 [] (by omega) (aG _)
    have h2:=QI hl hS hs p hps b m (by omega) e4 m.length 0 [] (by omega) (aG _)
    rw[aM,bg]at h1 h2
    obtain⟨v,g1,g2⟩:=ih (p+1) (by omega) b (nxt l s[p] m) (by omega)
    rw[ae (p:=((p+1:Nat):Int)=0) (by omega)]at g2
    refine⟨v,?_,?_⟩
    ·rw[xy,ap,ap]
     exact h1.trans g1
    ·rw[Hq,ap]
     exact h2.trans g2
   have w:w64 ((m.length:Int)-1)=((m.length-1:Nat):Int):=by rw[aq];omega
   rw[bm (c:=decide ((m.length:Int)>0)=true) (ac (by omega)),w,bm (c:=(0:Int)≤((m.length-1:Nat):Int)∧((m.length-1:Nat):Int)<(m.length:Int)) (by omega),ci (by omega),FD e3 (fun x hx=>(e4 x hx).2) hm]
   by_cases c:m[m.length-1]=(l.length:Int)-1
   ·rw[ac c,bm rfl,bm rfl];exact go _
   ·rw[ae c,bn (by decide),bn (by decide)];exact go _
  ·have:m=[]:=aZ.1 (by omega)
   subst this
   rw[bn (c:=decide ((l.length:Int)-1∈([]:List Int))=true) (by simp),bn (by simp),xy,ap,bm (by simp)]
   exact⟨_,rfl,rfl⟩
theorem Qw{l:List bB}(hl:l.length≤1000)(hS:pC l){s:List Int}(hs:s.length≤4294967296)(p:Nat)(hp:p≤s.length):∃ v,xw l s (p:Int)=some (v,())∧zZ l s (p:Int)=some (v,())∧(nfB l=false→v = -1):=by
 rw[Np,Sz,Ei l hl,Ub l hl,eI,d8]
 simp only[aa]
 cases h:nfB l with
 | false=>exact⟨_,rfl,rfl,fun _=>rfl⟩
 | true =>
  have hin:decide (0≤(p:Int)∧(p:Int)≤(s.length:Int))=true:=ac (by omega)
  rw[hin]
  simp only[Bool.not_true,Bool.false_eq_true,if_false]
  obtain⟨v,e1,e2⟩:=Qx hl hS hs (s.length-p) p (by omega) (-1) [0] (by simp)
  exact⟨v,e1,e2,fun h=>by cases h⟩
theorem Qy{l:List bB}(hl:l.length≤1000)(hS:pC l){s:List Int}(hs:s.length≤4294967296):∃ a b c,xv l s=some (a,b,c,())∧zY l s=some (a,b,c,()):=by
 have key:∀ (d p:Nat),p+d=s.length+1→∃ a b c,sZ l s (p:Int)=some (a,b,c,())∧uy l s (p:Int)=some (a,b,c,())∧(nfB l=false→a=0∧b=0∧c=false):=by
  intro d
  induction d with
  | zero =>
   intro p hp
   rw[DP,Ht,ap,ap]
   exact⟨_,_,_,rfl,rfl,fun _=>⟨rfl,rfl,rfl⟩⟩
  | succ d ih =>
   intro p hp
   obtain⟨v,e1,e2,e3⟩:=Qw hl hS hs p (by omega)
   have w:w64 ((p:Int)+1)=((p+1:Nat):Int):=by rw[aq];omega
   rw[DP,Ht,an,an,e1,e2,aa,aa,w]
   dsimp only
   by_cases c:v≥0
   ·rw[ak c,ak c];exact⟨_,_,_,rfl,rfl,fun h=>absurd (e3 h) (by omega)⟩
   ·rw[aj c,aj c];exact ih (p+1) (by omega)
 obtain⟨a,b,c,e1,e2,e3⟩:=key (s.length+1) 0 (by omega)
 rw[Ns,SB,Ei l hl,aa]
 dsimp only
 cases h:nfB l with
 | false =>
  obtain⟨rfl,rfl,rfl⟩:=e3 h
  rw[bm (by decide)]
  exact⟨_,_,_,rfl,e2⟩
 | true=>rw[bn (by decide)];exact⟨a,b,c,e1,e2⟩
noncomputable def nI(pat s:List Int):Bool:=match oR pat s with
 | some (v,_)=>decide (v.N≠0)
 | none=>false
theorem sH(pat s:List Int)(hB:∀ b∈pat,0≤b∧b≤255)(hl:pat.length≤9223372036854775807)(hs:s.length≤4294967296):tg pat s=some (nI pat s,())∧oR pat s=some (⟨1,if nI pat s=true then 1000000 else 0,[]⟩,()):=by
 obtain⟨x,ok,e1,e2,h1,h2,h3,h4⟩:=RP pat hB hl
 obtain⟨l,e3,e4,h5,h6⟩:=QJ h1 h2 h4
 obtain⟨a,b,c,e5,e6⟩:=Qy h5 (fun p hp=>by have:=h6 p hp;omega) hs
 have hs':oR pat s=some (⟨1,if c=true then 1000000 else 0,[]⟩,()):=by
  rw[Ta,e1,aa]
  dsimp only
  rw[SA,e4,aa]
  dsimp only
  rw[e6,aa,aa]
  dsimp only
  rw[HE,Av]
  cases c with
  | true=>rw[bm rfl,aa,fP];rfl
  | false=>rw[bn (by decide),aa,fP];rfl
 have hf:nI pat s=c:=by
  unfold nI
  rw[hs']
  cases c <;> rfl
 rw[hf]
 refine⟨?_,hs'⟩
 rw[NY,e2,aa]
 dsimp only
 rw[Nq,e3,aa]
 dsimp only
 rw[e5]
 rfl
theorem F8{a b:Int}(ha:Dc a)(hb:Dc b):∃ v ok,sR a b=some (v,ok,())∧Dc v:=by
 have ha':=ha
 have hb':=hb
 unfold Dc at ha' hb'
 rw[DB,eH,eH]
 simp only[aa,ac ha',ac hb',Bool.not_true,Bool.false_eq_true,if_false,sm ha,sm hb]
 have x0:0≤(if a<0 then 0-a else a):=by split <;> omega
 have x1:(if a<0 then 0-a else a)≤9000000000000:=by split <;> omega
 have y0:0≤(if b<0 then 0-b else b):=by split <;> omega
 have y1:(if b<0 then 0-b else b)≤9000000000000:=by split <;> omega
 generalize (if a<0 then 0-a else a)=x at *
 generalize (if b<0 then 0-b else b)=y at *
 generalize (!(decide ((decide (a<0))=(decide (b<0)))))=n
 rw[FY x0 x1 y0 y1 n]
 have p0:=Int.mul_nonneg x0 y0
 unfold oB Dc
 generalize x*y=p at *
 by_cases c:p/1000000>9000000000000
 ·rw[bm c];exact⟨_,_,rfl,by omega⟩
 ·rw[bn c]
  cases n with
  | true=>rw[bm rfl];exact⟨_,_,rfl,by omega⟩
  | false=>rw[bn (by decide)];exact⟨_,_,rfl,by omega⟩
theorem zE(n:Int):∃ v ok,((mr n).bind fun(r2:Int×Bool×Unit)=>some (r2.1,r2.2.1,()))=some (v,ok,())∧Dc v:=by
 rw[qu]
 unfold Dc
 by_cases c:-9000000000000≤n∧n≤9000000000000
 ·rw[bm c];exact⟨_,_,rfl,c⟩
 ·rw[bn c];exact⟨_,_,rfl,by omega⟩
theorem sk{a b:Int}(ha:Dc a)(hb:Dc b):∃ v ok,nM a b=some (v,ok,())∧Dc v:=by
 unfold Dc at ha hb
 rw[Dz,eH,eH]
 simp only[aa,ac ha,ac hb,Bool.not_true,Bool.false_eq_true,if_false]
 exact zE _
theorem IJ{a b:Int}(ha:Dc a)(hb:Dc b):∃ v ok,sS a b=some (v,ok,())∧Dc v:=by
 unfold Dc at ha hb
 rw[DE,eH,eH]
 simp only[aa,ac ha,ac hb,Bool.not_true,Bool.false_eq_true,if_false]
 exact zE _
theorem Cz{a b:Int}(ha:Dc a)(hb:Dc b)(h0:b≠0):∃ v ok,p9 a b=some (v,ok,())∧Dc v:=by
 unfold Dc at ha hb
 rw[DA,eH,eH]
 simp only[aa,ac ha,ac hb,ae h0,Bool.not_true,Bool.false_eq_true,if_false,bm h0]
 exact zE _
noncomputable def cM(op a b:Int):Int×Int:=match jB (op+9) a b with
 | some (n,e,_)=>(n,e)
 | none=>(0,0)
theorem zf{op a b:Int}(ha:Dc a)(hb:Dc b):jB (op+9) a b=some ((cM op a b).1,(cM op a b).2,())∧Dc (cM op a b).1∧0≤(cM op a b).2∧(cM op a b).2≤2:=by
 have key:∃ n e,jB (op+9) a b=some (n,e,())∧Dc n∧(0:Int)≤e∧e≤2:=by
  have z:Dc 0:=by unfold Dc;omega
  have L1:∀ {x:Option (Int×Bool×Unit)},(∃ v ok,x=some (v,ok,())∧Dc v)→∃ n e,(x.bind fun(r:Int×Bool×Unit)=>jC r.1 r.2.1)=some (n,e,())∧Dc n∧(0:Int)≤e∧e≤2:=fun {x} hx=>by
   obtain⟨v,ok,rfl,hv⟩:=hx
   rw[aa,ti]
   dsimp only
   cases ok with
   | true=>rw[bn (by decide)];exact⟨_,_,rfl,hv,by decide,by decide⟩
   | false=>rw[bm (by decide)];exact⟨_,_,rfl,z,by decide,by decide⟩
  rw[mn]
  by_cases c0:op+9=9
  ·rw[ak c0];exact L1 (sk ha hb)
  rw[aj c0]
  by_cases c1:op+9=10
  ·rw[ak c1];exact L1 (IJ ha hb)
  rw[aj c1]
  by_cases c2:op+9=11
  ·rw[ak c2];exact L1 (F8 ha hb)
  rw[aj c2]
  by_cases cb:b=0
  ·rw[ak cb];exact⟨_,_,rfl,z,by decide,by decide⟩
  rw[aj cb]
  by_cases c4:op+9=13
  ·rw[ak c4,bm cb]
   refine⟨_,_,rfl,?_,by decide,by decide⟩
   unfold Dc at ha ⊢
   have h1:(a.tmod b).natAbs≤a.natAbs:=by
    rw[Int.natAbs_tmod];exact Nat.mod_le _ _
   omega
  rw[aj c4];exact L1 (Cz ha hb cb)
 obtain⟨n,e,e1,e2⟩:=key
 unfold cM
 rw[e1];exact⟨rfl,e2⟩
theorem tU{op a b:Int}(ha:Dc a)(hb:Dc b):jB (op+9) a b=some ((cM op a b).1,(cM op a b).2,())∧Dc (cM op a b).1:=⟨(zf ha hb).1,(zf ha hb).2.1⟩
def ky(b:Bool):bF:=⟨1,if b=true then 1000000 else 0,[]⟩
theorem pI(b:Bool):VG (ky b):=g9 (by unfold Dc;split <;> omega)
def zm(op c:Int):Bool:=if op=0 then decide (c<0)else if op=1 then decide (c≤0)else if op=2 then decide (c>0)else if op=3 then decide (c≥0)else if op=4 then decide (c=0)else !decide (c=0)
inductive R
 | err (e:Int)
 | stop
 | go (a:Int) (V:List bF) (C:List bo) (out:List Int) (st:List bF)
def b7(o:bA):Int :=
 if o.Code=4∨o.Code=5∨o.Code=6∨o.Code=9∨o.Code=24∨o.Code=26∨o.Code=27∨o.Code=28∨o.Code=31∨o.Code=32∨o.Code=33∨o.Code=35 then 1
 else if o.Code=7∨o.Code=8 then 2 else if o.Code=29 then o.N else if 12≤o.Code∧o.Code≤23 then 2 else 0
def eZ(a:Int)(V:List bF)(C:List bo)(out:List Int)(st:List bF)(v:bF):R:=if st.length=64 then .err 7 else .go a V C out (st++[v])
noncomputable def dM(line:List Int)(nr:Int)(o:bA)(l:List bF):Int×bF :=
 if o.Code=1 then(0,⟨1,o.N,[]⟩)
 else if o.Code=2 then(if 300<o.S.length then 3 else 0,⟨2,0,o.S⟩)
 else if o.Code=9 then(0,pU line (dB (l.getD 0 bU)))
 else if o.Code=10 then(0,⟨1,nr*1000000,[]⟩)
 else if o.Code=11 then(0,⟨1,((dh line).length:Int)*1000000,[]⟩)
 else if o.Code=17 then(if 300<(ct (l.getD 0 bU)++ct (l.getD 1 bU)).length then 3 else 0,⟨2,0,ct (l.getD 0 bU)++ct (l.getD 1 bU)⟩)
 else if o.Code=24 then(0,ky (nI o.S (ct (l.getD 0 bU))))
 else if o.Code=25 then(0,ky (nI o.S line))
 else if o.Code=26 then(0,ky (!lF (l.getD 0 bU)))
 else if o.Code=27 then(0,⟨1,0-cJ (l.getD 0 bU),[]⟩)
 else if o.Code=28 then(0,ky (lF (l.getD 0 bU)))
 else if o.Code=29 then(0,iL o.S l)
 else if o.Code≤16 then((cM (o.Code-12) (cJ (l.getD 0 bU)) (cJ (l.getD 1 bU))).2,⟨1,(cM (o.Code-12) (cJ (l.getD 0 bU)) (cJ (l.getD 1 bU))).1,[]⟩)
 else(0,ky (zm (o.Code-18) (fJ (l.getD 0 bU) (l.getD 1 bU))))
def lq(a:Int)(V:List bF)(C:List bo)(out:List Int)(st:List bF)(n:Int)(k:List Int)(v:bF):R:=match jb C n k v with
 | some C'=>eZ a V C' out st v
 | none=>.err 4
noncomputable def fM(a:Int)(V:List bF)(C:List bo)(out:List Int)(st:List bF)(o:bA)(l:List bF):R :=
 if o.Code=3 then eZ a V C out st (V.getD o.N.toNat bU)
 else if o.Code=4 then eZ a (V.set o.N.toNat (l.getD 0 bU)) C out st (l.getD 0 bU)
 else if o.Code=5 then(if(cM 0 (cJ (V.getD o.N.toNat bU)) (cJ (l.getD 0 bU))).2=0 then
   eZ a (V.set o.N.toNat ⟨1,(cM 0 (cJ (V.getD o.N.toNat bU)) (cJ (l.getD 0 bU))).1,[]⟩) C out st ⟨1,(cM 0 (cJ (V.getD o.N.toNat bU)) (cJ (l.getD 0 bU))).1,[]⟩
  else .err 1)
 else if o.Code=6 then eZ a V C out st (iQ C o.N (fc (l.getD 0 bU)))
 else if o.Code=7 then lq a V C out st o.N (fc (l.getD 0 bU)) (l.getD 1 bU)
 else if o.Code=8 then(if(cM 0 (cJ (iQ C o.N (fc (l.getD 0 bU)))) (cJ (l.getD 1 bU))).2=0 then
   lq a V C out st o.N (fc (l.getD 0 bU)) ⟨1,(cM 0 (cJ (iQ C o.N (fc (l.getD 0 bU)))) (cJ (l.getD 1 bU))).1,[]⟩
  else .err 1)
 else .go a V (nG C o.N (fc (l.getD 0 bU))) out st
def jg(a:Int)(V:List bF)(C:List bo)(out:List Int)(st:List bF)(t:List Int):R:=if 600<(out++t).length then .err 5 else .go a V C (out++t) st
noncomputable def doR(line:List Int)(nr:Int)(a:Int)(V:List bF)(C:List bo)(out:List Int)(st:List bF)(o:bA)(l:List bF):R :=
 if o.Code=36 then .stop
 else if o.Code=30 then .go o.N V C out st
 else if o.Code=31 then(if lF (l.getD 0 bU)=true then .go (a+1) V C out st else .go o.N V C out st)
 else if o.Code=32 then .go (a+1) V C out st
 else if o.Code=33 then jg (a+1) V C out st ((if o.N=1 then [32]else [])++ct (l.getD 0 bU))
 else if o.Code=34 then jg (a+1) V C out st [10]
 else if o.Code=3∨o.Code=4∨o.Code=5∨o.Code=6∨o.Code=7∨o.Code=8∨o.Code=35 then fM (a+1) V C out st o l
 else if(dM line nr o l).1=0 then eZ (a+1) V C out st (dM line nr o l).2 else .err (dM line nr o l).1
noncomputable def j5(line:List Int)(nr:Int)(o:bA)(a:Int)(V:List bF)(C:List bo)(out:List Int)(st:List bF):R :=
 if(st.length:Int)<b7 o then .err 7
 else doR line nr a V C out (st.take (st.length-(b7 o).toNat)) o (st.drop (st.length-(b7 o).toNat))
def VmI(nv:Nat)(nc:Int)(V:List bF)(C:List bo)(out:List Int)(st:List bF):Prop :=
 (V.length=nv∧∀ v∈V,VG v)∧CG nc C∧(out.length≤600∧Bt out)∧(st.length≤64∧∀ v∈st,VG v)
theorem AW{o:bA}{n v c:Int}(h:opB o n v c=true):0≤b7 o∧b7 o≤3:=by
 unfold b7
 split
 ·omega
 split
 ·omega
 split
 ·rename_i h1 h2 h3
  unfold opB at h
  simp[h3]at h
  omega
 split <;> omega
theorem Gn{o:bA}{n v c:Int}(h:opB o n v c=true):1≤o.Code∧o.Code≤36:=by
 unfold opB at h
 by_cases c0:1≤o.Code∧o.Code≤36
 ·exact c0
 ·have e:∀ k:Int,1≤k→k≤36→o.Code≠k:=fun k h1 h2 h3=>c0 (by omega)
  simp[e,c0]at h
theorem FU{a b:Int}(ha:Dc a)(hb:Dc b):(cM 0 a b).2=0∨(cM 0 a b).2=1:=by
 obtain⟨v,ok,e,_⟩:=sk ha hb
 unfold cM
 rw[mn,bm (by decide),e,aa,ti]
 dsimp only
 cases ok with
 | true=>rw[bn (by decide)];exact .inl rfl
 | false=>rw[bm (by decide)];exact .inr rfl
def px(nv:Nat)(nc:Int)(n:Int):R→Prop
 | .go a V C out st=>(0≤a∧a<n)∧VmI nv nc V C out st
 | .err e=>1≤e∧e≤7
 | .stop=>True
theorem oF{nv:Nat}{nc n a:Int}{V:List bF}{C:List bo}{out:List Int}{st:List bF}{v:bF}(ha:0≤a∧a<n)(h:VmI nv nc V C out st)(hv:VG v):px nv nc n (eZ a V C out st v):=by
 obtain⟨h1,h2,h3,h4,h5⟩:=h
 unfold eZ
 by_cases c:st.length=64
 ·rw[bm c];exact⟨by decide,by decide⟩
 ·rw[bn c]
  refine⟨ha,h1,h2,h3,by rw[ag,bj];omega,fun w hw=>?_⟩
  rcases aA.1 hw with hw | hw
  ·exact h5 w hw
  ·rw[aJ.1 hw];exact hv
theorem GR{nv:Nat}{nc n a:Int}{V:List bF}{C:List bo}{out:List Int}{st:List bF}{v:bF}{m:Int}{k:List Int}(ha:0≤a∧a<n)(h:VmI nv nc V C out st)(hm:0≤m∧m<nc)(hk:k.length≤300)(hv:VG v):px nv nc n (lq a V C out st m k v):=by
 unfold lq
 cases e:jb C m k v with
 | none=>exact⟨by decide,by decide⟩
 | some C'=>exact oF ha ⟨h.1,Rw h.2.1 hm hk hv e,h.2.2⟩ hv
theorem Um{V:List bF}(h:∀ v∈V,VG v)(i:Nat){v:bF}(hv:VG v):∀ w∈V.set i v,VG w:=fun w hw=>by
 rcases List.mem_or_eq_of_mem_set hw with hw | hw
 ·exact h w hw
 ·rw[hw];exact hv
theorem QC{nv:Nat}{nc n a:Int}{V:List bF}{C:List bo}{out:List Int}{st l:List bF}{o:bA}(ha:0≤a∧a<n)(h:VmI nv nc V C out st)(hl:∀ v∈l,VG v)(hN:(o.Code=7∨o.Code=8)→0≤o.N∧o.N<nc):px nv nc n (fM a V C out st o l):=by
 have l0:=cZ hl 0
 have l1:=cZ hl 1
 have hset:∀ {v},VG v→VmI nv nc (V.set o.N.toNat v) C out st:=fun hv=>⟨⟨by rw[aX];exact h.1.1,Um h.1.2 _ hv⟩,h.2⟩
 unfold fM
 by_cases c3:o.Code=3
 ·rw[bm c3];exact oF ha h (cZ h.1.2 _)
 rw[bn c3]
 by_cases c4:o.Code=4
 ·rw[bm c4];exact oF ha (hset l0) l0
 rw[bn c4]
 by_cases c5:o.Code=5
 ·rw[bm c5]
  have hm:=g9 (tU (op:=0) (dA (cZ h.1.2 o.N.toNat)).2.2 (dA l0).2.2).2
  split
  ·exact oF ha (hset hm) hm
  ·exact⟨by decide,by decide⟩
 rw[bn c5]
 by_cases c6:o.Code=6
 ·rw[bm c6];exact oF ha h (sL h.2.1 _ _)
 rw[bn c6]
 by_cases c7:o.Code=7
 ·rw[bm c7];exact GR ha h (hN (.inl c7)) (EX _) l1
 rw[bn c7]
 by_cases c8:o.Code=8
 ·rw[bm c8]
  have hm:=g9 (tU (op:=0) (dA (sL h.2.1 o.N (fc (l.getD 0 bU)))).2.2 (dA l1).2.2).2
  split
  ·exact GR ha h (hN (.inr c8)) (EX _) hm
  ·exact⟨by decide,by decide⟩
 rw[bn c8]
 exact⟨ha,h.1,LT h.2.1 _ _,h.2.2⟩
def iI(line:List Int)(nr:Int):Prop:=(line.length≤2097152∧Bt line)∧0≤nr∧nr≤1000000
theorem UU{line:List Int}{nr:Int}{o:bA}{l:List bF}(hL:iI line nr)(hl:∀ v∈l,VG v)(hS:Bt o.S)(hN:o.Code=1→Dc o.N)(he:(dM line nr o l).1=0):VG (dM line nr o l).2:=by
 have l0:=cZ hl 0
 have l1:=cZ hl 1
 obtain⟨⟨hL1,hL2⟩,hL3⟩:=hL
 have hf:=pV line
 unfold dM at he ⊢
 by_cases c1:o.Code=1
 ·rw[bm c1];exact g9 (hN c1)
 rw[bn c1]at he ⊢
 by_cases c2:o.Code=2
 ·rw[bm c2]at he ⊢
  dsimp only at he
  exact pE (by by_cases c:300<o.S.length;rw[bm c]at he;cases he;omega) hS
 rw[bn c2]at he ⊢
 by_cases c9:o.Code=9
 ·rw[bm c9];exact(CO (by omega) hL2 _).2
 rw[bn c9]at he ⊢
 by_cases c10:o.Code=10
 ·rw[bm c10];exact g9 (by unfold Dc;omega)
 rw[bn c10]at he ⊢
 by_cases c11:o.Code=11
 ·rw[bm c11];exact g9 (by unfold Dc;omega)
 rw[bn c11]at he ⊢
 by_cases c17:o.Code=17
 ·rw[bm c17]at he ⊢
  dsimp only at he
  exact pE (by by_cases c:300<(ct (l.getD 0 bU)++ct (l.getD 1 bU)).length;rw[bm c]at he;cases he;omega) (fun x hx=>(aA.1 hx).elim ((eO l0).2 x) ((eO l1).2 x))
 rw[bn c17]at he ⊢
 by_cases c24:o.Code=24
 ·rw[bm c24];exact pI _
 rw[bn c24]at he ⊢
 by_cases c25:o.Code=25
 ·rw[bm c25];exact pI _
 rw[bn c25]at he ⊢
 by_cases c26:o.Code=26
 ·rw[bm c26];exact pI _
 rw[bn c26]at he ⊢
 by_cases c27:o.Code=27
 ·rw[bm c27];exact g9 (by have:=(dA l0).2.2;unfold Dc at this ⊢;omega)
 rw[bn c27]at he ⊢
 by_cases c28:o.Code=28
 ·rw[bm c28];exact pI _
 rw[bn c28]at he ⊢
 by_cases c29:o.Code=29
 ·rw[bm c29];exact KY hl _
 rw[bn c29]at he ⊢
 by_cases c16:o.Code≤16
 ·rw[bm c16];exact g9 (tU (dA l0).2.2 (dA l1).2.2).2
 ·rw[bn c16];exact pI _
theorem UV{line:List Int}{nr:Int}{o:bA}{l:List bF}(hl:∀ v∈l,VG v)(he:(dM line nr o l).1≠0):1≤(dM line nr o l).1∧(dM line nr o l).1≤7:=by
 have hm:=(zf (op:=o.Code-12) (dA (cZ hl 0)).2.2 (dA (cZ hl 1)).2.2).2.2
 unfold dM at he ⊢
 by_cases c1:o.Code=1
 ·rw[bm c1]at he;exact absurd rfl he
 rw[bn c1]at he ⊢
 by_cases c2:o.Code=2
 ·rw[bm c2]at he ⊢
  dsimp only at he ⊢
  by_cases c:300<o.S.length
  ·rw[bm c];exact⟨by decide,by decide⟩
  ·rw[bn c]at he;exact absurd rfl he
 rw[bn c2]at he ⊢
 by_cases c9:o.Code=9
 ·rw[bm c9]at he;exact absurd rfl he
 rw[bn c9]at he ⊢
 by_cases c10:o.Code=10
 ·rw[bm c10]at he;exact absurd rfl he
 rw[bn c10]at he ⊢
 by_cases c11:o.Code=11
 ·rw[bm c11]at he;exact absurd rfl he
 rw[bn c11]at he ⊢
 by_cases c17:o.Code=17
 ·rw[bm c17]at he ⊢
  dsimp only at he ⊢
  by_cases c:300<(ct (l.getD 0 bU)++ct (l.getD 1 bU)).length
  ·rw[bm c];exact⟨by decide,by decide⟩
  ·rw[bn c]at he;exact absurd rfl he
 rw[bn c17]at he ⊢
 by_cases c24:o.Code=24
 ·rw[bm c24]at he;exact absurd rfl he
 rw[bn c24]at he ⊢
 by_cases c25:o.Code=25
 ·rw[bm c25]at he;exact absurd rfl he
 rw[bn c25]at he ⊢
 by_cases c26:o.Code=26
 ·rw[bm c26]at he;exact absurd rfl he
 rw[bn c26]at he ⊢
 by_cases c27:o.Code=27
 ·rw[bm c27]at he;exact absurd rfl he
 rw[bn c27]at he ⊢
 by_cases c28:o.Code=28
 ·rw[bm c28]at he;exact absurd rfl he
 rw[bn c28]at he ⊢
 by_cases c29:o.Code=29
 ·rw[bm c29]at he;exact absurd rfl he
 rw[bn c29]at he ⊢
 by_cases c16:o.Code≤16
 ·rw[bm c16]at he ⊢
  dsimp only at he ⊢
  omega
 ·rw[bn c16]at he;exact absurd rfl he
theorem Is{nv:Nat}{nc n a:Int}{V:List bF}{C:List bo}{out t:List Int}{st:List bF}(ha:0≤a∧a<n)(h:VmI nv nc V C out st)(ht:Bt t):px nv nc n (jg a V C out st t):=by
 unfold jg
 by_cases c:600<(out++t).length
 ·rw[bm c];exact⟨by decide,by decide⟩
 ·rw[bn c]
  exact⟨ha,h.1,h.2.1,⟨by omega,fun x hx=>(aA.1 hx).elim (h.2.2.1.2 x) (ht x)⟩,h.2.2.2⟩
theorem zl{o:bA}{n v c:Int}(h:opB o n v c=true) :
  (o.Code=1→Dc o.N)∧((o.Code=3∨o.Code=4∨o.Code=5)→0≤o.N∧o.N<v)∧((o.Code=6∨o.Code=7∨o.Code=8∨o.Code=35)→0≤o.N∧o.N<c) ∧
  (o.Code=29→(1≤o.N∧o.N≤3)∧o.S∈kw2)∧((o.Code=30∨o.Code=31)→0≤o.N∧o.N≤w64 (n-1))∧(o.Code=33→0≤o.N∧o.N≤1):=by
 unfold opB at h
 refine⟨fun e=>?_,fun e=>?_,fun e=>?_,fun e=>?_,fun e=>?_,fun e=>?_⟩
 ·simp[e]at h;exact h.1
 ·rcases e with e | e | e <;> (simp[e]at h;omega)
 ·rcases e with e | e | e | e <;> (simp[e]at h;omega)
 ·simp[e]at h;exact h
 ·rcases e with e | e <;> (simp[e]at h;omega)
 ·simp[e]at h;omega
theorem IE{nv:Nat}{nc n a nr:Int}{line:List Int}{V:List bF}{C:List bo}{out:List Int}{st:List bF}{o:bA}(hn:n≤2000)(ha:0≤a∧a<n)(hlast:o.Code≠36→a+1<n)(hL:iI line nr)(h:VmI nv nc V C out st)(ho:opB o n nv nc=true)(hS:Bt o.S) :
  px nv nc n (j5 line nr o a V C out st):=by
 obtain⟨k1,k2⟩:=AW ho
 obtain⟨o1,o2,o3,o4,o5,o6⟩:=zl ho
 unfold j5
 by_cases c:(st.length:Int)<b7 o
 ·rw[bm c];exact⟨by decide,by decide⟩
 ·rw[bn c]
  have hl:∀ v∈st.drop (st.length-(b7 o).toNat),VG v:=fun v hv=>h.2.2.2.2 v (List.mem_of_mem_drop hv)
  have h':VmI nv nc V C out (st.take (st.length-(b7 o).toNat)):=⟨h.1,h.2.1,h.2.2.1,by rw[aP];have:=h.2.2.2.1;omega,fun v hv=>h.2.2.2.2 v (List.mem_of_mem_take hv)⟩
  generalize st.drop (st.length-(b7 o).toNat)=l at hl
  generalize st.take (st.length-(b7 o).toNat)=rest at h'
  unfold doR
  by_cases c36:o.Code=36
  ·rw[bm c36];trivial
  rw[bn c36]
  have ha1:0≤a+1∧a+1<n:=⟨by omega,hlast c36⟩
  have hN:(o.Code=30∨o.Code=31)→0≤o.N∧o.N<n:=fun e=>by
   have:=o5 e
   rw[aq]at this
   omega
  by_cases c30:o.Code=30
  ·rw[bm c30];exact⟨hN (.inl c30),h'⟩
  rw[bn c30]
  by_cases c31:o.Code=31
  ·rw[bm c31]
   split
   ·exact⟨ha1,h'⟩
   ·exact⟨hN (.inr c31),h'⟩
  rw[bn c31]
  by_cases c32:o.Code=32
  ·rw[bm c32];exact⟨ha1,h'⟩
  rw[bn c32]
  by_cases c33:o.Code=33
  ·rw[bm c33]
   refine Is ha1 h' fun x hx=>?_
   rcases aA.1 hx with hx | hx
   ·split at hx
    ·rw[aJ.1 hx];omega
    ·cases hx
   ·exact(eO (cZ hl 0)).2 x hx
  rw[bn c33]
  by_cases c34:o.Code=34
  ·rw[bm c34];exact Is ha1 h' fun x hx=>by rw[aJ.1 hx];omega
  rw[bn c34]
  by_cases cn:o.Code=3∨o.Code=4∨o.Code=5∨o.Code=6∨o.Code=7∨o.Code=8∨o.Code=35
  ·rw[bm cn]
   exact QC ha1 h' hl fun e=>o3 (by rcases e with e | e <;> simp[e])
  ·rw[bn cn]
   by_cases ce:(dM line nr o l).1=0
   ·rw[bm ce];exact oF ha1 h' (UU hL hl hS o1 ce)
   ·rw[bn ce];exact UV hl ce
abbrev WT:=bE×(List (List Int)×(List (List Int)×(List Int×(List (List Int)×(List Int×(Int×(Bool×Unit)))))))
def wT(s:bE)(line:List Int)(out:List Int):WT:=(s,([],([],(line,(dh line,(out,(0,(false,()))))))))
theorem jX(V:List bF)(C:List bo)(nr:Int)(line out:List Int)(e:Int):gN ⟨V,C,nr,0⟩ [] [] line (dh line) out 0 false e=some (wT ⟨V,C,nr,e⟩ line out,()):=by
 rw[HH]
 rw[bm (by simp)];rfl
def lU(line:List Int)(nr a:Int)(x:Option (bQ×WT×Unit)):R→Prop
 | .err e=>e≠0∧∃ z s o,x=some (z,wT s line o,())∧s.Err=e
 | .stop=>False
 | .go b V C out st=>b=a∧x=some (⟨(),st⟩,wT ⟨V,C,nr,0⟩ line out,())
theorem kE(x:Option (bQ×WT×Unit)):(x.bind fun(r:bQ×(bE×((List (List Int))×((List (List Int))×((List Int)×((List (List Int))×((List Int)×(Int×(Bool×Unit))))))))×Unit) =>
  some (r.1,(r.2.1.1,(r.2.1.2.1,(r.2.1.2.2.1,(r.2.1.2.2.2.1,(r.2.1.2.2.2.2.1,(r.2.1.2.2.2.2.2.1,(r.2.1.2.2.2.2.2.2.1,(r.2.1.2.2.2.2.2.2.2.1,())))))))),()))=x:=by cases x <;> rfl
theorem oG(line:List Int)(nr a:Int)(V:List bF)(C:List bo)(out:List Int)(st:List bF)(v:bF)(hs:st.length≤64) :
  lU line nr a (lC ⟨(),st⟩ ⟨V,C,nr,0⟩ [] [] line (dh line) out 0 false v) (eZ a V C out st v):=by
 rw[Tr]
 dsimp only
 unfold eZ
 by_cases c:st.length=64
 ·rw[bm c,an,jX,aa]
  exact⟨by decide,_,_,_,rfl,rfl⟩
 ·rw[bn c,ap,bm (by rw[cg];omega)]
  exact⟨rfl,rfl⟩
theorem zg{op a b:Int}(ha:Dc a)(hb:Dc b)(h0:0≤op)(h4:op≤4)(V:List bF)(C:List bo)(nr:Int)(line out:List Int) :
  ((cM op a b).2=0→oT ⟨V,C,nr,0⟩ [] [] line (dh line) out 0 false op a b=some (⟨1,(cM op a b).1,[]⟩,wT ⟨V,C,nr,0⟩ line out,())) ∧
  ((cM op a b).2≠0→∃ v,oT ⟨V,C,nr,0⟩ [] [] line (dh line) out 0 false op a b=some (v,wT ⟨V,C,nr,(cM op a b).2⟩ line out,())):=by
 have key:∀ {x:Option (Int×Bool×Unit)},(∃ v ok,x=some (v,ok,())∧Dc v)→jB (op+9) a b=(x.bind fun(r:Int×Bool×Unit)=>jC r.1 r.2.1) →
   ((cM op a b).2=0→(x.bind fun(r:Int×Bool×Unit)=>lB r.1 r.2.1 (bP.mk ⟨V,C,nr,0⟩ [] [] line (dh line) out 0 false) bU)=some (⟨1,(cM op a b).1,[]⟩,wT ⟨V,C,nr,0⟩ line out,())) ∧
   ((cM op a b).2≠0→∃ v,(x.bind fun(r:Int×Bool×Unit)=>lB r.1 r.2.1 (bP.mk ⟨V,C,nr,0⟩ [] [] line (dh line) out 0 false) bU)=some (v,wT ⟨V,C,nr,(cM op a b).2⟩ line out,())):=by
  intro x hx hm
  obtain⟨v,ok,rfl,hv⟩:=hx
  rw[aa,ti]at hm
  rw[aa,HK]
  dsimp only at hm ⊢
  unfold cM
  cases ok with
  | true =>
   rw[bn (by decide)]at hm
   rw[bn (by decide),hm,fP]
   exact⟨fun _=>rfl,fun h=>absurd rfl h⟩
  | false =>
   rw[bm (by decide)]at hm
   rw[bm (by decide),hm,jX,fP]
   exact⟨(fun h=>by cases h),fun h=>⟨_,rfl⟩⟩
 rw[Td]
 by_cases c0:op=0
 ·rw[ak c0,Kh]
  exact key (sk ha hb) (by rw[mn,an])
 rw[aj c0]
 by_cases c1:op=1
 ·rw[ak c1,UC]
  exact key (IJ ha hb) (by rw[mn,ap,an])
 rw[aj c1]
 by_cases c2:op=2
 ·rw[ak c2,QB]
  exact key (F8 ha hb) (by rw[mn,ap,ap,an])
 rw[aj c2]
 have hm:jB (op+9) a b=if(decide (b=0))=true then some (0,2,())else if(decide (op+9=13))=true then if b≠0 then some ((Int.tmod a b),0,())else none else(p9 a b).bind fun(r3:Int×Bool×Unit)=>jC r3.1 r3.2.1:=by
  rw[mn,ap,ap,ap]
 by_cases cb:b=0
 ·rw[ak cb]at hm ⊢
  have hE:cM op a b=(0,2):=by unfold cM;rw[hm]
  rw[hE,jX,aa]
  exact⟨(fun h=>by cases h),fun h=>⟨_,rfl⟩⟩
 rw[aj cb]at hm ⊢
 have hd:=Cz ha hb cb
 rw[LP]
 by_cases c4:op=4
 ·rw[an,bm cb]at hm
  have hE:cM op a b=(Int.tmod a b,0):=by unfold cM;rw[hm]
  obtain⟨v,ok,e,_⟩:=hd
  rw[hE,e,aa,ak c4,bm cb,HK,bn (by decide),fP]
  exact⟨fun _=>rfl,fun h=>absurd rfl h⟩
 ·rw[ap]at hm
  have:=key hd hm
  obtain⟨v,ok,e,_⟩:=hd
  rw[e]at this ⊢
  rw[aa,aj c4]
  exact this
theorem GS(line:List Int)(nr a:Int)(V:List bF)(C:List bo)(out:List Int)(st:List bF)(v:bF)(n:Int)(k:List Int)(hs:st.length≤64)(hV:V.length≤100000)(hC:C.length≤100000) :
  lU line nr a (uJ ⟨(),st⟩ ⟨V,C,nr,0⟩ [] [] line (dh line) out 0 false n k v) (lq a V C out st n k v):=by
 rw[Tp,Ry _ n k v hV hC,aa]
 unfold lq
 dsimp only
 cases e:jb C n k v with
 | none =>
  dsimp only
  rw[bm (by decide),jX,aa]
  exact⟨by decide,_,_,_,rfl,rfl⟩
 | some C' =>
  dsimp only
  rw[bn (by decide),kE]
  exact oG line nr a V C' out st v hs
theorem QD{line:List Int}{nr a:Int}{V:List bF}{C:List bo}{out:List Int}{st l:List bF}{o:bA}{nv:Nat}{nc:Int}(hnv:nv≤100000)(h:VmI nv nc V C out st)(hl:∀ v∈l,VG v)(hlen:(l.length:Int)=b7 o)
  (hc:o.Code=3∨o.Code=4∨o.Code=5∨o.Code=6∨o.Code=7∨o.Code=8∨o.Code=35) (hN:(o.Code=3∨o.Code=4∨o.Code=5)→0≤o.N∧o.N<nv) :
  lU line nr a (Al ⟨(),st⟩ ⟨V,C,nr,0⟩ [] [] line (dh line) out 0 false o l) (fM a V C out st o l):=by
 obtain⟨⟨hV,hVg⟩,hC,hO,hs,hsg⟩:=h
 have hV1:V.length≤100000:=by omega
 have hC1:C.length≤100000:=by have:=hC.1;omega
 have l0:=cZ hl 0
 have l1:=cZ hl 1
 rw[Tq]
 dsimp only
 unfold fM
 by_cases c3:o.Code=3
 ·have hN:=hN (.inl c3)
  rw[ak c3,bm c3,al,kE]
  exact oG line nr a V C out st _ hs
 rw[aj c3,bn c3]
 by_cases c4:o.Code=4
 ·have hN:=hN (.inr (.inl c4))
  have hk:b7 o=1:=by unfold b7;simp[c4]
  rw[ak c4,bm c4,al,al,al,kE]
  exact oG line nr a _ C out st _ hs
 rw[aj c4,bn c4]
 by_cases c5:o.Code=5
 ·have hN:=hN (.inr (.inr c5))
  have hk:b7 o=1:=by unfold b7;simp[c5]
  obtain⟨_,n2,n3⟩:=dA (cZ hVg o.N.toNat)
  obtain⟨_,m2,m3⟩:=dA l0
  rw[ak c5,bm c5,al,n2,aa,al,m2,aa]
  dsimp only
  obtain⟨q1,q2⟩:=zg n3 m3 (Int.le_refl 0) (by decide) V C nr line out
  by_cases ce:(cM 0 (cJ (V.getD o.N.toNat bU)) (cJ (l.getD 0 bU))).2=0
  ·rw[q1 ce,aa,bm ce]
   unfold wT
   dsimp only
   rw[bm (by simp),al,kE]
   exact oG line nr a _ C out st _ hs
  ·obtain⟨v,q⟩:=q2 ce
   have he:(cM 0 (cJ (V.getD o.N.toNat bU)) (cJ (l.getD 0 bU))).2=1:=(FU n3 m3).resolve_left ce
   rw[q,aa,bn ce,he]
   unfold wT
   dsimp only
   rw[bn (by simp)]
   exact⟨by decide,_,_,_,rfl,rfl⟩
 rw[aj c5,bn c5]
 by_cases c6:o.Code=6
 ·have hk:b7 o=1:=by unfold b7;simp[c6]
  rw[ak c6,bm c6,al,(iV l0).2,aa]
  dsimp only
  rw[(sM ⟨V,C,nr,0⟩ o.N _ hC1).2,aa,kE]
  exact oG line nr a V C out st _ hs
 rw[aj c6,bn c6]
 by_cases c7:o.Code=7
 ·have hk:b7 o=2:=by unfold b7;simp[c7]
  rw[ak c7,bm c7,al,(iV l0).2,aa,al,kE]
  exact GS line nr a V C out st _ _ _ hs hV1 hC1
 rw[aj c7,bn c7]
 by_cases c8:o.Code=8
 ·have hk:b7 o=2:=by unfold b7;simp[c8]
  obtain⟨_,n2,n3⟩:=dA (sL hC o.N (fc (l.getD 0 bU)))
  obtain⟨_,m2,m3⟩:=dA l1
  rw[ak c8,bm c8,al,(iV l0).2,aa]
  dsimp only
  rw[(sM ⟨V,C,nr,0⟩ o.N _ hC1).2,aa]
  dsimp only
  rw[n2,aa,al,m2,aa]
  dsimp only
  obtain⟨q1,q2⟩:=zg n3 m3 (Int.le_refl 0) (by decide) V C nr line out
  by_cases ce:(cM 0 (cJ (iQ C o.N (fc (l.getD 0 bU)))) (cJ (l.getD 1 bU))).2=0
  ·rw[q1 ce,aa,bm ce]
   unfold wT
   dsimp only
   rw[bm (by simp),kE]
   exact GS line nr a V C out st _ _ _ hs hV1 hC1
  ·obtain⟨v,q⟩:=q2 ce
   have he:=(FU n3 m3).resolve_left ce
   rw[q,aa,bn ce,he]
   unfold wT
   dsimp only
   rw[bn (by simp)]
   exact⟨by decide,_,_,_,rfl,rfl⟩
 rw[aj c8,bn c8]
 have c35:o.Code=35:=by omega
 have hk:b7 o=1:=by unfold b7;simp[c35]
 rw[ak c35,al,(iV l0).2,aa]
 dsimp only
 rw[(CD ⟨V,C,nr,0⟩ o.N _ hV1 hC1).2,aa]
 exact⟨rfl,rfl⟩
theorem fj(line:List Int)(nr a:Int)(V:List bF)(C:List bo)(out:List Int)(st:List bF)(v:bF)(hs:st.length≤64) :
  lU line nr a (eN ⟨(),st⟩ ⟨V,C,nr,0⟩ [] [] line (dh line) out 0 false v) (eZ a V C out st v):=by
 rw[HP,bm (by simp),kE]
 exact oG line nr a V C out st v hs
theorem A2(line:List Int)(nr a:Int)(V:List bF)(C:List bo)(out:List Int)(st:List bF)(v:bF){e:Int}(he:e≠0) :
  lU line nr a (eN ⟨(),st⟩ ⟨V,C,nr,e⟩ [] [] line (dh line) out 0 false v) (.err e):=by
 rw[HP,aj he]
 exact⟨he,_,_,_,rfl,rfl⟩
theorem wy(b:Bool):oP b=some (ky b,()):=by
 rw[HE,Av]
 cases b with
 | true=>rw[bm rfl,aa,fP];rfl
 | false=>rw[bn (by decide),aa,fP];rfl
theorem UW{line:List Int}{nr a:Int}{V:List bF}{C:List bo}{out:List Int}{st l:List bF}{o:bA}(hL:iI line nr)(hs:st.length≤64)(hl:∀ v∈l,VG v)(hlen:(l.length:Int)=b7 o)(hO:1≤o.Code∧o.Code≤29)
  (hn:¬ (o.Code=3∨o.Code=4∨o.Code=5∨o.Code=6∨o.Code=7∨o.Code=8∨o.Code=35)) (hS:Bt o.S) (hSl:o.S.length≤2097152) (hcall:o.Code=29→(1≤o.N∧o.N≤3)∧o.S∈kw2) :
  lU line nr a (Aq ⟨(),st⟩ ⟨V,C,nr,0⟩ [] [] line (dh line) out 0 false o l) (if(dM line nr o l).1=0 then eZ a V C out st (dM line nr o l).2 else .err (dM line nr o l).1):=by
 obtain⟨⟨hL1,hL2⟩,hL3⟩:=hL
 have hf:=pV line
 have l0:=cZ hl 0
 have l1:=cZ hl 1
 rw[Ty]
 dsimp only
 unfold dM
 by_cases c1:o.Code=1
 ·rw[ak c1,bm c1,fP,aa,bm rfl]
  exact fj line nr a V C out st _ hs
 rw[aj c1,bn c1]
 by_cases c2:o.Code=2
 ·rw[ak c2,bm c2]
  dsimp only
  by_cases c:300<o.S.length
  ·rw[an,bm c,jX,aa,bn (by decide)]
   exact A2 line nr a V C out st _ (by decide)
  ·rw[ap,bn c,bm rfl]
   exact fj line nr a V C out st _ hs
 rw[aj c2,bn c2]
 by_cases c9:o.Code=9
 ·have hk:b7 o=1:=by unfold b7;simp[c9]
  obtain⟨_,n2,n3⟩:=dA l0
  obtain⟨w1,w2,w3⟩:=pe l0
  rw[ak c9,bm c9,al,S9,n2,aa,bm rfl]
  dsimp only
  rw[w2]
  unfold pU
  obtain⟨_,r2,_⟩:=oI (s:=line) (by omega) hL2
  obtain⟨_,z2,_⟩:=oI (s:=[]) (by simp) (fun x hx=>by cases hx)
  by_cases d:dB (l.getD 0 bU)=0
  ·rw[ak d,bm d,r2,aa,aa]
   exact fj line nr a V C out st _ hs
  ·rw[aj d,bn d,d8,aa]
   dsimp only
   by_cases e:1≤dB (l.getD 0 bU)∧dB (l.getD 0 bU)≤((dh line).length:Int)
   ·have hi:(dB (l.getD 0 bU)-1).toNat<(dh line).length:=by omega
    obtain⟨g1,g2⟩:=CP (P:=fun x=>0≤x∧x≤255) hL2 (aV hi)
    obtain⟨_,q2,_⟩:=oI (s:=(dh line)[(dB (l.getD 0 bU)-1).toNat]) (by omega) g1
    rw[ac e,bn (by decide),bm e,aq,al,cE hi,q2,aa,aa]
    exact fj line nr a V C out st _ hs
   ·rw[ae e,bm (by decide),bn e,z2,aa,aa]
    exact fj line nr a V C out st _ hs
 rw[aj c9,bn c9]
 by_cases c10:o.Code=10
 ·rw[ak c10,bm c10,aq,fP,aa,bm rfl,Int.mul_comm]
  exact fj line nr a V C out st _ hs
 rw[aj c10,bn c10]
 by_cases c11:o.Code=11
 ·rw[ak c11,bm c11,aq,fP,aa,bm rfl,Int.mul_comm]
  exact fj line nr a V C out st _ hs
 rw[aj c11,bn c11]
 by_cases c17:o.Code=17
 ·have hk:b7 o=2:=by unfold b7;simp[c17]
  have t0:=(eO l0).1
  have t1:=(eO l1).1
  rw[ak c17,bm c17,al,al,S8,fE,fE,aa,aa]
  dsimp only
  rw[al]
  by_cases c:300<(ct (l.getD 0 bU)++ct (l.getD 1 bU)).length
  ·rw[an,bm c,jX,aa,bn (by decide)]
   exact A2 line nr a V C out st _ (by decide)
  ·rw[ap,bn c,bm rfl]
   exact fj line nr a V C out st _ hs
 rw[aj c17,bn c17]
 by_cases c24:o.Code=24
 ·have hk:b7 o=1:=by unfold b7;simp[c24]
  have t0:=(eO l0).1
  rw[ak c24,bm c24,al,fE,aa]
  dsimp only
  rw[(sH o.S _ hS (by omega) (by omega)).2,aa,bm rfl]
  exact fj line nr a V C out st _ hs
 rw[aj c24,bn c24]
 by_cases c25:o.Code=25
 ·rw[ak c25,bm c25,(sH o.S line hS (by omega) (by omega)).2,aa,bm rfl]
  exact fj line nr a V C out st _ hs
 rw[aj c25,bn c25]
 by_cases c26:o.Code=26
 ·have hk:b7 o=1:=by unfold b7;simp[c26]
  rw[ak c26,bm c26,al,(pd _).2,aa,wy,aa,bm rfl]
  exact fj line nr a V C out st _ hs
 rw[aj c26,bn c26]
 by_cases c27:o.Code=27
 ·have hk:b7 o=1:=by unfold b7;simp[c27]
  obtain⟨_,n2,n3⟩:=dA l0
  unfold Dc at n3
  rw[ak c27,bm c27,al,n2,aa]
  dsimp only
  rw[aq,fP,aa,bm rfl]
  exact fj line nr a V C out st _ hs
 rw[aj c27,bn c27]
 by_cases c28:o.Code=28
 ·have hk:b7 o=1:=by unfold b7;simp[c28]
  rw[ak c28,bm c28,al,(pd _).2,aa,wy,aa,bm rfl]
  exact fj line nr a V C out st _ hs
 rw[aj c28,bn c28]
 by_cases c29:o.Code=29
 ·have hk:b7 o=o.N:=by unfold b7;simp[c29]
  obtain⟨hn1,hn2⟩:=hcall c29
  rw[ak c29,bm c29,SR hl (by omega) (by omega) _ hn2,aa,bm rfl]
  exact fj line nr a V C out st _ hs
 rw[aj c29,bn c29]
 have hk:b7 o=2:=by
  have hr:12≤o.Code∧o.Code≤23:=by omega
  have e:∀ k:Int,(k<12∨23<k)→o.Code≠k:=fun k h1 h2=>by omega
  unfold b7
  rw[am,am,bn c29,bm hr]
 by_cases c16:o.Code≤16
 ·obtain⟨_,n2,n3⟩:=dA l0
  obtain⟨_,m2,m3⟩:=dA l1
  rw[ak c16,bm c16,al,n2,aa,al,m2,aa]
  dsimp only
  rw[aq]
  obtain⟨q1,q2⟩:=zg (op:=o.Code-12) n3 m3 (by omega) (by omega) V C nr line out
  by_cases ce:(cM (o.Code-12) (cJ (l.getD 0 bU)) (cJ (l.getD 1 bU))).2=0
  ·rw[q1 ce,aa,bm ce]
   exact fj line nr a V C out st _ hs
  ·obtain⟨v,q⟩:=q2 ce
   rw[q,aa,bn ce]
   exact A2 line nr a V C out st _ ce
 ·have hcmp:=(Cj l0 l1).2
  rw[aj c16,bn c16,al,al,aq,Te,hcmp,aa,al]
  dsimp only
  have hord:List.getD [(decide (fJ (l.getD 0 bU) (l.getD 1 bU)<0)),(decide (fJ (l.getD 0 bU) (l.getD 1 bU)≤0)),(decide (fJ (l.getD 0 bU) (l.getD 1 bU)>0)),(decide (fJ (l.getD 0 bU) (l.getD 1 bU)≥0)),(decide (fJ (l.getD 0 bU) (l.getD 1 bU)=0)),(!(decide (fJ (l.getD 0 bU) (l.getD 1 bU)=0)))] (o.Code-18).toNat false=zm (o.Code-18) (fJ (l.getD 0 bU) (l.getD 1 bU)):=by
   have h6:o.Code=18∨o.Code=19∨o.Code=20∨o.Code=21∨o.Code=22∨o.Code=23:=by omega
   rcases h6 with e | e | e | e | e | e <;> (rw[e];rfl)
  rw[hord,wy,aa,aa,bm rfl]
  exact fj line nr a V C out st _ hs
abbrev IT:=bE×(List Int×(List Int×(List bF×(Int×Unit))))
def iT(s:bE)(line out:List Int)(st:List bF)(e:Int):IT:=(s,(line,(out,(st,(e,())))))
theorem iR(s:bE)(line out:List Int)(st:List bF)(e:Int):gI s line out st 0 e=some (iT s line out st e,()):=by
 rw[ED,bm (by simp)];rfl
theorem NW(s:bE)(line out:List Int)(st:List bF){e:Int}(he:e≠0)(f:Int):gI s line out st e f=some (iT s line out st e,()):=by
 rw[ED,aj he];rfl
def lQ(line:List Int)(nr a:Int)(x:Option (IT×Unit)):R→Prop
 | .err e=>e≠0∧∃ s o t,x=some (iT s line o t e,())
 | .stop=>False
 | .go b V C out st=>b=a∧x=some (iT ⟨V,C,nr,0⟩ line out st 0,())
theorem dS(x:Option (IT×Unit)):(x.bind fun(r:(bE×((List Int)×((List Int)×((List bF)×(Int×Unit)))))×Unit) =>
  some ((r.1.1,(r.1.2.1,(r.1.2.2.1,(r.1.2.2.2.1,(r.1.2.2.2.2.1,()))))),()))=x:=by cases x <;> rfl
theorem eB(line:List Int)(nr a:Int)(V:List bF)(C:List bo)(out:List Int)(st:List bF)(v:bF)(hs:st.length≤64) :
  lQ line nr a (ey ⟨V,C,nr,0⟩ line out st 0 v) (eZ a V C out st v):=by
 rw[ON]
 unfold eZ
 by_cases c:st.length=64
 ·rw[bm c,an,iR,aa]
  exact⟨by decide,_,_,_,rfl⟩
 ·rw[bn c,ap,bm (by rw[cg];omega)]
  exact⟨rfl,rfl⟩
theorem GH{a b:bF}(ha:VG a)(hb:VG b)(s:bE)(line out:List Int)(st:List bF) :
  ((cM 0 (cJ a) (cJ b)).2=0→qx s line out st 0 a b=some (⟨1,(cM 0 (cJ a) (cJ b)).1,[]⟩,iT s line out st 0,())) ∧
  ((cM 0 (cJ a) (cJ b)).2≠0→∃ v,qx s line out st 0 a b=some (v,iT s line out st 1,())):=by
 obtain⟨n1,n2,n3⟩:=dA ha
 obtain⟨m1,m2,m3⟩:=dA hb
 obtain⟨v,ok,e,_⟩:=sk n3 m3
 have hm:jB (0+9) (cJ a) (cJ b)=(nM (cJ a) (cJ b)).bind fun(r0:Int×Bool×Unit)=>jC r0.1 r0.2.1:=by rw[mn,bm (by decide)]
 rw[e,aa,ti]at hm
 dsimp only at hm
 rw[OL,n1,m1,aa,aa]
 dsimp only
 rw[e,aa,iR]
 dsimp only
 unfold cM
 cases ok with
 | true =>
  rw[bn (by decide)]at hm
  rw[hm,bn (by decide),gG]
  exact⟨fun _=>rfl,fun h=>absurd rfl h⟩
 | false =>
  rw[bm (by decide)]at hm
  rw[hm,bm (by decide),gG]
  exact⟨(fun h=>by cases h),fun h=>⟨_,rfl⟩⟩
theorem GQ(line:List Int)(nr a:Int)(V:List bF)(C:List bo)(out:List Int)(st:List bF)(v:bF)(n:Int)(k:List Int)(hs:st.length≤64)(hV:V.length≤100000)(hC:C.length≤100000) :
  lQ line nr a (tq ⟨V,C,nr,0⟩ line out st 0 n k v) (lq a V C out st n k v):=by
 rw[EF,bn (by simp),Rx _ n k v hV hC,aa]
 unfold lq
 dsimp only
 cases e:jb C n k v with
 | none =>
  dsimp only
  rw[bm (by decide),iR,aa]
  exact⟨by decide,_,_,_,rfl⟩
 | some C' =>
  dsimp only
  rw[bn (by decide),dS]
  exact eB line nr a V C' out st v hs
theorem vl(s:bE)(line out t:List Int)(st:List bF)(e:Int)(h:out.length+t.length≤1000000):nY s line out st e t=some (iT s line (out++t) st (if 600<(out++t).length∧e=0 then 5 else e),()):=by
 rw[OO,al]
 by_cases c:600<(out++t).length
 ·rw[an]
  by_cases d:e=0
  ·subst d;rw[iR,bm ⟨c,rfl⟩];rfl
  ·rw[NW _ _ _ _ d,bn (fun h=>d h.2)];rfl
 ·rw[ap,bn (fun h=>c h.1)];rfl
theorem UA{line:List Int}{nr a:Int}{V:List bF}{C:List bo}{out:List Int}{st l:List bF}{o:bA}{nv:Nat}{nc:Int}(hnv:nv≤100000)(h:VmI nv nc V C out st)(hl:∀ v∈l,VG v)(hlen:(l.length:Int)=b7 o)
  (hc:o.Code=4∨o.Code=5∨o.Code=7∨o.Code=8∨o.Code=35) (hN:(o.Code=4∨o.Code=5)→0≤o.N∧o.N<nv) :
  lQ line nr a (tr ⟨V,C,nr,0⟩ line out st 0 o l) (fM a V C out st o l):=by
 obtain⟨⟨hV,hVg⟩,hC,hO,hs,hsg⟩:=h
 have hV1:V.length≤100000:=by omega
 have hC1:C.length≤100000:=by have:=hC.1;omega
 have l0:=cZ hl 0
 have l1:=cZ hl 1
 rw[EH]
 dsimp only
 unfold fM
 rw[bn (c:=o.Code=3) (by omega)]
 by_cases c4:o.Code=4
 ·have hN:=hN (.inl c4)
  have hk:b7 o=1:=by unfold b7;simp[c4]
  rw[ak c4,bm c4,al,al,al,dS]
  exact eB line nr a _ C out st _ hs
 rw[aj c4,bn c4]
 by_cases c5:o.Code=5
 ·have hN:=hN (.inr c5)
  have hk:b7 o=1:=by unfold b7;simp[c5]
  obtain⟨q1,q2⟩:=GH (cZ hVg o.N.toNat) l0 ⟨V,C,nr,0⟩ line out st
  rw[ak c5,bm c5,al,al]
  by_cases ce:(cM 0 (cJ (V.getD o.N.toNat bU)) (cJ (l.getD 0 bU))).2=0
  ·rw[q1 ce,aa,bm ce]
   unfold iT
   dsimp only
   rw[bm (by simp),al,dS]
   exact eB line nr a _ C out st _ hs
  ·obtain⟨v,q⟩:=q2 ce
   rw[q,aa,bn ce]
   unfold iT
   dsimp only
   rw[bn (by simp)]
   exact⟨by decide,_,_,_,rfl⟩
 rw[aj c5,bn c5,bn (c:=o.Code=6) (by omega)]
 by_cases c7:o.Code=7
 ·have hk:b7 o=2:=by unfold b7;simp[c7]
  rw[ak c7,bm c7,al,fw,aa]
  dsimp only
  rw[(iV l0).1,aa,al,dS]
  exact GQ line nr a V C out st _ _ _ hs hV1 hC1
 rw[aj c7,bn c7]
 by_cases c8:o.Code=8
 ·have hk:b7 o=2:=by unfold b7;simp[c8]
  rw[ak c8,bm c8,al,fw,aa]
  dsimp only
  rw[(iV l0).1,aa]
  dsimp only
  rw[(sM ⟨V,C,nr,0⟩ o.N _ hC1).1,aa,al]
  dsimp only
  obtain⟨q1,q2⟩:=GH (sL hC o.N (fc (l.getD 0 bU))) l1 ⟨V,C,nr,0⟩ line out st
  by_cases ce:(cM 0 (cJ (iQ C o.N (fc (l.getD 0 bU)))) (cJ (l.getD 1 bU))).2=0
  ·rw[q1 ce,aa,bm ce]
   unfold iT
   dsimp only
   rw[dS]
   exact GQ line nr a V C out st _ _ _ hs hV1 hC1
  ·obtain⟨v,q⟩:=q2 ce
   rw[q,aa,bn ce]
   unfold iT
   dsimp only
   rw[EF,bm (by simp)]
   exact⟨by decide,_,_,_,rfl⟩
 rw[aj c8,bn c8]
 have c35:o.Code=35:=by omega
 have hk:b7 o=1:=by unfold b7;simp[c35]
 rw[ak c35,al,fw,aa]
 dsimp only
 rw[(iV l0).1,aa]
 dsimp only
 rw[(CD ⟨V,C,nr,0⟩ o.N _ hV1 hC1).1,aa]
 exact⟨rfl,rfl⟩
theorem Q6{line:List Int}{nr a:Int}{V:List bF}{C:List bo}{out:List Int}{st l:List bF}{o:bA}{nv:Nat}{nc:Int}(h:VmI nv nc V C out st)(hl:∀ v∈l,VG v)(hlen:(l.length:Int)=b7 o)(hc:o.Code=33∨o.Code=34) :
  lQ line nr a (tr ⟨V,C,nr,0⟩ line out st 0 o l) (jg a V C out st (if o.Code=33 then(if o.N=1 then [32]else [])++ct (l.getD 0 bU)else [10])):=by
 obtain⟨⟨hV,hVg⟩,hC,⟨hO,hO2⟩,hs,hsg⟩:=h
 have l0:=cZ hl 0
 have t0:=(eO l0).1
 have fin:∀ (t:List Int) (e:Int),e=(if 600<(out++t).length then 5 else 0)→lQ line nr a (some (iT ⟨V,C,nr,0⟩ line (out++t) st e,())) (jg a V C out st t):=fun t e he=>by
  unfold jg
  by_cases c:600<(out++t).length
  ·rw[bm c]at he ⊢;subst he;exact⟨by decide,_,_,_,rfl⟩
  ·rw[bn c]at he ⊢;subst he;exact⟨rfl,rfl⟩
 rw[EH,ap,ap,ap,ap,ap]
 by_cases c33:o.Code=33
 ·have hk:b7 o=1:=by unfold b7;simp[c33]
  rw[ak c33,bm c33]
  by_cases c1:o.N=1
  ·rw[ak c1,bm c1,vl _ _ _ _ _ _ (by simp;omega),aa,al,fw,aa]
   unfold iT
   dsimp only
   generalize ct (l.getD 0 bU)=t at *
   rw[vl _ _ _ _ _ _ (by rw[ag,bj];omega),aa,ah]
   refine fin _ _ ?_
   unfold iT
   dsimp only
   by_cases d:600<(out++[32]).length
   ·have h2:600<(out++([32]++t)).length:=by simp at d ⊢;omega
    have e1:(if 600<(out++[32]).length∧(0:Int)=0 then(5:Int)else 0)=5:=bm ⟨d,rfl⟩
    rw[e1,bm h2,bn (by simp)]
   ·have e1:(if 600<(out++[32]).length∧(0:Int)=0 then(5:Int)else 0)=0:=bn (fun h=>d h.1)
    rw[e1]
    simp
  ·rw[aj c1,bn c1,al,fw,aa,dS]
   dsimp only
   rw[vl _ _ _ _ _ _ (by omega),bg]
   exact fin _ _ (by simp)
 ·have c34:o.Code=34:=by omega
  rw[aj c33,bn c33,ak c34,dS,vl _ _ _ _ _ _ (by simp;omega)]
  exact fin _ _ (by simp)
theorem pJ(b:Bool):mm b=some (ky b,()):=by
 rw[NK]
 cases b with
 | true=>rw[bm rfl,gG];rfl
 | false=>rw[bn (by decide),gG];rfl
theorem Qi{line:List Int}{nr a:Int}{V:List bF}{C:List bo}{out:List Int}{st l:List bF}{o:bA}{nv:Nat}{nc:Int}(hL:iI line nr)(h:VmI nv nc V C out st)(hl:∀ v∈l,VG v)(hlen:(l.length:Int)=b7 o)(hO:1≤o.Code∧o.Code≤29)
  (hn:¬ (o.Code=4∨o.Code=5∨o.Code=7∨o.Code=8)) (hS:Bt o.S) (hSl:o.S.length≤2097152) (hN:o.Code=3→0≤o.N∧o.N<nv) (hcall:o.Code=29→(1≤o.N∧o.N≤3)∧o.S∈kw2) :
  lQ line nr a (ya ⟨V,C,nr,0⟩ line out st 0 o l) (if o.Code=3∨o.Code=6 then fM a V C out st o l else if(dM line nr o l).1=0 then eZ a V C out st (dM line nr o l).2 else .err (dM line nr o l).1):=by
 obtain⟨⟨hL1,hL2⟩,hL3⟩:=hL
 obtain⟨⟨hV,hVg⟩,hC,hO',hs,hsg⟩:=h
 have hC1:C.length≤100000:=by have:=hC.1;omega
 have hf:=pV line
 have l0:=cZ hl 0
 have l1:=cZ hl 1
 rw[OK]
 dsimp only
 by_cases c3:o.Code=3
 ·have hN:=hN c3
  rw[ap,ap,ak c3,bm (c:=o.Code=3∨o.Code=6) (.inl c3),al,dS]
  unfold fM
  rw[bm c3]
  exact eB line nr a V C out st _ hs
 by_cases c6:o.Code=6
 ·have hk:b7 o=1:=by unfold b7;simp[c6]
  rw[ap,ap,ap,ak c6,bm (c:=o.Code=3∨o.Code=6) (.inr c6),al,fw,aa]
  dsimp only
  rw[(iV l0).1,aa]
  dsimp only
  rw[(sM ⟨V,C,nr,0⟩ o.N _ hC1).1,aa,dS]
  unfold fM
  rw[am,am,am,bm c6]
  exact eB line nr a V C out st _ hs
 rw[bn (c:=o.Code=3∨o.Code=6) (fun h=>h.elim c3 c6)]
 unfold dM
 by_cases c1:o.Code=1
 ·rw[ak c1,bm c1,gG,aa,bm rfl,dS]
  exact eB line nr a V C out st _ hs
 rw[aj c1,bn c1]
 by_cases c2:o.Code=2
 ·rw[ak c2,bm c2]
  dsimp only
  by_cases c:300<o.S.length
  ·rw[an,bm c,iR,aa,bn (by decide)]
   exact⟨by decide,_,_,_,rfl⟩
  ·rw[ap,bn c,bm rfl,kW,aa,dS]
   exact eB line nr a V C out st _ hs
 rw[aj c2,bn c2,aj c3,aj c6]
 by_cases c9:o.Code=9
 ·have hk:b7 o=1:=by unfold b7;simp[c9]
  rw[ak c9,bm c9,al,(pe l0).1,aa]
  dsimp only
  rw[(CO (by omega) hL2 _).1,aa,dS,bm rfl]
  exact eB line nr a V C out st _ hs
 rw[aj c9,bn c9]
 by_cases c10:o.Code=10
 ·rw[ak c10,bm c10,aq,gG,aa,bm rfl,dS]
  exact eB line nr a V C out st _ hs
 rw[aj c10,bn c10]
 by_cases c11:o.Code=11
 ·rw[ak c11,bm c11,Ec line (by omega),aa]
  dsimp only
  rw[yW,aq,gG,aa,bm rfl,dS]
  exact eB line nr a V C out st _ hs
 rw[aj c11,bn c11]
 by_cases c24:o.Code=24
 ·have hk:b7 o=1:=by unfold b7;simp[c24]
  have t0:=(eO l0).1
  rw[ak c24,bn (c:=o.Code=17) (by omega),bm c24,al,fw,aa]
  dsimp only
  rw[(sH o.S _ hS (by omega) (by omega)).1,aa,pJ,aa,bm rfl,dS]
  exact eB line nr a V C out st _ hs
 rw[aj c24]
 by_cases c25:o.Code=25
 ·rw[ak c25,bn (c:=o.Code=17) (by omega),bn c24,bm c25,(sH o.S line hS (by omega) (by omega)).1,aa,pJ,aa,bm rfl,dS]
  exact eB line nr a V C out st _ hs
 rw[aj c25]
 by_cases c26:o.Code=26
 ·have hk:b7 o=1:=by unfold b7;simp[c26]
  rw[ak c26,bn (c:=o.Code=17) (by omega),bn c24,bn c25,bm c26,al,(pd _).1,aa,pJ,aa,bm rfl,dS]
  exact eB line nr a V C out st _ hs
 rw[aj c26]
 by_cases c27:o.Code=27
 ·have hk:b7 o=1:=by unfold b7;simp[c27]
  obtain⟨n1,n2,n3⟩:=dA l0
  unfold Dc at n3
  rw[ak c27,bn (c:=o.Code=17) (by omega),bn c24,bn c25,bn c26,bm c27,al,n1,aa]
  dsimp only
  rw[aq,gG,aa,bm rfl,dS]
  exact eB line nr a V C out st _ hs
 rw[aj c27]
 by_cases c28:o.Code=28
 ·have hk:b7 o=1:=by unfold b7;simp[c28]
  rw[ak c28,bn (c:=o.Code=17) (by omega),bn c24,bn c25,bn c26,bn c27,bm c28,al,(pd _).1,aa,pJ,aa,bm rfl,dS]
  exact eB line nr a V C out st _ hs
 rw[aj c28]
 by_cases c29:o.Code=29
 ·have hk:b7 o=o.N:=by unfold b7;simp[c29]
  obtain⟨hn1,hn2⟩:=hcall c29
  rw[ak c29,bn (c:=o.Code=17) (by omega),bn c24,bn c25,bn c26,bn c27,bn c28,bm c29,NM hl (by omega) (by omega),aa,bm rfl,dS]
  exact eB line nr a V C out st _ hs
 rw[aj c29,bn c24,bn c25,bn c26,bn c27,bn c28,bn c29]
 have hk:b7 o=2:=by
  have hr:12≤o.Code∧o.Code≤23:=by omega
  unfold b7
  rw[am,am,bn c29,bm hr]
 rw[al,al,aq (n:=o.Code-12),aq,Ol,eI,aa]
 dsimp only
 by_cases c17:o.Code=17
 ·have t0:=(eO l0).1
  have t1:=(eO l1).1
  rw[ap,an,bm c17,fw,fw,aa,aa]
  dsimp only
  rw[al]
  by_cases c:300<(ct (l.getD 0 bU)++ct (l.getD 1 bU)).length
  ·rw[an,bm c,aa,bn (c:=(3:Int)=0) (by decide)]
   dsimp only
   rw[bm (by decide),iR,aa]
   exact⟨by decide,_,_,_,rfl⟩
  ·rw[ap,bn c,kW,aa,aa,bm (c:=(0:Int)=0) rfl]
   dsimp only
   rw[bn (by simp),dS]
   exact eB line nr a V C out st _ hs
 rw[bn c17]
 by_cases c16:o.Code≤16
 ·obtain⟨n1,n2,n3⟩:=dA l0
  obtain⟨m1,m2,m3⟩:=dA l1
  rw[an,bm c16,n1,aa,m1,aa]
  dsimp only
  rw[(tU (op:=o.Code-12) n3 m3).1,aa,gG,aa,aa]
  dsimp only
  by_cases ce:(cM (o.Code-12) (cJ (l.getD 0 bU)) (cJ (l.getD 1 bU))).2=0
  ·rw[bm ce,ac ce,bn (by decide),dS]
   exact eB line nr a V C out st _ hs
  ·rw[bn ce,ae ce,bm (by decide),iR,aa]
   exact⟨ce,_,_,_,rfl⟩
 ·have hcmp:=(Cj l0 l1).1
  rw[ap,ap,bn c16,hcmp,aa]
  dsimp only
  have hord:xI (o.Code-12+9) (fJ (l.getD 0 bU) (l.getD 1 bU))=some (zm (o.Code-18) (fJ (l.getD 0 bU) (l.getD 1 bU)),()):=by
   have h6:o.Code=18∨o.Code=19∨o.Code=20∨o.Code=21∨o.Code=22∨o.Code=23:=by omega
   rw[NU]
   rcases h6 with e | e | e | e | e | e <;> (rw[e];rfl)
  rw[hord,aa,pJ,aa,aa,bm (c:=(0:Int)=0) rfl]
  dsimp only
  rw[bn (by simp),dS]
  exact eB line nr a V C out st _ hs
inductive Fin
 | err (e:Int)
 | fin (V:List bF) (C:List bo) (out:List Int)
noncomputable def mJ(ops:List bA)(line:List Int)(nr:Int):Nat→Int→List bF→List bo→List Int→List bF→Fin
 | 0,_,_,_,_,_=>.err 6
 | n+1,a,V,C,out,st=>match j5 line nr (ops.getD a.toNat cG) a V C out st with
  | .err e=>.err e
  | .stop=>.fin V C out
  | .go a' V' C' out' st'=>mJ ops line nr n a' V' C' out' st'
def OpsI(ops:List bA)(nv:Nat)(nc:Int):Prop:=gf ops nv nc=true∧lM ops
theorem OpsI.get{ops:List bA}{nv:Nat}{nc:Int}(h:OpsI ops nv nc){i:Nat}(hi:i<ops.length) :
  opB ops[i] ops.length nv nc=true∧Bt ops[i].S∧ops[i].S.length≤2097152∧(ops[i].Code≠36→i+1<ops.length)∧ops.length≤1500:=by
 obtain⟨h1,h2⟩:=h
 unfold gf at h1
 rw[az,az,ab,ab,Bool.not_eq_true',List.any_eq_false]at h1
 obtain⟨h3,h4,h5⟩:=h1
 have h6:=h5 _ (aV hi)
 obtain⟨h7,h8⟩:=h2.2 _ (aV hi)
 refine⟨by simpa using h6,h7,h8,fun hc=>?_,by omega⟩
 rcases Nat.lt_or_ge (i+1) ops.length with h | h
 ·exact h
 ·have e:ops.length-1=i:=by omega
  rw[e,cE hi]at h4
  exact absurd h4 hc
theorem UL{o:bA}(h:1≤o.Code∧o.Code≤36):Ap o=some (b7 o,()):=by
 rw[Tx]
 simp only[Tw,d8,aa]
 unfold b7
 by_cases hr:12≤o.Code∧o.Code≤23
 ·have n:∀ k:Int,(k<12∨23<k)→¬ o.Code=k:=fun k h1 h2=>by omega
  simp[n,hr.1,hr.2]
 ·have ee:o.Code=1∨o.Code=2∨o.Code=3∨o.Code=4∨o.Code=5∨o.Code=6∨o.Code=7∨o.Code=8∨o.Code=9∨o.Code=10∨o.Code=11∨o.Code=24∨o.Code=25∨o.Code=26∨o.Code=27∨o.Code=28∨o.Code=29∨o.Code=30∨o.Code=31∨o.Code=32∨o.Code=33∨o.Code=34∨o.Code=35∨o.Code=36:=by omega
  rcases ee with e | e | e | e | e | e | e | e | e | e | e | e | e | e | e | e | e | e | e | e | e | e | e | e <;> simp[e]
theorem UJ{o:bA}(h:1≤o.Code∧o.Code≤36):yf o=some (b7 o,()):=by
 rw[OR]
 simp only[OP,OQ]
 unfold b7
 by_cases hr:12≤o.Code∧o.Code≤23
 ·have n:∀ k:Int,(k<12∨23<k)→¬ o.Code=k:=fun k h1 h2=>by omega
  simp[n,hr.1,hr.2]
 ·have ee:o.Code=1∨o.Code=2∨o.Code=3∨o.Code=4∨o.Code=5∨o.Code=6∨o.Code=7∨o.Code=8∨o.Code=9∨o.Code=10∨o.Code=11∨o.Code=24∨o.Code=25∨o.Code=26∨o.Code=27∨o.Code=28∨o.Code=29∨o.Code=30∨o.Code=31∨o.Code=32∨o.Code=33∨o.Code=34∨o.Code=35∨o.Code=36:=by omega
  rcases ee with e | e | e | e | e | e | e | e | e | e | e | e | e | e | e | e | e | e | e | e | e | e | e | e <;> simp[e]
def wn(line:List Int)(nr a:Int)(V:List bF)(C:List bo)(out:List Int)(x:Option (Int×Bool×bQ×WT×Unit)):R→Prop
 | .err e=>e≠0∧∃ p b z s o,x=some (p,b,z,wT s line o,())∧s.Err=e
 | .stop=>∃ z,x=some (a,false,z,wT ⟨V,C,nr,0⟩ line out,())
 | .go b V' C' out' st=>x=some (b,true,⟨(),st⟩,wT ⟨V',C',nr,0⟩ line out',())
theorem ID{line:List Int}{nr a:Int}{V:List bF}{C:List bo}{out:List Int}{x:Option (bQ×WT×Unit)}{r:R}(ha:w64 (a+1)=a+1)(h:lU line nr (a+1) x r) :
  wn line nr a V C out (x.bind fun(r0:bQ×(bE×((List (List Int))×((List (List Int))×((List Int)×((List (List Int))×((List Int)×(Int×(Bool×Unit))))))))×Unit) =>
   jZ a r0.1.l r0.1.stack r0.2.1.1 r0.2.1.2.1 r0.2.1.2.2.1 r0.2.1.2.2.2.1 r0.2.1.2.2.2.2.1 r0.2.1.2.2.2.2.2.1 r0.2.1.2.2.2.2.2.2.1 r0.2.1.2.2.2.2.2.2.2.1) r:=by
 cases r with
 | err e =>
  obtain⟨h1,z,s,o,rfl,h2⟩:=h
  rw[aa,gO]
  exact⟨h1,_,_,_,_,_,rfl,h2⟩
 | stop=>exact h.elim
 | go b V' C' out' st =>
  obtain⟨rfl,rfl⟩:=h
  rw[aa,gO,ha]
  rfl
theorem CC{α:Type}(st:List α)(K:Nat)(hK:K≤st.length):List.append [] (List.take (st.length-(K:Int).toNat) (List.drop (K:Int).toNat st))=st.drop K:=by
 rw[af,a8 (by rw[aQ];exact aG _)];rfl
theorem rC(s:bE)(line out t:List Int)(h:out.length+t.length≤1000000):oU s [] [] line (dh line) out 0 false t =
  if 600<(out++t).length then(if s.Err=0 then some (wT ⟨s.Vars,s.Cells,s.Nr,5⟩ line out,())else some (wT s line out,()))else some (wT s line (out++t),()):=by
 rw[Th,aq]
 by_cases c:600<(out++t).length
 ·have c':=c
  rw[ag]at c'
  rw[an,bm c,HH]
  by_cases d:s.Err=0
  ·rw[ak d,bm d];rfl
  ·rw[aj d,bn d];rfl
 ·have c':=c
  rw[ag]at c'
  rw[ap,bn c,al];rfl
theorem Uz{line:List Int}{nr a:Int}{V:List bF}{C:List bo}{out:List Int}{st:List bF}{o:bA}{nv:Nat}{nc n:Int}(hnv:nv≤100000)(ha:0≤a∧a<2000)(hL:iI line nr)(h:VmI nv nc V C out st)(ho:opB o n nv nc=true)(hS:Bt o.S)(hSl:o.S.length≤2097152) :
  wn line nr a V C out (uL ⟨(),st⟩ ⟨V,C,nr,0⟩ [] [] line (dh line) out 0 false o a) (j5 line nr o a V C out st):=by
 have hcode:=Gn ho
 obtain⟨k1,k2⟩:=AW ho
 obtain⟨o1,o2,o3,o4,o5,o6⟩:=zl ho
 have hst:=h.2.2.2.1
 have hw1:w64 (a+1)=a+1:=aq
 rw[Tu,UL hcode,aa]
 dsimp only
 unfold j5
 have hw:w64 ((st.length:Int)-b7 o)=(st.length:Int)-b7 o:=aq
 rw[hw]
 by_cases c:(st.length:Int)<b7 o
 ·rw[bm c,an,jX,aa]
  exact⟨by decide,_,_,_,_,_,rfl,rfl⟩
 ·have hK:(st.length:Int)-b7 o=((st.length-(b7 o).toNat:Nat):Int):=by omega
  have hKl:st.length-(b7 o).toNat≤st.length:=Nat.sub_le _ _
  rw[bn c,hK,ap,al,bm (by rw[cg,aP];omega),al,CC _ _ hKl,af]
  have hlen:((st.drop (st.length-(b7 o).toNat)).length:Int)=b7 o:=by rw[aQ];omega
  have hl:∀ v∈st.drop (st.length-(b7 o).toNat),VG v:=fun v hv=>h.2.2.2.2 v (List.mem_of_mem_drop hv)
  have h':VmI nv nc V C out (st.take (st.length-(b7 o).toNat)):=⟨h.1,h.2.1,h.2.2.1,by rw[aP];omega,fun v hv=>h.2.2.2.2 v (List.mem_of_mem_take hv)⟩
  generalize st.drop (st.length-(b7 o).toNat)=l at *
  generalize st.take (st.length-(b7 o).toNat)=rest at *
  have hrs:=h'.2.2.2.1
  have hout:=h'.2.2.1.1
  have l0:=cZ hl 0
  have t0:=(eO l0).1
  unfold doR
  by_cases c36:o.Code=36
  ·rw[ak c36,bm c36];exact⟨_,rfl⟩
  rw[aj c36,bn c36]
  by_cases c30:o.Code=30
  ·rw[ak c30,bm c30];rfl
  rw[aj c30,bn c30]
  by_cases c31:o.Code=31
  ·have hk:b7 o=1:=by unfold b7;simp[c31]
   rw[ak c31,bm c31,al,(pd _).2,aa]
   dsimp only
   cases lF (l.getD 0 bU) with
   | true=>rw[bn (by decide),bm rfl,gO,hw1];rfl
   | false=>rw[bm (by decide),bn (by decide)];rfl
  rw[aj c31,bn c31]
  by_cases c32:o.Code=32
  ·rw[ak c32,bm c32,gO,hw1];rfl
  rw[aj c32,bn c32]
  by_cases c33:o.Code=33
  ·have hk:b7 o=1:=by unfold b7;simp[c33]
   rw[ak c33,bm c33]
   unfold jg
   by_cases cN:o.N=1
   ·rw[ak cN,bm cN,rC _ _ _ _ (by simp;omega)]
    by_cases d:600<(out++[32]).length
    ·have d2:600<(out++([32]++ct (l.getD 0 bU))).length:=by
      rw[ag,ag];rw[ag]at d;omega
     rw[bm d,bm (c:=_=(0:Int)) rfl,aa,al,fE,aa,bm d2]
     unfold wT
     dsimp only
     rw[rC _ _ _ _ (by omega)]
     by_cases d3:600<(out++ct (l.getD 0 bU)).length
     ·rw[bm d3,bn (by simp),aa,gO]
      exact⟨by decide,_,_,_,_,_,rfl,rfl⟩
     ·rw[bn d3,aa,gO]
      exact⟨by decide,_,_,_,_,_,rfl,rfl⟩
    ·rw[bn d,aa,al,fE,aa]
     unfold wT
     dsimp only
     rw[rC _ _ _ _ (by rw[ag,bj];omega),ah]
     by_cases d2:600<(out++([32]++ct (l.getD 0 bU))).length
     ·rw[bm d2,bm d2,bm (c:=_=(0:Int)) rfl,aa,gO]
      exact⟨by decide,_,_,_,_,_,rfl,rfl⟩
     ·rw[bn d2,bn d2,aa,gO,hw1];rfl
   ·rw[aj cN,bn cN,al,fE,aa,bg]
    dsimp only
    rw[rC _ _ _ _ (by omega)]
    by_cases d2:600<(out++ct (l.getD 0 bU)).length
    ·rw[bm d2,bm d2,bm (c:=_=(0:Int)) rfl,aa,gO]
     exact⟨by decide,_,_,_,_,_,rfl,rfl⟩
    ·rw[bn d2,bn d2,aa,gO,hw1];rfl
  rw[aj c33,bn c33]
  by_cases c34:o.Code=34
  ·rw[ak c34,bm c34,rC _ _ _ _ (by simp;omega)]
   unfold jg
   by_cases d2:600<(out++[10]).length
   ·rw[bm d2,bm d2,bm (c:=_=(0:Int)) rfl,aa,gO]
    exact⟨by decide,_,_,_,_,_,rfl,rfl⟩
   ·rw[bn d2,bn d2,aa,gO,hw1];rfl
  rw[aj c34,bn c34]
  have named:(o.Code=3∨o.Code=4∨o.Code=5∨o.Code=6∨o.Code=7∨o.Code=8∨o.Code=35)→wn line nr a V C out (j0 a l true ⟨(),rest⟩ (bP.mk ⟨V,C,nr,0⟩ [] [] line (dh line) out 0 false) o) (fM (a+1) V C out rest o l):=fun hc=>by
   rw[HO,bm rfl]
   exact ID hw1 (QD hnv h' hl hlen hc o2)
  by_cases c3:o.Code=3
  ·rw[ak c3,bm (.inl c3),ac c3];exact named (.inl c3)
  rw[aj c3]
  by_cases c4:o.Code=4
  ·rw[ak c4,bm (.inr (.inl c4)),ac c4];exact named (.inr (.inl c4))
  rw[aj c4]
  by_cases c5:o.Code=5
  ·rw[ak c5,bm (.inr (.inr (.inl c5))),ac c5];exact named (.inr (.inr (.inl c5)))
  rw[aj c5]
  by_cases c6:o.Code=6
  ·rw[ak c6,bm (.inr (.inr (.inr (.inl c6)))),ac c6];exact named (.inr (.inr (.inr (.inl c6))))
  rw[aj c6]
  by_cases c7:o.Code=7
  ·rw[ak c7,bm (.inr (.inr (.inr (.inr (.inl c7))))),ac c7];exact named (.inr (.inr (.inr (.inr (.inl c7)))))
  rw[aj c7]
  by_cases c8:o.Code=8
  ·rw[ak c8,bm (.inr (.inr (.inr (.inr (.inr (.inl c8)))))),ac c8];exact named (.inr (.inr (.inr (.inr (.inr (.inl c8))))))
  rw[aj c8]
  by_cases c35:o.Code=35
  ·rw[bm (.inr (.inr (.inr (.inr (.inr (.inr c35)))))),ac c35];exact named (.inr (.inr (.inr (.inr (.inr (.inr c35))))))
  have hno:¬ (o.Code=3∨o.Code=4∨o.Code=5∨o.Code=6∨o.Code=7∨o.Code=8∨o.Code=35):=by omega
  rw[ae c35,bn hno,HO,bn (by decide)]
  exact ID hw1 (UW hL hrs hl hlen (by omega) hno hS hSl o4)
theorem OG{ops:List bA}{a t:Int}(s:bE)(line out:List Int)(st:List bF){e:Int}(he:e≠0):kT ops a t s line out st e=some (iT s line out st e,()):=by
 rw[yc,aj he];rfl
def sg(ops:List bA)(line:List Int)(nr t:Int)(V:List bF)(C:List bo)(out:List Int)(x:Option (IT×Unit)):R→Prop
 | .err e=>e≠0∧∃ s o u,x=some (iT s line o u e,())
 | .stop=>∃ u,x=some (iT ⟨V,C,nr,0⟩ line out u 0,())
 | .go b V' C' out' st=>x=kT ops b (t+1) ⟨V',C',nr,0⟩ line out' st 0
theorem ym{ops:List bA}{line:List Int}{nr a t:Int}{V:List bF}{C:List bo}{out:List Int}{x:Option (IT×Unit)}{r:R}(ht:w64 (t+1)=t+1)(h:lQ line nr a x r) :
  sg ops line nr t V C out (x.bind fun(r0:(bE×((List Int)×((List Int)×((List bF)×(Int×Unit)))))×Unit)=>kU ops a t r0.1.1 r0.1.2.1 r0.1.2.2.1 r0.1.2.2.2.1 r0.1.2.2.2.2.1) r:=by
 cases r with
 | err e =>
  obtain⟨h1,s,o,u,rfl⟩:=h
  rw[aa,nX]
  exact⟨h1,_,_,_,OG _ _ _ _ h1⟩
 | stop=>exact h.elim
 | go b V' C' out' st =>
  obtain⟨rfl,rfl⟩:=h
  rw[aa,nX,ht]
  rfl
theorem Pe{ops:List bA}{line:List Int}{nr t:Int}{V:List bF}{C:List bo}{out:List Int}{st:List bF}{nv:Nat}{nc:Int}(hnv:nv≤100000)(hops:OpsI ops nv nc)(i:Nat)(hi:i<ops.length)(ht:1≤t∧t≤20000)(hL:iI line nr)(h:VmI nv nc V C out st) :
  sg ops line nr t V C out (kT ops (i:Int) t ⟨V,C,nr,0⟩ line out st 0) (j5 line nr ops[i] (i:Int) V C out st):=by
 obtain⟨ho,hS,hSl,hlast,hlen⟩:=hops.get hi
 have hcode:=Gn ho
 obtain⟨k1,k2⟩:=AW ho
 obtain⟨o1,o2,o3,o4,o5,o6⟩:=zl ho
 have hst:=h.2.2.2.1
 have hw1:w64 ((i:Int)+1)=(i:Int)+1:=aq
 have hwt:w64 (t+1)=t+1:=aq
 rw[yc,bm (by simp),ap,al,ci hi]
 generalize ops[i]=o at *
 rw[UJ hcode,aa,OM]
 dsimp only
 unfold j5
 have hw:w64 ((st.length:Int)-b7 o)=(st.length:Int)-b7 o:=aq
 rw[hw]
 by_cases c:(st.length:Int)<b7 o
 ·rw[bm c,an,iR,aa,bm ⟨by omega,by omega,by rw[cg];omega⟩,aa]
  unfold iT
  dsimp only
  rw[bm (by simp)]
  exact⟨by decide,_,_,_,rfl⟩
 ·have hK:(st.length:Int)-b7 o=((st.length-(b7 o).toNat:Nat):Int):=by omega
  have hKl:st.length-(b7 o).toNat≤st.length:=Nat.sub_le _ _
  rw[bn c,hK,ap,al,bm (by rw[cg,aP];omega),al,CC _ _ hKl,af,aa]
  have hlen:((st.drop (st.length-(b7 o).toNat)).length:Int)=b7 o:=by rw[aQ];omega
  have hl:∀ v∈st.drop (st.length-(b7 o).toNat),VG v:=fun v hv=>h.2.2.2.2 v (List.mem_of_mem_drop hv)
  have h':VmI nv nc V C out (st.take (st.length-(b7 o).toNat)):=⟨h.1,h.2.1,h.2.2.1,by rw[aP];omega,fun v hv=>h.2.2.2.2 v (List.mem_of_mem_take hv)⟩
  generalize st.drop (st.length-(b7 o).toNat)=l at *
  generalize st.take (st.length-(b7 o).toNat)=rest at *
  dsimp only
  rw[bn (by simp)]
  unfold doR
  by_cases c36:o.Code=36
  ·rw[ak c36,bm c36];exact⟨_,rfl⟩
  rw[aj c36,bn c36]
  by_cases c30:o.Code=30
  ·rw[ak c30,bm c30,nX,hwt];rfl
  rw[aj c30,bn c30]
  by_cases c31:o.Code=31
  ·have hk:b7 o=1:=by unfold b7;simp[c31]
   rw[ak c31,bm c31,al,(pd _).1,aa]
   dsimp only
   cases lF (l.getD 0 bU) with
   | true=>rw[bn (by decide),bm rfl,nX,hwt,hw1];rfl
   | false=>rw[bm (by decide),bn (by decide),nX,hwt];rfl
  rw[aj c31,bn c31]
  by_cases c32:o.Code=32
  ·rw[ak c32,bm c32,nX,hwt,hw1];rfl
  rw[aj c32,bn c32]
  have store:(o.Code=4∨o.Code=5∨o.Code=7∨o.Code=8∨o.Code=35)→sg ops line nr t V C out (iU ops (w64 ((i:Int)+1)) t l true (bH.mk ⟨V,C,nr,0⟩ line out rest 0) o) (fM ((i:Int)+1) V C out rest o l):=fun hc=>by
   rw[yd,bm rfl,hw1]
   exact ym hwt (UA hnv h' hl hlen hc (fun e=>o2 (.inr e)))
  have outp:∀ b,b=true→(o.Code=33∨o.Code=34)→sg ops line nr t V C out (iU ops (w64 ((i:Int)+1)) t l b (bH.mk ⟨V,C,nr,0⟩ line out rest 0) o) (jg ((i:Int)+1) V C out rest (if o.Code=33 then(if o.N=1 then [32]else [])++ct (l.getD 0 bU)else [10])):=fun b hb hc=>by
   rw[yd,bm hb,hw1]
   exact ym hwt (Q6 h' hl hlen hc)
  by_cases c4:o.Code=4
  ·rw[ak c4,am,am,bm (.inr (.inl c4)),ac c4];exact store (.inl c4)
  rw[aj c4]
  by_cases c5:o.Code=5
  ·rw[ak c5,am,am,bm (.inr (.inr (.inl c5))),ac c5];exact store (.inr (.inl c5))
  rw[aj c5]
  by_cases c7:o.Code=7
  ·rw[ak c7,am,am,bm (.inr (.inr (.inr (.inr (.inl c7))))),ac c7];exact store (.inr (.inr (.inl c7)))
  rw[aj c7]
  by_cases c8:o.Code=8
  ·rw[ak c8,am,am,bm (.inr (.inr (.inr (.inr (.inr (.inl c8)))))),ac c8];exact store (.inr (.inr (.inr (.inl c8))))
  rw[aj c8]
  by_cases c35:o.Code=35
  ·rw[ak c35,am,am,bm (.inr (.inr (.inr (.inr (.inr (.inr c35)))))),ac c35];exact store (.inr (.inr (.inr (.inr c35))))
  rw[aj c35]
  by_cases c33:o.Code=33
  ·have:=outp _ (ac c33) (.inl c33)
   rw[bm c33]at this
   rw[ak c33,bm c33];exact this
  rw[aj c33,bn c33]
  by_cases c34:o.Code=34
  ·have:=outp _ (ac c34) (.inr c34)
   rw[bn c33]at this
   rw[bm c34];exact this
  rw[bn c34,yd,aj c34,hw1]
  have hl1:=ym (ops:=ops) (V:=V) (C:=C) (out:=out) hwt (Qi (a:=(i:Int)+1) hL h' hl hlen (by omega) (by omega) hS hSl (fun e=>o2 (.inl e)) o4)
  have hr:(if o.Code=3∨o.Code=6 then fM ((i:Int)+1) V C out rest o l else if(dM line nr o l).1=0 then eZ ((i:Int)+1) V C out rest (dM line nr o l).2 else .err (dM line nr o l).1) =
    (if o.Code=3∨o.Code=4∨o.Code=5∨o.Code=6∨o.Code=7∨o.Code=8∨o.Code=35 then fM ((i:Int)+1) V C out rest o l else if(dM line nr o l).1=0 then eZ ((i:Int)+1) V C out rest (dM line nr o l).2 else .err (dM line nr o l).1):=by
   by_cases c36':o.Code=3∨o.Code=6
   ·rw[bm c36',al]
   ·rw[bn c36',bn (c:=o.Code=3∨o.Code=4∨o.Code=5∨o.Code=6∨o.Code=7∨o.Code=8∨o.Code=35) (by omega)]
  rw[← hr]
  exact hl1
def FRelI(nv:Nat)(nc:Int)(line:List Int)(nr:Int)(x:Option (IT×Unit)):Fin→Prop
 | .err e=>(1≤e∧e≤7)∧∃ s o u,x=some (iT s line o u e,())
 | .fin V C out=>(∃ u,x=some (iT ⟨V,C,nr,0⟩ line out u 0,()))∧VmI nv nc V C out []
def Bz(line:List Int)(nr:Int)(x:Option (WT×Unit)):Fin→Prop
 | .err e=>∃ s o,x=some (wT s line o,())∧s.Err=e
 | .fin V C out=>x=some (wT ⟨V,C,nr,0⟩ line out,())
theorem G8{ops:List bA}{line:List Int}{nr:Int}{nv:Nat}{nc:Int}(hnv:nv≤100000)(hops:OpsI ops nv nc)(hL:iI line nr):∀ (n:Nat) (a:Int) (V:List bF) (C:List bo) (out:List Int) (st:List bF),n≤20000→0≤a∧a<(ops.length:Int)→VmI nv nc V C out st →
  FRelI nv nc line nr (kT ops a ((20001-n:Nat):Int) ⟨V,C,nr,0⟩ line out st 0) (mJ ops line nr n a V C out st):=by
 intro n
 induction n with
 | zero =>
  intro a V C out st hn ha h
  rw[yc,bm (by simp),bm (by decide),iR,aa]
  exact⟨⟨by decide,by decide⟩,_,_,_,rfl⟩
 | succ n ih =>
  intro a V C out st hn ha h
  obtain⟨i,rfl⟩:=Int.eq_ofNat_of_zero_le ha.1
  have hi:i<ops.length:=by omega
  obtain⟨ho,hS,hSl,hlast,hlen⟩:=hops.get hi
  have h1:=Pe hnv hops i hi (t:=((20001-(n+1):Nat):Int)) (by omega) hL h
  have h2:=IE (line:=line) (nr:=nr) (n:=(ops.length:Int)) (a:=(i:Int)) (o:=ops[i]) (by omega) (by omega) (fun hc=>by have:=hlast hc;omega) hL h ho hS
  unfold mJ
  rw[af,cE hi]
  revert h1 h2
  cases j5 line nr ops[i] (i:Int) V C out st with
  | err e=>intro h1 h2;exact⟨h2,h1.2⟩
  | stop=>intro h1 h2;exact⟨h1,h.1,h.2.1,h.2.2.1,by simp,fun v hv=>by cases hv⟩
  | go b V' C' out' st' =>
   intro h1 h2
   have h3:=ih b V' C' out' st' (by omega) h2.1 h2.2
   have e:((20001-(n+1):Nat):Int)+1=((20001-n:Nat):Int):=by omega
   rw[← e]at h3
   have h4:kT ops (i:Int) ((20001-(n+1):Nat):Int) ⟨V,C,nr,0⟩ line out st 0=_:=h1
   rw[h4]
   exact h3
theorem Ha{ops:List bA}{line:List Int}{nr:Int}{nv:Nat}{nc:Int}(hnv:nv≤100000)(hops:OpsI ops nv nc)(hL:iI line nr):∀ (n:Nat) (a:Int) (V:List bF) (C:List bo) (out:List Int) (st:List bF),n≤20000→0≤a∧a<(ops.length:Int)→VmI nv nc V C out st →
  Bz line nr (ri ops a ((20000-n:Nat):Int) (bP.mk ⟨V,C,nr,0⟩ [] [] line (dh line) out 0 false) ⟨(),st⟩) (mJ ops line nr n a V C out st):=by
 have stopE:∀ (a t:Int) (s:bE) (o:List Int) (z:bQ) (e:Int),s.Err=e→e≠0→∃ s' o',ri ops a t (bP.mk s [] [] line (dh line) o 0 false) z=some (wT s' line o',())∧s'.Err=e:=fun a t s o z e h1 h2=>by
  rw[uK,aj (by dsimp only;rw[h1];exact h2)]
  exact⟨_,_,rfl,h1⟩
 intro n
 induction n with
 | zero =>
  intro a V C out st hn ha h
  rw[uK,bm (by simp),bm (by decide),jX,aa]
  exact⟨_,_,rfl,rfl⟩
 | succ n ih =>
  intro a V C out st hn ha h
  obtain⟨i,rfl⟩:=Int.eq_ofNat_of_zero_le ha.1
  have hi:i<ops.length:=by omega
  obtain⟨ho,hS,hSl,hlast,hlen⟩:=hops.get hi
  have h1:=Uz (line:=line) (nr:=nr) (a:=(i:Int)) (o:=ops[i]) hnv (by omega) hL h ho hS hSl
  have h2:=IE (line:=line) (nr:=nr) (n:=(ops.length:Int)) (a:=(i:Int)) (o:=ops[i]) (by omega) (by omega) (fun hc=>by have:=hlast hc;omega) hL h ho hS
  unfold mJ
  rw[af,cE hi,uK,bm (by simp),ap,al,ci hi,aq]
  revert h1 h2
  cases j5 line nr ops[i] (i:Int) V C out st with
  | err e =>
   intro h1 h2
   obtain⟨g1,p,b,z,s,o,g2,g3⟩:=h1
   rw[g2,aa]
   dsimp only
   cases b with
   | true=>rw[bn (by decide)];exact stopE _ _ s o z e g3 g1
   | false=>rw[bm (by decide)];exact⟨_,_,rfl,g3⟩
  | stop =>
   intro h1 h2
   obtain⟨z,g2⟩:=h1
   rw[g2,aa]
   rfl
  | go b V' C' out' st' =>
   intro h1 h2
   have h3:=ih b V' C' out' st' (by omega) h2.1 h2.2
   have e:((20000-(n+1):Nat):Int)+1=((20000-n:Nat):Int):=by omega
   rw[← e]at h3
   have h4:uL ⟨(),st⟩ ⟨V,C,nr,0⟩ [] [] line (dh line) out 0 false ops[i] (i:Int)=_:=h1
   rw[h4,aa]
   dsimp only
   rw[bn (by decide)]
   exact h3
def StI(nv:Nat)(nc:Int)(s:bE):Prop:=(s.Vars.length=nv∧∀ v∈s.Vars,VG v)∧CG nc s.Cells∧(0≤s.Nr∧s.Nr≤1000000)∧s.Err=0
def StG(nv:Nat)(nc:Int)(s:bE):Prop:=(s.Vars.length=nv∧∀ v∈s.Vars,VG v)∧CG nc s.Cells∧(0≤s.Nr∧s.Nr≤1000000)∧0≤s.Err∧s.Err≤7
theorem StI.g{nv:Nat}{nc:Int}{s:bE}(h:StI nv nc s):StG nv nc s:=⟨h.1,h.2.1,h.2.2.1,by have:=h.2.2.2;omega⟩
theorem StG.i{nv:Nat}{nc:Int}{s:bE}(h:StG nv nc s)(he:s.Err=0):StI nv nc s:=⟨h.1,h.2.1,h.2.2.1,he⟩
theorem StG.of{nv:Nat}{nc:Int}{s:bE}(h:gm s nv nc=true)(hb:gW s):StG nv nc s:=by
 unfold gm at h
 rw[az,az,az,az,az,ab,Bool.not_eq_true',List.any_eq_false,ab,ab,ab,Bool.not_eq_true']at h
 obtain⟨h1,h2,h3,h4,h5,h6⟩:=h
 have hbad:∀ i (hi:i<s.Cells.length),(0≤s.Cells[i].Name∧s.Cells[i].Name<nc∧s.Cells[i].Key.length≤300∧eQ s.Cells[i].Val=true)∧(0<i→dl (s.Cells[i-1]'(by omega)) s.Cells[i]=true):=fun i hi=>by
  have:=anyB_false.1 h6 i hi
  unfold l5 at this
  rw[cE hi,cE (show i-1<s.Cells.length by omega)]at this
  simp only[Bool.or_eq_false_iff,decide_eq_false_iff_not,Bool.not_eq_false',Bool.and_eq_false_iff]at this
  obtain⟨g1,g2,g3,g4,g5⟩:=this
  refine⟨⟨by omega,by omega,by omega,g4⟩,fun h0=>?_⟩
  rcases g5 with g5 | g5
  ·omega
  ·exact g5
 refine⟨⟨by omega,fun v hv=>⟨by simpa using h2 v hv,hb.1.2 v hv⟩⟩,⟨by omega,fun c hc=>?_,?_⟩,h4,h5⟩
 ·obtain⟨i,hi,rfl⟩:=bk.1 hc
  obtain⟨g1,g2,g3,g4⟩:=(hbad i hi).1
  exact⟨g1,g2,g3,g4,hb.2.2 _ hc⟩
 ·rw[List.pairwise_iff_getElem]
  intro i j hi hj hij
  have key:∀ (d j:Nat) (hj:j<s.Cells.length),j=i+1+d→dl s.Cells[i] s.Cells[j]=true:=by
   intro d
   induction d with
   | zero=>intro j hj e;subst e;exact(hbad (i+1) hj).2 (by omega)
   | succ d ih =>
    intro j hj e
    have h1:=ih (j-1) (by omega) (by omega)
    exact wF h1 ((hbad j hj).2 (by omega))
  exact key (j-i-1) j hj (by omega)
theorem StI.of{nv:Nat}{nc:Int}{s:bE}(h:gm s nv nc=true)(hb:gW s)(he:s.Err=0):StI nv nc s:=(StG.of h hb).i he
theorem StG.to{nv:Nat}{nc:Int}{s:bE}(h:StG nv nc s)(hnv:nv≤100000):gm s nv nc=true∧gW s:=by
 obtain⟨⟨h1,h2⟩,⟨c1,c2,c3⟩,h4,h5⟩:=h
 refine⟨?_,⟨by omega,fun v hv=>(h2 v hv).2⟩,by omega,fun c hc=>(c2 c hc).2.2.2.2⟩
 unfold gm
 rw[az,az,az,az,az,ab,Bool.not_eq_true',List.any_eq_false,ab,ab,ab,Bool.not_eq_true']
 refine⟨by omega,fun v hv=>by rw[(h2 v hv).1];decide,by omega,h4,by omega,anyB_false.2 fun i hi=>?_⟩
 unfold l5
 obtain⟨g1,g2,g3,g4⟩:=c2 _ (aV hi)
 rw[cE hi,cE (show i-1<s.Cells.length by omega),ae (by omega),ae (by omega),ae (by omega),g4.1]
 by_cases c:i=0
 ·subst c;rfl
 ·rw[List.pairwise_iff_getElem.1 c3 (i-1) i (by omega) hi (by omega)];simp
theorem StI.to{nv:Nat}{nc:Int}{s:bE}(h:StI nv nc s)(hnv:nv≤100000):gm s nv nc=true∧gW s:=h.g.to hnv
def jr(s:bE)(nr:Int):Fin→bE×List Int
 | .err e=>(⟨s.Vars,s.Cells,s.Nr,e⟩,[])
 | .fin V C out=>(⟨V,C,nr,0⟩,out)
theorem CH{nv:Nat}{nc:Int}{line:List Int}{nr:Int}{x:Option (IT×Unit)}{r:Fin}(h:FRelI nv nc line nr x r)(s:bE)(hv:s.Vars.length≤100000)(hc:s.Cells.length≤100000) :
  (x.bind fun(r8:(bE×((List Int)×((List Int)×((List bF)×(Int×Unit)))))×Unit) =>
   (qw r8.1.1 r8.1.2.1 r8.1.2.2.1 r8.1.2.2.2.1 r8.1.2.2.2.2.1 s).bind fun(r9:bE×(List Int)×(Unit×((List Int)×((List Int)×((List bF)×(Int×Unit)))))×Unit) =>
   some (r9.1,r9.2.1,()))=some ((jr s nr r).1,(jr s nr r).2,()):=by
 cases r with
 | err e =>
  obtain⟨h1,s',o,u,rfl⟩:=h
  rw[aa]
  unfold iT
  dsimp only
  rw[x9,ae (show ¬ e=0 by omega),bm (by decide),nC hv hc]
  rfl
 | fin V C out =>
  obtain⟨⟨u,rfl⟩,_⟩:=h
  rw[aa]
  unfold iT
  dsimp only
  rw[x9,bn (by simp)]
  rfl
theorem CJ{line:List Int}{nr:Int}{x:Option (WT×Unit)}{r:Fin}(h:Bz line nr x r)(hne:∀ e,r = .err e→e≠0)(s:bE)(hv:s.Vars.length≤100000)(hc:s.Cells.length≤100000) :
  (x.bind fun(r0:(bE×((List (List Int))×((List (List Int))×((List Int)×((List (List Int))×((List Int)×(Int×(Bool×Unit))))))))×Unit) =>
   (uE (bP.mk r0.1.1 r0.1.2.1 r0.1.2.2.1 r0.1.2.2.2.1 r0.1.2.2.2.2.1 r0.1.2.2.2.2.2.1 r0.1.2.2.2.2.2.2.1 r0.1.2.2.2.2.2.2.2.1) s).bind fun(r1:bE×(List Int)×bP×Unit) =>
   some (r1.1,r1.2.1,()))=some ((jr s nr r).1,(jr s nr r).2,()):=by
 cases r with
 | err e =>
  obtain⟨s',o,rfl,h2⟩:=h
  rw[aa]
  unfold wT
  dsimp only
  rw[Ae]
  dsimp only
  rw[h2,ae (hne e rfl),bm (by decide),nD hv hc]
  rfl
 | fin V C out =>
  have h':x=_:=h
  rw[h',aa]
  unfold wT
  dsimp only
  rw[Ae,bn (by simp)]
  rfl
theorem CI{nv:Nat}{nc:Int}{line:List Int}{nr:Int}{x:Option (IT×Unit)}{r:Fin}(h:FRelI nv nc line nr x r)(s:bE)(hs:StI nv nc s)(hnr:0≤nr∧nr≤1000000):StG nv nc (jr s nr r).1∧(jr s nr r).2.length≤600∧Bt (jr s nr r).2:=by
 cases r with
 | err e =>
  have h1:=h.1
  exact⟨⟨hs.1,hs.2.1,hs.2.2.1,by show 0≤e;omega,by show e≤7;omega⟩,Nat.zero_le _,fun x hx=>by cases hx⟩
 | fin V C out =>
  obtain⟨_,g1,g2,g3,g4⟩:=h
  exact⟨⟨g1,g2,hnr,by show(0:Int)≤0;omega,by show(0:Int)≤7;omega⟩,g3⟩
def PrI(p:bC):Prop:=d7 p=true∧gV p
theorem PrI.nv{p:bC}(h:PrI p):p.Vars.length≤8:=by
 have h1:=h.1
 unfold d7 la at h1
 simp only[az,ab]at h1
 omega
theorem PrI.main{p:bC}(h:PrI p):OpsI p.Main p.Vars.length p.Cells.length:=by
 have h1:=h.1
 unfold d7 at h1
 simp only[az]at h1
 exact⟨h1.2.2.2.2,h.2.2.2.2⟩
theorem PrI.start{p:bC}(h:PrI p):OpsI p.Start p.Vars.length p.Cells.length:=by
 have h1:=h.1
 unfold d7 at h1
 simp only[az]at h1
 exact⟨h1.2.2.2.1,h.2.2.2.1⟩
theorem OpsI.pos{ops:List bA}{nv:Nat}{nc:Int}(h:OpsI ops nv nc):0<(ops.length:Int):=by
 have h1:=h.1
 unfold gf at h1
 rw[az,ab]at h1
 omega
noncomputable def fd(p:bC)(s:bE)(line:List Int):bE×List Int :=
 if s.Nr≥1000000 then(⟨s.Vars,s.Cells,s.Nr,1⟩,[])else jr s (s.Nr+1) (mJ p.Main line (s.Nr+1) 20000 0 s.Vars s.Cells [] [])
theorem FRelI.ne{nv:Nat}{nc:Int}{line:List Int}{nr:Int}{x:Option (IT×Unit)}{r:Fin}(h:FRelI nv nc line nr x r):∀ e,r = .err e→e≠0:=by
 intro e he
 subst he
 have:=h.1
 omega
theorem tQ{p:bC}{s:bE}{line:List Int}(hp:PrI p)(hs:StI p.Vars.length p.Cells.length s)(hl:line.length≤2097152∧Bt line) :
  s6 p s line=some ((fd p s line).1,(fd p s line).2,())∧Am p s line=some ((fd p s line).1,(fd p s line).2,()) ∧
  StG p.Vars.length p.Cells.length (fd p s line).1∧(fd p s line).2.length≤600∧Bt (fd p s line).2:=by
 have hnv:=hp.nv
 obtain⟨hb1,hb2⟩:=hs.to (by omega)
 have hv:s.Vars.length≤100000:=by have:=hs.1.1;omega
 have hc:s.Cells.length≤100000:=by have:=hs.2.1.1;omega
 have hs':=hs
 obtain⟨h1,h2,h3,h4⟩:=hs
 have hfl:=pV line
 have hs0:s=⟨s.Vars,s.Cells,s.Nr,0⟩:=by obtain⟨a,b,c,d⟩:=s;dsimp only at h4;rw[h4]
 rw[DX,Ts,nP p hp.2,xC s _ _ hb2,nC hv hc,nD hv hc,SV line (by omega)]
 simp only[aa,hp.1,hb1,Bool.not_true,Bool.false_eq_true,if_false,h4,decide_true]
 rw[aq]
 unfold fd
 by_cases c:s.Nr≥1000000
 ·rw[ak c,bm c,an,iR,aa,jX,aa]
  unfold iT wT
  dsimp only
  rw[x9,bm (by decide),nC hv hc,HN,Ak,uK,bn (by simp)]
  simp only[aa]
  rw[Ae,bm (by simp),nD hv hc]
  refine⟨?_,?_,⟨h1,h2,h3,by show(0:Int)≤1;omega,by show(1:Int)≤7;omega⟩,Nat.zero_le _,(fun x hx=>by cases hx)⟩ <;> first | rfl | trivial
 ·have hL:iI line (s.Nr+1):=⟨hl,by omega,by omega⟩
  have hI:VmI p.Vars.length (p.Cells.length:Int) s.Vars s.Cells [] []:=⟨h1,h2,⟨by simp,fun x hx=>by cases hx⟩,by simp,fun x hx=>by cases hx⟩
  have r1:=G8 (by omega) hp.main hL 20000 0 s.Vars s.Cells [] [] (aG _) ⟨Int.le_refl _,hp.main.pos⟩ hI
  have r2:=Ha (by omega) hp.main hL 20000 0 s.Vars s.Cells [] [] (aG _) ⟨Int.le_refl _,hp.main.pos⟩ hI
  have e1:=CH r1 s hv hc
  have e2:=CJ r2 r1.ne s hv hc
  have e3:=CI r1 s hs' ⟨by omega,by omega⟩
  rw[aj c,bn c,ap,EG,HN,Ak]
  exact⟨e1,e2,e3⟩
noncomputable def mK(p:bC)(s:bE)(line:List Int):bE×List Int :=
 if d7 p=true∧gm s p.Vars.length p.Cells.length=true∧s.Err=0 then fd p s line else(s,[])
theorem Lb{s:bE}(hc:s.Vars.length≤2097152∧s.Cells.length≤2097152):fY s=some (s,()):=by
 have h1:pf s.Vars=some (s.Vars,()):=by
  rw[vO,bm (c:=0+s.Vars.length≤room) (by rw[cg];omega)]
  by_cases c:Nat.beq s.Vars.length 0=true
  ·have e:s.Vars=[]:=aZ.1 (Nat.eq_of_beq_eq_true c)
   rw[bm c,e];exact lX _
  ·rw[bn c];rfl
 have h2:rN s.Cells=some (s.Cells,()):=by
  rw[Ba,bm (c:=0+s.Cells.length≤room) (by rw[cg];omega)]
  by_cases c:Nat.beq s.Cells.length 0=true
  ·have e:s.Cells=[]:=aZ.1 (Nat.eq_of_beq_eq_true c)
   rw[bm c,e];exact lX _
  ·rw[bn c];rfl
 rw[xH,h1,h2];rfl
theorem RX{p:bC}{s:bE}{line:List Int}(hp:gV p)(hs:gW s)(hl:line.length≤2097152∧Bt line)(hc:s.Vars.length≤2097152∧s.Cells.length≤2097152):s6 p s line=some ((mK p s line).1,(mK p s line).2,()):=by
 unfold mK
 by_cases c:d7 p=true∧gm s p.Vars.length p.Cells.length=true∧s.Err=0
 ·obtain⟨c1,c2,c3⟩:=c
  rw[bm ⟨c1,c2,c3⟩]
  exact(tQ ⟨c1,hp⟩ (StI.of c2 hs c3) hl).1
 ·rw[bn c,DX,nP p hp,xC s _ _ hs,Lb hc]
  simp only[aa]
  cases c1:d7 p with
  | false=>rfl
  | true =>
   simp only[Bool.not_true,Bool.false_eq_true,if_false]
   cases c2:gm s p.Vars.length p.Cells.length with
   | false=>rfl
   | true =>
    have c3:¬ s.Err=0:=fun h=>c ⟨c1,c2,h⟩
    simp only[Bool.not_true,Bool.false_eq_true,if_false,ae c3]
    rfl
def ir(n:Nat):bE:=⟨List.replicate n bU,[],0,0⟩
theorem QG(n:Nat)(h:n≤8):s7 (n:Int)=some (ir n,())∧uB (n:Int)=some (ir n,()):=by
 have h1:mnI (n:Int) 8=(n:Int):=by unfold mnI;rw[am]
 have h2:mxI 0 (n:Int)=(n:Int):=by unfold mxI;split <;> omega
 have h3:rj (n:Int) 8=some ((n:Int),()):=by
  rw[HS]
  by_cases c:(n:Int)<8
  ·rw[ak c]
  ·rw[aj c,show(8:Int)=(n:Int) by omega]
 have h4:oW 0 (n:Int)=some ((n:Int),()):=by
  rw[Aw]
  by_cases c:(0:Int)>(n:Int)
  ·omega
  ·rw[aj c]
 rw[NB,SM,h1,h2,h3,aa]
 dsimp only
 rw[h4,aa]
 dsimp only
 rw[bm ⟨by omega,by omega,by rw[cg];omega⟩,af]
 exact⟨rfl,rfl⟩
theorem QF(n:Nat)(nc:Int):StI n nc (ir n):=by
 refine⟨⟨a7,fun v hv=>?_⟩,⟨by show 0≤40;omega,fun c hc=>(by cases hc),List.Pairwise.nil⟩,⟨by show(0:Int)≤0;omega,by show(0:Int)≤1000000;omega⟩,rfl⟩
 rw[(List.mem_replicate.1 hv).2];exact pD
noncomputable def iB(p:bC):bE×List Int:=jr (ir p.Vars.length) 0 (mJ p.Start [] 0 20000 0 (ir p.Vars.length).Vars [] [] [])
theorem Ux{p:bC}(hp:PrI p):xB p=some ((iB p).1,(iB p).2,())∧Ao p=some ((iB p).1,(iB p).2,())∧StG p.Vars.length p.Cells.length (iB p).1∧(iB p).2.length≤600∧Bt (iB p).2:=by
 have hnv:=hp.nv
 have hI:=QF p.Vars.length p.Cells.length
 have hv:(ir p.Vars.length).Vars.length≤100000:=by rw[hI.1.1];omega
 have hc:(ir p.Vars.length).Cells.length≤100000:=Nat.zero_le _
 have hL:iI [] 0:=⟨⟨Nat.zero_le _,fun x hx=>by cases hx⟩,by omega,by omega⟩
 have hV:VmI p.Vars.length (p.Cells.length:Int) (ir p.Vars.length).Vars [] [] []:=⟨hI.1,hI.2.1,⟨by simp,fun x hx=>by cases hx⟩,by simp,fun x hx=>by cases hx⟩
 have r1:=G8 (by omega) hp.start hL 20000 0 _ [] [] [] (aG _) ⟨Int.le_refl _,hp.start.pos⟩ hV
 have r2:=Ha (by omega) hp.start hL 20000 0 _ [] [] [] (aG _) ⟨Int.le_refl _,hp.start.pos⟩ hV
 have e1:=CH r1 (ir p.Vars.length) hv hc
 have e2:=CJ r2 r1.ne (ir p.Vars.length) hv hc
 have e3:=CI r1 (ir p.Vars.length) hI ⟨by omega,by omega⟩
 obtain⟨n1,n2⟩:=QG p.Vars.length hnv
 rw[NA,Tt,nP p hp.2,n1,n2]
 simp only[aa,hp.1,Bool.not_true,Bool.false_eq_true,if_false,nC hv hc,nD hv hc,EG,Ak]
 exact⟨e1,e2,e3⟩
end Go.Proofs.YthgknhkeifcflaaGreatDoor.E.TE
namespace Go.Proofs.YthgknhkeifcflaaGreatDoor.E
set_option linter.unusedVariables false
theorem IK{α:Type}(L:Int→Int→Option (Int×Unit))(S:α→Int→Option (Int×Unit))(l:List α)(Q:α→Prop)(hl:l.length≤9223372036854775807)
  (hS:∀ x∈l,∀ k:Int,0≤k→k≤1048576→∃ r,S x k=some (r,())∧r≤1048576∧(0≤r→Q x))
  (stop:∀ k,L k (l.length:Int)=some (k,()))
  (step:∀ (k:Int) (i:Nat) (h:i<l.length),L k i=(S l[i] k).bind fun(r0:Int×Unit)=>if(decide (r0.1<0))=true then some ((-1),())else L r0.1 ((i+1:Nat):Int))
  (n:Int) (h0:0≤n) (h1:n≤1048576):∃ r,L n 0=some (r,())∧r≤1048576∧(0≤r→∀ x∈l,Q x):=by
 have key:∀ (d i:Nat) (k:Int),i+d=l.length→0≤k→k≤1048576→∃ r,L k i=some (r,())∧r≤1048576∧(0≤r→∀ j (h:j<l.length),i≤j→Q l[j]):=by
  intro d
  induction d with
  | zero =>
   intro i k hd k0 k1
   have hi:i=l.length:=by omega
   subst hi
   exact⟨k,stop k,k1,fun _ j hj hij=>by omega⟩
  | succ d ih =>
   intro i k hd k0 k1
   have hi:i<l.length:=by omega
   obtain⟨r,e1,e2,e3⟩:=hS l[i] (aV hi) k k0 k1
   rw[step k i hi,e1,aa]
   by_cases h:r<0
   ·rw[ak h]
    exact⟨-1,rfl,by omega,fun h=>by omega⟩
   ·rw[aj h]
    obtain⟨r',g1,g2,g3⟩:=ih (i+1) r (by omega) (by omega) e2
    refine⟨r',g1,g2,fun hr j hj hij=>?_⟩
    by_cases e:j=i
    ·subst e;exact e3 (by omega)
    ·exact g3 hr j hj (by omega)
 obtain⟨r,e1,e2,e3⟩:=key l.length 0 n (by omega) h0 h1
 exact⟨r,e1,e2,fun hr x hx=>by
  obtain⟨j,hj,rfl⟩:=bk.1 hx
  exact e3 hr j hj (by omega)⟩
theorem zc{α:Type}(L:List α→Int→Int→Option (Int×List α×Unit))(H:List α→Int→Int→Option (Int×Unit))(P:α→Prop)(b:Nat)(bd:Int)
  (stop:∀ a k,L a k (a.length:Int)=some (k,a,())) (hstop:∀ a k,H a k (a.length:Int)=some (k,()))
  (step:∀ (a:List α) (k:Int) (i:Nat) (h:i<a.length),a.length≤4294967296→P a[i]→0≤k→k+b≤bd →
   ∃ y k',L a k i=L (a.set i y) k' ((i+1:Nat):Int)∧k≤k'∧k'≤k+b∧∀ (c:List α) (hc:i<c.length),c.length≤4294967296→c[i]=y→H c k i=H c k' ((i+1:Nat):Int))
  (l:List α) (k:Int) (hl:l.length≤4294967296) (hP:∀ x∈l,P x) (hk:0≤k) (hb:k+b*l.length≤bd) :
  ∃ k' l',L l k 0=some (k',l',())∧H l' k 0=some (k',())∧l'.length=l.length∧k≤k'∧k'≤k+b*l.length:=by
 have hs:∀ d:Nat,(b*((d+1:Nat):Int):Int)=b*d+b:=fun d=>by rw[Int.natCast_add,Int.mul_add];simp
 have hz:∀ d:Nat,(0:Int)≤b*d:=fun d=>by exact_mod_cast Nat.zero_le (b*d)
 have key:∀ (d i:Nat) (a:List α) (k:Int),i+d=a.length→a.length≤4294967296→(∀ j (h:j<a.length),i≤j→P a[j])→0≤k→k+b*d≤bd →
   ∃ k' a',L a k (i:Int)=some (k',a',())∧k≤k'∧k'≤k+b*d∧a'.length=a.length∧(∀ j,j<i→a'[j]? = a[j]?) ∧
    ∀ c:List α,c.length=a.length→(∀ j,i≤j→c[j]? = a'[j]?)→H c k (i:Int)=some (k',()):=by
  intro d
  induction d with
  | zero =>
   intro i a k hd hl hp hk hb
   have hi:i=a.length:=by omega
   subst hi
   refine⟨k,a,stop a k,Int.le_refl k,by simp,rfl,fun _ _=>rfl,fun c hc _=>?_⟩
   rw[← hc];exact hstop c k
  | succ d ih =>
   intro i a k hd hl hp hk hb
   have hi:i<a.length:=by omega
   have h0:=hz d
   rw[hs]at hb
   obtain⟨y,k1,e1,e2,e3,e4⟩:=step a k i hi hl (hp i hi (aG i)) hk (by omega)
   obtain⟨k',a',f1,f2,f3,f4,f5,f6⟩:=ih (i+1) (a.set i y) k1 (by rw[aX];omega) (by rw[aX];exact hl)
    (fun j hj hij=>by rw[List.getElem_set_ne (by omega)];exact hp j (by rw[aX]at hj;exact hj) (by omega)) (by omega) (by omega)
   rw[aX]at f4 f6
   refine⟨k',a',e1.trans f1,by omega,by rw[hs];omega,f4,fun j hj=>?_,fun c hc hcj=>?_⟩
   ·rw[f5 j (by omega),List.getElem?_set_ne (by omega)]
   ·have hic:i<c.length:=by omega
    have hc0:c[i]? = some y:=by rw[hcj i (aG i),f5 i (by omega),List.getElem?_set_self hi]
    rw[List.getElem?_eq_getElem hic]at hc0
    rw[e4 c hic (by omega) (aN hc0)]
    exact f6 c hc fun j hj=>hcj j (by omega)
 obtain⟨k',a',e1,e2,e3,e4,_,e6⟩:=key l.length 0 l k (by omega) hl (fun j hj _=>hP _ (aV hj)) hk hb
 exact⟨k',a',e1,e6 a' e4 fun _ _=>rfl,e4,e2,e3⟩
end Go.Proofs.YthgknhkeifcflaaGreatDoor.E
namespace Go.Proofs.YthgknhkeifcflaaGreatDoor.E.TE
open Go.Proofs.YthgknhkeifcflaaGreatDoor.E
set_option linter.unusedVariables false
theorem Qu(n:Nat):∀ (k:Int) (s:List Int),k≤9223372036854775807→0≤k→k<10 ^ n→s.length+n≤1000→∃ t,tG k s=some (t,()):=by
 induction n with
 | zero =>
  intro k s h h0 hk hs
  have:k=0:=by simp at hk;omega
  subst this
  rw[Fp,bn (by simp),bm (by show 1+s.length≤_;omega)]
  exact⟨_,rfl⟩
 | succ n ih =>
  intro k s h h0 hk hs
  rw[Fp]
  by_cases h:k>0
  ·rw[ak h,bm (by show 1+s.length≤_;omega),ba h0,aq (n:=k/10)]
   refine ih (k/10) _ (by omega) (by omega) ?_ (by show(s.length+1)+n≤1000;omega)
   rw[Int.pow_succ]at hk
   omega
  ·rw[aj h,bm (by show 1+s.length≤_;omega)]
   exact⟨_,rfl⟩
theorem Qv(k:Int)(h:k≤9223372036854775807):∃ t,ge k=some (t,()):=by
 rw[PP]
 by_cases h0:k≤0
 ·rw[ak h0];exact⟨_,rfl⟩
 ·rw[aj h0]
  exact Qu 19 k [] h (by omega) (by omega) (by simp)
open Classical in
noncomputable def kZ(k:Int):List Int:=if h:∃ t,ge k=some (t,())then Classical.choose h else []
theorem jU(k:Int)(h:k≤9223372036854775807):ge k=some (kZ k,()):=by
 have:=Qv k h
 unfold kZ
 rw[dif_pos this]
 exact Classical.choose_spec this
def gA(M:Nat)(x:bJ):Prop:=x.Line.length≤M
def wc(M:Nat)(x:bq):Prop:=x.Line.length≤M
def iH(M:Nat)(x:bF):Prop:=x.S.length≤M
def kp(M:Nat)(x:bo):Prop:=x.Key.length≤M∧iH M x.Val
def gZ(M:Nat)(x:bE):Prop:=(x.Vars.length≤M∧∀ y∈x.Vars,iH M y)∧(x.Cells.length≤M∧∀ y∈x.Cells,kp M y)
def gy(M:Nat)(x:bz):Prop:=gZ M x.State∧x.Done.length≤M∧x.Out.length≤M
theorem MD{d:Nat}{x:bJ}(h:fb (G:=gam) (d+3) (.nm 16) x):gA 9223372036854775807 x:=by
 have h':_∧_∧(x.Line.length≤9223372036854775807∧_)∧_:=h
 unfold gA
 exact h'.2.2.1.1
theorem MP(x:bJ)(n:Int)(h:gA 9223372036854775807 x)(h0:0≤n)(h1:n≤1048576):∃ r,tH x n=some (r,())∧r≤1048576∧(0≤r→gA 1048576 x):=by
 unfold gA at h
 rw[PS]
 have hl0:=h
 rw[aq (n:=n-(x.Line.length:Int))]
 by_cases c0:n-(x.Line.length:Int)<0
 ·rw[ak c0];exact⟨-1,rfl,by omega,fun h=>by omega⟩
 rw[aj c0]
 exact⟨_,rfl,by omega,fun _=>by unfold gA;exact by omega⟩
def kI(x:bJ):bq:=⟨x.Who,x.Seq,x.Line⟩
theorem MT(x:bJ)(h:gA 1048576 x):yT x=some (kI x,()):=by
 unfold gA at h
 rw[PY]
 rfl
theorem Mv(x:bq)(h:wc 2097152 x):yz x x=some (true,()):=by
 unfold wc at h
 rw[Pq]
 simp
theorem Dl(x:bF)(h:iH 2097152 x):tC x x=some (true,()):=by
 unfold iH at h
 rw[PA]
 simp
theorem MC(l:List bF)(h:l.length≤2097152∧∀ x∈l,iH 2097152 x):yF l l=some (true,()):=by
 have hl:=h.1
 rw[Pz,bn (by simp)]
 exact nA (fun i=>oq l l i) l _ (fun i hi=>by
  show oq l l i=_
  rw[E8,an,al,al,ci hi,Dl _ (h.2 _ (aV hi)),aa,bn (by simp),ch hi (by omega)]) (by
  show oq l l _=_
  rw[E8,bn (by simp)])
theorem MO(l:List bF)(k:Int)(h:l.length≤2097152∧∀ x∈l,iH 2097152 x)(hk:0≤k)(hb:k+6291456≤2305843009213693952):∃ k' l',yQ l k=some (k',l',())∧yJ l' k=some (k',())∧l'.length=l.length∧k≤k'∧k'≤k+6291456:=by
 have hl:=h.1
 rw[PQ]
 have step:∀ (a:List bF) (k:Int) (i:Nat) (hi:i<a.length),a.length≤4294967296→(iH 2097152) a[i]→0≤k→k+(3:Nat)≤2305843009213693952→∃ y k',jS a k i=jS (a.set i y) k' ((i+1:Nat):Int)∧k≤k'∧k'≤k+(3:Nat)∧∀ (d:List bF) (hd:i<d.length),d.length≤4294967296→d[i]=y→jO d k i=jO d k' ((i+1:Nat):Int):=by
  intro a k i hi ha hp hk hb
  have c:(0:Int)≤(i:Int)∧(i:Int)<(a.length:Int):=by omega
  refine⟨⟨k,k+1,kZ (k+1+1)⟩,k+1+1+1,?_,by omega,by omega,fun d hd hdl hdy=>?_⟩
  ·show jS a k i=jS _ _ _
   rw[Fq,ak c.2,bm c,aq (n:=k+1),aq (n:=k+1+1),aq (n:=k+1+1+1),ch hi (by omega),jU _ (by omega)]
   simp only[aX,bm c,aa,af,mc,hi,List.set_set]
  ·show jO d k i=jO _ _ _
   have c2:(0:Int)≤(i:Int)∧(i:Int)<(d.length:Int):=by omega
   rw[Fg,ak c2.2,aq (n:=k+1),aq (n:=k+1+1),aq (n:=k+1+1+1),ch hd (by omega),jU _ (by omega),ci hd,hdy]
   simp only[bm c2,aa,decide_true,Bool.not_true,Bool.false_eq_true,if_false]
 obtain⟨k',l',e1,e2,e3,e4,e5⟩:=zc (fun a k i=>jS a k i) (fun a k i=>jO a k i) (iH 2097152) 3 2305843009213693952
  (fun a k=>by show jS a k _=_;rw[Fq,bn (by simp)])
  (fun a k=>by show jO a k _=_;rw[Fg,bn (by simp)])
  step l k (by omega) (h.2) hk (by omega)
 exact⟨k',l',e1,by rw[PF];exact e2,e3,e4,by omega⟩
theorem Mt(x:bo)(h:kp 2097152 x):yx x x=some (true,()):=by
 unfold kp at h
 rw[Po]
 rw[Dl _ (h.2)]
 simp
theorem Mu(l:List bo)(h:l.length≤2097152∧∀ x∈l,kp 2097152 x):yy l l=some (true,()):=by
 have hl:=h.1
 rw[Pn,bn (by simp)]
 exact nA (fun i=>oi l l i) l _ (fun i hi=>by
  show oi l l i=_
  rw[E3,an,al,al,ci hi,Mt _ (h.2 _ (aV hi)),aa,bn (by simp),ch hi (by omega)]) (by
  show oi l l _=_
  rw[E3,bn (by simp)])
theorem MI(l:List bo)(k:Int)(h:l.length≤2097152∧∀ x∈l,kp 2097152 x)(hk:0≤k)(hb:k+10485760≤2305843009213693952):∃ k' l',yK l k=some (k',l',())∧yG l' k=some (k',())∧l'.length=l.length∧k≤k'∧k'≤k+10485760:=by
 have hl:=h.1
 rw[PG]
 have step:∀ (a:List bo) (k:Int) (i:Nat) (hi:i<a.length),a.length≤4294967296→(kp 2097152) a[i]→0≤k→k+(5:Nat)≤2305843009213693952→∃ y k',jP a k i=jP (a.set i y) k' ((i+1:Nat):Int)∧k≤k'∧k'≤k+(5:Nat)∧∀ (d:List bo) (hd:i<d.length),d.length≤4294967296→d[i]=y→jM d k i=jM d k' ((i+1:Nat):Int):=by
  intro a k i hi ha hp hk hb
  have c:(0:Int)≤(i:Int)∧(i:Int)<(a.length:Int):=by omega
  refine⟨⟨k,kZ (k+1),⟨k+1+1,k+1+1+1,kZ (k+1+1+1+1)⟩⟩,k+1+1+1+1+1,?_,by omega,by omega,fun d hd hdl hdy=>?_⟩
  ·show jP a k i=jP _ _ _
   rw[Fh,ak c.2,bm c,aq (n:=k+1),aq (n:=k+1+1),aq (n:=k+1+1+1),aq (n:=k+1+1+1+1),aq (n:=k+1+1+1+1+1),ch hi (by omega),jU _ (by omega),jU _ (by omega)]
   simp only[aX,bm c,aa,af,mc,hi,List.set_set]
  ·show jM d k i=jM _ _ _
   have c2:(0:Int)≤(i:Int)∧(i:Int)<(d.length:Int):=by omega
   rw[E9,ak c2.2,aq (n:=k+1),aq (n:=k+1+1),aq (n:=k+1+1+1),aq (n:=k+1+1+1+1),aq (n:=k+1+1+1+1+1),ch hd (by omega),jU _ (by omega),jU _ (by omega),ci hd,hdy]
   simp only[bm c2,aa,decide_true,Bool.not_true,Bool.false_eq_true,if_false]
 obtain⟨k',l',e1,e2,e3,e4,e5⟩:=zc (fun a k i=>jP a k i) (fun a k i=>jM a k i) (kp 2097152) 5 2305843009213693952
  (fun a k=>by show jP a k _=_;rw[Fh,bn (by simp)])
  (fun a k=>by show jM a k _=_;rw[E9,bn (by simp)])
  step l k (by omega) (h.2) hk (by omega)
 exact⟨k',l',e1,by rw[PB];exact e2,e3,e4,by omega⟩
theorem MB(x:bE)(h:gZ 2097152 x):yE x x=some (true,()):=by
 unfold gZ at h
 rw[Px]
 rw[MC _ (h.1),Mu _ (h.2)]
 simp
theorem MN(x:bE)(k:Int)(h:gZ 2097152 x)(hk:0≤k)(hb:k+16777216≤2305843009213693952):∃ k' x',yP x k=some (k',x',())∧yI x' k=some (k',())∧k≤k'∧k'≤k+16777216:=by
 unfold gZ at h
 obtain⟨k0,x0,a0,b0,_,c0,d0⟩:=MO x.Vars k (h.1) (by omega) (by omega)
 obtain⟨k1,x1,a1,b1,_,c1,d1⟩:=MI x.Cells k0 (h.2) (by omega) (by omega)
 refine⟨k1,⟨x0,x1,x.Nr,x.Err⟩,?_,?_,by omega,by omega⟩
 ·rw[PN,a0,aa,a1,aa]
 ·rw[PE,b0,aa,ap,b1,aa,ap]
theorem Mx(l:List Int)(h:l.length≤2097152):yB l l=some (true,()):=by
 have hl:=h
 rw[Pr,bn (by simp)]
 exact nA (fun i=>ol l l i) l _ (fun i hi=>by
  show ol l l i=_
  rw[E5,an,al,al,bn (by simp),ch hi (by omega)]) (by
  show ol l l _=_
  rw[E5,bn (by simp)])
theorem MK(l:List Int)(k:Int)(h:l.length≤2097152)(hk:0≤k)(hb:k+2097152≤2305843009213693952):∃ k' l',yM l k=some (k',l',())∧yH l' k=some (k',())∧l'.length=l.length∧k≤k'∧k'≤k+2097152:=by
 have hl:=h
 rw[PI]
 have step:∀ (a:List Int) (k:Int) (i:Nat) (hi:i<a.length),a.length≤4294967296→(fun _=>True) a[i]→0≤k→k+(1:Nat)≤2305843009213693952→∃ y k',jQ a k i=jQ (a.set i y) k' ((i+1:Nat):Int)∧k≤k'∧k'≤k+(1:Nat)∧∀ (d:List Int) (hd:i<d.length),d.length≤4294967296→d[i]=y→jN d k i=jN d k' ((i+1:Nat):Int):=by
  intro a k i hi ha hp hk hb
  have c:(0:Int)≤(i:Int)∧(i:Int)<(a.length:Int):=by omega
  refine⟨k,k+1,?_,by omega,by omega,fun d hd hdl hdy=>?_⟩
  ·show jQ a k i=jQ _ _ _
   rw[Fj,ak c.2,bm c,aq (n:=k+1),ch hi (by omega),af]
  ·show jN d k i=jN _ _ _
   have c2:(0:Int)≤(i:Int)∧(i:Int)<(d.length:Int):=by omega
   rw[Fe,ak c2.2,bm c2,ci hd,hdy,bn (by simp),aq (n:=k+1),ch hd (by omega)]
 obtain⟨k',l',e1,e2,e3,e4,e5⟩:=zc (fun a k i=>jQ a k i) (fun a k i=>jN a k i) (fun _=>True) 1 2305843009213693952
  (fun a k=>by show jQ a k _=_;rw[Fj,bn (by simp)])
  (fun a k=>by show jN a k _=_;rw[Fe,bn (by simp)])
  step l k (by omega) (fun _ _=>trivial) hk (by omega)
 exact⟨k',l',e1,by rw[PC];exact e2,e3,e4,by omega⟩
theorem My(x:bz)(h:gy 2097152 x):qG x x=some (true,()):=by
 unfold gy at h
 rw[Ps]
 rw[MB _ (h.1),Mx _ (h.2.1)]
 simp
theorem ML(x:bz)(k:Int)(h:gy 2097152 x)(hk:0≤k)(hb:k+18874368≤2305843009213693952):∃ k' x',yN x k=some (k',x',())∧tD x' k=some (k',())∧k≤k'∧k'≤k+18874368:=by
 unfold gy at h
 obtain⟨k0,x0,a0,b0,c0,d0⟩:=MN x.State k (h.1) (by omega) (by omega)
 obtain⟨k1,x1,a1,b1,_,c1,d1⟩:=MK x.Done k0 (h.2.1) (by omega) (by omega)
 refine⟨k1,⟨x0,x1,x.Out⟩,?_,?_,by omega,by omega⟩
 ·rw[PJ,a0,aa,a1,aa]
 ·rw[PD,b0,aa,ap,b1,aa,ap]
theorem Dt(l:List (List Int))(n:Int)(h:l.length≤9223372036854775807∧∀ x∈l,x.length≤9223372036854775807)(h0:0≤n)(h1:n≤1048576):∃ r,tK l n=some (r,())∧r≤1048576∧(0≤r→l.length≤1048576∧∀ x∈l,x.length≤1048576):=by
 have hl:=h.1
 rw[PW,aq (n:=n-(l.length:Int))]
 by_cases c:n-(l.length:Int)<0
 ·rw[ak c];exact⟨-1,rfl,by omega,fun h=>by omega⟩
 ·rw[aj c]
  have key:∀ (d i:Nat) (k:Int),i+d=l.length→0≤k→k≤1048576→∃ r,tL l k i=some (r,())∧r≤1048576∧(0≤r→∀ j (h:j<l.length),i≤j→l[j].length≤1048576):=by
   intro d
   induction d with
   | zero =>
    intro i k hd k0 k1
    rw[Fz,ap]
    exact⟨k,rfl,k1,fun _ j hj hij=>by omega⟩
   | succ d ih =>
    intro i k hd k0 k1
    have hi:i<l.length:=by omega
    have hx:=h.2 _ (aV hi)
    rw[Fz,an,al,ci hi,ch hi (by omega),aq (n:=k-(l[i].length:Int))]
    by_cases g:k-(l[i].length:Int)<0
    ·rw[ak g];exact⟨-1,rfl,by omega,fun h=>by omega⟩
    ·rw[aj g]
     obtain⟨r,e1,e2,e3⟩:=ih (i+1) (k-(l[i].length:Int)) (by omega) (by omega) (by omega)
     refine⟨r,e1,e2,fun hr j hj hij=>?_⟩
     by_cases e:j=i
     ·subst e;omega
     ·exact e3 hr j hj (by omega)
  obtain⟨r,e1,e2,e3⟩:=key l.length 0 (n-l.length) (by omega) (by omega) (by omega)
  exact⟨r,e1,e2,fun hr=>⟨by omega,fun x hx=>by
   obtain⟨j,hj,rfl⟩:=bk.1 hx
   exact e3 hr j hj (by omega)⟩⟩
theorem Dv(l:List (List Int))(h:l.length≤1048576∧∀ x∈l,x.length≤1048576):tN l=some (l,()):=by
 rw[P4,bm (by have:=h.1;rw[cg];omega)]
 have:=AX (fun acc i=>oz l acc i) id l (fun acc i hi ha=>by
  show oz l acc i=_
  have hl:=h.1
  rw[FC,an,al,al,ch hi (by omega),af,cE hi]
  rfl) (fun acc ha=>by
  show oz l acc _=_
  rw[FC,bn (by simp)]) (List.replicate (List.length l:Int).toNat []) (by simp)
 rw[List.map_id]at this
 exact this
theorem Dk(l:List (List Int))(h:l.length≤2097152∧∀ x∈l,x.length≤2097152):tB l l=some (true,()):=by
 have hl:=h.1
 rw[Py,bn (by simp)]
 exact nA (fun i=>oo l l i) l _ (fun i hi=>by
  show oo l l i=_
  rw[E7,an,al,al,bn (by simp),ch hi (by omega)]) (by
  show oo l l _=_
  rw[E7,bn (by simp)])
theorem Dq(l:List (List Int))(k:Int)(h:l.length≤2097152∧∀ x∈l,x.length≤2097152)(hk:0≤k)(hb:k+2097152≤2305843009213693952):∃ k',tF l k=some (k',())∧k≤k'∧k'≤k+2097152:=by
 have hl:=h.1
 rw[PO]
 obtain⟨k',e1,e2,e3⟩:=zb (fun a k i=>my a k i) (fun _=>True) 1 2305843009213693952 (fun a k=>by show my a k _=_;rw[Fm,bn (by simp)])
  (fun a k i hi ha hp hk hb=>⟨kZ k,k+1,by
   show my a k i=my _ _ _
   rw[Fm,an,jU _ (by omega),aa,al,aq (n:=k+1),ch hi (by omega),af],by omega,by omega⟩) l k (by omega) (fun _ _=>trivial) hk (by omega)
 exact⟨k',e1,e2,by omega⟩
def eG(M:Nat)(x:bL):Prop:=x.S.length≤M
def gY(M:Nat)(x:bA):Prop:=x.S.length≤M
def fV(M:Nat)(x:bM):Prop:=(x.Vars.length≤M∧∀ y∈x.Vars,y.length≤M)∧(x.Cells.length≤M∧∀ y∈x.Cells,y.length≤M)∧(x.Start.length≤M∧∀ y∈x.Start,eG M y)∧(x.Main.length≤M∧∀ y∈x.Main,eG M y)
def kq(M:Nat)(x:bC):Prop:=(x.Vars.length≤M∧∀ y∈x.Vars,y.length≤M)∧(x.Cells.length≤M∧∀ y∈x.Cells,y.length≤M)∧(x.Start.length≤M∧∀ y∈x.Start,gY M y)∧(x.Main.length≤M∧∀ y∈x.Main,gY M y)
theorem Dm{d:Nat}{x:bL}(h:fb (G:=gam) (d+3) (.nm 1) x):eG 9223372036854775807 x:=by
 have h':_∧_∧(x.S.length≤9223372036854775807∧_)∧_:=h
 unfold eG
 exact h'.2.2.1.1
theorem MF{d:Nat}{x:bM}(h:fb (G:=gam) (d+5) (.nm 0) x):fV 9223372036854775807 x:=by
 have h':(x.Vars.length≤9223372036854775807∧∀ y∈x.Vars,(y.length≤9223372036854775807∧∀ b∈y,0≤b∧b≤255))∧(x.Cells.length≤9223372036854775807∧∀ y∈x.Cells,(y.length≤9223372036854775807∧∀ b∈y,0≤b∧b≤255))∧(x.Start.length≤9223372036854775807∧∀ y∈x.Start,fb (G:=gam) (d+3) (.nm 1) y)∧(x.Main.length≤9223372036854775807∧∀ y∈x.Main,fb (G:=gam) (d+3) (.nm 1) y)∧_:=h
 unfold fV
 exact⟨⟨h'.1.1,fun y hy=>(h'.1.2 y hy).1⟩,⟨h'.2.1.1,fun y hy=>(h'.2.1.2 y hy).1⟩,⟨h'.2.2.1.1,fun y hy=>Dm (d:=d+0) (h'.2.2.1.2 y hy)⟩,⟨h'.2.2.2.1.1,fun y hy=>Dm (d:=d+0) (h'.2.2.2.1.2 y hy)⟩⟩
theorem MR(x:bL)(n:Int)(h:eG 9223372036854775807 x)(h0:0≤n)(h1:n≤1048576):∃ r,tI x n=some (r,())∧r≤1048576∧(0≤r→eG 1048576 x):=by
 unfold eG at h
 rw[PU]
 have hl0:=h
 rw[aq (n:=n-(x.S.length:Int))]
 by_cases c0:n-(x.S.length:Int)<0
 ·rw[ak c0];exact⟨-1,rfl,by omega,fun h=>by omega⟩
 rw[aj c0]
 exact⟨_,rfl,by omega,fun _=>by unfold eG;exact by omega⟩
def kJ(x:bL):bA:=⟨x.Code,x.N,x.S⟩
theorem MV(x:bL)(h:eG 1048576 x):yU x=some (kJ x,()):=by
 unfold eG at h
 rw[P0]
 rfl
theorem Dn{x:bL}{M:Nat}(h:eG M x):gY M (kJ x):=by
 unfold eG at h
 unfold gY kJ
 exact h
theorem Mz(x:bA)(h:gY 2097152 x):yC x x=some (true,()):=by
 unfold gY at h
 rw[Pv]
 simp
theorem Ds(l:List bL)(n:Int)(h:l.length≤9223372036854775807∧∀ x∈l,eG 9223372036854775807 x)(h0:0≤n)(h1:n≤1048576):∃ r,tJ l n=some (r,())∧r≤1048576∧(0≤r→l.length≤1048576∧∀ x∈l,eG 1048576 x):=by
 have hl:=h.1
 rw[PT,aq (n:=n-(l.length:Int))]
 by_cases c:n-(l.length:Int)<0
 ·rw[ak c];exact⟨-1,rfl,by omega,fun h=>by omega⟩
 ·rw[aj c]
  obtain⟨r,e1,e2,e3⟩:=IK (fun k i=>ou l k i) tI l (eG 1048576) (by omega) (fun x hx k k0 k1=>MR x k (h.2 x hx) k0 k1)
   (fun k=>by show ou l k _=_;rw[Fw,bn (by simp)])
   (fun k i hi=>by show ou l k i=_;rw[Fw,an,al,ci hi,ch hi (by omega)]) (n-l.length) (by omega) (by omega)
  exact⟨r,e1,e2,fun hr=>⟨by omega,e3 hr⟩⟩
theorem Du(l:List bL)(h:l.length≤1048576∧∀ x∈l,eG 1048576 x):tM l=some (l.map kJ,()):=by
 rw[PZ,bm (by have:=h.1;rw[cg];omega)]
 have:=AX (fun acc i=>ox l acc i) kJ l (fun acc i hi ha=>by
  show ox l acc i=_
  have hl:=h.1
  rw[FB,an,al,ci hi,MV _ (h.2 _ (aV hi)),aa,al,ch hi (by omega),af]
  ) (fun acc ha=>by
  show ox l acc _=_
  rw[FB,bn (by simp)]) (List.replicate (List.length l:Int).toNat cG) (by simp)
 exact this
theorem Dj(l:List bA)(h:l.length≤2097152∧∀ x∈l,gY 2097152 x):tA l l=some (true,()):=by
 have hl:=h.1
 rw[Pu,bn (by simp)]
 exact nA (fun i=>om l l i) l _ (fun i hi=>by
  show om l l i=_
  rw[E6,an,al,al,ci hi,Mz _ (h.2 _ (aV hi)),aa,bn (by simp),ch hi (by omega)]) (by
  show om l l _=_
  rw[E6,bn (by simp)])
theorem Dp(l:List bA)(k:Int)(h:l.length≤2097152∧∀ x∈l,gY 2097152 x)(hk:0≤k)(hb:k+6291456≤2305843009213693952):∃ k',tE l k=some (k',())∧k≤k'∧k'≤k+6291456:=by
 have hl:=h.1
 rw[PK]
 have step:∀ (a:List bA) (k:Int) (i:Nat) (hi:i<a.length),a.length≤4294967296→(gY 2097152) a[i]→0≤k→k+(3:Nat)≤2305843009213693952→∃ y k',jR a k i=jR (a.set i y) k' ((i+1:Nat):Int)∧k≤k'∧k'≤k+(3:Nat):=by
  intro a k i hi ha hp hk hb
  have c:(0:Int)≤(i:Int)∧(i:Int)<(a.length:Int):=by omega
  refine⟨⟨k,k+1,kZ (k+1+1)⟩,k+1+1+1,?_,by omega,by omega⟩
  show jR a k i=jR _ _ _
  rw[Fl,ak c.2,bm c,aq (n:=k+1),aq (n:=k+1+1),aq (n:=k+1+1+1),ch hi (by omega),jU _ (by omega)]
  simp only[aX,bm c,aa,af,mc,hi,List.set_set]
 obtain⟨k',e1,e2,e3⟩:=zb (fun a k i=>jR a k i) (gY 2097152) 3 2305843009213693952 (fun a k=>by show jR a k _=_;rw[Fl,bn (by simp)]) step l k (by omega) h.2 hk (by omega)
 exact⟨k',e1,e2,by omega⟩
theorem MS(x:bM)(n:Int)(h:fV 9223372036854775807 x)(h0:0≤n)(h1:n≤1048576):∃ r,yS x n=some (r,())∧r≤1048576∧(0≤r→fV 1048576 x):=by
 unfold fV at h
 rw[PV]
 obtain⟨r0,e0,f0,g0⟩:=Dt x.Vars n (h.1) (by omega) (by omega)
 rw[e0,aa]
 dsimp only
 by_cases c0:r0<0
 ·rw[ak c0];exact⟨-1,rfl,by omega,fun h=>by omega⟩
 rw[aj c0]
 obtain⟨r1,e1,f1,g1⟩:=Dt x.Cells r0 (h.2.1) (by omega) (by omega)
 rw[e1,aa]
 dsimp only
 by_cases c1:r1<0
 ·rw[ak c1];exact⟨-1,rfl,by omega,fun h=>by omega⟩
 rw[aj c1]
 obtain⟨r2,e2,f2,g2⟩:=Ds x.Start r1 (h.2.2.1) (by omega) (by omega)
 rw[e2,aa]
 dsimp only
 by_cases c2:r2<0
 ·rw[ak c2];exact⟨-1,rfl,by omega,fun h=>by omega⟩
 rw[aj c2]
 obtain⟨r3,e3,f3,g3⟩:=Ds x.Main r2 (h.2.2.2) (by omega) (by omega)
 rw[e3,aa]
 dsimp only
 by_cases c3:r3<0
 ·rw[ak c3];exact⟨-1,rfl,by omega,fun h=>by omega⟩
 rw[aj c3]
 exact⟨_,rfl,by omega,fun _=>by unfold fV;exact⟨g0 (by omega),g1 (by omega),g2 (by omega),g3 (by omega)⟩⟩
def me(x:bM):bC:=⟨x.Vars,x.Cells,(x.Start.map kJ),(x.Main.map kJ)⟩
theorem MW(x:bM)(h:fV 1048576 x):oy x=some (me x,()):=by
 unfold fV at h
 rw[P3]
 rw[Dv _ (h.1),aa]
 rw[Dv _ (h.2.1),aa]
 rw[Du _ (h.2.2.1),aa]
 rw[Du _ (h.2.2.2),aa]
 rfl
theorem MH{x:bM}{M:Nat}(h:fV M x):kq M (me x):=by
 unfold fV at h
 unfold kq me
 exact⟨h.1,h.2.1,⟨by rw[bh];exact(h.2.2.1).1,fun y hy=>by obtain⟨x',hx',rfl⟩:=List.mem_map.1 hy;exact Dn ((h.2.2.1).2 x' hx')⟩,⟨by rw[bh];exact(h.2.2.2).1,fun y hy=>by obtain⟨x',hx',rfl⟩:=List.mem_map.1 hy;exact Dn ((h.2.2.2).2 x' hx')⟩⟩
theorem MA(x:bC)(h:kq 2097152 x):yD x x=some (true,()):=by
 unfold kq at h
 rw[Pw]
 rw[Dk _ (h.1),Dk _ (h.2.1),Dj _ (h.2.2.1),Dj _ (h.2.2.2)]
 simp
theorem MM(x:bC)(k:Int)(h:kq 2097152 x)(hk:0≤k)(hb:k+16777216≤2305843009213693952):∃ k',yO x k=some (k',())∧k≤k'∧k'≤k+16777216:=by
 unfold kq at h
 obtain⟨k0,a0,c0,d0⟩:=Dq x.Vars k (h.1) (by omega) (by omega)
 obtain⟨k1,a1,c1,d1⟩:=Dq x.Cells k0 (h.2.1) (by omega) (by omega)
 obtain⟨k2,a2,c2,d2⟩:=Dp x.Start k1 (h.2.2.1) (by omega) (by omega)
 obtain⟨k3,a3,c3,d3⟩:=Dp x.Main k2 (h.2.2.2) (by omega) (by omega)
 refine⟨k3,?_,by omega,by omega⟩
 rw[PL,a0,aa,a1,aa,a2,aa,a3,aa]
theorem T8(l:List Int)(hl:l.length≤9223372036854775807):AL l=some (!decide ((10:Int)∈l),()):=by
 rw[T7]
 have key:∀ (d i:Nat),i+d=l.length→vf l i=some (!decide ((10:Int)∈l.drop i),()):=by
  intro d
  induction d with
  | zero =>
   intro i hd
   rw[H7,ap,aW (by omega)];simp
  | succ d ih =>
   intro i hd
   have hi:i<l.length:=by omega
   rw[H7,an,al,ci hi,ch hi hl,ih (i+1) (by omega),ai hi]
   by_cases h:l[i]=10
   ·rw[ak h,h];simp
   ·rw[aj h]
    have h':¬ (10:Int)=l[i]:=fun e=>h e.symm
    simp only[aK,h',false_or]
 have:=key l.length 0 (by omega)
 simpa using this
def fq(c:bq):Bool :=
 if c.Who = -1 then decide (c.Seq=0)&&decide (c.Line=[])
 else decide (0≤c.Who∧c.Who≤2)&&(decide (1≤c.Seq∧c.Seq≤100000)&&(decide ((c.Line.length:Int)≤60) && !decide ((10:Int)∈c.Line)))
theorem Sd(c:bq)(hl:c.Line.length≤9223372036854775807):zN c=some (fq c,()):=by
 rw[Sc]
 unfold fq
 simp only[d8,T8 _ hl,aa,ab]
 by_cases h1:c.Who = -1
 ·simp only[bm h1]
  by_cases h2:c.Seq=0
  ·simp only[bm h2,ac h2,Bool.true_and]
  ·simp only[bn h2,ae h2,Bool.false_and]
 ·simp only[bn h1]
  by_cases h2:0≤c.Who∧c.Who≤2
  ·simp only[bm h2,ac h2,Bool.true_and]
   by_cases h3:1≤c.Seq∧c.Seq≤100000
   ·simp only[bm h3,ac h3,Bool.true_and]
    by_cases h4:(c.Line.length:Int)≤60
    ·simp only[bm h4,ac h4,Bool.true_and]
    ·simp only[bn h4,ae h4,Bool.false_and]
   ·simp only[bn h3,ae h3,Bool.false_and]
  ·simp only[bn h2,ae h2,Bool.false_and]
theorem CL{d:Nat}{x:bL}(h:fb (G:=gam) (d+3) (.nm 1) x):∀ b∈x.S,0≤b∧b≤255:=by
 have h':_∧_∧(x.S.length≤9223372036854775807∧∀ b∈x.S,0≤b∧b≤255)∧_:=h
 exact h'.2.2.1.2
def BE(x:bM):Prop:=(∀ y∈x.Start,∀ b∈y.S,0≤b∧b≤255)∧∀ y∈x.Main,∀ b∈y.S,0≤b∧b≤255
theorem L7{d:Nat}{x:bM}(h:fb (G:=gam) (d+5) (.nm 0) x):BE x:=by
 have h':_∧_∧(x.Start.length≤9223372036854775807∧∀ y∈x.Start,fb (G:=gam) (d+3) (.nm 1) y)∧(x.Main.length≤9223372036854775807∧∀ y∈x.Main,fb (G:=gam) (d+3) (.nm 1) y)∧_:=h
 exact⟨fun y hy=>CL (d:=d+0) (h'.2.2.1.2 y hy),fun y hy=>CL (d:=d+0) (h'.2.2.2.1.2 y hy)⟩
theorem BV{l:List bL}(h:l.length≤1048576∧∀ y∈l,eG 1048576 y)(hb:∀ y∈l,∀ b∈y.S,0≤b∧b≤255):lM (l.map kJ):=by
 refine⟨by rw[bh];have:=h.1;omega,fun o ho=>?_⟩
 obtain⟨y,hy,rfl⟩:=List.mem_map.1 ho
 have:=h.2 y hy
 unfold eG at this
 exact⟨hb y hy,by show y.S.length≤_;omega⟩
theorem Kx{x:bM}(h:fV 1048576 x)(hb:BE x):gV (me x):=by
 unfold fV at h
 obtain⟨h1,h2,h3,h4⟩:=h
 exact⟨⟨by show x.Vars.length≤_;have:=h1.1;omega,fun y hy=>by have:=h1.2 y hy;omega⟩,⟨by show x.Cells.length≤_;have:=h2.1;omega,fun y hy=>by have:=h2.2 y hy;omega⟩,BV h3 hb.1,BV h4 hb.2⟩
theorem Dg{x:bM}(h:fV 1048576 x):kq 2097152 (me x):=by
 have:=MH h
 unfold kq gY at *
 obtain⟨h1,h2,h3,h4⟩:=this
 exact⟨⟨by omega,fun y hy=>by have:=h1.2 y hy;omega⟩,⟨by omega,fun y hy=>by have:=h2.2 y hy;omega⟩,⟨by omega,fun y hy=>by have:=h3.2 y hy;omega⟩,⟨by omega,fun y hy=>by have:=h4.2 y hy;omega⟩⟩
theorem StG.gi{nv:Nat}{nc:Int}{s:bE}(h:StG nv nc s)(hn:nv≤100000):gZ 2097152 s:=by
 obtain⟨⟨h1,h2⟩,⟨c1,c2,c3⟩,_⟩:=h
 unfold gZ
 refine⟨⟨by omega,fun v hv=>?_⟩,⟨by omega,fun c hc=>?_⟩⟩
 ·have:=(h2 v hv).bd.2
  unfold iH;omega
 ·obtain⟨_,_,g3,g4⟩:=c2 c hc
  have:=g4.bd.2
  unfold kp iH
  exact⟨by omega,by omega⟩
theorem K7(l:List Int)(hl:l.length≤4294967296):Bb l=some (l,()):=by
 rw[Vj,bm (show 0+l.length≤room by rw[cg];omega)]
 cases l with
 | nil=>exact lX _
 | cons a l=>rfl
theorem K6(l:List bF)(hl:l.length≤4294967296):pf l=some (l,()):=by
 rw[vO,bm (show 0+l.length≤room by rw[cg];omega)]
 cases l with
 | nil=>exact lX _
 | cons a l=>rfl
theorem K5(l:List bo)(hl:l.length≤4294967296):rN l=some (l,()):=by
 rw[Ba,bm (show 0+l.length≤room by rw[cg];omega)]
 cases l with
 | nil=>exact lX _
 | cons a l=>rfl
theorem rm{n:Nat}(h:n≤2097152):0+n≤room:=by rw[cg];omega
theorem LC(x:bE)(h:gZ 2097152 x):fY x=some (x,()):=by
 unfold gZ at h
 rw[xH,K6 _ (by have:=h.1.1;omega),aa,K5 _ (by have:=h.2.1;omega)];rfl
theorem LE(x:bE)(h:gZ 2097152 x):jY x=some (x,()):=by
 unfold gZ at h
 rw[HD,bm (rm h.1.1),bm (rm h.2.1)];rfl
theorem LB(x:bz)(h:gy 2097152 x):xG x=some (x,()):=by
 unfold gy at h
 rw[NS,LC _ h.1,aa,K7 _ (by have:=h.2.1;omega)];rfl
theorem LD(x:bz)(h:gy 2097152 x):Ar x=some (x,()):=by
 unfold gy at h
 rw[Tz,LE _ h.1,aa,bm (rm h.2.1)];rfl
def MG(p:bC)(m:bz):Prop:=StG p.Vars.length p.Cells.length m.State∧(m.Done.length=3∧∀ n∈m.Done,0≤n∧n≤100000)∧m.Out.length≤1500
theorem MG.gi{p:bC}{m:bz}(hp:PrI p)(h:MG p m):gy 2097152 m:=by
 have:=hp.nv
 exact⟨h.1.gi (by omega),by have:=h.2.1.1;omega,by have:=h.2.2;omega⟩
theorem MG.to{p:bC}{m:bz}(hp:PrI p)(h:MG p m):iZ p m=true∧gW m.State∧m.Done.length≤2097152:=by
 have:=hp.nv
 obtain⟨h1,⟨h2,h3⟩,h4⟩:=h
 obtain⟨b1,b2⟩:=h1.to (by omega)
 refine⟨?_,b2,by omega⟩
 unfold iZ
 have e:(m.Done.any fun n=>!decide (0≤n∧n≤100000))=false:=List.any_eq_false.2 fun n hn=>by rw[ac (h3 n hn)];decide
 rw[hp.1,b1,e,ac (show(m.Done.length:Int)=3 by omega),ac (show(m.Out.length:Int)≤1500 by omega)]
 rfl
theorem MG.of{p:bC}{m:bz}(h:iZ p m=true)(hb:gW m.State):d7 p=true∧MG p m:=by
 unfold iZ at h
 rw[az,az,az,az,ab,ab,Bool.not_eq_true',List.any_eq_false]at h
 obtain⟨h1,h2,h3,h4,h5⟩:=h
 exact⟨h1,StG.of h2 hb,⟨by omega,fun n hn=>by have:=h4 n hn;simpa using this⟩,by omega⟩
noncomputable def dK(p:bC):bz:=⟨(iB p).1,[0,0,0],(iB p).2⟩
theorem FX{p:bC}(hp:PrI p):sY p=some (dK p,())∧Au p=some (dK p,())∧MG p (dK p):=by
 obtain⟨e1,e2,e3,e4,e5⟩:=Ux hp
 rw[DJ,TB,nP p hp.2]
 have c:¬ ((iB p).2.length:Int)>1500:=by omega
 simp only[aa,hp.1,Bool.not_true,Bool.false_eq_true,if_false,e1,e2,ae c]
 refine⟨rfl,rfl,e3,⟨rfl,fun n hn=>?_⟩,by show(iB p).2.length≤1500;omega⟩
 have:n=0:=by
  rcases aK.1 hn with h | hn
  ·exact h
  rcases aK.1 hn with h | hn
  ·exact h
  exact aJ.1 hn
 omega
def noM:bz:=⟨⟨[],[],0,0⟩,[],[]⟩
theorem Gf:gy 2097152 noM:=⟨⟨⟨Nat.zero_le _,fun y hy=>by cases hy⟩,⟨Nat.zero_le _,fun y hy=>by cases hy⟩⟩,Nat.zero_le _,Nat.zero_le _⟩
noncomputable def tX(p:bC):bz:=if d7 p=true then dK p else noM
theorem QE{p:bC}(hp:gV p):sY p=some (tX p,()):=by
 unfold tX
 by_cases c:d7 p=true
 ·rw[bm c];exact(FX ⟨c,hp⟩).1
 ·have c':d7 p=false:=by simpa using c
  rw[bn c,DJ,nP p hp]
  simp only[aa,c',Bool.not_false,if_true]
  rfl
theorem Qe(l:List Int):xP l=some (decide ((l.length:Int)≤60) && !decide ((10:Int)∈l),()):=by
 have e:decide ([(10:Int)] <:+: l)=decide ((10:Int)∈l):=decide_eq_decide.2 ⟨fun h=>List.singleton_sublist.1 (List.IsInfix.sublist h),fun h=>by
  obtain⟨s,t,rfl⟩:=List.append_of_mem h
  exact⟨s,t,by simp⟩⟩
 rw[N6]
 by_cases c:(l.length:Int)≤60
 ·rw[ak c,wK l [10] (by omega),e,ac c,Bool.true_and];rfl
 ·rw[aj c,ae c,Bool.false_and]
theorem Lg(c:bq):xm c=some (fq c,()):=by
 rw[M4,Qe,eI,eI]
 simp only[aa]
 unfold fq
 by_cases h:c.Who = -1
 ·rw[ak h,bm h]
  cases decide (c.Seq=0) <;> rfl
 ·rw[aj h,bn h]
  cases decide (0≤c.Who∧c.Who≤2) <;> cases decide (1≤c.Seq∧c.Seq≤100000) <;> cases decide ((c.Line.length:Int)≤60) <;> rfl
noncomputable def doV(p:bC)(m:bz)(c:bq):bz :=
 if c.Who<0 then m else if c.Seq≤m.Done.getD c.Who.toNat 0 then m
 else if m.State.Err=0 then
  (if m.Out.length+(fd p m.State c.Line).2.length>1500 then⟨⟨m.State.Vars,m.State.Cells,m.State.Nr,5⟩,m.Done.set c.Who.toNat c.Seq,m.Out⟩
  else⟨(fd p m.State c.Line).1,m.Done.set c.Who.toNat c.Seq,m.Out++(fd p m.State c.Line).2⟩)
 else⟨m.State,m.Done.set c.Who.toNat c.Seq,m.Out⟩
theorem wG{c:bq}(h:fq c=true)(h0:¬ c.Who<0):c.Who≤2∧(1≤c.Seq∧c.Seq≤100000)∧c.Line.length≤60:=by
 unfold fq at h
 rw[am,az,az,az,ab,ab,ab]at h
 exact⟨h.1.2,h.2.1,by have:=h.2.2.1;omega⟩
theorem CA{p:bC}{m:bz}{c:bq}(hp:PrI p)(hm:MG p m)(hc:fq c=true)(hb:Bt c.Line):MG p (doV p m c):=by
 unfold doV
 by_cases c1:c.Who<0
 ·rw[bm c1];exact hm
 rw[bn c1]
 by_cases c2:c.Seq≤m.Done.getD c.Who.toNat 0
 ·rw[bm c2];exact hm
 rw[bn c2]
 obtain⟨b1,b2,b3⟩:=wG hc c1
 obtain⟨h1,⟨h2,h3⟩,h4⟩:=hm
 have hd:(m.Done.set c.Who.toNat c.Seq).length=3∧∀ n∈m.Done.set c.Who.toNat c.Seq,0≤n∧n≤100000:=⟨by rw[aX];exact h2,fun n hn=>by
  rcases List.mem_or_eq_of_mem_set hn with hn | hn
  ·exact h3 n hn
  ·omega⟩
 by_cases c3:m.State.Err=0
 ·obtain⟨_,_,g1,g2,g3⟩:=tQ hp (h1.i c3) ⟨by omega,hb⟩
  rw[bm c3]
  by_cases c4:m.Out.length+(fd p m.State c.Line).2.length>1500
  ·rw[bm c4]
   exact⟨⟨h1.1,h1.2.1,h1.2.2.1,by show(0:Int)≤5;omega,by show(5:Int)≤7;omega⟩,hd,h4⟩
  ·rw[bn c4]
   exact⟨g1,hd,by show(m.Out++_).length≤_;rw[ag];omega⟩
 ·rw[bn c3]
  exact⟨h1,hd,h4⟩
theorem LQ{p:bC}{m:bz}{c:bq}(hp:PrI p)(hm:MG p m)(hc:fq c=true)(hb:Bt c.Line):As p m c=some (doV p m c,()):=by
 rw[TA,LD m (hm.gi hp),aa]
 dsimp only
 unfold doV
 by_cases c1:c.Who<0
 ·rw[ak c1,bm c1]
 obtain⟨b1,b2,b3⟩:=wG hc c1
 obtain⟨h1,⟨h2,h3⟩,h4⟩:=hm
 rw[aj c1,bn c1,al]
 by_cases c2:c.Seq≤m.Done.getD c.Who.toNat 0
 ·rw[ak c2,bm c2]
 rw[aj c2,bn c2,al]
 by_cases c3:m.State.Err=0
 ·obtain⟨_,e2,g1,g2,g3⟩:=tQ hp (h1.i c3) ⟨by omega,hb⟩
  rw[ac c3,bn (by decide),bm c3,e2,aa]
  dsimp only
  rw[aq]
  by_cases c4:m.Out.length+(fd p m.State c.Line).2.length>1500
  ·rw[an,bm c4]
  ·rw[ap,bn c4,al]
 ·rw[ae c3,bm (by decide),bn c3]
noncomputable def qK(p:bC)(m:bz)(c:bq):bz:=if iZ p m=true∧fq c=true then doV p m c else m
theorem FV{p:bC}{m:bz}{c:bq}(hp:gV p)(hm:gy 2097152 m)(hs:gW m.State)(hb:Bt c.Line):xt p m c=some (qK p m c,()):=by
 rw[Nk,LB m hm,Nn p m hp hs (by have:=hm.2.1;omega),Lg,aa,aa,aa]
 dsimp only
 unfold qK
 by_cases c0:iZ p m=true∧fq c=true
 ·obtain⟨k1,k2⟩:=c0
  obtain⟨hpB,hG⟩:=MG.of k1 hs
  have hP:PrI p:=⟨hpB,hp⟩
  rw[bm (c:=iZ p m=true∧fq c=true) ⟨k1,k2⟩,k1,k2,bn (by decide),bn (by decide)]
  unfold doV
  by_cases c1:c.Who<0
  ·rw[ak c1,bm c1]
  obtain⟨b1,b2,b3⟩:=wG k2 c1
  obtain⟨h1,⟨h2,h3⟩,h4⟩:=hG
  rw[aj c1,bn c1,al]
  by_cases c2:c.Seq≤m.Done.getD c.Who.toNat 0
  ·rw[ak c2,bm c2]
  rw[aj c2,bn c2,al,RX hp hs ⟨by omega,hb⟩ ⟨hs.1.1,hs.2.1⟩,aa]
  have hnv:=hP.nv
  by_cases c3:m.State.Err=0
  ·obtain⟨_,e2,g1,g2,g3⟩:=tQ hP (h1.i c3) ⟨by omega,hb⟩
   have er:mK p m.State c.Line=fd p m.State c.Line:=by unfold mK;rw[bm ⟨hpB,(h1.to (by omega)).1,c3⟩]
   rw[er,bm c3]
   dsimp only
   rw[aq]
   by_cases c4:m.Out.length+(fd p m.State c.Line).2.length>1500
   ·rw[an,bm c4]
   ·rw[ap,bn c4,al]
  ·have er:mK p m.State c.Line=(m.State,[]):=by unfold mK;rw[bn (fun h=>c3 h.2.2)]
   rw[er,bn c3]
   dsimp only
   rw[List.length_nil,aq,ap,al,aH]
 ·rw[bn c0]
  cases k1:iZ p m with
  | false=>rw[bm (by decide)]
  | true =>
   rw[bn (by decide)]
   cases k2:fq c with
   | false=>rw[bm (by decide)]
   | true=>exact absurd ⟨k1,k2⟩ c0
noncomputable def mB(p:bC):List bq→bz→bz
 | [],m=>m
 | c::cs,m=>mB p cs (if fq c=true then doV p m c else m)
theorem Qq{p:bC}(hp:PrI p)(cs:List bq)(hl:cs.length≤2097152)(hb:∀ c∈cs,Bt c.Line)(z:bz):∀ (d i:Nat) (m:bz),i+d=cs.length→MG p m →
  qc cs (cs.length:Int) (i:Int) p z m=some (mB p (cs.drop i) m,())∧MG p (mB p (cs.drop i) m):=by
 intro d
 induction d with
 | zero =>
  intro i m hi hm
  rw[sX,ap,aW (by omega)]
  exact⟨rfl,hm⟩
 | succ d ih =>
  intro i m hi hm
  have hi':i<cs.length:=by omega
  have hbi:=hb _ (aV hi')
  obtain⟨b1,b2,b3⟩:=hm.to hp
  rw[sX,an,al,ci hi',FV hp.2 (hm.gi hp) b2 hbi,aa,ai hi',ch hi' (by omega)]
  dsimp only
  unfold mB qK
  by_cases c:fq cs[i]=true
  ·rw[bm ⟨b1,c⟩,bm c];exact ih (i+1) _ (by omega) (CA hp hm c hbi)
  ·rw[bn (fun h=>c h.2),bn c];exact ih (i+1) _ (by omega) hm
theorem Qs{p:bC}(hp:PrI p)(cs:List bq)(hl:cs.length≤2097152)(hb:∀ c∈cs,Bt c.Line)(hcl:∀ c∈cs,c.Line.length≤2097152)(z:bz):∀ (d i:Nat) (m:bz),i+d=cs.length→MG p m →
  qZ cs (i:Int) p z m=some (mB p (cs.drop i) m,()):=by
 intro d
 induction d with
 | zero =>
  intro i m hi hm
  rw[Ho,ap,aW (by omega)]
  rfl
 | succ d ih =>
  intro i m hi hm
  have hi':i<cs.length:=by omega
  have hbi:=hb _ (aV hi')
  have hli:=hcl _ (aV hi')
  rw[Ho,an,al,ci hi',Sd _ (by omega),aa,ai hi',ch hi' (by omega)]
  dsimp only
  unfold mB
  by_cases c:fq cs[i]=true
  ·rw[bm c,bm c,al,LQ hp hm c hbi,aa]
   exact ih (i+1) _ (by omega) (CA hp hm c hbi)
  ·rw[bn c,bn c];exact ih (i+1) _ (by omega) hm
theorem Qr{p:bC}(hp:gV p)(hp0:d7 p=false)(cs:List bq)(hl:cs.length≤2097152)(hb:∀ c∈cs,Bt c.Line)(z:bz):∀ (d i:Nat),i+d=cs.length→qc cs (cs.length:Int) (i:Int) p z noM=some (noM,()):=by
 have hs:gW noM.State:=⟨⟨Nat.zero_le _,fun v hv=>by cases hv⟩,Nat.zero_le _,fun c hc=>by cases hc⟩
 intro d
 induction d with
 | zero =>
  intro i hi
  rw[sX,ap]
 | succ d ih =>
  intro i hi
  have hi':i<cs.length:=by omega
  have e:qK p noM cs[i]=noM:=by
   unfold qK
   rw[bn (fun h=>by have:=(MG.of h.1 hs).1;rw[hp0]at this;cases this)]
  rw[sX,an,al,ci hi',FV hp Gf hs (hb _ (aV hi')),aa,e,ch hi' (by omega)]
  exact ih (i+1) (by omega)
noncomputable def qJ(p:bC)(cs:List bq):bz:=if d7 p=true then mB p cs (dK p)else noM
theorem Qp{p:bC}{cs:List bq}(hp:gV p)(hl:cs.length≤2097152)(hb:∀ c∈cs,Bt c.Line)(hcl:∀ c∈cs,c.Line.length≤2097152):sW p cs=some (qJ p cs,())∧zX p cs=some (qJ p cs,())∧gy 2097152 (qJ p cs):=by
 unfold qJ
 rw[Nj,Sy,QE hp,SH p hp,aa,aa]
 dsimp only
 by_cases c:d7 p=true
 ·have hP:PrI p:=⟨c,hp⟩
  obtain⟨_,e2,e3⟩:=FX hP
  obtain⟨g1,g2⟩:=Qq hP cs hl hb nu cs.length 0 (dK p) (by omega) e3
  have g3:=Qs hP cs hl hb hcl nu cs.length 0 (dK p) (by omega) e3
  rw[aM]at g1 g2 g3
  unfold tX
  rw[bm c,bm c,c,bn (by decide),e2,aa]
  exact⟨g1,g3,g2.gi hP⟩
 ·have c':d7 p=false:=by simpa using c
  have g:=Qr hp c' cs hl hb nu cs.length 0 (by omega)
  unfold tX
  rw[bn c,bn c,c',bm (by decide)]
  exact⟨g,rfl,Gf⟩
theorem MQ(l:List bJ)(n:Int)(h:l.length≤9223372036854775807∧∀ x∈l,gA 9223372036854775807 x)(h0:0≤n)(h1:n≤1048576):∃ r,yR l n=some (r,())∧r≤1048576∧(0≤r→l.length≤1048576∧∀ x∈l,gA 1048576 x):=by
 have hl:=h.1
 rw[PR,aq (n:=n-(l.length:Int))]
 by_cases c:n-(l.length:Int)<0
 ·rw[ak c];exact⟨-1,rfl,by omega,fun h=>by omega⟩
 ·rw[aj c]
  obtain⟨r,e1,e2,e3⟩:=IK (fun k i=>ot l k i) tH l (gA 1048576) (by omega) (fun x hx k k0 k1=>MP x k (h.2 x hx) k0 k1)
   (fun k=>by show ot l k _=_;rw[Ft,bn (by simp)])
   (fun k i hi=>by show ot l k i=_;rw[Ft,an,al,ci hi,ch hi (by omega)]) (n-l.length) (by omega) (by omega)
  exact⟨r,e1,e2,fun hr=>⟨by omega,e3 hr⟩⟩
theorem MU(l:List bJ)(h:l.length≤1048576∧∀ x∈l,gA 1048576 x):ov l=some (l.map kI,()):=by
 rw[PX,bm (by have:=h.1;rw[cg];omega)]
 have:=AX (fun acc i=>ow l acc i) kI l (fun acc i hi ha=>by
  show ow l acc i=_
  have hl:=h.1
  rw[FA,an,al,ci hi,MT _ (h.2 _ (aV hi)),aa,al,ch hi (by omega),af]
  ) (fun acc ha=>by
  show ow l acc _=_
  rw[FA,bn (by simp)]) (List.replicate (List.length l:Int).toNat fH) (by simp)
 exact this
theorem Mw(l:List bq)(h:l.length≤2097152∧∀ x∈l,wc 2097152 x):yA l l=some (true,()):=by
 have hl:=h.1
 rw[Pp,bn (by simp)]
 exact nA (fun i=>oj l l i) l _ (fun i hi=>by
  show oj l l i=_
  rw[E4,an,al,al,ci hi,Mv _ (h.2 _ (aV hi)),aa,bn (by simp),ch hi (by omega)]) (by
  show oj l l _=_
  rw[E4,bn (by simp)])
end Go.Proofs.YthgknhkeifcflaaGreatDoor.E.TE
