/- What the pure statement needs (2). No condition. -/
import Derived.Test.YthgknhkeifcflaaGreatDoorM1
import Derived.Test.YthgknhkeifcflaaGreatDoorTGe1
import Derived.Test.YthgknhkeifcflaaGreatDoorTGe2
import Derived.Test.YthgknhkeifcflaaGreatDoorTGe3
namespace Go.Proofs.YthgknhkeifcflaaGreatDoor.E.TG
open Go.Proofs.YthgknhkeifcflaaGreatDoor.E
set_option linter.unusedVariables false
theorem jM{α:Type}(l r:List α)(p q:α):(l++p::r).set l.length q=l++q::r:=by
 rw[List.set_append_right _ _ (aG _),Nat.sub_self];rfl
theorem jd{α:Type}(l r:List α)(p z:α):(l++p::r).getD l.length z=p:=by
 rw[List.getD_eq_getElem?_getD,List.getElem?_append_right (aG _),Nat.sub_self];rfl
def SP(l:List bB):Prop:=∀ p∈l,p.Set.length≤256
theorem o8{l m:List bB}(h:SP l)(g:SP m):SP (l++m):=fun p hp=>(aA.1 hp).elim (h p) (g p)
theorem j2{a:bB}{l:List bB}(h:a.Set.length≤256)(g:SP l):SP (a::l):=fun p hp=>(aK.1 hp).elim (fun e=>by rw[e];exact h) (g p)
theorem lF:SP []:=fun p hp=>by cases hp
theorem I3{l:List bB}(h:SP l){i:Nat}{a:bB}(g:a.Set.length≤256):SP (l.set i a):=fun p hp=>(List.mem_or_eq_of_mem_set hp).elim (h p) fun e=>by rw[e];exact g
theorem I2{l:List bB}(h:SP l)(i:Nat):(l.getD i b8).Set.length≤256:=by
 by_cases c:i<l.length
 ·rw[cG c];exact h _ (aV c)
 ·rw[List.getD_eq_getElem?_getD,List.getElem?_eq_none (by omega)];decide
def Plc(x:bD)(f:Nat→List bB)(L:Nat):Prop:=(∀ n,(f n).length=L)∧L+2≤4*cz x∧(∀ n,SP (f n)) ∧
 ∀ out:List bB,out.length+4*cz x≤100000→fk out x=some (out++f out.length,())∧fA out x=some (out++f out.length,())
def IZ(ks:List bD)(g:Nat→List bB)(L i d:Nat):Prop:=(∀ n,(g n).length=L)∧L+2*d≤4*cw (ks.drop i)∧(∀ n,SP (g n)) ∧
 ∀ out:List bB,out.length+4*cw (ks.drop i)≤100000→pQ out ks (ks.length:Int) (i:Int)=some (out++g out.length,())∧∀ x:bD,x.Kids=ks→qN out (i:Int) x=some (out++g out.length,())
theorem JQ(ks:List bD)(h:∀ k∈ks,∃ f L,Plc k f L)(hl:ks.length≤1000):∀ d i,i+d=ks.length→∃ g L,IZ ks g L i d:=by
 intro d
 induction d with
 | zero =>
  intro i hi
  refine⟨fun _=>[],0,fun _=>rfl,by omega,fun _=>lF,fun out ho=>⟨?_,fun x hx=>?_⟩⟩
  ·rw[Dr,ap,pR,aH]
  ·rw[GT,hx,ap,qO,aH]
 | succ d ih =>
  intro i hi
  have hi':i<ks.length:=by omega
  obtain⟨g,L,g1,g2,gs,g3⟩:=ih (i+1) (by omega)
  obtain⟨f,M,f1,f2,fs,f3⟩:=h _ (aV hi')
  have hd:cw (ks.drop i)=cz ks[i]+cw (ks.drop (i+1)):=by rw[ai hi',cw]
  refine⟨fun n=>f n++g (n+M),M+L,fun n=>by rw[ag,f1,g1],by omega,fun n=>o8 (fs n) (gs _),fun out ho=>?_⟩
  obtain⟨e1,e2⟩:=f3 out (by omega)
  have hlen:(out++f out.length).length=out.length+M:=by rw[ag,f1]
  obtain⟨e3,e4⟩:=g3 (out++f out.length) (by omega)
  rw[hlen]at e3 e4
  refine⟨?_,fun x hx=>?_⟩
  ·rw[Dr,an,al,cl hi',e1,aa]
   dsimp only
   rw[ci hi' (by omega),e3,ah]
  ·have e5:=e4 x hx
   rw[GT,hx,an,al,cl hi',e2,aa]
   dsimp only
   rw[ci hi' (by omega),e5,ah]
def Ah(p:bB)(a:Int):bB:=⟨p.Op,p.C,p.Set,p.Not,a,p.B⟩
def jb(n:Nat)(tot:Int):List Int→List bB→List bB
 | [],t=>t
 | j::js,t=>jb n tot js (t.set (j.toNat-n) (Ah (t.getD (j.toNat-n) b8) tot))
theorem B7(n:Nat)(tot:Int):∀ (js:List Int) (t:List bB),(jb n tot js t).length=t.length
 | [],t=>rfl
 | j::js,t=>by rw[jb,B7 n tot js,aX]
theorem B6(n:Nat)(tot:Int):∀ (js:List Int) (t:List bB),SP t→SP (jb n tot js t)
 | [],t,h=>h
 | j::js,t,h=>by rw[jb];exact B6 n tot js _ (I3 h (I2 h _))
theorem PC(pre:List bB)(js:List Int)(hjl:js.length≤1000):∀ (d i:Nat) (t:List bB),i+d=js.length→(∀ j∈js,(pre.length:Int)≤j∧j<((pre.length+t.length:Nat):Int))→pre.length+t.length≤200000 →
  pP (pre++t) js (js.length:Int) (i:Int)=some (pre++jb pre.length ((pre.length+t.length:Nat):Int) (js.drop i) t,()) ∧
  qQ (pre++t) js (i:Int)=some (pre++jb pre.length ((pre.length+t.length:Nat):Int) (js.drop i) t,()):=by
 intro d
 induction d with
 | zero =>
  intro i t hi hj hb
  rw[Di,GW,ap,ap,aW (by omega)]
  exact⟨rfl,rfl⟩
 | succ d ih =>
  intro i t hi hj hb
  have hi':i<js.length:=by omega
  have hji:=hj _ (aV hi')
  have hlen:(pre++t).length=pre.length+t.length:=ag
  have hge:pre.length≤js[i].toNat:=by omega
  have hget:(pre++t).getD js[i].toNat b8=t.getD (js[i].toNat-pre.length) b8:=by
   rw[List.getD_eq_getElem?_getD,List.getElem?_append_right hge,← List.getD_eq_getElem?_getD]
  have hset:∀ q,(pre++t).set js[i].toNat q=pre++t.set (js[i].toNat-pre.length) q:=fun q=>List.set_append_right _ _ hge
  obtain⟨e1,e2⟩:=ih (i+1) (t.set (js[i].toNat-pre.length) (Ah (t.getD (js[i].toNat-pre.length) b8) ((pre.length+t.length:Nat):Int))) (by omega) (by rw[aX];exact hj) (by rw[aX];exact hb)
  rw[aX]at e1 e2
  rw[ai hi',jb]
  unfold Ah at e1 e2 ⊢
  constructor
  ·rw[Di,an,al,cl hi',bm (by rw[hlen];omega)]
   dsimp only
   rw[hget,hset,hlen,ci hi' (by omega)]
   exact e1
  ·rw[GW,an,al,cl hi',bm (by rw[hlen];omega)]
   dsimp only
   rw[hget,hset,hlen,ci hi' (by omega)]
   exact e2
def OrL(ks:List bD)(g:Nat→List bB)(h:Nat→List Int)(L i d:Nat):Prop:=(∀ n,(g n).length=L)∧L+2≤4*cw (ks.drop i)∧(∀ n,SP (g n))∧(∀ n,(h n).length=d∧∀ j∈h n,(n:Int)≤j∧j<((n+L:Nat):Int)) ∧
 ∀ (out:List bB) (js:List Int),js.length+d≤1000→out.length+4*cw (ks.drop i)≤100000 →
  pO out ks js (ks.take (ks.length-1)) ((ks.length-1:Nat):Int) (i:Int)=pP (out++g out.length) (js++h out.length) ((js++h out.length).length:Int) 0 ∧
  qP out ks js (i:Int)=qQ (out++g out.length) (js++h out.length) 0
theorem PD(ks:List bD)(h:∀ k∈ks,∃ f L,Plc k f L)(hl:ks.length≤1000)(h1:1≤ks.length):∀ d i,i+d+1=ks.length→∃ g h L,OrL ks g h L i d:=by
 have hw:w64 ((ks.length:Int)-1)=((ks.length-1:Nat):Int):=by rw[aq];omega
 have htl:(ks.take (ks.length-1)).length=ks.length-1:=by rw[aP];omega
 intro d
 induction d with
 | zero =>
  intro i hi
  have hi':i<ks.length:=by omega
  obtain⟨f,M,f1,f2,fs,f3⟩:=h _ (aV hi')
  have hd:cw (ks.drop i)=cz ks[i]+cw (ks.drop (i+1)):=by rw[ai hi',cw]
  refine⟨f,fun _=>[],M,f1,by omega,fs,fun n=>⟨rfl,fun j hj=>by cases hj⟩,fun out js hjs ho=>?_⟩
  obtain⟨e1,e2⟩:=f3 out (by omega)
  have hwi:w64 ((ks.length:Int)-1)=(i:Int):=by rw[hw];omega
  constructor
  ·rw[Dh,ap,hwi,al,cl hi',e1,aa,aH]
  ·rw[GV,hwi,ap,al,cl hi',e2,aa,aH]
 | succ d ih =>
  intro i hi
  have hi':i<ks.length:=by omega
  obtain⟨g,h',L,g1,g2,gs,g3,g4⟩:=ih (i+1) (by omega)
  obtain⟨f,M,f1,f2,fs,f3⟩:=h _ (aV hi')
  have hd:cw (ks.drop i)=cz ks[i]+cw (ks.drop (i+1)):=by rw[ai hi',cw]
  refine⟨fun n=>⟨7,0,[],false,((n+1:Nat):Int),((n+1+M+1:Nat):Int)⟩::(f (n+1)++(⟨6,0,[],false,0,0⟩::g (n+1+M+1))),fun n=>((n+1+M:Nat):Int)::h' (n+1+M+1),L+M+2,fun n=>?_,by omega,fun n=>j2 (Nat.zero_le _) (o8 (fs _) (j2 (Nat.zero_le _) (gs _))),fun n=>⟨?_,?_⟩,fun out js hjs ho=>?_⟩
  ·rw[aR,ag,aR,f1,g1];omega
  ·rw[aR,(g3 _).1]
  ·intro j hj
   rcases aK.1 hj with rfl | hj
   ·omega
   ·have:=(g3 _).2 j hj;omega
  ·have hw1:w64 ((out.length:Int)+1)=((out.length+1:Nat):Int):=by rw[aq];omega
   have fork:∀ p:bB,fk (List.append out [p]) ks[i]=some (out++p::f (out.length+1),())∧fA (List.append out [p]) ks[i]=some (out++p::f (out.length+1),()):=fun p=>by
    have hlp:(out++[p]).length=out.length+1:=by simp
    have:=f3 (out++[p]) (by omega)
    rw[hlp,ah]at this
    exact this
   have hv:∀ p q:bB,List.append (out++p::f (out.length+1)) [q]=out++p::(f (out.length+1)++[q]):=fun p q=>by simp
   have hvl:∀ p q:bB,(out++p::(f (out.length+1)++[q])).length=out.length+1+M+1:=fun p q=>by simp[f1];omega
   have hml:∀ p:bB,(out++p::f (out.length+1)).length=out.length+1+M:=fun p=>by simp[f1];omega
   have hrest:∀ p q:bB,out++p::(f (out.length+1)++[q])++g (out.length+1+M+1)=out++(p::(f (out.length+1)++(q::g (out.length+1+M+1)))):=fun p q=>by simp
   obtain⟨e1,e2⟩:=g4 (out++⟨7,0,[],false,((out.length+1:Nat):Int),((out.length+1+M+1:Nat):Int)⟩::(f (out.length+1)++[⟨6,0,[],false,0,0⟩])) (List.append js [((out.length+1+M:Nat):Int)]) (by show(js++[_]).length+_≤_;simp;omega) (by rw[hvl];omega)
   rw[hvl,hrest]at e1 e2
   have hjs':∀ a b:List Int,∀ c:Int,List.append a [c]++b=a++c::b:=fun a b c=>by simp
   rw[hjs']at e1 e2
   constructor
   ·rw[Dh,an,bm (by rw[htl];omega),bm (by rw[cg];omega),cl (by rw[htl];omega),List.getElem_take,(fork _).1,aa]
    dsimp only
    rw[bm (by rw[cg];omega),hml,bm (by rw[cg];omega),hv,hvl,al,af,jd,jM]
    dsimp only
    rw[hw1,ci hi' (by omega)]
    exact e1
   ·rw[GV,hw,an,lj,bm (by rw[cg];omega),aa]
    dsimp only
    rw[al,cl hi',(fork _).2,aa]
    dsimp only
    rw[bm (by rw[cg];omega),lj,hml,bm (by rw[cg];omega),aa]
    dsimp only
    rw[hv,hvl,al,af,jd,jM,hvl,al,jd,jM]
    dsimp only
    rw[hw1,ci hi' (by omega)]
    exact e2
theorem QG{x:bD}(h:rx x=true):(∀ k∈x.Kids,rx k=true)∧mi x=true:=by
 rw[y8,az,y7,Bool.not_eq_true',List.any_eq_false]at h
 exact⟨fun k hk=>by have:=h.2 k hk;simpa using this,h.1⟩
theorem Fj:∀ (n:Nat) (x:bD),cz x≤n→n≤1000→SG x→rx x=true→∃ f L,Plc x f L:=by
 intro n
 induction n with
 | zero=>intro x h;have:=mj x;omega
 | succ n ih =>
  intro x h hn hsg hx
  obtain⟨hs1,hs2⟩:=(vA x).1 hsg
  have hnx:=qk x
  rw[hnx]at h
  have hlen:=qj x.Kids
  obtain⟨hk,hB⟩:=QG hx
  have hks:∀ k∈x.Kids,∃ f L,Plc k f L:=fun k hk'=>ih k (by have:=ql hk';omega) (by omega) (rz hs2 hk') (hk k hk')
  unfold mi at hB
  have one:∀ p:bB,p.Set.length≤256→(∀ out:List bB,out.length+4*cz x≤100000→fk out x=some (List.append out [p],())∧fA out x=some (List.append out [p],()))→∃ f L,Plc x f L:=fun p hps hp =>
   ⟨fun _=>[p],1,fun _=>rfl,by omega,fun _=>j2 hps lF,hp⟩
  by_cases c1:x.Op=1
  ·refine one ⟨1,x.C,[],false,0,0⟩ (Nat.zero_le _) fun out ho=>?_
   rw[gZ,ii,ak c1,ak c1,bm (by rw[cg];omega)]
   exact⟨rfl,rfl⟩
  have m1:¬ decide (x.Op=1)=true:=by rw[ab];exact c1
  by_cases c2:x.Op=2
  ·refine one ⟨2,0,[],false,0,0⟩ (Nat.zero_le _) fun out ho=>?_
   rw[gZ,ii,bn m1,bn m1,ak c2,ak c2,lj,bm (by rw[cg];omega)]
   exact⟨rfl,rfl⟩
  have m2:¬ decide (x.Op=2)=true:=by rw[ab];exact c2
  by_cases c3:x.Op=3
  ·refine one ⟨3,0,x.Set,x.Not,0,0⟩ (hs1.elim (fun h=>h.2.2.2.2.2.1) fun h=>absurd c3 h.1) fun out ho=>?_
   rw[gZ,ii,bn m1,bn m1,bn m2,bn m2,ak c3,ak c3,bm (by rw[cg];omega)]
   exact⟨rfl,rfl⟩
  have m3:¬ decide (x.Op=3)=true:=by rw[ab];exact c3
  by_cases c4:x.Op=4
  ·refine one ⟨4,0,[],false,0,0⟩ (Nat.zero_le _) fun out ho=>?_
   rw[gZ,ii,bn m1,bn m1,bn m2,bn m2,bn m3,bn m3,ak c4,ak c4,lj,bm (by rw[cg];omega)]
   exact⟨rfl,rfl⟩
  have m4:¬ decide (x.Op=4)=true:=by rw[ab];exact c4
  by_cases c5:x.Op=5
  ·refine one ⟨5,0,[],false,0,0⟩ (Nat.zero_le _) fun out ho=>?_
   rw[gZ,ii,bn m1,bn m1,bn m2,bn m2,bn m3,bn m3,bn m4,bn m4,ak c5,ak c5,lj,bm (by rw[cg];omega)]
   exact⟨rfl,rfl⟩
  have m5:¬ decide (x.Op=5)=true:=by rw[ab];exact c5
  have start:∀ out,fk out x=(if(decide (x.Op=6))=true then pQ out x.Kids (List.length x.Kids:Int) 0 else fk out x)∧fA out x=(if(decide (x.Op=6))=true then qN out 0 x else fA out x):=fun out=>by
   by_cases c6:x.Op=6
   ·rw[ak c6,ak c6,gZ,ii,bn m1,bn m1,bn m2,bn m2,bn m3,bn m3,bn m4,bn m4,bn m5,bn m5,ak c6,ak c6]
    exact⟨rfl,rfl⟩
   ·rw[aj c6,aj c6];exact⟨rfl,rfl⟩
  by_cases c6:x.Op=6
  ·obtain⟨g,L,g1,g2,gs,g3⟩:=JQ x.Kids hks (by omega) x.Kids.length 0 (by omega)
   rw[aM]at g2 g3
   refine⟨g,L,g1,by omega,gs,fun out ho=>?_⟩
   obtain⟨e1,e2⟩:=g3 out (by omega)
   rw[(start out).1,(start out).2,ak c6,ak c6]
   exact⟨e1,e2 x rfl⟩
  have m6:¬ decide (x.Op=6)=true:=by rw[ab];exact c6
  by_cases c7:x.Op=7
  ·have h2:2≤x.Kids.length:=by
    simp[c7]at hB;exact hB.2
   obtain⟨g,js,L,g1,g2,gs,g3,g4⟩:=PD x.Kids hks (by omega) (by omega) (x.Kids.length-1) 0 (by omega)
   rw[aM]at g2 g4
   refine⟨fun n=>jb n ((n+L:Nat):Int) (js n) (g n),L,fun n=>by rw[B7,g1],by omega,fun n=>B6 _ _ _ _ (gs n),fun out ho=>?_⟩
   obtain⟨e1,e2⟩:=g4 out [] (by simp;omega) (by omega)
   obtain⟨e3,e4⟩:=PC out (js out.length) (by rw[(g3 _).1];omega) (js out.length).length 0 (g out.length) (by omega) (by rw[g1];exact(g3 _).2) (by rw[g1];omega)
   rw[bg]at e1 e2
   rw[aM,g1]at e3 e4
   have hw:w64 ((x.Kids.length:Int)-1)=((x.Kids.length-1:Nat):Int):=by rw[aq];omega
   have ht:List.take (((x.Kids.length-1:Nat):Int).toNat-0) (List.drop 0 x.Kids)=x.Kids.take (x.Kids.length-1):=by rw[af,Nat.sub_zero,aM]
   have htl:(x.Kids.take (x.Kids.length-1)).length=x.Kids.length-1:=by rw[aP];omega
   rw[gZ,ii,bn m1,bn m1,bn m2,bn m2,bn m3,bn m3,bn m4,bn m4,bn m5,bn m5,bn m6,bn m6,ak c7,ak c7,MS,Sg,hw,al,ht,htl]
   have e1':pO out x.Kids [] (x.Kids.take (x.Kids.length-1)) ((x.Kids.length-1:Nat):Int) 0=_:=e1.trans e3
   have e2':qP out x.Kids [] 0=_:=e2.trans e4
   rw[e1',e2']
   exact⟨rfl,rfl⟩
  have m7:¬ decide (x.Op=7)=true:=by rw[ab];exact c7
  have hone:x.Op=8∨x.Op=9∨x.Op=10→∃ k,x.Kids=[k]:=fun ho=>by
   have:x.Kids.length=1:=by
    rcases ho with ho | ho | ho <;> (simp[ho]at hB;exact hB.2)
   exact List.length_eq_one_iff.1 this
  have hw1:∀ out:List bB,out.length≤100000→w64 ((out.length:Int)+1)=((out.length+1:Nat):Int):=fun out ho=>by rw[aq];omega
  by_cases c8:x.Op=8
  ·obtain⟨k,hk1⟩:=hone (.inl c8)
   obtain⟨f,M,f1,f2,fs,f3⟩:=hks k (by rw[hk1];exact aJ.2 rfl)
   have hnk:cz x=1+cz k:=by rw[hnx,hk1,cw,cw];omega
   refine⟨fun n=>⟨7,0,[],false,((n+1:Nat):Int),((n+1+M+1:Nat):Int)⟩::(f (n+1)++[⟨6,0,[],false,(n:Int),0⟩]),M+2,fun n=>by simp[f1],by omega,fun n=>j2 (Nat.zero_le _) (o8 (fs _) (j2 (Nat.zero_le _) lF)),fun out ho=>?_⟩
   have fork:∀ p:bB,fk (List.append out [p]) k=some (out++p::f (out.length+1),())∧fA (List.append out [p]) k=some (out++p::f (out.length+1),()):=fun p=>by
    have hlp:(out++[p]).length=out.length+1:=by simp
    have:=f3 (out++[p]) (by omega)
    rw[hlp,ah]at this
    exact this
   have hv:∀ p q:bB,List.append (out++p::f (out.length+1)) [q]=out++p::(f (out.length+1)++[q]):=fun p q=>by simp
   have hvl:∀ p q:bB,(out++p::(f (out.length+1)++[q])).length=out.length+1+M+1:=fun p q=>by simp[f1];omega
   have hml:∀ p:bB,(out++p::f (out.length+1)).length=out.length+1+M:=fun p=>by simp[f1];omega
   rw[gZ,ii,bn m1,bn m1,bn m2,bn m2,bn m3,bn m3,bn m4,bn m4,bn m5,bn m5,bn m6,bn m6,bn m7,bn m7,ak c8,ak c8,hk1]
   constructor
   ·rw[bm (by rw[cg];omega),bm (by simp),show List.getD [k] 0 b9=k from rfl,(fork _).1,aa]
    dsimp only
    rw[hml,bm (by rw[cg];omega),hv,hvl,al,af,jd,jM]
    dsimp only
    rw[hw1 out (by omega),pR]
   ·rw[lj,bm (by rw[cg];omega),aa,bm (by simp),show List.getD [k] 0 b9=k from rfl]
    dsimp only
    rw[(fork _).2,aa]
    dsimp only
    rw[hml,bm (by rw[cg];omega),hv,hvl,al,af,jd,jM,hvl,al,jd,jM]
    dsimp only
    rw[hw1 out (by omega),qO]
  have m8:¬ decide (x.Op=8)=true:=by rw[ab];exact c8
  by_cases c9:x.Op=9
  ·obtain⟨k,hk1⟩:=hone (.inr (.inl c9))
   obtain⟨f,M,f1,f2,fs,f3⟩:=hks k (by rw[hk1];exact aJ.2 rfl)
   have hnk:cz x=1+cz k:=by rw[hnx,hk1,cw,cw];omega
   refine⟨fun n=>f n++[⟨7,0,[],false,(n:Int),((n+M+1:Nat):Int)⟩],M+1,fun n=>by simp[f1],by omega,fun n=>o8 (fs _) (j2 (Nat.zero_le _) lF),fun out ho=>?_⟩
   obtain⟨e1,e2⟩:=f3 out (by omega)
   have hml:(out++f out.length).length=out.length+M:=by simp[f1]
   have hw2:w64 (((out.length+M:Nat):Int)+1)=((out.length+M+1:Nat):Int):=by rw[aq];omega
   rw[gZ,ii,bn m1,bn m1,bn m2,bn m2,bn m3,bn m3,bn m4,bn m4,bn m5,bn m5,bn m6,bn m6,bn m7,bn m7,bn m8,bn m8,ak c9,ak c9,hk1]
   constructor
   ·rw[bm (by simp),show List.getD [k] 0 b9=k from rfl,e1,aa]
    dsimp only
    rw[hml,bm (by rw[cg];omega),hw2,pR,← ah]
    rfl
   ·rw[bm (by simp),show List.getD [k] 0 b9=k from rfl,e2,aa]
    dsimp only
    rw[hml,bm (by rw[cg];omega),hw2,qO,← ah]
    rfl
  have m9:¬ decide (x.Op=9)=true:=by rw[ab];exact c9
  by_cases c10:x.Op=10
  ·obtain⟨k,hk1⟩:=hone (.inr (.inr c10))
   obtain⟨f,M,f1,f2,fs,f3⟩:=hks k (by rw[hk1];exact aJ.2 rfl)
   have hnk:cz x=1+cz k:=by rw[hnx,hk1,cw,cw];omega
   refine⟨fun n=>⟨7,0,[],false,((n+1:Nat):Int),((n+1+M:Nat):Int)⟩::f (n+1),M+1,fun n=>by simp[f1],by omega,fun n=>j2 (Nat.zero_le _) (fs _),fun out ho=>?_⟩
   have fork:∀ p:bB,fk (List.append out [p]) k=some (out++p::f (out.length+1),())∧fA (List.append out [p]) k=some (out++p::f (out.length+1),()):=fun p=>by
    have hlp:(out++[p]).length=out.length+1:=by simp
    have:=f3 (out++[p]) (by omega)
    rw[hlp,ah]at this
    exact this
   have hml:∀ p:bB,(out++p::f (out.length+1)).length=out.length+1+M:=fun p=>by simp[f1];omega
   rw[gZ,ii,bn m1,bn m1,bn m2,bn m2,bn m3,bn m3,bn m4,bn m4,bn m5,bn m5,bn m6,bn m6,bn m7,bn m7,bn m8,bn m8,bn m9,bn m9,ak c10,ak c10,hk1]
   constructor
   ·rw[bm (by rw[cg];omega),bm (by simp),show List.getD [k] 0 b9=k from rfl,(fork _).1,aa]
    dsimp only
    rw[hml,al,af,jd,jM]
    dsimp only
    rw[hw1 out (by omega),pR]
   ·rw[lj,bm (by rw[cg];omega),aa,bm (by simp),show List.getD [k] 0 b9=k from rfl]
    dsimp only
    rw[(fork _).2,aa]
    dsimp only
    rw[hml,al,af,jd,jM,hml,al,jd,jM]
    dsimp only
    rw[hw1 out (by omega),qO]
  have m10:¬ decide (x.Op=10)=true:=by rw[ab];exact c10
  refine⟨fun _=>[],0,fun _=>rfl,by omega,fun _=>lF,fun out ho=>?_⟩
  rw[gZ,ii,bn m1,bn m1,bn m2,bn m2,bn m3,bn m3,bn m4,bn m4,bn m5,bn m5,bn m6,bn m6,bn m7,bn m7,bn m8,bn m8,bn m9,bn m9,bn m10,bn m10,pR,qO,aH]
  exact⟨rfl,rfl⟩
theorem Pg{x:bD}(hn:cz x≤121)(hs:SG x)(hd:∃ v,v≤12∧iK x=some (v,())∧iy x=some (v,())):∃ l,wL x=some (l,())∧zl x=some (l,())∧l.length≤1000∧SP l:=by
 obtain⟨e1,e2⟩:=Qo hn hs hd
 rw[L4,Q8,e1,e2,aa,aa]
 dsimp only
 by_cases c:rx x=true
 ·rw[c,bn (by decide),bn (by decide)]
  obtain⟨f,L,f1,f2,fs,f3⟩:=Fj 121 x hn (by decide) hs c
  obtain⟨e3,e4⟩:=f3 [] (by simp;omega)
  rw[List.length_nil,bg]at e3 e4
  rw[e3,e4,aa,aa]
  dsimp only
  have:=f1 0
  rw[lj,bm (by rw[cg];omega)]
  exact⟨_,rfl,rfl,by show(f 0++[_]).length≤1000;simp;omega,o8 (fs 0) (j2 (Nat.zero_le _) lF)⟩
 ·rw[aS]at c
  simp only[c,Bool.not_false,if_true]
  exact⟨_,rfl,rfl,by simp,lF⟩
theorem A2:∀ {l m:List Int},l.Pairwise (· < ·)→m.Pairwise (· < ·)→(∀ x,x∈l↔x∈m)→l=m
 | [],[],_,_,_=>rfl
 | [],b::m,_,_,h=>absurd ((h b).2 (aD ..)) (by simp)
 | a::l,[],_,_,h=>absurd ((h a).1 (aD ..)) (by simp)
 | a::l,b::m,hl,hm,h=>by
  have hl':=List.pairwise_cons.1 hl
  have hm':=List.pairwise_cons.1 hm
  have hab:a=b:=by
   rcases aK.1 ((h a).1 (aD ..))with e | e
   ·exact e
   ·rcases aK.1 ((h b).2 (aD ..))with e' | e'
    ·exact e'.symm
    ·have:=hl'.1 b e';have:=hm'.1 a e;omega
  subst hab
  rw[A2 hl'.2 hm'.2 fun x=>?_]
  constructor
  ·intro hx
   rcases aK.1 ((h x).1 (aE _ hx))with e | e
   ·have:=hl'.1 x hx;omega
   ·exact e
  ·intro hx
   rcases aK.1 ((h x).2 (aE _ hx))with e | e
   ·have:=hm'.1 x hx;omega
   ·exact e
theorem Hr{l:List Int}(h:l.Nodup):(dL l).Pairwise (· < ·):=by
 have h1:(dL l).Pairwise (fun a b=>decide (a≤b)=true):=List.pairwise_mergeSort (fun a b c h1 h2=>by simp at *;omega) (fun a b=>by simp;omega) l
 have h2:(dL l).Nodup:=(List.mergeSort_perm l _).nodup_iff.2 h
 exact(h1.and h2).imp fun {a b} h=>by have:=of_decide_eq_true h.1;have:=h.2;omega
theorem A3{N:Int}:∀ (l:List Int) (lo:Int),l.Pairwise (· < ·)→(∀ x∈l,lo≤x∧x<N)→lo≤N→(l.length:Int)≤N-lo
 | [],lo,_,_,h=>by simp;omega
 | a::l,lo,hl,hb,h=>by
  have hl':=List.pairwise_cons.1 hl
  have ha:=hb a (aD ..)
  have:=A3 l (a+1) hl'.2 (fun x hx=>⟨by have:=hl'.1 x hx;omega,(hb x (aE _ hx)).2⟩) (by omega)
  rw[aR];omega
theorem th{N:Nat}{l:List Int}(h:l.Nodup)(hb:∀ x∈l,0≤x∧x<(N:Int)):l.length≤N:=by
 have:=A3 (N:=N) (dL l) 0 (Hr h) (fun x hx=>hb x (sortI_mem.1 hx)) (by omega)
 rw[zY]at this
 omega
def adj(l:List bB)(b e:Bool)(k:Nat):List Int :=
 if(l.getD k b8).Op=6 then [(l.getD k b8).A]else if(l.getD k b8).Op=7 then [(l.getD k b8).A,(l.getD k b8).B]
 else if(l.getD k b8).Op=4 then(if b=true then [(k:Int)+1]else [])else if(l.getD k b8).Op=5 then(if e=true then [(k:Int)+1]else [])else []
theorem I8(l:List bB)(b e:Bool)(k:Nat):(adj l b e k).length≤2:=by
 unfold adj
 split
 ·simp
 ·split
  ·simp
  ·split
   ·split <;> simp
   ·split
    ·split <;> simp
    ·simp
inductive Rch (l:List bB) (at_:List Int) (b e:Bool):Int→Prop
 | base {i:Int}:i∈at_→0≤i→i<(l.length:Int)→Rch l at_ b e i
 | step {k j:Int}:Rch l at_ b e k→j∈adj l b e k.toNat→0≤j→j<(l.length:Int)→Rch l at_ b e j
theorem Rch.bd{l:List bB}{at_:List Int}{b e:Bool}{i:Int}(h:Rch l at_ b e i):0≤i∧i<(l.length:Int):=by
 cases h with
 | base _ h1 h2=>exact⟨h1,h2⟩
 | step _ _ h1 h2=>exact⟨h1,h2⟩
def St(l:List bB)(seen:List Bool)(out:List Int):Prop:=seen.length=l.length∧(∀ i:Nat,i<l.length→seen.getD i false=decide ((i:Int)∈out))∧(∀ x∈out,0≤x∧x<(l.length:Int))∧out.Nodup
def Put(l:List bB)(seen:List Bool)(out:List Int)(ys:List Int)(seen':List Bool)(out':List Int):Prop :=
 St l seen' out'∧(∀ x,x∈out'↔x∈out∨(x∈ys∧0≤x∧x<(l.length:Int)))∧∃ t,out'=out++t
theorem oe{l:List bB}(hl:l.length≤1000){seen:List Bool}{out:List Int}(h:St l seen out)(i:Int):∃ seen' out',kr i l seen out=some (l,seen',out',())∧Put l seen out [i] seen' out':=by
 obtain⟨h1,h2,h3,h4⟩:=h
 have hlen:=th h4 h3
 rw[LF,fS,aa]
 dsimp only
 by_cases c:0≤i∧i≤w64 ((l.length:Int)-1)
 ·rw[ak c]
  rw[aq]at c
  have hi:i.toNat<l.length:=by omega
  have e:=h2 i.toNat hi
  rw[Int.toNat_of_nonneg c.1]at e
  rw[al,e]
  by_cases d:i∈out
  ·rw[ac d,bn (by decide)]
   exact⟨_,_,rfl,⟨h1,h2,h3,h4⟩,fun x=>⟨.inl,fun hx=>hx.elim id fun hx=>by rw[aJ.1 hx.1];exact d⟩,[],by simp⟩
  ·rw[ae d,bm (by decide),al,bm (by rw[cg];omega)]
   refine⟨_,_,rfl,⟨by rw[aX];exact h1,fun j hj=>?_,fun x hx=>?_,?_⟩,fun x=>?_,[i],rfl⟩
   ·show _=decide ((j:Int)∈out++[i])
    by_cases hji:i.toNat=j
    ·subst hji
     rw[lR (by omega),Int.toNat_of_nonneg c.1,ac (by simp)]
    ·rw[List.getD_eq_getElem?_getD,List.getElem?_set_ne hji,← List.getD_eq_getElem?_getD,h2 j hj]
     refine decide_eq_decide.2 ⟨fun hx=>ar _ hx,fun hx=>?_⟩
     rcases aA.1 hx with hx | hx
     ·exact hx
     ·have:=aJ.1 hx;omega
   ·rcases aA.1 (show x∈out++[i]from hx)with hx | hx
    ·exact h3 x hx
    ·rw[aJ.1 hx];omega
   ·show(out++[i]).Nodup
    rw[aB]
    exact⟨h4,by simp,fun a ha b hb=>by rw[aJ.1 hb];intro e;subst e;exact d ha⟩
   ·show x∈out++[i]↔_
    rw[aA,aJ]
    exact⟨fun hx=>hx.imp id fun hx=>⟨hx,by omega⟩,fun hx=>hx.imp id fun hx=>hx.1⟩
 ·rw[aj c]
  rw[aq]at c
  exact⟨_,_,rfl,⟨h1,h2,h3,h4⟩,fun x=>⟨.inl,fun hx=>hx.elim id fun hx=>absurd hx.2 (by rw[aJ.1 hx.1];omega)⟩,[],by simp⟩
theorem yM{l:List bB}{seen:List Bool}{out:List Int}(h:St l seen out):Put l seen out [] seen out:=⟨h,fun x=>⟨.inl,fun hx=>hx.elim id fun hx=>by cases hx.1⟩,[],by simp⟩
theorem P9{l:List bB}{s0 s1 s2:List Bool}{o0 o1 o2:List Int}{i j:Int}(h1:Put l s0 o0 [i] s1 o1)(h2:Put l s1 o1 [j] s2 o2):Put l s0 o0 [i,j] s2 o2:=by
 obtain⟨a1,a2,t1,a3⟩:=h1
 obtain⟨b1,b2,t2,b3⟩:=h2
 refine⟨b1,fun x=>?_,t1++t2,by rw[b3,a3,ah]⟩
 rw[b2,a2,aJ,aJ,aK,aJ]
 constructor
 ·rintro ((h | h) | h)
  ·exact .inl h
  ·exact .inr ⟨.inl h.1,h.2⟩
  ·exact .inr ⟨.inr h.1,h.2⟩
 ·rintro (h | ⟨h | h,h'⟩)
  ·exact .inl (.inl h)
  ·exact .inl (.inr ⟨h,h'⟩)
  ·exact .inr ⟨h,h'⟩
theorem J0{l:List bB}(hl:l.length≤1000)(b e:Bool){seen:List Bool}{out:List Int}(h:St l seen out)(k:Nat)(hk:k<out.length) :
  ∃ seen' out',lX b e (k:Int) l seen out=lX b e ((k+1:Nat):Int) l seen' out'∧Put l seen out (adj l b e out[k].toNat) seen' out':=by
 have hlen:=th h.2.2.2 h.2.2.1
 have hv:=h.2.2.1 _ (aV hk)
 have w1:w64 (out[k]+1)=((out[k].toNat:Nat):Int)+1:=by rw[aq];omega
 rw[wB,an,al,cl hk,al]
 have L3:∀ s o,jg b e (k:Int) l s o=lX b e ((k+1:Nat):Int) l s o:=fun s o=>by rw[LG,ci hk (by omega)]
 unfold adj
 generalize l.getD out[k].toNat b8=p
 by_cases c6:p.Op=6
 ·obtain⟨s1,o1,e1,e2⟩:=oe hl h p.A
  rw[ak c6,bm c6,e1,aa]
  exact⟨s1,o1,L3 _ _,e2⟩
 rw[aj c6,bn c6]
 by_cases c7:p.Op=7
 ·obtain⟨s1,o1,e1,e2⟩:=oe hl h p.A
  obtain⟨s2,o2,e3,e4⟩:=oe hl e2.1 p.B
  rw[ak c7,bm c7,e1,aa]
  dsimp only
  rw[e3,aa]
  exact⟨s2,o2,L3 _ _,P9 e2 e4⟩
 rw[aj c7,bn c7]
 by_cases c4:p.Op=4
 ·rw[ak c4,bm c4]
  cases b with
  | true =>
   obtain⟨s1,o1,e1,e2⟩:=oe hl h (w64 (out[k]+1))
   rw[bm rfl,bm rfl,e1,aa]
   rw[w1]at e2
   exact⟨s1,o1,L3 _ _,e2⟩
  | false=>rw[bn (by decide),bn (by decide)];exact⟨seen,out,L3 _ _,yM h⟩
 rw[aj c4,bn c4]
 by_cases c5:p.Op=5
 ·rw[ak c5,bm c5]
  cases e with
  | true =>
   obtain⟨s1,o1,e1,e2⟩:=oe hl h (w64 (out[k]+1))
   rw[bm rfl,bm rfl,e1,aa]
   rw[w1]at e2
   exact⟨s1,o1,L3 _ _,e2⟩
  | false=>rw[bn (by decide),bn (by decide)];exact⟨seen,out,L3 _ _,yM h⟩
 rw[aj c5,bn c5]
 exact⟨seen,out,L3 _ _,yM h⟩
theorem JZ{l:List bB}(hl:l.length≤1000)(at_:List Int)(b e:Bool):∀ (d k:Nat) (seen:List Bool) (out:List Int),St l seen out→k≤out.length→l.length-k≤d→(∀ x∈out,Rch l at_ b e x)→(∀ (j:Nat) (hj:j<out.length),j<k→∀ y∈adj l b e out[j].toNat,0≤y→y<(l.length:Int)→y∈out) →
  (∀ x∈at_,0≤x→x<(l.length:Int)→x∈out)→∃ out',lX b e (k:Int) l seen out=some (dL out',())∧out'.Nodup∧∀ x,x∈out'↔Rch l at_ b e x:=by
 intro d
 induction d with
 | zero =>
  intro k seen out h hk hd hR hc ha
  have hlen:=th h.2.2.2 h.2.2.1
  have hko:k=out.length:=by omega
  rw[wB,ap,IA,bm (by rw[cg];omega),aa]
  refine⟨out,rfl,h.2.2.2,fun x=>⟨hR x,fun hx=>?_⟩⟩
  induction hx with
  | base h1 h2 h3=>exact ha _ h1 h2 h3
  | step h0 h1 h2 h3 ih =>
   obtain⟨j,hj,e⟩:=bk.1 ih
   exact hc j hj (by omega) _ (by rw[e];exact h1) h2 h3
 | succ d ihd =>
  intro k seen out h hk hd hR hc ha
  have hlen:=th h.2.2.2 h.2.2.1
  by_cases hko:k=out.length
  ·rw[wB,ap,IA,bm (by rw[cg];omega),aa]
   refine⟨out,rfl,h.2.2.2,fun x=>⟨hR x,fun hx=>?_⟩⟩
   induction hx with
   | base h1 h2 h3=>exact ha _ h1 h2 h3
   | step h0 h1 h2 h3 ih =>
    obtain⟨j,hj,e⟩:=bk.1 ih
    exact hc j hj (by omega) _ (by rw[e];exact h1) h2 h3
  ·have hk':k<out.length:=by omega
   obtain⟨s1,o1,e1,p1,p2,t,p3⟩:=J0 hl b e h k hk'
   rw[e1]
   have hv:=h.2.2.1 _ (aV hk')
   refine ihd (k+1) s1 o1 p1 (by rw[p3,ag];omega) (by omega) (fun x hx=>?_) (fun j hj hjk y hy y0 y1=>?_) (fun x hx x0 x1=>(p2 x).2 (.inl (ha x hx x0 x1)))
   ·rcases(p2 x).1 hx with hx | ⟨hx,x0,x1⟩
    ·exact hR x hx
    ·exact .step (hR _ (aV hk')) hx x0 x1
   ·have hjo:j<out.length:=by omega
    have ej:o1[j]=out[j]:=by subst p3;exact List.getElem_append_left hjo
    rw[ej]at hy
    by_cases hjk':j=k
    ·subst hjk';exact(p2 y).2 (.inr ⟨hy,y0,y1⟩)
    ·exact(p2 y).2 (.inl (hc j hjo (by omega) y hy y0 y1))
theorem Mr{l:List bB}(hl:l.length≤1000)(at_:List Int)(hat:at_.length≤1000000)(b e:Bool):∃ out,sd l at_ b e=some (dL out,())∧out.Nodup∧∀ x,x∈out↔Rch l at_ b e x:=by
 have key:∀ (d i:Nat) (seen:List Bool) (out:List Int),i+d=at_.length→St l seen out→(∀ x∈out,Rch l at_ b e x)→(∀ (j:Nat) (hj:j<at_.length),j<i→0≤at_[j]→at_[j]<(l.length:Int)→at_[j]∈out) →
   ∃ out',se b e at_ (at_.length:Int) (i:Int) l seen out=some (dL out',())∧out'.Nodup∧∀ x,x∈out'↔Rch l at_ b e x:=by
  intro d
  induction d with
  | zero =>
   intro i seen out hi h hR ha
   rw[CE,ap]
   exact JZ hl at_ b e l.length 0 seen out h (Nat.zero_le _) (by omega) hR (fun j hj h=>absurd h (by omega)) fun x hx x0 x1=>by
    obtain⟨j,hj,rfl⟩:=bk.1 hx
    exact ha j hj (by omega) x0 x1
  | succ d ih =>
   intro i seen out hi h hR ha
   have hi':i<at_.length:=by omega
   obtain⟨s1,o1,e1,p1,p2,t,p3⟩:=oe hl h at_[i]
   rw[CE,an,al,cl hi',e1,aa]
   dsimp only
   rw[ci hi' (by omega)]
   refine ih (i+1) s1 o1 (by omega) p1 (fun x hx=>?_) fun j hj hji x0 x1=>?_
   ·rcases(p2 x).1 hx with hx | ⟨hx,x0,x1⟩
    ·exact hR x hx
    ·exact .base (by rw[aJ.1 hx];exact aV hi') x0 x1
   ·by_cases hj':j=i
    ·subst hj';exact(p2 _).2 (.inr ⟨aJ.2 rfl,x0,x1⟩)
    ·exact(p2 _).2 (.inl (ha j hj (by omega) x0 x1))
 rw[LH,bm ⟨by omega,by omega,by rw[cg];omega⟩,af]
 exact key at_.length 0 _ [] (by omega) ⟨a7,fun i hi=>by rw[List.getD_eq_getElem?_getD,List.getElem?_replicate,bm hi];rfl,fun x hx=>(by cases hx),List.nodup_nil⟩ (fun x hx=>by cases hx) (fun j hj h=>absurd h (by omega))
theorem Bz:∀ (f:List Bool) (k:Nat),k<f.length→f.getD k false=false→(f.set k true).count false+1=f.count false
 | [],k,h,_=>absurd h (by simp)
 | a::f,0,h,e=>by
  have:a=false:=e
  subst this
  rw[List.set_cons_zero,List.count_cons,List.count_cons];simp
 | a::f,k+1,h,e=>by
  have:=Bz f k (by simpa using h) e
  rw[List.set_cons_succ,List.count_cons,List.count_cons];omega
def Mk(l:List bB)(at_:List Int)(b e:Bool)(f:List Bool)(todo:List Int):Prop:=f.length=l.length∧(∀ k:Nat,f.getD k false=true→Rch l at_ b e k)∧(∀ y∈todo,0≤y→y<(l.length:Int)→Rch l at_ b e y) ∧
 ∀ k:Nat,f.getD k false=true→∀ y∈adj l b e k,0≤y→y<(l.length:Int)→f.getD y.toNat false=true∨y∈todo
theorem Rm{l:List bB}(hl:l.length≤1000)(at_:List Int)(b e:Bool):∀ (d:Nat) (f:List Bool) (todo:List Int),3*f.count false+todo.length≤d→d≤100000→Mk l at_ b e f todo →
  ∃ f',fy l f b e todo=some (f',())∧Mk l at_ b e f' []∧(∀ k:Nat,f.getD k false=true→f'.getD k false=true)∧∀ y∈todo,0≤y→y<(l.length:Int)→f'.getD y.toNat false=true:=by
 intro d
 induction d with
 | zero =>
  intro f todo hd hd2 h
  have ht:todo=[]:=aZ.1 (by omega)
  subst ht
  rw[zO,bn (by simp)]
  exact⟨f,rfl,h,fun k hk=>hk,fun y hy=>by cases hy⟩
 | succ d ih =>
  intro f todo hd hd2 h
  obtain⟨h1,h2,h3,h4⟩:=h
  by_cases ht:todo.length=0
  ·have ht:todo=[]:=aZ.1 ht
   subst ht
   rw[zO,bn (by simp)]
   exact⟨f,rfl,⟨h1,h2,h3,h4⟩,fun k hk=>hk,fun y hy=>by cases hy⟩
  ·have w:w64 ((todo.length:Int)-1)=((todo.length-1:Nat):Int):=by rw[aq];omega
   have hlt:todo.length-1<todo.length:=by omega
   rw[zO,an,w,al,al,cl hlt,af]
   have hsplit:todo=todo.take (todo.length-1)++[todo[todo.length-1]]:=uA (n:=todo.length-1) (by omega)
   have hrl:(todo.take (todo.length-1)).length=todo.length-1:=by rw[aP];omega
   generalize todo.take (todo.length-1)=rest at hsplit hrl
   generalize todo[todo.length-1]=v at hsplit
   have hmem:∀ y,y∈todo↔y∈rest∨y=v:=fun y=>by rw[hsplit,aA,aJ]
   have skip:(0≤v→v<(l.length:Int)→f.getD v.toNat false=true)→∃ f',fy l f b e rest=some (f',())∧Mk l at_ b e f' []∧(∀ k:Nat,f.getD k false=true→f'.getD k false=true)∧∀ y∈todo,0≤y→y<(l.length:Int)→f'.getD y.toNat false=true:=fun hv=>by
    obtain⟨f',e1,e2,e3,e4⟩:=ih f rest (by omega) (by omega) ⟨h1,h2,fun y hy=>h3 y ((hmem y).2 (.inl hy)),fun k hk y hy y0 y1=>by
     rcases h4 k hk y hy y0 y1 with h | h
     ·exact .inl h
     ·rcases(hmem y).1 h with h | h
      ·exact .inr h
      ·subst h;exact .inl (hv y0 y1)⟩
    refine⟨f',e1,e2,e3,fun y hy y0 y1=>?_⟩
    rcases(hmem y).1 hy with h | h
    ·exact e4 y h y0 y1
    ·subst h;exact e3 _ (hv y0 y1)
   by_cases c1:v≥(l.length:Int)
   ·rw[ak c1];exact skip fun _ h=>absurd h (by omega)
   rw[aj c1]
   by_cases c2:v<0
   ·rw[ak c2];exact skip fun h=>absurd h (by omega)
   rw[aj c2,al]
   by_cases c3:f.getD v.toNat false=true
   ·rw[bm c3];exact skip fun _ _=>c3
   rw[bn c3,al,al]
   have hvn:v.toNat<f.length:=by omega
   have hvr:Rch l at_ b e v:=h3 v ((hmem v).2 (.inr rfl)) (by omega) (by omega)
   have hcount:=Bz f v.toNat hvn (by simpa using c3)
   have hw:w64 (v+1)=((v.toNat:Nat):Int)+1:=by rw[aq];omega
   have go:∃ f',fy l (f.set v.toNat true) b e (rest++adj l b e v.toNat)=some (f',())∧Mk l at_ b e f' []∧(∀ k:Nat,f.getD k false=true→f'.getD k false=true)∧∀ y∈todo,0≤y→y<(l.length:Int)→f'.getD y.toNat false=true:=by
    have hal:=I8 l b e v.toNat
    have hget:∀ k:Nat,(f.set v.toNat true).getD k false=true↔f.getD k false=true∨k=v.toNat:=fun k=>by
     by_cases hk:v.toNat=k
     ·subst hk;rw[lR hvn];simp
     ·rw[List.getD_eq_getElem?_getD,List.getElem?_set_ne hk,← List.getD_eq_getElem?_getD]
      exact⟨.inl,fun h=>h.elim id fun h=>absurd h.symm hk⟩
    obtain⟨f',e1,e2,e3,e4⟩:=ih (f.set v.toNat true) (rest++adj l b e v.toNat) (by rw[ag];omega) (by omega) ⟨by rw[aX];exact h1,fun k hk=>by
      rcases(hget k).1 hk with h | h
      ·exact h2 k h
      ·subst h;rw[Int.toNat_of_nonneg (by omega)];exact hvr,
     fun y hy y0 y1=>by
      rcases aA.1 hy with hy | hy
      ·exact h3 y ((hmem y).2 (.inl hy)) y0 y1
      ·exact .step hvr hy y0 y1,
     fun k hk y hy y0 y1=>by
      rcases(hget k).1 hk with h | h
      ·rcases h4 k h y hy y0 y1 with h | h
       ·exact .inl ((hget _).2 (.inl h))
       ·rcases(hmem y).1 h with h | h
        ·exact .inr (ar _ h)
        ·exact .inl ((hget _).2 (.inr (by rw[h])))
      ·subst h;exact .inr (au _ hy)⟩
    refine⟨f',e1,e2,fun k hk=>e3 k ((hget k).2 (.inl hk)),fun y hy y0 y1=>?_⟩
    rcases(hmem y).1 hy with h | h
    ·exact e4 y (ar _ h) y0 y1
    ·exact e3 _ ((hget _).2 (.inr (by rw[h])))
   have hnil:rest++[]=rest:=aH _
   unfold adj at go
   revert go
   generalize l.getD v.toNat b8=p
   intro go
   by_cases c6:p.Op=6
   ·rw[bm c6]at go
    rw[ak c6,bm (by rw[cg];omega)]
    exact go
   rw[bn c6]at go
   rw[aj c6]
   by_cases c7:p.Op=7
   ·rw[bm c7]at go
    rw[ak c7,bm (by rw[cg];omega)]
    exact go
   rw[bn c7]at go
   rw[aj c7]
   by_cases c4:p.Op=4
   ·rw[bm c4]at go
    rw[ak c4]
    cases b with
    | true =>
     rw[bm rfl]at go
     rw[bm rfl,bm (by rw[cg];omega),hw]
     exact go
    | false =>
     rw[bn (by decide),hnil]at go
     rw[bn (by decide)]
     exact go
   rw[bn c4]at go
   rw[aj c4]
   by_cases c5:p.Op=5
   ·rw[bm c5]at go
    rw[ak c5]
    cases e with
    | true =>
     rw[bm rfl]at go
     rw[bm rfl,bm (by rw[cg];omega),hw]
     exact go
    | false =>
     rw[bn (by decide),hnil]at go
     rw[bn (by decide)]
     exact go
   rw[bn c5,hnil]at go
   rw[aj c5]
   exact go
theorem Sx(f:List Bool)(hf:f.length≤1000):zP f=some (marks f 0 f.length,()):=by
 have key:∀ (d i:Nat) (t:List Int),i+d=f.length→t.length≤i→qM f t (i:Int)=some (t++marks f i d,()):=by
  intro d
  induction d with
  | zero =>
   intro i t hi ht
   rw[GS,ap]
   show _=some (t++[],())
   rw[aH]
  | succ d ih =>
   intro i t hi ht
   have hi':i<f.length:=by omega
   rw[GS,an,al,ci hi' (by omega),af,show d+1=1+d by omega,yx]
   have hm:marks f i 1=if f.getD i false=true then [(i:Int)]else []:=by
    unfold marks
    rw[show List.range' i 1=[i]from rfl,List.filter_cons]
    split <;> rfl
   rw[hm]
   by_cases c:f.getD i false=true
   ·rw[bm c,bm c,bm (by rw[cg];omega)]
    have:=ih (i+1) (t++[(i:Int)]) (by omega) (by simp;omega)
    rw[ah]at this
    exact this
   ·rw[bn c,bn c,bg]
    exact ih (i+1) t (by omega) (by omega)
 rw[Sf]
 have:=key f.length 0 [] (by omega) (aG _)
 rwa [bg]at this
theorem Rn{l:List bB}(hl:l.length≤1000)(at_:List Int)(hat:at_.length≤1000000)(b e:Bool):∃ f:List Bool,kY l at_ b e=some (marks f 0 l.length,())∧∀ k:Nat,k<l.length→(f.getD k false=true↔Rch l at_ b e k):=by
 have key:∀ (d i:Nat) (f:List Bool),i+d=at_.length→Mk l at_ b e f []→(∀ (j:Nat) (hj:j<at_.length),j<i→0≤at_[j]→at_[j]<(l.length:Int)→f.getD at_[j].toNat false=true) →
   ∃ g:List Bool,tD l at_ b e f (i:Int)=some (marks g 0 l.length,())∧∀ k:Nat,k<l.length→(g.getD k false=true↔Rch l at_ b e k):=by
  intro d
  induction d with
  | zero =>
   intro i f hi h ha
   obtain⟨h1,h2,h3,h4⟩:=h
   rw[FY,ap,Sx f (by omega),aa,h1]
   refine⟨f,rfl,fun k hk=>⟨h2 k,fun hx=>?_⟩⟩
   have all:∀ y:Int,Rch l at_ b e y→f.getD y.toNat false=true:=fun y hy=>by
    induction hy with
    | base g1 g2 g3 =>
     obtain⟨j,hj,rfl⟩:=bk.1 g1
     exact ha j hj (by omega) g2 g3
    | step g0 g1 g2 g3 ih =>
     rcases h4 _ ih _ g1 g2 g3 with h | h
     ·exact h
     ·cases h
   have:=all k hx
   rwa [af]at this
  | succ d ih =>
   intro i f hi h ha
   have hi':i<at_.length:=by omega
   obtain⟨h1,h2,h3,h4⟩:=h
   rw[FY,an,al,cl hi',Se]
   have hc:=List.count_le_length (a:=false) (l:=f)
   obtain⟨f',e1,e2,e3,e4⟩:=Rm hl at_ b e (3*f.count false+1) f [at_[i]] (by simp) (by omega) ⟨h1,h2,fun y hy y0 y1=>.base (by rw[aJ.1 hy];exact aV hi') y0 y1,fun k hk y hy y0 y1=>(h4 k hk y hy y0 y1).imp id fun h=>by cases h⟩
   rw[e1,aa]
   dsimp only
   rw[ci hi' (by omega)]
   refine ih (i+1) f' (by omega) e2 fun j hj hji x0 x1=>?_
   by_cases hj':j=i
   ·subst hj';exact e4 _ (aJ.2 rfl) x0 x1
   ·exact e3 _ (ha j hj (by omega) x0 x1)
 rw[QK,bm ⟨by omega,by omega,by rw[cg];omega⟩,af]
 have hno:∀ k:Nat,(List.replicate l.length false).getD k false=false:=fun k=>by
  rw[List.getD_eq_getElem?_getD,List.getElem?_replicate];split <;> rfl
 exact key at_.length 0 _ (by omega) ⟨a7,fun k hk=>(by rw[hno]at hk;cases hk),fun y hy=>(by cases hy),fun k hk=>(by rw[hno]at hk;cases hk)⟩ (fun j hj h=>absurd h (by omega))
theorem Bn{l:List bB}(hl:l.length≤1000)(at_:List Int)(hat:at_.length≤1000000)(b e:Bool):∃ m,sd l at_ b e=some (m,())∧kY l at_ b e=some (m,())∧m.Pairwise (· < ·)∧(∀ x∈m,0≤x∧x<(l.length:Int))∧m.length≤l.length:=by
 obtain⟨out,e1,e2,e3⟩:=Mr hl at_ hat b e
 obtain⟨f,e4,e5⟩:=Rn hl at_ hat b e
 have he:dL out=marks f 0 l.length:=A2 (Hr e2) (yw _ _ _) fun x=>by
  rw[sortI_mem,e3,marks_mem]
  constructor
  ·intro hx
   have hb:=hx.bd
   exact⟨x.toNat,by omega,by omega,by omega,(e5 _ (by omega)).2 (by rw[Int.toNat_of_nonneg hb.1];exact hx)⟩
  ·rintro ⟨i,rfl,h1,h2,h3⟩
   exact(e5 i (by omega)).1 h3
 refine⟨marks f 0 l.length,by rw[e1,he],e4,yw _ _ _,fun x hx=>?_,ED _ _ _⟩
 obtain⟨i,rfl,h1,h2,_⟩:=marks_mem.1 hx
 omega
def plB(p:bB)(n:Int):Bool :=
 if p.Op=1 then decide (0≤p.C∧p.C≤255)&&((decide (p.Set=[]) && !p.Not)&&(decide (p.A=0)&&decide (p.B=0)))
 else if p.Op=3 then decide (p.C=0)&&(decide (p.A=0)&&decide (p.B=0))
 else if p.Op=6 then decide (p.C=0)&&((decide (p.Set=[]) && !p.Not)&&(decide (0≤p.A∧p.A≤w64 (n-1))&&decide (p.B=0)))
 else if p.Op=7 then decide (p.C=0)&&((decide (p.Set=[]) && !p.Not)&&(decide (0≤p.A∧p.A≤w64 (n-1))&&decide (0≤p.B∧p.B≤w64 (n-1))))
 else if p.Op=2∨p.Op=4∨p.Op=5∨p.Op=8 then decide (p.C=0)&&((decide (p.Set=[]) && !p.Not)&&(decide (p.A=0)&&decide (p.B=0)))
 else false
theorem Sz(p:bB)(n:Int):zQ p n=some (plB p n,()):=by
 rw[Sm]
 simp only[Sh,Si,Sj,Sk,Sl,en,aa]
 unfold plB
 generalize w64 (n-1)=m
 by_cases c1:p.Op=1
 ·by_cases hC:0≤p.C∧p.C≤255
  ·by_cases hs:p.Set=[] <;> by_cases hn:p.Not <;> by_cases hA:p.A=0 <;> by_cases hB:p.B=0 <;> simp[c1,hC,hs,hn,hA,hB]
  ·have hC':p.C≠0:=fun h=>hC (by omega)
   by_cases hs:p.Set=[] <;> by_cases hn:p.Not <;> by_cases hA:p.A=0 <;> by_cases hB:p.B=0 <;> simp[c1,hC,hC',hs,hn,hA,hB]
 by_cases hC:p.C=0
 ·by_cases c3:p.Op=3
  ·by_cases hA:p.A=0 <;> by_cases hB:p.B=0 <;> simp[c3,hC,hA,hB]
  by_cases c6:p.Op=6
  ·by_cases hs:p.Set=[] <;> by_cases hn:p.Not <;> by_cases hA:0≤p.A∧p.A≤m <;> by_cases hB:p.B=0 <;> simp[c6,hC,hs,hn,hA,hB]
  by_cases c7:p.Op=7
  ·by_cases hs:p.Set=[] <;> by_cases hn:p.Not <;> by_cases hA:0≤p.A∧p.A≤m <;> by_cases hB:0≤p.B∧p.B≤m <;> simp[c7,hC,hs,hn,hA,hB]
  by_cases c2:p.Op=2
  ·by_cases hs:p.Set=[] <;> by_cases hn:p.Not <;> by_cases hA:p.A=0 <;> by_cases hB:p.B=0 <;> simp[c2,hC,hs,hn,hA,hB]
  by_cases c4:p.Op=4
  ·by_cases hs:p.Set=[] <;> by_cases hn:p.Not <;> by_cases hA:p.A=0 <;> by_cases hB:p.B=0 <;> simp[c4,hC,hs,hn,hA,hB]
  by_cases c5:p.Op=5
  ·by_cases hs:p.Set=[] <;> by_cases hn:p.Not <;> by_cases hA:p.A=0 <;> by_cases hB:p.B=0 <;> simp[c5,hC,hs,hn,hA,hB]
  by_cases c8:p.Op=8
  ·by_cases hs:p.Set=[] <;> by_cases hn:p.Not <;> by_cases hA:p.A=0 <;> by_cases hB:p.B=0 <;> simp[c8,hC,hs,hn,hA,hB]
  have hno:¬ (1≤p.Op∧p.Op≤8):=by omega
  simp[c1,c2,c3,c4,c5,c6,c7,c8,hno]
 ·have e5:(decide (p.C=0))=false:=ae hC
  by_cases c3:p.Op=3
  ·simp[c3,hC]
  by_cases c6:p.Op=6
  ·simp[c6,hC]
  by_cases c7:p.Op=7
  ·simp[c7,hC]
  simp[c1,c3,c6,c7,hC]
theorem M3(p:bB)(n:Int)(b:Bool):xd p n b=some (decide (b=decide (p.Op=8))&&plB p n,()):=by
 rw[M2]
 simp only[M1,fS,aa]
 unfold plB
 generalize w64 (n-1)=m
 by_cases hb:b=decide (p.Op=8)
 ·rw[ac hb,bn (by decide),Bool.true_and]
  clear hb
  by_cases c1:p.Op=1
  ·by_cases hC:0≤p.C∧p.C≤255 <;> by_cases hs:p.Set=[] <;> by_cases hn:p.Not <;> by_cases hA:p.A=0 <;> by_cases hB:p.B=0 <;> simp[c1,hC,hs,hn,hA,hB]
  by_cases hC:p.C=0
  ·by_cases c3:p.Op=3
   ·by_cases hA:p.A=0 <;> by_cases hB:p.B=0 <;> simp[c3,hC,hA,hB]
   by_cases c6:p.Op=6
   ·by_cases hs:p.Set=[] <;> by_cases hn:p.Not <;> by_cases hA:0≤p.A∧p.A≤m <;> by_cases hB:p.B=0 <;> simp[c6,hC,hs,hn,hA,hB]
   by_cases c7:p.Op=7
   ·by_cases hs:p.Set=[] <;> by_cases hn:p.Not <;> by_cases hA:0≤p.A∧p.A≤m <;> by_cases hB:0≤p.B∧p.B≤m <;> simp[c7,hC,hs,hn,hA,hB]
   by_cases c2:p.Op=2
   ·by_cases hs:p.Set=[] <;> by_cases hn:p.Not <;> by_cases hA:p.A=0 <;> by_cases hB:p.B=0 <;> simp[c2,hC,hs,hn,hA,hB]
   by_cases c4:p.Op=4
   ·by_cases hs:p.Set=[] <;> by_cases hn:p.Not <;> by_cases hA:p.A=0 <;> by_cases hB:p.B=0 <;> simp[c4,hC,hs,hn,hA,hB]
   by_cases c5:p.Op=5
   ·by_cases hs:p.Set=[] <;> by_cases hn:p.Not <;> by_cases hA:p.A=0 <;> by_cases hB:p.B=0 <;> simp[c5,hC,hs,hn,hA,hB]
   by_cases c8:p.Op=8
   ·by_cases hs:p.Set=[] <;> by_cases hn:p.Not <;> by_cases hA:p.A=0 <;> by_cases hB:p.B=0 <;> simp[c8,hC,hs,hn,hA,hB]
   simp[c1,c2,c3,c4,c5,c6,c7,c8]
  ·by_cases c3:p.Op=3
   ·simp[c3,hC]
   by_cases c6:p.Op=6
   ·simp[c6,hC]
   by_cases c7:p.Op=7
   ·simp[c7,hC]
   simp[c1,c3,c6,c7,hC]
 ·rw[ae hb,bm (by decide),Bool.false_and]
def nfB(l:List bB):Bool:=decide (1≤(l.length:Int)∧(l.length:Int)≤400) && !eb (fun i=>!(plB (l.getD i b8) l.length&&decide (decide ((i:Int)=w64 ((l.length:Int)-1))=decide ((l.getD i b8).Op=8)))) l.length
theorem Df(l:List bB)(hl:l.length≤1000):sq l=some (nfB l,()):=by
 rw[L5,fS,aa]
 dsimp only
 unfold nfB
 by_cases c:1≤(l.length:Int)∧(l.length:Int)≤400
 ·rw[ac c,bn (by decide),Bool.true_and]
  have h:=ja (fun i=>lZ l l (l.length:Int) i) l.length (fun i=>!(plB (l.getD i b8) l.length&&decide (decide ((i:Int)=w64 ((l.length:Int)-1))=decide ((l.getD i b8).Op=8)))) (some (false,())) (some (true,()))
   (fun i hi=>by
    show lZ l l _ _=_
    rw[CU,an,al,cl hi,M3,aa,ci hi (by omega),cG hi,Bool.and_comm])
   (by show lZ l l _ _=_;rw[CU,bn (by simp)])
  have h':lZ l l (l.length:Int) 0=_:=h
  rw[h']
  split <;> simp_all
 ·rw[ae c,bm (by decide),Bool.false_and]
theorem Sy(l:List bB)(hl:l.length≤1000):zm l=some (nfB l,()):=by
 rw[Q9]
 unfold nfB
 have h:=ja (fun i=>mr l (l.length:Int) i) l.length (fun i=>!(plB (l.getD i b8) l.length&&decide (decide ((i:Int)=w64 ((l.length:Int)-1))=decide ((l.getD i b8).Op=8)))) (some (false,())) (some (decide (1≤(l.length:Int)∧(l.length:Int)≤400),()))
  (fun i hi=>by
   show mr l _ _=_
   rw[Gk,an,al,cl hi,Sz,aa,cG hi,bm (c:=(0:Int)≤(i:Int)∧(i:Int)<(l.length:Int)) (by omega),ci hi (by omega)]
   dsimp only
   cases plB l[i] (l.length:Int) with
   | false=>rfl
   | true =>
    rw[bn (by decide),Bool.true_and]
    have:decide (decide (l[i].Op=8)=decide ((i:Int)=w64 ((l.length:Int)-1)))=decide (decide ((i:Int)=w64 ((l.length:Int)-1))=decide (l[i].Op=8)):=decide_eq_decide.2 eq_comm
    rw[this])
  (by show mr l _ _=_;rw[Gk,bn (by simp),en];rfl)
 have h':mr l (l.length:Int) 0=_:=h
 rw[h']
 split <;> simp_all
theorem DK(c:Int):∀ l:List Int,decide (dk l c≥0)=decide (c∈l)
 | []=>by simp[dk]
 | b::l=>by
  have ih:=DK c l
  have hb:=DI l c
  unfold dk
  by_cases h:b=c
  ·rw[bm h];simp[h]
  ·rw[bn h]
   have h':c≠b:=fun e=>h e.symm
   have hm:decide (c∈b::l)=decide (c∈l):=decide_eq_decide.2 (by rw[aK];exact⟨fun e=>e.resolve_left h',.inr⟩)
   rw[hm,← ih]
   by_cases d:dk l c = -1
   ·rw[bm d,d]
   ·rw[bn d];exact decide_eq_decide.2 (by omega)
theorem AX(l:List Int)(c:Int):(l.any fun x=>decide (x=c))=decide (c∈l):=by
 cases h:decide (c∈l) with
 | true=>exact List.any_eq_true.2 ⟨c,of_decide_eq_true h,by simp⟩
 | false =>
  have h:=of_decide_eq_false h
  rw[← aS]
  intro e
  obtain⟨x,hx,e⟩:=List.any_eq_true.1 e
  exact h (by rw[← of_decide_eq_true e];exact hx)
theorem Sp(l:List Int)(c:Int)(hl:l.length≤4294967296):zR l c=some (decide (c∈l),()):=by
 rw[So]
 have h:=ja (fun i=>mD l c i) l.length (fun i=>decide (l.getD i 0=c)) (some (true,())) (some (false,()))
  (fun i hi=>by show mD l c _=_;rw[GX,an,al,cl hi,cG hi,ci hi (by omega)])
  (by show mD l c _=_;rw[GX,bn (by simp)])
 have h':mD l c 0=_:=h
 rw[h',fQ l 0 (fun x=>decide (x=c)),AX]
 by_cases d:c∈l
 ·rw[ac d,bm rfl]
 ·rw[ae d,bn (by decide)]
theorem Bv(l:List Int)(c:Int)(hl:l.length≤4294967296):Ap l c=some (decide (c∈l),()):=by
 rw[TU,T4]
 obtain⟨k,e1,e2,_⟩:=jp (fun i=>mR l c (l.length:Int) i) () l.length (fun i=>decide (l.getD i 0=c))
  (fun i hi=>by
   show mR l c _ _=_
   rw[Iw,an,al,cl hi,cG hi,ci hi (by omega)]
   have:decide (c=l[i])=decide (l[i]=c):=decide_eq_decide.2 eq_comm
   rw[this])
  (by show mR l c _ _=_;rw[Iw,bn (by simp)])
 have e1':mR l c (l.length:Int) 0=some (k,()):=e1
 rw[e1',aa]
 dsimp only
 rw[e2,fQ l 0 (fun x=>decide (x=c)),AX]
def tkB(p:bB)(c:Int):Bool:=if p.Op=1 then decide (p.C=w64 c)else if p.Op=2 then true else if p.Op=3 then !decide (decide (c∈p.Set)=p.Not)else false
theorem HE(p:bB)(c:Int)(hl:p.Set.length≤4294967296):xq p c=some (tkB p c,())∧zS p c=some (tkB p c,()):=by
 rw[Nq,Sq,ID,H9,H2,Sp _ _ hl]
 simp only[aa,DK]
 unfold tkB
 by_cases c1:p.Op=1
 ·have:decide (w64 c=p.C)=decide (p.C=w64 c):=decide_eq_decide.2 eq_comm
  simp[c1,this]
 by_cases c2:p.Op=2
 ·simp[c2]
 by_cases c3:p.Op=3
 ·simp[c3]
 simp[c1,c2,c3]
def nxt(l:List bB)(c:Int)(m:List Int):List Int:=(m.filter fun k=>tkB (l.getD k.toNat b8) c).map fun k=>k+1
theorem Pp(l:List bB)(c:Int)(m:List Int):(nxt l c m).length≤m.length:=by
 unfold nxt
 rw[bh]
 exact List.length_filter_le ..
theorem EU(l:List bB)(c k:Int)(m:List Int):nxt l c (k::m)=(if tkB (l.getD k.toNat b8) c=true then [k+1]else [])++nxt l c m:=by
 unfold nxt
 rw[List.filter_cons]
 split <;> rfl
def o9(l:List bB):Prop:=∀ p∈l,p.Set.length≤4294967296
theorem Pe{l:List bB}(hl:l.length≤1000)(hS:o9 l){s:List Int}(hs:s.length≤4294967296)(p:Nat)(hp:p<s.length)(best:Int)(m:List Int)(hm:m.length≤1000)(hb:∀ x∈m,0≤x∧x<(l.length:Int)) :
  ∀ (d i:Nat) (t:List Int),i+d=m.length→t.length≤i→pG l s (p:Int) best t m (m.length:Int) (i:Int)=nu l s ((p+1:Nat):Int) best (t++nxt l s[p] (m.drop i)):=by
 intro d
 induction d with
 | zero =>
  intro i t hi ht
  rw[CR,ap,aW (by omega),ci hp (by omega)]
  show _=nu l s _ best (t++[])
  rw[aH]
 | succ d ih =>
  intro i t hi ht
  have hi':i<m.length:=by omega
  have hv:=hb _ (aV hi')
  have hvn:m[i].toNat<l.length:=by omega
  rw[CR,an,al,cl hi',al,al,cl hp,cG hvn,(HE _ _ (hS _ (aV hvn))).1,aa,aq (n:=m[i]+1),ci hi' (by omega),ai hi',EU,cG hvn]
  dsimp only
  by_cases c:tkB l[m[i].toNat] s[p]=true
  ·rw[bm c,bm c,bm (by rw[cg];omega)]
   have:=ih (i+1) (t++[m[i]+1]) (by omega) (by simp;omega)
   rw[ah]at this
   exact this
  ·rw[bn c,bn c,bg]
   exact ih (i+1) t (by omega) (by omega)
theorem Pf{l:List bB}(hl:l.length≤1000)(hS:o9 l){s:List Int}(hs:s.length≤4294967296)(p:Nat)(hp:p<s.length)(best:Int)(m:List Int)(hm:m.length≤1000)(hb:∀ x∈m,0≤x∧x<(l.length:Int)) :
  ∀ (d i:Nat) (t:List Int),i+d=m.length→t.length≤i→qy l s m best (p:Int) t (i:Int)=(kY l (t++nxt l s[p] (m.drop i)) false (decide (((p+1:Nat):Int)=(s.length:Int)))).bind fun(r1:(List Int)×Unit)=>qw l s r1.1 best ((p+1:Nat):Int):=by
 intro d
 induction d with
 | zero =>
  intro i t hi ht
  rw[Gh,ap,aW (by omega),ci hp (by omega)]
  show _=(kY l (t++[]) _ _).bind _
  rw[aH]
 | succ d ih =>
  intro i t hi ht
  have hi':i<m.length:=by omega
  have hv:=hb _ (aV hi')
  have hvn:m[i].toNat<l.length:=by omega
  rw[Gh,an,al,cl hi',al,al,cl hp,cG hvn,(HE _ _ (hS _ (aV hvn))).2,aa,aq (n:=m[i]+1),ci hi' (by omega),ai hi',EU,cG hvn]
  dsimp only
  by_cases c:tkB l[m[i].toNat] s[p]=true
  ·rw[bm c,bm c,al,bm (by rw[cg];omega)]
   have:=ih (i+1) (t++[m[i]+1]) (by omega) (by simp;omega)
   rw[ah]at this
   exact this
  ·rw[bn c,bn c,bg]
   exact ih (i+1) t (by omega) (by omega)
theorem Em{m:List Int}(ha:m.Pairwise (· < ·)){N:Int}(hb:∀ x∈m,x<N)(h0:0<m.length):decide (N-1∈m)=decide (m[m.length-1]=N-1):=by
 refine decide_eq_decide.2 ⟨fun h=>?_,fun h=>by rw[← h];exact aV _⟩
 obtain⟨i,hi,e⟩:=bk.1 h
 have h1:=hb _ (aV (show m.length-1<m.length by omega))
 by_cases c:i=m.length-1
 ·subst c;exact e
 ·have:=List.pairwise_iff_getElem.1 ha i (m.length-1) hi (by omega) (by omega)
  omega
theorem O5{l:List bB}(hl:l.length≤1000)(hS:o9 l){s:List Int}(hs:s.length≤4294967296):∀ (d p:Nat),p+d=s.length→∀ (best:Int) (at_:List Int),at_.length≤1000 →
  ∃ v,nu l s (p:Int) best at_=some (v,())∧((kY l at_ (decide ((p:Int)=0)) (decide ((p:Int)=(s.length:Int)))).bind fun(r1:(List Int)×Unit)=>qw l s r1.1 best (p:Int))=some (v,()):=by
 intro d
 induction d with
 | zero =>
  intro p hp best at_ hat
  obtain⟨m,e1,e2,e3,e4,e5⟩:=Bn hl at_ (by omega) (decide ((p:Int)=0)) (decide ((p:Int)=(s.length:Int)))
  rw[CQ,e1,e2,aa,aa]
  dsimp only
  rw[Bv _ _ (by omega),aa,Gf,aq (n:=(l.length:Int)-1)]
  dsimp only
  have hi:∀ b,pE l s (p:Int) b m=some (b,()):=fun b=>by rw[wK,an]
  have hss:∀ b,qx l s m b (p:Int)=some (b,()):=fun b=>by rw[Gg,an]
  simp only[hi,hss]
  by_cases hm:0<m.length
  ·have w:w64 ((m.length:Int)-1)=((m.length-1:Nat):Int):=by rw[aq];omega
   rw[bm (c:=decide ((m.length:Int)>0)=true) (ac (by omega)),w,bm (c:=(0:Int)≤((m.length-1:Nat):Int)∧((m.length-1:Nat):Int)<(m.length:Int)) (by omega),cl (by omega),Em e3 (fun x hx=>(e4 x hx).2) hm]
   by_cases c:m[m.length-1]=(l.length:Int)-1
   ·rw[ac c,bm rfl];exact⟨_,rfl,rfl⟩
   ·rw[ae c,bn (by decide)];exact⟨_,rfl,rfl⟩
  ·have:m=[]:=aZ.1 (by omega)
   subst this
   rw[bn (c:=decide ((l.length:Int)-1∈([]:List Int))=true) (by simp),bn (by simp)]
   exact⟨_,rfl,rfl⟩
 | succ d ih =>
  intro p hp best at_ hat
  have hps:p<s.length:=by omega
  obtain⟨m,e1,e2,e3,e4,e5⟩:=Bn hl at_ (by omega) (decide ((p:Int)=0)) (decide ((p:Int)=(s.length:Int)))
  rw[CQ,e1,e2,aa,aa]
  dsimp only
  rw[Bv _ _ (by omega),aa,Gf,aq (n:=(l.length:Int)-1)]
  dsimp only
  by_cases hm:0<m.length
  ·have go:∀ b,∃ v,pE l s (p:Int) b m=some (v,())∧qx l s m b (p:Int)=some (v,()):=fun b=>by
    have hn:=Pp l s[p] m
    have h1:=Pe hl hS hs p hps b m (by omega) e4 m.length 0 [] (by omega) (aG _)
    have h2:=Pf hl hS hs p hps b m (by omega) e4 m.length 0 [] (by omega) (aG _)
    rw[aM,bg]at h1 h2
    obtain⟨v,g1,g2⟩:=ih (p+1) (by omega) b (nxt l s[p] m) (by omega)
    rw[ae (p:=((p+1:Nat):Int)=0) (by omega)]at g2
    refine⟨v,?_,?_⟩
    ·rw[wK,ap,ap]
     exact h1.trans g1
    ·rw[Gg,ap]
     exact h2.trans g2
   have w:w64 ((m.length:Int)-1)=((m.length-1:Nat):Int):=by rw[aq];omega
   rw[bm (c:=decide ((m.length:Int)>0)=true) (ac (by omega)),w,bm (c:=(0:Int)≤((m.length-1:Nat):Int)∧((m.length-1:Nat):Int)<(m.length:Int)) (by omega),cl (by omega),Em e3 (fun x hx=>(e4 x hx).2) hm]
   by_cases c:m[m.length-1]=(l.length:Int)-1
   ·rw[ac c,bm rfl,bm rfl];exact go _
   ·rw[ae c,bn (by decide),bn (by decide)];exact go _
  ·have:m=[]:=aZ.1 (by omega)
   subst this
   rw[bn (c:=decide ((l.length:Int)-1∈([]:List Int))=true) (by simp),bn (by simp),wK,ap,bm (by simp)]
   exact⟨_,rfl,rfl⟩
theorem O4{l:List bB}(hl:l.length≤1000)(hS:o9 l){s:List Int}(hs:s.length≤4294967296)(p:Nat)(hp:p≤s.length):∃ v,wJ l s (p:Int)=some (v,())∧zk l s (p:Int)=some (v,())∧(nfB l=false→v = -1):=by
 rw[LY,Q5,Df l hl,Sy l hl,fS,en]
 simp only[aa]
 cases h:nfB l with
 | false=>exact⟨_,rfl,rfl,fun _=>rfl⟩
 | true =>
  have hin:decide (0≤(p:Int)∧(p:Int)≤(s.length:Int))=true:=ac (by omega)
  rw[hin]
  simp only[Bool.not_true,Bool.false_eq_true,if_false]
  obtain⟨v,e1,e2⟩:=O5 hl hS hs (s.length-p) p (by omega) (-1) [0] (by simp)
  exact⟨v,e1,e2,fun h=>by cases h⟩
theorem O6{l:List bB}(hl:l.length≤1000)(hS:o9 l){s:List Int}(hs:s.length≤4294967296):∃ a b c,wI l s=some (a,b,c,())∧zj l s=some (a,b,c,()):=by
 have key:∀ (d p:Nat),p+d=s.length+1→∃ a b c,sn l s (p:Int)=some (a,b,c,())∧tJ l s (p:Int)=some (a,b,c,())∧(nfB l=false→a=0∧b=0∧c=false):=by
  intro d
  induction d with
  | zero =>
   intro p hp
   rw[CT,Gj,ap,ap]
   exact⟨_,_,_,rfl,rfl,fun _=>⟨rfl,rfl,rfl⟩⟩
  | succ d ih =>
   intro p hp
   obtain⟨v,e1,e2,e3⟩:=O4 hl hS hs p (by omega)
   have w:w64 ((p:Int)+1)=((p+1:Nat):Int):=by rw[aq];omega
   rw[CT,Gj,an,an,e1,e2,aa,aa,w]
   dsimp only
   by_cases c:v≥0
   ·rw[ak c,ak c];exact⟨_,_,_,rfl,rfl,fun h=>absurd (e3 h) (by omega)⟩
   ·rw[aj c,aj c];exact ih (p+1) (by omega)
 obtain⟨a,b,c,e1,e2,e3⟩:=key (s.length+1) 0 (by omega)
 rw[L0,Q7,Df l hl,aa]
 dsimp only
 cases h:nfB l with
 | false =>
  obtain⟨rfl,rfl,rfl⟩:=e3 h
  rw[bm (by decide)]
  exact⟨_,_,_,rfl,e2⟩
 | true=>rw[bn (by decide)];exact⟨a,b,c,e1,e2⟩
noncomputable def nj(pat s:List Int):Bool:=match ox pat s with
 | some (v,_)=>decide (v.N≠0)
 | none=>false
theorem rV(pat s:List Int)(hB:∀ b∈pat,0≤b∧b≤255)(hl:pat.length≤9223372036854775807)(hs:s.length≤4294967296):sB pat s=some (nj pat s,())∧ox pat s=some (⟨1,if nj pat s=true then 1000000 else 0,[]⟩,()):=by
 obtain⟨x,ok,e1,e2,h1,h2,h3,h4⟩:=Qp pat hB hl
 obtain⟨l,e3,e4,h5,h6⟩:=Pg h1 h2 h4
 obtain⟨a,b,c,e5,e6⟩:=O6 h5 (fun p hp=>by have:=h6 p hp;omega) hs
 have hs':ox pat s=some (⟨1,if c=true then 1000000 else 0,[]⟩,()):=by
  rw[Rz,e1,aa]
  dsimp only
  rw[Q6,e4,aa]
  dsimp only
  rw[e6,aa,aa]
  dsimp only
  rw[Gu,zF]
  cases c with
  | true=>rw[bm rfl,aa,fJ];rfl
  | false=>rw[bn (by decide),aa,fJ];rfl
 have hf:nj pat s=c:=by
  unfold nj
  rw[hs']
  cases c <;> rfl
 rw[hf]
 refine⟨?_,hs'⟩
 rw[Mw,e2,aa]
 dsimp only
 rw[LZ,e3,aa]
 dsimp only
 rw[e5]
 rfl
theorem EJ{a b:Int}(ha:Dc a)(hb:Dc b):∃ v ok,sg a b=some (v,ok,())∧Dc v:=by
 have ha':=ha
 have hb':=hb
 unfold Dc at ha' hb'
 rw[CJ,eG,eG]
 simp only[aa,ac ha',ac hb',Bool.not_true,Bool.false_eq_true,if_false,rC ha,rC hb]
 have x0:0≤(if a<0 then 0-a else a):=by split <;> omega
 have x1:(if a<0 then 0-a else a)≤9000000000000:=by split <;> omega
 have y0:0≤(if b<0 then 0-b else b):=by split <;> omega
 have y1:(if b<0 then 0-b else b)≤9000000000000:=by split <;> omega
 generalize (if a<0 then 0-a else a)=x at *
 generalize (if b<0 then 0-b else b)=y at *
 generalize (!(decide ((decide (a<0))=(decide (b<0)))))=n
 rw[EG x0 x1 y0 y1 n]
 have p0:=Int.mul_nonneg x0 y0
 unfold nY Dc
 generalize x*y=p at *
 by_cases c:p/1000000>9000000000000
 ·rw[bm c];exact⟨_,_,rfl,by omega⟩
 ·rw[bn c]
  cases n with
  | true=>rw[bm rfl];exact⟨_,_,rfl,by omega⟩
  | false=>rw[bn (by decide)];exact⟨_,_,rfl,by omega⟩
theorem yW(n:Int):∃ v ok,((mb n).bind fun(r2:Int×Bool×Unit)=>some (r2.1,r2.2.1,()))=some (v,ok,())∧Dc v:=by
 rw[pX]
 unfold Dc
 by_cases c:-9000000000000≤n∧n≤9000000000000
 ·rw[bm c];exact⟨_,_,rfl,c⟩
 ·rw[bn c];exact⟨_,_,rfl,by omega⟩
theorem rB{a b:Int}(ha:Dc a)(hb:Dc b):∃ v ok,nq a b=some (v,ok,())∧Dc v:=by
 unfold Dc at ha hb
 rw[CH,eG,eG]
 simp only[aa,ac ha,ac hb,Bool.not_true,Bool.false_eq_true,if_false]
 exact yW _
theorem Hy{a b:Int}(ha:Dc a)(hb:Dc b):∃ v ok,si a b=some (v,ok,())∧Dc v:=by
 unfold Dc at ha hb
 rw[CL,eG,eG]
 simp only[aa,ac ha,ac hb,Bool.not_true,Bool.false_eq_true,if_false]
 exact yW _
theorem BJ{a b:Int}(ha:Dc a)(hb:Dc b)(h0:b≠0):∃ v ok,pC a b=some (v,ok,())∧Dc v:=by
 unfold Dc at ha hb
 rw[CI,eG,eG]
 simp only[aa,ac ha,ac hb,ae h0,Bool.not_true,Bool.false_eq_true,if_false,bm h0]
 exact yW _
noncomputable def cL(op a b:Int):Int×Int:=match ji (op+9) a b with
 | some (n,e,_)=>(n,e)
 | none=>(0,0)
theorem yy{op a b:Int}(ha:Dc a)(hb:Dc b):ji (op+9) a b=some ((cL op a b).1,(cL op a b).2,())∧Dc (cL op a b).1∧0≤(cL op a b).2∧(cL op a b).2≤2:=by
 have key:∃ n e,ji (op+9) a b=some (n,e,())∧Dc n∧(0:Int)≤e∧e≤2:=by
  have z:Dc 0:=by unfold Dc;omega
  have L1:∀ {x:Option (Int×Bool×Unit)},(∃ v ok,x=some (v,ok,())∧Dc v)→∃ n e,(x.bind fun(r:Int×Bool×Unit)=>jj r.1 r.2.1)=some (n,e,())∧Dc n∧(0:Int)≤e∧e≤2:=fun {x} hx=>by
   obtain⟨v,ok,rfl,hv⟩:=hx
   rw[aa,sD]
   dsimp only
   cases ok with
   | true=>rw[bn (by decide)];exact⟨_,_,rfl,hv,by decide,by decide⟩
   | false=>rw[bm (by decide)];exact⟨_,_,rfl,z,by decide,by decide⟩
  rw[l7]
  by_cases c0:op+9=9
  ·rw[ak c0];exact L1 (rB ha hb)
  rw[aj c0]
  by_cases c1:op+9=10
  ·rw[ak c1];exact L1 (Hy ha hb)
  rw[aj c1]
  by_cases c2:op+9=11
  ·rw[ak c2];exact L1 (EJ ha hb)
  rw[aj c2]
  by_cases cb:b=0
  ·rw[ak cb];exact⟨_,_,rfl,z,by decide,by decide⟩
  rw[aj cb]
  by_cases c4:op+9=13
  ·rw[ak c4,bm cb]
   refine⟨_,_,rfl,?_,by decide,by decide⟩
   unfold Dc at ha ⊢
   have h1:(a.tmod b).natAbs≤a.natAbs:=by
    rw[Int.natAbs_tmod];exact Nat.mod_le _ _
   omega
  rw[aj c4];exact L1 (BJ ha hb cb)
 obtain⟨n,e,e1,e2⟩:=key
 unfold cL
 rw[e1];exact⟨rfl,e2⟩
theorem te{op a b:Int}(ha:Dc a)(hb:Dc b):ji (op+9) a b=some ((cL op a b).1,(cL op a b).2,())∧Dc (cL op a b).1:=⟨(yy ha hb).1,(yy ha hb).2.1⟩
def j7(b:Bool):bF:=⟨1,if b=true then 1000000 else 0,[]⟩
theorem pf(b:Bool):VG (j7 b):=gM (by unfold Dc;split <;> omega)
def yG(op c:Int):Bool:=if op=0 then decide (c<0)else if op=1 then decide (c≤0)else if op=2 then decide (c>0)else if op=3 then decide (c≥0)else if op=4 then decide (c=0)else !decide (c=0)
inductive R
 | err (e:Int)
 | stop
 | go (a:Int) (V:List bF) (C:List bo) (out:List Int) (st:List bF)
def b7(o:bA):Int :=
 if o.Code=4∨o.Code=5∨o.Code=6∨o.Code=9∨o.Code=24∨o.Code=26∨o.Code=27∨o.Code=28∨o.Code=31∨o.Code=32∨o.Code=33∨o.Code=35 then 1
 else if o.Code=7∨o.Code=8 then 2 else if o.Code=29 then o.N else if 12≤o.Code∧o.Code≤23 then 2 else 0
def eV(a:Int)(V:List bF)(C:List bo)(out:List Int)(st:List bF)(v:bF):R:=if st.length=64 then .err 7 else .go a V C out (st++[v])
noncomputable def dJ(line:List Int)(nr:Int)(o:bA)(l:List bF):Int×bF :=
 if o.Code=1 then(0,⟨1,o.N,[]⟩)
 else if o.Code=2 then(if 300<o.S.length then 3 else 0,⟨2,0,o.S⟩)
 else if o.Code=9 then(0,pt line (dA (l.getD 0 bU)))
 else if o.Code=10 then(0,⟨1,nr*1000000,[]⟩)
 else if o.Code=11 then(0,⟨1,((dh line).length:Int)*1000000,[]⟩)
 else if o.Code=17 then(if 300<(cr (l.getD 0 bU)++cr (l.getD 1 bU)).length then 3 else 0,⟨2,0,cr (l.getD 0 bU)++cr (l.getD 1 bU)⟩)
 else if o.Code=24 then(0,j7 (nj o.S (cr (l.getD 0 bU))))
 else if o.Code=25 then(0,j7 (nj o.S line))
 else if o.Code=26 then(0,j7 (!lk (l.getD 0 bU)))
 else if o.Code=27 then(0,⟨1,0-cJ (l.getD 0 bU),[]⟩)
 else if o.Code=28 then(0,j7 (lk (l.getD 0 bU)))
 else if o.Code=29 then(0,iv o.S l)
 else if o.Code≤16 then((cL (o.Code-12) (cJ (l.getD 0 bU)) (cJ (l.getD 1 bU))).2,⟨1,(cL (o.Code-12) (cJ (l.getD 0 bU)) (cJ (l.getD 1 bU))).1,[]⟩)
 else(0,j7 (yG (o.Code-18) (fC (l.getD 0 bU) (l.getD 1 bU))))
def kT(a:Int)(V:List bF)(C:List bo)(out:List Int)(st:List bF)(n:Int)(k:List Int)(v:bF):R:=match iH C n k v with
 | some C'=>eV a V C' out st v
 | none=>.err 4
noncomputable def fG(a:Int)(V:List bF)(C:List bo)(out:List Int)(st:List bF)(o:bA)(l:List bF):R :=
 if o.Code=3 then eV a V C out st (V.getD o.N.toNat bU)
 else if o.Code=4 then eV a (V.set o.N.toNat (l.getD 0 bU)) C out st (l.getD 0 bU)
 else if o.Code=5 then(if(cL 0 (cJ (V.getD o.N.toNat bU)) (cJ (l.getD 0 bU))).2=0 then
   eV a (V.set o.N.toNat ⟨1,(cL 0 (cJ (V.getD o.N.toNat bU)) (cJ (l.getD 0 bU))).1,[]⟩) C out st ⟨1,(cL 0 (cJ (V.getD o.N.toNat bU)) (cJ (l.getD 0 bU))).1,[]⟩
  else .err 1)
 else if o.Code=6 then eV a V C out st (ix C o.N (eY (l.getD 0 bU)))
 else if o.Code=7 then kT a V C out st o.N (eY (l.getD 0 bU)) (l.getD 1 bU)
 else if o.Code=8 then(if(cL 0 (cJ (ix C o.N (eY (l.getD 0 bU)))) (cJ (l.getD 1 bU))).2=0 then
   kT a V C out st o.N (eY (l.getD 0 bU)) ⟨1,(cL 0 (cJ (ix C o.N (eY (l.getD 0 bU)))) (cJ (l.getD 1 bU))).1,[]⟩
  else .err 1)
 else .go a V (nh C o.N (eY (l.getD 0 bU))) out st
def iL(a:Int)(V:List bF)(C:List bo)(out:List Int)(st:List bF)(t:List Int):R:=if 600<(out++t).length then .err 5 else .go a V C (out++t) st
noncomputable def doR(line:List Int)(nr:Int)(a:Int)(V:List bF)(C:List bo)(out:List Int)(st:List bF)(o:bA)(l:List bF):R :=
 if o.Code=36 then .stop
 else if o.Code=30 then .go o.N V C out st
 else if o.Code=31 then(if lk (l.getD 0 bU)=true then .go (a+1) V C out st else .go o.N V C out st)
 else if o.Code=32 then .go (a+1) V C out st
 else if o.Code=33 then iL (a+1) V C out st ((if o.N=1 then [32]else [])++cr (l.getD 0 bU))
 else if o.Code=34 then iL (a+1) V C out st [10]
 else if o.Code=3∨o.Code=4∨o.Code=5∨o.Code=6∨o.Code=7∨o.Code=8∨o.Code=35 then fG (a+1) V C out st o l
 else if(dJ line nr o l).1=0 then eV (a+1) V C out st (dJ line nr o l).2 else .err (dJ line nr o l).1
noncomputable def jO(line:List Int)(nr:Int)(o:bA)(a:Int)(V:List bF)(C:List bo)(out:List Int)(st:List bF):R :=
 if(st.length:Int)<b7 o then .err 7
 else doR line nr a V C out (st.take (st.length-(b7 o).toNat)) o (st.drop (st.length-(b7 o).toNat))
def VmI(nv:Nat)(nc:Int)(V:List bF)(C:List bo)(out:List Int)(st:List bF):Prop :=
 (V.length=nv∧∀ v∈V,VG v)∧CG nc C∧(out.length≤600∧Bt out)∧(st.length≤64∧∀ v∈st,VG v)
theorem z8{o:bA}{n v c:Int}(h:opB o n v c=true):0≤b7 o∧b7 o≤3:=by
 unfold b7
 split
 ·omega
 split
 ·omega
 split
 ·rename_i h1 h2 h3
  unfold opB at h
  simp[h3]at h
  omega
 split <;> omega
theorem EV{o:bA}{n v c:Int}(h:opB o n v c=true):1≤o.Code∧o.Code≤36:=by
 unfold opB at h
 by_cases c0:1≤o.Code∧o.Code≤36
 ·exact c0
 ·have e:∀ k:Int,1≤k→k≤36→o.Code≠k:=fun k h1 h2 h3=>c0 (by omega)
  simp[e,c0]at h
theorem EE{a b:Int}(ha:Dc a)(hb:Dc b):(cL 0 a b).2=0∨(cL 0 a b).2=1:=by
 obtain⟨v,ok,e,_⟩:=rB ha hb
 unfold cL
 rw[l7,bm (by decide),e,aa,sD]
 dsimp only
 cases ok with
 | true=>rw[bn (by decide)];exact .inl rfl
 | false=>rw[bm (by decide)];exact .inr rfl
def oZ(nv:Nat)(nc:Int)(n:Int):R→Prop
 | .go a V C out st=>(0≤a∧a<n)∧VmI nv nc V C out st
 | .err e=>1≤e∧e≤7
 | .stop=>True
theorem oc{nv:Nat}{nc n a:Int}{V:List bF}{C:List bo}{out:List Int}{st:List bF}{v:bF}(ha:0≤a∧a<n)(h:VmI nv nc V C out st)(hv:VG v):oZ nv nc n (eV a V C out st v):=by
 obtain⟨h1,h2,h3,h4,h5⟩:=h
 unfold eV
 by_cases c:st.length=64
 ·rw[bm c];exact⟨by decide,by decide⟩
 ·rw[bn c]
  refine⟨ha,h1,h2,h3,by rw[ag,bj];omega,fun w hw=>?_⟩
  rcases aA.1 hw with hw | hw
  ·exact h5 w hw
  ·rw[aJ.1 hw];exact hv
theorem FC{nv:Nat}{nc n a:Int}{V:List bF}{C:List bo}{out:List Int}{st:List bF}{v:bF}{m:Int}{k:List Int}(ha:0≤a∧a<n)(h:VmI nv nc V C out st)(hm:0≤m∧m<nc)(hk:k.length≤300)(hv:VG v):oZ nv nc n (kT a V C out st m k v):=by
 unfold kT
 cases e:iH C m k v with
 | none=>exact⟨by decide,by decide⟩
 | some C'=>exact oc ha ⟨h.1,P6 h.2.1 hm hk hv e,h.2.2⟩ hv
theorem SK{V:List bF}(h:∀ v∈V,VG v)(i:Nat){v:bF}(hv:VG v):∀ w∈V.set i v,VG w:=fun w hw=>by
 rcases List.mem_or_eq_of_mem_set hw with hw | hw
 ·exact h w hw
 ·rw[hw];exact hv
theorem Pa{nv:Nat}{nc n a:Int}{V:List bF}{C:List bo}{out:List Int}{st l:List bF}{o:bA}(ha:0≤a∧a<n)(h:VmI nv nc V C out st)(hl:∀ v∈l,VG v)(hN:(o.Code=7∨o.Code=8)→0≤o.N∧o.N<nc):oZ nv nc n (fG a V C out st o l):=by
 have l0:=cX hl 0
 have l1:=cX hl 1
 have hset:∀ {v},VG v→VmI nv nc (V.set o.N.toNat v) C out st:=fun hv=>⟨⟨by rw[aX];exact h.1.1,SK h.1.2 _ hv⟩,h.2⟩
 unfold fG
 by_cases c3:o.Code=3
 ·rw[bm c3];exact oc ha h (cX h.1.2 _)
 rw[bn c3]
 by_cases c4:o.Code=4
 ·rw[bm c4];exact oc ha (hset l0) l0
 rw[bn c4]
 by_cases c5:o.Code=5
 ·rw[bm c5]
  have hm:=gM (te (op:=0) (dz (cX h.1.2 o.N.toNat)).2.2 (dz l0).2.2).2
  split
  ·exact oc ha (hset hm) hm
  ·exact⟨by decide,by decide⟩
 rw[bn c5]
 by_cases c6:o.Code=6
 ·rw[bm c6];exact oc ha h (rZ h.2.1 _ _)
 rw[bn c6]
 by_cases c7:o.Code=7
 ·rw[bm c7];exact FC ha h (hN (.inl c7)) (DW _) l1
 rw[bn c7]
 by_cases c8:o.Code=8
 ·rw[bm c8]
  have hm:=gM (te (op:=0) (dz (rZ h.2.1 o.N (eY (l.getD 0 bU)))).2.2 (dz l1).2.2).2
  split
  ·exact FC ha h (hN (.inr c8)) (DW _) hm
  ·exact⟨by decide,by decide⟩
 rw[bn c8]
 exact⟨ha,h.1,Kv h.2.1 _ _,h.2.2⟩
def iS(line:List Int)(nr:Int):Prop:=(line.length≤2097152∧Bt line)∧0≤nr∧nr≤1000000
theorem Tp{line:List Int}{nr:Int}{o:bA}{l:List bF}(hL:iS line nr)(hl:∀ v∈l,VG v)(hS:Bt o.S)(hN:o.Code=1→Dc o.N)(he:(dJ line nr o l).1=0):VG (dJ line nr o l).2:=by
 have l0:=cX hl 0
 have l1:=cX hl 1
 obtain⟨⟨hL1,hL2⟩,hL3⟩:=hL
 have hf:=rU line
 unfold dJ at he ⊢
 by_cases c1:o.Code=1
 ·rw[bm c1];exact gM (hN c1)
 rw[bn c1]at he ⊢
 by_cases c2:o.Code=2
 ·rw[bm c2]at he ⊢
  dsimp only at he
  exact pc (by by_cases c:300<o.S.length;rw[bm c]at he;cases he;omega) hS
 rw[bn c2]at he ⊢
 by_cases c9:o.Code=9
 ·rw[bm c9];exact(BU (by omega) hL2 _).2
 rw[bn c9]at he ⊢
 by_cases c10:o.Code=10
 ·rw[bm c10];exact gM (by unfold Dc;omega)
 rw[bn c10]at he ⊢
 by_cases c11:o.Code=11
 ·rw[bm c11];exact gM (by unfold Dc;omega)
 rw[bn c11]at he ⊢
 by_cases c17:o.Code=17
 ·rw[bm c17]at he ⊢
  dsimp only at he
  exact pc (by by_cases c:300<(cr (l.getD 0 bU)++cr (l.getD 1 bU)).length;rw[bm c]at he;cases he;omega) (fun x hx=>(aA.1 hx).elim ((eM l0).2 x) ((eM l1).2 x))
 rw[bn c17]at he ⊢
 by_cases c24:o.Code=24
 ·rw[bm c24];exact pf _
 rw[bn c24]at he ⊢
 by_cases c25:o.Code=25
 ·rw[bm c25];exact pf _
 rw[bn c25]at he ⊢
 by_cases c26:o.Code=26
 ·rw[bm c26];exact pf _
 rw[bn c26]at he ⊢
 by_cases c27:o.Code=27
 ·rw[bm c27];exact gM (by have:=(dz l0).2.2;unfold Dc at this ⊢;omega)
 rw[bn c27]at he ⊢
 by_cases c28:o.Code=28
 ·rw[bm c28];exact pf _
 rw[bn c28]at he ⊢
 by_cases c29:o.Code=29
 ·rw[bm c29];exact JN hl _
 rw[bn c29]at he ⊢
 by_cases c16:o.Code≤16
 ·rw[bm c16];exact gM (te (dz l0).2.2 (dz l1).2.2).2
 ·rw[bn c16];exact pf _
theorem Tq{line:List Int}{nr:Int}{o:bA}{l:List bF}(hl:∀ v∈l,VG v)(he:(dJ line nr o l).1≠0):1≤(dJ line nr o l).1∧(dJ line nr o l).1≤7:=by
 have hm:=(yy (op:=o.Code-12) (dz (cX hl 0)).2.2 (dz (cX hl 1)).2.2).2.2
 unfold dJ at he ⊢
 by_cases c1:o.Code=1
 ·rw[bm c1]at he;exact absurd rfl he
 rw[bn c1]at he ⊢
 by_cases c2:o.Code=2
 ·rw[bm c2]at he ⊢
  dsimp only at he ⊢
  by_cases c:300<o.S.length
  ·rw[bm c];exact⟨by decide,by decide⟩
  ·rw[bn c]at he;exact absurd rfl he
 rw[bn c2]at he ⊢
 by_cases c9:o.Code=9
 ·rw[bm c9]at he;exact absurd rfl he
 rw[bn c9]at he ⊢
 by_cases c10:o.Code=10
 ·rw[bm c10]at he;exact absurd rfl he
 rw[bn c10]at he ⊢
 by_cases c11:o.Code=11
 ·rw[bm c11]at he;exact absurd rfl he
 rw[bn c11]at he ⊢
 by_cases c17:o.Code=17
 ·rw[bm c17]at he ⊢
  dsimp only at he ⊢
  by_cases c:300<(cr (l.getD 0 bU)++cr (l.getD 1 bU)).length
  ·rw[bm c];exact⟨by decide,by decide⟩
  ·rw[bn c]at he;exact absurd rfl he
 rw[bn c17]at he ⊢
 by_cases c24:o.Code=24
 ·rw[bm c24]at he;exact absurd rfl he
 rw[bn c24]at he ⊢
 by_cases c25:o.Code=25
 ·rw[bm c25]at he;exact absurd rfl he
 rw[bn c25]at he ⊢
 by_cases c26:o.Code=26
 ·rw[bm c26]at he;exact absurd rfl he
 rw[bn c26]at he ⊢
 by_cases c27:o.Code=27
 ·rw[bm c27]at he;exact absurd rfl he
 rw[bn c27]at he ⊢
 by_cases c28:o.Code=28
 ·rw[bm c28]at he;exact absurd rfl he
 rw[bn c28]at he ⊢
 by_cases c29:o.Code=29
 ·rw[bm c29]at he;exact absurd rfl he
 rw[bn c29]at he ⊢
 by_cases c16:o.Code≤16
 ·rw[bm c16]at he ⊢
  dsimp only at he ⊢
  omega
 ·rw[bn c16]at he;exact absurd rfl he
theorem Hj{nv:Nat}{nc n a:Int}{V:List bF}{C:List bo}{out t:List Int}{st:List bF}(ha:0≤a∧a<n)(h:VmI nv nc V C out st)(ht:Bt t):oZ nv nc n (iL a V C out st t):=by
 unfold iL
 by_cases c:600<(out++t).length
 ·rw[bm c];exact⟨by decide,by decide⟩
 ·rw[bn c]
  exact⟨ha,h.1,h.2.1,⟨by omega,fun x hx=>(aA.1 hx).elim (h.2.2.1.2 x) (ht x)⟩,h.2.2.2⟩
theorem yF{o:bA}{n v c:Int}(h:opB o n v c=true) :
  (o.Code=1→Dc o.N)∧((o.Code=3∨o.Code=4∨o.Code=5)→0≤o.N∧o.N<v)∧((o.Code=6∨o.Code=7∨o.Code=8∨o.Code=35)→0≤o.N∧o.N<c) ∧
  (o.Code=29→(1≤o.N∧o.N≤3)∧o.S∈kw2)∧((o.Code=30∨o.Code=31)→0≤o.N∧o.N≤w64 (n-1))∧(o.Code=33→0≤o.N∧o.N≤1):=by
 unfold opB at h
 refine⟨fun e=>?_,fun e=>?_,fun e=>?_,fun e=>?_,fun e=>?_,fun e=>?_⟩
 ·simp[e]at h;exact h.1
 ·rcases e with e | e | e <;> (simp[e]at h;omega)
 ·rcases e with e | e | e | e <;> (simp[e]at h;omega)
 ·simp[e]at h;exact h
 ·rcases e with e | e <;> (simp[e]at h;omega)
 ·simp[e]at h;omega
theorem Hv{nv:Nat}{nc n a nr:Int}{line:List Int}{V:List bF}{C:List bo}{out:List Int}{st:List bF}{o:bA}(hn:n≤2000)(ha:0≤a∧a<n)(hlast:o.Code≠36→a+1<n)(hL:iS line nr)(h:VmI nv nc V C out st)(ho:opB o n nv nc=true)(hS:Bt o.S) :
  oZ nv nc n (jO line nr o a V C out st):=by
 obtain⟨k1,k2⟩:=z8 ho
 obtain⟨o1,o2,o3,o4,o5,o6⟩:=yF ho
 unfold jO
 by_cases c:(st.length:Int)<b7 o
 ·rw[bm c];exact⟨by decide,by decide⟩
 ·rw[bn c]
  have hl:∀ v∈st.drop (st.length-(b7 o).toNat),VG v:=fun v hv=>h.2.2.2.2 v (List.mem_of_mem_drop hv)
  have h':VmI nv nc V C out (st.take (st.length-(b7 o).toNat)):=⟨h.1,h.2.1,h.2.2.1,by rw[aP];have:=h.2.2.2.1;omega,fun v hv=>h.2.2.2.2 v (List.mem_of_mem_take hv)⟩
  generalize st.drop (st.length-(b7 o).toNat)=l at hl
  generalize st.take (st.length-(b7 o).toNat)=rest at h'
  unfold doR
  by_cases c36:o.Code=36
  ·rw[bm c36];trivial
  rw[bn c36]
  have ha1:0≤a+1∧a+1<n:=⟨by omega,hlast c36⟩
  have hN:(o.Code=30∨o.Code=31)→0≤o.N∧o.N<n:=fun e=>by
   have:=o5 e
   rw[aq]at this
   omega
  by_cases c30:o.Code=30
  ·rw[bm c30];exact⟨hN (.inl c30),h'⟩
  rw[bn c30]
  by_cases c31:o.Code=31
  ·rw[bm c31]
   split
   ·exact⟨ha1,h'⟩
   ·exact⟨hN (.inr c31),h'⟩
  rw[bn c31]
  by_cases c32:o.Code=32
  ·rw[bm c32];exact⟨ha1,h'⟩
  rw[bn c32]
  by_cases c33:o.Code=33
  ·rw[bm c33]
   refine Hj ha1 h' fun x hx=>?_
   rcases aA.1 hx with hx | hx
   ·split at hx
    ·rw[aJ.1 hx];omega
    ·cases hx
   ·exact(eM (cX hl 0)).2 x hx
  rw[bn c33]
  by_cases c34:o.Code=34
  ·rw[bm c34];exact Hj ha1 h' fun x hx=>by rw[aJ.1 hx];omega
  rw[bn c34]
  by_cases cn:o.Code=3∨o.Code=4∨o.Code=5∨o.Code=6∨o.Code=7∨o.Code=8∨o.Code=35
  ·rw[bm cn]
   exact Pa ha1 h' hl fun e=>o3 (by rcases e with e | e <;> simp[e])
  ·rw[bn cn]
   by_cases ce:(dJ line nr o l).1=0
   ·rw[bm ce];exact oc ha1 h' (Tp hL hl hS o1 ce)
   ·rw[bn ce];exact Tq hl ce
abbrev WT:=bE×(List (List Int)×(List (List Int)×(List Int×(List (List Int)×(List Int×(Int×(Bool×Unit)))))))
def wT(s:bE)(line:List Int)(out:List Int):WT:=(s,([],([],(line,(dh line,(out,(0,(false,()))))))))
theorem la(V:List bF)(C:List bo)(nr:Int)(line out:List Int)(e:Int):hZ ⟨V,C,nr,0⟩ [] [] line (dh line) out 0 false e=some (wT ⟨V,C,nr,e⟩ line out,()):=by
 rw[Gy]
 rw[bm (by simp)];rfl
def lG(line:List Int)(nr a:Int)(x:Option (bQ×WT×Unit)):R→Prop
 | .err e=>e≠0∧∃ z s o,x=some (z,wT s line o,())∧s.Err=e
 | .stop=>False
 | .go b V C out st=>b=a∧x=some (⟨(),st⟩,wT ⟨V,C,nr,0⟩ line out,())
theorem ki(x:Option (bQ×WT×Unit)):(x.bind fun(r:bQ×(bE×((List (List Int))×((List (List Int))×((List Int)×((List (List Int))×((List Int)×(Int×(Bool×Unit))))))))×Unit) =>
  some (r.1,(r.2.1.1,(r.2.1.2.1,(r.2.1.2.2.1,(r.2.1.2.2.2.1,(r.2.1.2.2.2.2.1,(r.2.1.2.2.2.2.2.1,(r.2.1.2.2.2.2.2.2.1,(r.2.1.2.2.2.2.2.2.2.1,())))))))),()))=x:=by cases x <;> rfl
theorem od(line:List Int)(nr a:Int)(V:List bF)(C:List bo)(out:List Int)(st:List bF)(v:bF)(hs:st.length≤64) :
  lG line nr a (lh ⟨(),st⟩ ⟨V,C,nr,0⟩ [] [] line (dh line) out 0 false v) (eV a V C out st v):=by
 rw[RR]
 dsimp only
 unfold eV
 by_cases c:st.length=64
 ·rw[bm c,an,la,aa]
  exact⟨by decide,_,_,_,rfl,rfl⟩
 ·rw[bn c,ap,bm (by rw[cg];omega)]
  exact⟨rfl,rfl⟩
theorem yz{op a b:Int}(ha:Dc a)(hb:Dc b)(h0:0≤op)(h4:op≤4)(V:List bF)(C:List bo)(nr:Int)(line out:List Int) :
  ((cL op a b).2=0→oz ⟨V,C,nr,0⟩ [] [] line (dh line) out 0 false op a b=some (⟨1,(cL op a b).1,[]⟩,wT ⟨V,C,nr,0⟩ line out,())) ∧
  ((cL op a b).2≠0→∃ v,oz ⟨V,C,nr,0⟩ [] [] line (dh line) out 0 false op a b=some (v,wT ⟨V,C,nr,(cL op a b).2⟩ line out,())):=by
 have key:∀ {x:Option (Int×Bool×Unit)},(∃ v ok,x=some (v,ok,())∧Dc v)→ji (op+9) a b=(x.bind fun(r:Int×Bool×Unit)=>jj r.1 r.2.1) →
   ((cL op a b).2=0→(x.bind fun(r:Int×Bool×Unit)=>lg r.1 r.2.1 (bP.mk ⟨V,C,nr,0⟩ [] [] line (dh line) out 0 false) bU)=some (⟨1,(cL op a b).1,[]⟩,wT ⟨V,C,nr,0⟩ line out,())) ∧
   ((cL op a b).2≠0→∃ v,(x.bind fun(r:Int×Bool×Unit)=>lg r.1 r.2.1 (bP.mk ⟨V,C,nr,0⟩ [] [] line (dh line) out 0 false) bU)=some (v,wT ⟨V,C,nr,(cL op a b).2⟩ line out,())):=by
  intro x hx hm
  obtain⟨v,ok,rfl,hv⟩:=hx
  rw[aa,sD]at hm
  rw[aa,GB]
  dsimp only at hm ⊢
  unfold cL
  cases ok with
  | true =>
   rw[bn (by decide)]at hm
   rw[bn (by decide),hm,fJ]
   exact⟨fun _=>rfl,fun h=>absurd rfl h⟩
  | false =>
   rw[bm (by decide)]at hm
   rw[bm (by decide),hm,la,fJ]
   exact⟨(fun h=>by cases h),fun h=>⟨_,rfl⟩⟩
 rw[RC]
 by_cases c0:op=0
 ·rw[ak c0,I7]
  exact key (rB ha hb) (by rw[l7,an])
 rw[aj c0]
 by_cases c1:op=1
 ·rw[ak c1,S6]
  exact key (Hy ha hb) (by rw[l7,ap,an])
 rw[aj c1]
 by_cases c2:op=2
 ·rw[ak c2,O9]
  exact key (EJ ha hb) (by rw[l7,ap,ap,an])
 rw[aj c2]
 have hm:ji (op+9) a b=if(decide (b=0))=true then some (0,2,())else if(decide (op+9=13))=true then if b≠0 then some ((Int.tmod a b),0,())else none else(pC a b).bind fun(r3:Int×Bool×Unit)=>jj r3.1 r3.2.1:=by
  rw[l7,ap,ap,ap]
 by_cases cb:b=0
 ·rw[ak cb]at hm ⊢
  have hE:cL op a b=(0,2):=by unfold cL;rw[hm]
  rw[hE,la,aa]
  exact⟨(fun h=>by cases h),fun h=>⟨_,rfl⟩⟩
 rw[aj cb]at hm ⊢
 have hd:=BJ ha hb cb
 rw[Ks]
 by_cases c4:op=4
 ·rw[an,bm cb]at hm
  have hE:cL op a b=(Int.tmod a b,0):=by unfold cL;rw[hm]
  obtain⟨v,ok,e,_⟩:=hd
  rw[hE,e,aa,ak c4,bm cb,GB,bn (by decide),fJ]
  exact⟨fun _=>rfl,fun h=>absurd rfl h⟩
 ·rw[ap]at hm
  have:=key hd hm
  obtain⟨v,ok,e,_⟩:=hd
  rw[e]at this ⊢
  rw[aa,aj c4]
  exact this
theorem FD(line:List Int)(nr a:Int)(V:List bF)(C:List bo)(out:List Int)(st:List bF)(v:bF)(n:Int)(k:List Int)(hs:st.length≤64)(hV:V.length≤100000)(hC:C.length≤100000) :
  lG line nr a (tV ⟨(),st⟩ ⟨V,C,nr,0⟩ [] [] line (dh line) out 0 false n k v) (kT a V C out st n k v):=by
 rw[RO,P8 _ n k v hV hC,aa]
 unfold kT
 dsimp only
 cases e:iH C n k v with
 | none =>
  dsimp only
  rw[bm (by decide),la,aa]
  exact⟨by decide,_,_,_,rfl,rfl⟩
 | some C' =>
  dsimp only
  rw[bn (by decide),ki]
  exact od line nr a V C' out st v hs
theorem Pb{line:List Int}{nr a:Int}{V:List bF}{C:List bo}{out:List Int}{st l:List bF}{o:bA}{nv:Nat}{nc:Int}(hnv:nv≤100000)(h:VmI nv nc V C out st)(hl:∀ v∈l,VG v)(hlen:(l.length:Int)=b7 o)
  (hc:o.Code=3∨o.Code=4∨o.Code=5∨o.Code=6∨o.Code=7∨o.Code=8∨o.Code=35) (hN:(o.Code=3∨o.Code=4∨o.Code=5)→0≤o.N∧o.N<nv) :
  lG line nr a (zA ⟨(),st⟩ ⟨V,C,nr,0⟩ [] [] line (dh line) out 0 false o l) (fG a V C out st o l):=by
 obtain⟨⟨hV,hVg⟩,hC,hO,hs,hsg⟩:=h
 have hV1:V.length≤100000:=by omega
 have hC1:C.length≤100000:=by have:=hC.1;omega
 have l0:=cX hl 0
 have l1:=cX hl 1
 rw[RQ]
 dsimp only
 unfold fG
 by_cases c3:o.Code=3
 ·have hN:=hN (.inl c3)
  rw[ak c3,bm c3,al,ki]
  exact od line nr a V C out st _ hs
 rw[aj c3,bn c3]
 by_cases c4:o.Code=4
 ·have hN:=hN (.inr (.inl c4))
  have hk:b7 o=1:=by unfold b7;simp[c4]
  rw[ak c4,bm c4,al,al,al,ki]
  exact od line nr a _ C out st _ hs
 rw[aj c4,bn c4]
 by_cases c5:o.Code=5
 ·have hN:=hN (.inr (.inr c5))
  have hk:b7 o=1:=by unfold b7;simp[c5]
  obtain⟨_,n2,n3⟩:=dz (cX hVg o.N.toNat)
  obtain⟨_,m2,m3⟩:=dz l0
  rw[ak c5,bm c5,al,n2,aa,al,m2,aa]
  dsimp only
  obtain⟨q1,q2⟩:=yz n3 m3 (Int.le_refl 0) (by decide) V C nr line out
  by_cases ce:(cL 0 (cJ (V.getD o.N.toNat bU)) (cJ (l.getD 0 bU))).2=0
  ·rw[q1 ce,aa,bm ce]
   unfold wT
   dsimp only
   rw[bm (by simp),al,ki]
   exact od line nr a _ C out st _ hs
  ·obtain⟨v,q⟩:=q2 ce
   have he:(cL 0 (cJ (V.getD o.N.toNat bU)) (cJ (l.getD 0 bU))).2=1:=(EE n3 m3).resolve_left ce
   rw[q,aa,bn ce,he]
   unfold wT
   dsimp only
   rw[bn (by simp)]
   exact⟨by decide,_,_,_,rfl,rfl⟩
 rw[aj c5,bn c5]
 by_cases c6:o.Code=6
 ·have hk:b7 o=1:=by unfold b7;simp[c6]
  rw[ak c6,bm c6,al,(iA l0).2,aa]
  dsimp only
  rw[(sa ⟨V,C,nr,0⟩ o.N _ hC1).2,aa,ki]
  exact od line nr a V C out st _ hs
 rw[aj c6,bn c6]
 by_cases c7:o.Code=7
 ·have hk:b7 o=2:=by unfold b7;simp[c7]
  rw[ak c7,bm c7,al,(iA l0).2,aa,al,ki]
  exact FD line nr a V C out st _ _ _ hs hV1 hC1
 rw[aj c7,bn c7]
 by_cases c8:o.Code=8
 ·have hk:b7 o=2:=by unfold b7;simp[c8]
  obtain⟨_,n2,n3⟩:=dz (rZ hC o.N (eY (l.getD 0 bU)))
  obtain⟨_,m2,m3⟩:=dz l1
  rw[ak c8,bm c8,al,(iA l0).2,aa]
  dsimp only
  rw[(sa ⟨V,C,nr,0⟩ o.N _ hC1).2,aa]
  dsimp only
  rw[n2,aa,al,m2,aa]
  dsimp only
  obtain⟨q1,q2⟩:=yz n3 m3 (Int.le_refl 0) (by decide) V C nr line out
  by_cases ce:(cL 0 (cJ (ix C o.N (eY (l.getD 0 bU)))) (cJ (l.getD 1 bU))).2=0
  ·rw[q1 ce,aa,bm ce]
   unfold wT
   dsimp only
   rw[bm (by simp),ki]
   exact FD line nr a V C out st _ _ _ hs hV1 hC1
  ·obtain⟨v,q⟩:=q2 ce
   have he:=(EE n3 m3).resolve_left ce
   rw[q,aa,bn ce,he]
   unfold wT
   dsimp only
   rw[bn (by simp)]
   exact⟨by decide,_,_,_,rfl,rfl⟩
 rw[aj c8,bn c8]
 have c35:o.Code=35:=by omega
 have hk:b7 o=1:=by unfold b7;simp[c35]
 rw[ak c35,al,(iA l0).2,aa]
 dsimp only
 rw[(BM ⟨V,C,nr,0⟩ o.N _ hV1 hC1).2,aa]
 exact⟨rfl,rfl⟩
theorem fe(line:List Int)(nr a:Int)(V:List bF)(C:List bo)(out:List Int)(st:List bF)(v:bF)(hs:st.length≤64) :
  lG line nr a (eL ⟨(),st⟩ ⟨V,C,nr,0⟩ [] [] line (dh line) out 0 false v) (eV a V C out st v):=by
 rw[GG,bm (by simp),ki]
 exact od line nr a V C out st v hs
theorem Ae(line:List Int)(nr a:Int)(V:List bF)(C:List bo)(out:List Int)(st:List bF)(v:bF){e:Int}(he:e≠0) :
  lG line nr a (eL ⟨(),st⟩ ⟨V,C,nr,e⟩ [] [] line (dh line) out 0 false v) (.err e):=by
 rw[GG,aj he]
 exact⟨he,_,_,_,rfl,rfl⟩
theorem vM(b:Bool):ov b=some (j7 b,()):=by
 rw[Gu,zF]
 cases b with
 | true=>rw[bm rfl,aa,fJ];rfl
 | false=>rw[bn (by decide),aa,fJ];rfl
theorem Tr{line:List Int}{nr a:Int}{V:List bF}{C:List bo}{out:List Int}{st l:List bF}{o:bA}(hL:iS line nr)(hs:st.length≤64)(hl:∀ v∈l,VG v)(hlen:(l.length:Int)=b7 o)(hO:1≤o.Code∧o.Code≤29)
  (hn:¬ (o.Code=3∨o.Code=4∨o.Code=5∨o.Code=6∨o.Code=7∨o.Code=8∨o.Code=35)) (hS:Bt o.S) (hSl:o.S.length≤2097152) (hcall:o.Code=29→(1≤o.N∧o.N≤3)∧o.S∈kw2) :
  lG line nr a (zD ⟨(),st⟩ ⟨V,C,nr,0⟩ [] [] line (dh line) out 0 false o l) (if(dJ line nr o l).1=0 then eV a V C out st (dJ line nr o l).2 else .err (dJ line nr o l).1):=by
 obtain⟨⟨hL1,hL2⟩,hL3⟩:=hL
 have hf:=rU line
 have l0:=cX hl 0
 have l1:=cX hl 1
 rw[RW]
 dsimp only
 unfold dJ
 by_cases c1:o.Code=1
 ·rw[ak c1,bm c1,fJ,aa,bm rfl]
  exact fe line nr a V C out st _ hs
 rw[aj c1,bn c1]
 by_cases c2:o.Code=2
 ·rw[ak c2,bm c2]
  dsimp only
  by_cases c:300<o.S.length
  ·rw[an,bm c,la,aa,bn (by decide)]
   exact Ae line nr a V C out st _ (by decide)
  ·rw[ap,bn c,bm rfl]
   exact fe line nr a V C out st _ hs
 rw[aj c2,bn c2]
 by_cases c9:o.Code=9
 ·have hk:b7 o=1:=by unfold b7;simp[c9]
  obtain⟨_,n2,n3⟩:=dz l0
  obtain⟨w1,w2,w3⟩:=oM l0
  rw[ak c9,bm c9,al,Ry,n2,aa,bm rfl]
  dsimp only
  rw[w2]
  unfold pt
  obtain⟨_,r2,_⟩:=oh (s:=line) (by omega) hL2
  obtain⟨_,z2,_⟩:=oh (s:=[]) (by simp) (fun x hx=>by cases hx)
  by_cases d:dA (l.getD 0 bU)=0
  ·rw[ak d,bm d,r2,aa,aa]
   exact fe line nr a V C out st _ hs
  ·rw[aj d,bn d,en,aa]
   dsimp only
   by_cases e:1≤dA (l.getD 0 bU)∧dA (l.getD 0 bU)≤((dh line).length:Int)
   ·have hi:(dA (l.getD 0 bU)-1).toNat<(dh line).length:=by omega
    obtain⟨g1,g2⟩:=BV (P:=fun x=>0≤x∧x≤255) hL2 (aV hi)
    obtain⟨_,q2,_⟩:=oh (s:=(dh line)[(dA (l.getD 0 bU)-1).toNat]) (by omega) g1
    rw[ac e,bn (by decide),bm e,aq,al,cG hi,q2,aa,aa]
    exact fe line nr a V C out st _ hs
   ·rw[ae e,bm (by decide),bn e,z2,aa,aa]
    exact fe line nr a V C out st _ hs
 rw[aj c9,bn c9]
 by_cases c10:o.Code=10
 ·rw[ak c10,bm c10,aq,fJ,aa,bm rfl,Int.mul_comm]
  exact fe line nr a V C out st _ hs
 rw[aj c10,bn c10]
 by_cases c11:o.Code=11
 ·rw[ak c11,bm c11,aq,fJ,aa,bm rfl,Int.mul_comm]
  exact fe line nr a V C out st _ hs
 rw[aj c11,bn c11]
 by_cases c17:o.Code=17
 ·have hk:b7 o=2:=by unfold b7;simp[c17]
  have t0:=(eM l0).1
  have t1:=(eM l1).1
  rw[ak c17,bm c17,al,al,Rx,fx,fx,aa,aa]
  dsimp only
  rw[al]
  by_cases c:300<(cr (l.getD 0 bU)++cr (l.getD 1 bU)).length
  ·rw[an,bm c,la,aa,bn (by decide)]
   exact Ae line nr a V C out st _ (by decide)
  ·rw[ap,bn c,bm rfl]
   exact fe line nr a V C out st _ hs
 rw[aj c17,bn c17]
 by_cases c24:o.Code=24
 ·have hk:b7 o=1:=by unfold b7;simp[c24]
  have t0:=(eM l0).1
  rw[ak c24,bm c24,al,fx,aa]
  dsimp only
  rw[(rV o.S _ hS (by omega) (by omega)).2,aa,bm rfl]
  exact fe line nr a V C out st _ hs
 rw[aj c24,bn c24]
 by_cases c25:o.Code=25
 ·rw[ak c25,bm c25,(rV o.S line hS (by omega) (by omega)).2,aa,bm rfl]
  exact fe line nr a V C out st _ hs
 rw[aj c25,bn c25]
 by_cases c26:o.Code=26
 ·have hk:b7 o=1:=by unfold b7;simp[c26]
  rw[ak c26,bm c26,al,(oL _).2,aa,vM,aa,bm rfl]
  exact fe line nr a V C out st _ hs
 rw[aj c26,bn c26]
 by_cases c27:o.Code=27
 ·have hk:b7 o=1:=by unfold b7;simp[c27]
  obtain⟨_,n2,n3⟩:=dz l0
  unfold Dc at n3
  rw[ak c27,bm c27,al,n2,aa]
  dsimp only
  rw[aq,fJ,aa,bm rfl]
  exact fe line nr a V C out st _ hs
 rw[aj c27,bn c27]
 by_cases c28:o.Code=28
 ·have hk:b7 o=1:=by unfold b7;simp[c28]
  rw[ak c28,bm c28,al,(oL _).2,aa,vM,aa,bm rfl]
  exact fe line nr a V C out st _ hs
 rw[aj c28,bn c28]
 by_cases c29:o.Code=29
 ·have hk:b7 o=o.N:=by unfold b7;simp[c29]
  obtain⟨hn1,hn2⟩:=hcall c29
  rw[ak c29,bm c29,Rl hl (by omega) (by omega) _ hn2,aa,bm rfl]
  exact fe line nr a V C out st _ hs
 rw[aj c29,bn c29]
 have hk:b7 o=2:=by
  have hr:12≤o.Code∧o.Code≤23:=by omega
  have e:∀ k:Int,(k<12∨23<k)→o.Code≠k:=fun k h1 h2=>by omega
  unfold b7
  rw[am,am,bn c29,bm hr]
 by_cases c16:o.Code≤16
 ·obtain⟨_,n2,n3⟩:=dz l0
  obtain⟨_,m2,m3⟩:=dz l1
  rw[ak c16,bm c16,al,n2,aa,al,m2,aa]
  dsimp only
  rw[aq]
  obtain⟨q1,q2⟩:=yz (op:=o.Code-12) n3 m3 (by omega) (by omega) V C nr line out
  by_cases ce:(cL (o.Code-12) (cJ (l.getD 0 bU)) (cJ (l.getD 1 bU))).2=0
  ·rw[q1 ce,aa,bm ce]
   exact fe line nr a V C out st _ hs
  ·obtain⟨v,q⟩:=q2 ce
   rw[q,aa,bn ce]
   exact Ae line nr a V C out st _ ce
 ·have hcmp:=(Bq l0 l1).2
  rw[aj c16,bn c16,al,al,aq,RD,hcmp,aa,al]
  dsimp only
  have hord:List.getD [(decide (fC (l.getD 0 bU) (l.getD 1 bU)<0)),(decide (fC (l.getD 0 bU) (l.getD 1 bU)≤0)),(decide (fC (l.getD 0 bU) (l.getD 1 bU)>0)),(decide (fC (l.getD 0 bU) (l.getD 1 bU)≥0)),(decide (fC (l.getD 0 bU) (l.getD 1 bU)=0)),(!(decide (fC (l.getD 0 bU) (l.getD 1 bU)=0)))] (o.Code-18).toNat false=yG (o.Code-18) (fC (l.getD 0 bU) (l.getD 1 bU)):=by
   have h6:o.Code=18∨o.Code=19∨o.Code=20∨o.Code=21∨o.Code=22∨o.Code=23:=by omega
   rcases h6 with e | e | e | e | e | e <;> (rw[e];rfl)
  rw[hord,vM,aa,aa,bm rfl]
  exact fe line nr a V C out st _ hs
abbrev IT:=bE×(List Int×(List Int×(List bF×(Int×Unit))))
def iT(s:bE)(line out:List Int)(st:List bF)(e:Int):IT:=(s,(line,(out,(st,(e,())))))
theorem jh(s:bE)(line out:List Int)(st:List bF)(e:Int):g8 s line out st 0 e=some (iT s line out st e,()):=by
 rw[DB,bm (by simp)];rfl
theorem Mu(s:bE)(line out:List Int)(st:List bF){e:Int}(he:e≠0)(f:Int):g8 s line out st e f=some (iT s line out st e,()):=by
 rw[DB,aj he];rfl
def lC(line:List Int)(nr a:Int)(x:Option (IT×Unit)):R→Prop
 | .err e=>e≠0∧∃ s o t,x=some (iT s line o t e,())
 | .stop=>False
 | .go b V C out st=>b=a∧x=some (iT ⟨V,C,nr,0⟩ line out st 0,())
theorem dM(x:Option (IT×Unit)):(x.bind fun(r:(bE×((List Int)×((List Int)×((List bF)×(Int×Unit)))))×Unit) =>
  some ((r.1.1,(r.1.2.1,(r.1.2.2.1,(r.1.2.2.2.1,(r.1.2.2.2.2.1,()))))),()))=x:=by cases x <;> rfl
theorem eA(line:List Int)(nr a:Int)(V:List bF)(C:List bo)(out:List Int)(st:List bF)(v:bF)(hs:st.length≤64) :
  lC line nr a (ew ⟨V,C,nr,0⟩ line out st 0 v) (eV a V C out st v):=by
 rw[Nj]
 unfold eV
 by_cases c:st.length=64
 ·rw[bm c,an,jh,aa]
  exact⟨by decide,_,_,_,rfl⟩
 ·rw[bn c,ap,bm (by rw[cg];omega)]
  exact⟨rfl,rfl⟩
theorem Fm{a b:bF}(ha:VG a)(hb:VG b)(s:bE)(line out:List Int)(st:List bF) :
  ((cL 0 (cJ a) (cJ b)).2=0→pZ s line out st 0 a b=some (⟨1,(cL 0 (cJ a) (cJ b)).1,[]⟩,iT s line out st 0,())) ∧
  ((cL 0 (cJ a) (cJ b)).2≠0→∃ v,pZ s line out st 0 a b=some (v,iT s line out st 1,())):=by
 obtain⟨n1,n2,n3⟩:=dz ha
 obtain⟨m1,m2,m3⟩:=dz hb
 obtain⟨v,ok,e,_⟩:=rB n3 m3
 have hm:ji (0+9) (cJ a) (cJ b)=(nq (cJ a) (cJ b)).bind fun(r0:Int×Bool×Unit)=>jj r0.1 r0.2.1:=by rw[l7,bm (by decide)]
 rw[e,aa,sD]at hm
 dsimp only at hm
 rw[Nh,n1,m1,aa,aa]
 dsimp only
 rw[e,aa,jh]
 dsimp only
 unfold cL
 cases ok with
 | true =>
  rw[bn (by decide)]at hm
  rw[hm,bn (by decide),gt]
  exact⟨fun _=>rfl,fun h=>absurd rfl h⟩
 | false =>
  rw[bm (by decide)]at hm
  rw[hm,bm (by decide),gt]
  exact⟨(fun h=>by cases h),fun h=>⟨_,rfl⟩⟩
theorem FB(line:List Int)(nr a:Int)(V:List bF)(C:List bo)(out:List Int)(st:List bF)(v:bF)(n:Int)(k:List Int)(hs:st.length≤64)(hV:V.length≤100000)(hC:C.length≤100000) :
  lC line nr a (sK ⟨V,C,nr,0⟩ line out st 0 n k v) (kT a V C out st n k v):=by
 rw[DD,bn (by simp),P7 _ n k v hV hC,aa]
 unfold kT
 dsimp only
 cases e:iH C n k v with
 | none =>
  dsimp only
  rw[bm (by decide),jh,aa]
  exact⟨by decide,_,_,_,rfl⟩
 | some C' =>
  dsimp only
  rw[bn (by decide),dM]
  exact eA line nr a V C' out st v hs
theorem uy(s:bE)(line out t:List Int)(st:List bF)(e:Int)(h:out.length+t.length≤1000000):nF s line out st e t=some (iT s line (out++t) st (if 600<(out++t).length∧e=0 then 5 else e),()):=by
 rw[Nl,al]
 by_cases c:600<(out++t).length
 ·rw[an]
  by_cases d:e=0
  ·subst d;rw[jh,bm ⟨c,rfl⟩];rfl
  ·rw[Mu _ _ _ _ d,bn (fun h=>d h.2)];rfl
 ·rw[ap,bn (fun h=>c h.1)];rfl
theorem SZ{line:List Int}{nr a:Int}{V:List bF}{C:List bo}{out:List Int}{st l:List bF}{o:bA}{nv:Nat}{nc:Int}(hnv:nv≤100000)(h:VmI nv nc V C out st)(hl:∀ v∈l,VG v)(hlen:(l.length:Int)=b7 o)
  (hc:o.Code=4∨o.Code=5∨o.Code=7∨o.Code=8∨o.Code=35) (hN:(o.Code=4∨o.Code=5)→0≤o.N∧o.N<nv) :
  lC line nr a (sL ⟨V,C,nr,0⟩ line out st 0 o l) (fG a V C out st o l):=by
 obtain⟨⟨hV,hVg⟩,hC,hO,hs,hsg⟩:=h
 have hV1:V.length≤100000:=by omega
 have hC1:C.length≤100000:=by have:=hC.1;omega
 have l0:=cX hl 0
 have l1:=cX hl 1
 rw[DF]
 dsimp only
 unfold fG
 rw[bn (c:=o.Code=3) (by omega)]
 by_cases c4:o.Code=4
 ·have hN:=hN (.inl c4)
  have hk:b7 o=1:=by unfold b7;simp[c4]
  rw[ak c4,bm c4,al,al,al,dM]
  exact eA line nr a _ C out st _ hs
 rw[aj c4,bn c4]
 by_cases c5:o.Code=5
 ·have hN:=hN (.inr c5)
  have hk:b7 o=1:=by unfold b7;simp[c5]
  obtain⟨q1,q2⟩:=Fm (cX hVg o.N.toNat) l0 ⟨V,C,nr,0⟩ line out st
  rw[ak c5,bm c5,al,al]
  by_cases ce:(cL 0 (cJ (V.getD o.N.toNat bU)) (cJ (l.getD 0 bU))).2=0
  ·rw[q1 ce,aa,bm ce]
   unfold iT
   dsimp only
   rw[bm (by simp),al,dM]
   exact eA line nr a _ C out st _ hs
  ·obtain⟨v,q⟩:=q2 ce
   rw[q,aa,bn ce]
   unfold iT
   dsimp only
   rw[bn (by simp)]
   exact⟨by decide,_,_,_,rfl⟩
 rw[aj c5,bn c5,bn (c:=o.Code=6) (by omega)]
 by_cases c7:o.Code=7
 ·have hk:b7 o=2:=by unfold b7;simp[c7]
  rw[ak c7,bm c7,al,fj,aa]
  dsimp only
  rw[(iA l0).1,aa,al,dM]
  exact FB line nr a V C out st _ _ _ hs hV1 hC1
 rw[aj c7,bn c7]
 by_cases c8:o.Code=8
 ·have hk:b7 o=2:=by unfold b7;simp[c8]
  rw[ak c8,bm c8,al,fj,aa]
  dsimp only
  rw[(iA l0).1,aa]
  dsimp only
  rw[(sa ⟨V,C,nr,0⟩ o.N _ hC1).1,aa,al]
  dsimp only
  obtain⟨q1,q2⟩:=Fm (rZ hC o.N (eY (l.getD 0 bU))) l1 ⟨V,C,nr,0⟩ line out st
  by_cases ce:(cL 0 (cJ (ix C o.N (eY (l.getD 0 bU)))) (cJ (l.getD 1 bU))).2=0
  ·rw[q1 ce,aa,bm ce]
   unfold iT
   dsimp only
   rw[dM]
   exact FB line nr a V C out st _ _ _ hs hV1 hC1
  ·obtain⟨v,q⟩:=q2 ce
   rw[q,aa,bn ce]
   unfold iT
   dsimp only
   rw[DD,bm (by simp)]
   exact⟨by decide,_,_,_,rfl⟩
 rw[aj c8,bn c8]
 have c35:o.Code=35:=by omega
 have hk:b7 o=1:=by unfold b7;simp[c35]
 rw[ak c35,al,fj,aa]
 dsimp only
 rw[(iA l0).1,aa]
 dsimp only
 rw[(BM ⟨V,C,nr,0⟩ o.N _ hV1 hC1).1,aa]
 exact⟨rfl,rfl⟩
theorem PE{line:List Int}{nr a:Int}{V:List bF}{C:List bo}{out:List Int}{st l:List bF}{o:bA}{nv:Nat}{nc:Int}(h:VmI nv nc V C out st)(hl:∀ v∈l,VG v)(hlen:(l.length:Int)=b7 o)(hc:o.Code=33∨o.Code=34) :
  lC line nr a (sL ⟨V,C,nr,0⟩ line out st 0 o l) (iL a V C out st (if o.Code=33 then(if o.N=1 then [32]else [])++cr (l.getD 0 bU)else [10])):=by
 obtain⟨⟨hV,hVg⟩,hC,⟨hO,hO2⟩,hs,hsg⟩:=h
 have l0:=cX hl 0
 have t0:=(eM l0).1
 have fin:∀ (t:List Int) (e:Int),e=(if 600<(out++t).length then 5 else 0)→lC line nr a (some (iT ⟨V,C,nr,0⟩ line (out++t) st e,())) (iL a V C out st t):=fun t e he=>by
  unfold iL
  by_cases c:600<(out++t).length
  ·rw[bm c]at he ⊢;subst he;exact⟨by decide,_,_,_,rfl⟩
  ·rw[bn c]at he ⊢;subst he;exact⟨rfl,rfl⟩
 rw[DF,ap,ap,ap,ap,ap]
 by_cases c33:o.Code=33
 ·have hk:b7 o=1:=by unfold b7;simp[c33]
  rw[ak c33,bm c33]
  by_cases c1:o.N=1
  ·rw[ak c1,bm c1,uy _ _ _ _ _ _ (by simp;omega),aa,al,fj,aa]
   unfold iT
   dsimp only
   generalize cr (l.getD 0 bU)=t at *
   rw[uy _ _ _ _ _ _ (by rw[ag,bj];omega),aa,ah]
   refine fin _ _ ?_
   unfold iT
   dsimp only
   by_cases d:600<(out++[32]).length
   ·have h2:600<(out++([32]++t)).length:=by simp at d ⊢;omega
    have e1:(if 600<(out++[32]).length∧(0:Int)=0 then(5:Int)else 0)=5:=bm ⟨d,rfl⟩
    rw[e1,bm h2,bn (by simp)]
   ·have e1:(if 600<(out++[32]).length∧(0:Int)=0 then(5:Int)else 0)=0:=bn (fun h=>d h.1)
    rw[e1]
    simp
  ·rw[aj c1,bn c1,al,fj,aa,dM]
   dsimp only
   rw[uy _ _ _ _ _ _ (by omega),bg]
   exact fin _ _ (by simp)
 ·have c34:o.Code=34:=by omega
  rw[aj c33,bn c33,ak c34,dM,uy _ _ _ _ _ _ (by simp;omega)]
  exact fin _ _ (by simp)
theorem pg(b:Bool):l6 b=some (j7 b,()):=by
 rw[Mi]
 cases b with
 | true=>rw[bm rfl,gt];rfl
 | false=>rw[bn (by decide),gt];rfl
theorem OV{line:List Int}{nr a:Int}{V:List bF}{C:List bo}{out:List Int}{st l:List bF}{o:bA}{nv:Nat}{nc:Int}(hL:iS line nr)(h:VmI nv nc V C out st)(hl:∀ v∈l,VG v)(hlen:(l.length:Int)=b7 o)(hO:1≤o.Code∧o.Code≤29)
  (hn:¬ (o.Code=4∨o.Code=5∨o.Code=7∨o.Code=8)) (hS:Bt o.S) (hSl:o.S.length≤2097152) (hN:o.Code=3→0≤o.N∧o.N<nv) (hcall:o.Code=29→(1≤o.N∧o.N≤3)∧o.S∈kw2) :
  lC line nr a (xm ⟨V,C,nr,0⟩ line out st 0 o l) (if o.Code=3∨o.Code=6 then fG a V C out st o l else if(dJ line nr o l).1=0 then eV a V C out st (dJ line nr o l).2 else .err (dJ line nr o l).1):=by
 obtain⟨⟨hL1,hL2⟩,hL3⟩:=hL
 obtain⟨⟨hV,hVg⟩,hC,hO',hs,hsg⟩:=h
 have hC1:C.length≤100000:=by have:=hC.1;omega
 have hf:=rU line
 have l0:=cX hl 0
 have l1:=cX hl 1
 rw[Ng]
 dsimp only
 by_cases c3:o.Code=3
 ·have hN:=hN c3
  rw[ap,ap,ak c3,bm (c:=o.Code=3∨o.Code=6) (.inl c3),al,dM]
  unfold fG
  rw[bm c3]
  exact eA line nr a V C out st _ hs
 by_cases c6:o.Code=6
 ·have hk:b7 o=1:=by unfold b7;simp[c6]
  rw[ap,ap,ap,ak c6,bm (c:=o.Code=3∨o.Code=6) (.inr c6),al,fj,aa]
  dsimp only
  rw[(iA l0).1,aa]
  dsimp only
  rw[(sa ⟨V,C,nr,0⟩ o.N _ hC1).1,aa,dM]
  unfold fG
  rw[am,am,am,bm c6]
  exact eA line nr a V C out st _ hs
 rw[bn (c:=o.Code=3∨o.Code=6) (fun h=>h.elim c3 c6)]
 unfold dJ
 by_cases c1:o.Code=1
 ·rw[ak c1,bm c1,gt,aa,bm rfl,dM]
  exact eA line nr a V C out st _ hs
 rw[aj c1,bn c1]
 by_cases c2:o.Code=2
 ·rw[ak c2,bm c2]
  dsimp only
  by_cases c:300<o.S.length
  ·rw[an,bm c,jh,aa,bn (by decide)]
   exact⟨by decide,_,_,_,rfl⟩
  ·rw[ap,bn c,bm rfl,kE,aa,dM]
   exact eA line nr a V C out st _ hs
 rw[aj c2,bn c2,aj c3,aj c6]
 by_cases c9:o.Code=9
 ·have hk:b7 o=1:=by unfold b7;simp[c9]
  rw[ak c9,bm c9,al,(oM l0).1,aa]
  dsimp only
  rw[(BU (by omega) hL2 _).1,aa,dM,bm rfl]
  exact eA line nr a V C out st _ hs
 rw[aj c9,bn c9]
 by_cases c10:o.Code=10
 ·rw[ak c10,bm c10,aq,gt,aa,bm rfl,dM]
  exact eA line nr a V C out st _ hs
 rw[aj c10,bn c10]
 by_cases c11:o.Code=11
 ·rw[ak c11,bm c11,C8 line (by omega),aa]
  dsimp only
  rw[yl,aq,gt,aa,bm rfl,dM]
  exact eA line nr a V C out st _ hs
 rw[aj c11,bn c11]
 by_cases c24:o.Code=24
 ·have hk:b7 o=1:=by unfold b7;simp[c24]
  have t0:=(eM l0).1
  rw[ak c24,bn (c:=o.Code=17) (by omega),bm c24,al,fj,aa]
  dsimp only
  rw[(rV o.S _ hS (by omega) (by omega)).1,aa,pg,aa,bm rfl,dM]
  exact eA line nr a V C out st _ hs
 rw[aj c24]
 by_cases c25:o.Code=25
 ·rw[ak c25,bn (c:=o.Code=17) (by omega),bn c24,bm c25,(rV o.S line hS (by omega) (by omega)).1,aa,pg,aa,bm rfl,dM]
  exact eA line nr a V C out st _ hs
 rw[aj c25]
 by_cases c26:o.Code=26
 ·have hk:b7 o=1:=by unfold b7;simp[c26]
  rw[ak c26,bn (c:=o.Code=17) (by omega),bn c24,bn c25,bm c26,al,(oL _).1,aa,pg,aa,bm rfl,dM]
  exact eA line nr a V C out st _ hs
 rw[aj c26]
 by_cases c27:o.Code=27
 ·have hk:b7 o=1:=by unfold b7;simp[c27]
  obtain⟨n1,n2,n3⟩:=dz l0
  unfold Dc at n3
  rw[ak c27,bn (c:=o.Code=17) (by omega),bn c24,bn c25,bn c26,bm c27,al,n1,aa]
  dsimp only
  rw[aq,gt,aa,bm rfl,dM]
  exact eA line nr a V C out st _ hs
 rw[aj c27]
 by_cases c28:o.Code=28
 ·have hk:b7 o=1:=by unfold b7;simp[c28]
  rw[ak c28,bn (c:=o.Code=17) (by omega),bn c24,bn c25,bn c26,bn c27,bm c28,al,(oL _).1,aa,pg,aa,bm rfl,dM]
  exact eA line nr a V C out st _ hs
 rw[aj c28]
 by_cases c29:o.Code=29
 ·have hk:b7 o=o.N:=by unfold b7;simp[c29]
  obtain⟨hn1,hn2⟩:=hcall c29
  rw[ak c29,bn (c:=o.Code=17) (by omega),bn c24,bn c25,bn c26,bn c27,bn c28,bm c29,Ml hl (by omega) (by omega),aa,bm rfl,dM]
  exact eA line nr a V C out st _ hs
 rw[aj c29,bn c24,bn c25,bn c26,bn c27,bn c28,bn c29]
 have hk:b7 o=2:=by
  have hr:12≤o.Code∧o.Code≤23:=by omega
  unfold b7
  rw[am,am,bn c29,bm hr]
 rw[al,al,aq (n:=o.Code-12),aq,MT,fS,aa]
 dsimp only
 by_cases c17:o.Code=17
 ·have t0:=(eM l0).1
  have t1:=(eM l1).1
  rw[ap,an,bm c17,fj,fj,aa,aa]
  dsimp only
  rw[al]
  by_cases c:300<(cr (l.getD 0 bU)++cr (l.getD 1 bU)).length
  ·rw[an,bm c,aa,bn (c:=(3:Int)=0) (by decide)]
   dsimp only
   rw[bm (by decide),jh,aa]
   exact⟨by decide,_,_,_,rfl⟩
  ·rw[ap,bn c,kE,aa,aa,bm (c:=(0:Int)=0) rfl]
   dsimp only
   rw[bn (by simp),dM]
   exact eA line nr a V C out st _ hs
 rw[bn c17]
 by_cases c16:o.Code≤16
 ·obtain⟨n1,n2,n3⟩:=dz l0
  obtain⟨m1,m2,m3⟩:=dz l1
  rw[an,bm c16,n1,aa,m1,aa]
  dsimp only
  rw[(te (op:=o.Code-12) n3 m3).1,aa,gt,aa,aa]
  dsimp only
  by_cases ce:(cL (o.Code-12) (cJ (l.getD 0 bU)) (cJ (l.getD 1 bU))).2=0
  ·rw[bm ce,ac ce,bn (by decide),dM]
   exact eA line nr a V C out st _ hs
  ·rw[bn ce,ae ce,bm (by decide),jh,aa]
   exact⟨ce,_,_,_,rfl⟩
 ·have hcmp:=(Bq l0 l1).1
  rw[ap,ap,bn c16,hcmp,aa]
  dsimp only
  have hord:wU (o.Code-12+9) (fC (l.getD 0 bU) (l.getD 1 bU))=some (yG (o.Code-18) (fC (l.getD 0 bU) (l.getD 1 bU)),()):=by
   have h6:o.Code=18∨o.Code=19∨o.Code=20∨o.Code=21∨o.Code=22∨o.Code=23:=by omega
   rw[Ms]
   rcases h6 with e | e | e | e | e | e <;> (rw[e];rfl)
  rw[hord,aa,pg,aa,aa,bm (c:=(0:Int)=0) rfl]
  dsimp only
  rw[bn (by simp),dM]
  exact eA line nr a V C out st _ hs
inductive Fin
 | err (e:Int)
 | fin (V:List bF) (C:List bo) (out:List Int)
noncomputable def oo(ops:List bA)(line:List Int)(nr:Int):Nat→Int→List bF→List bo→List Int→List bF→Fin
 | 0,_,_,_,_,_=>.err 6
 | n+1,a,V,C,out,st=>match jO line nr (ops.getD a.toNat cE) a V C out st with
  | .err e=>.err e
  | .stop=>.fin V C out
  | .go a' V' C' out' st'=>oo ops line nr n a' V' C' out' st'
def OpsI(ops:List bA)(nv:Nat)(nc:Int):Prop:=fZ ops nv nc=true∧lv ops
theorem OpsI.get{ops:List bA}{nv:Nat}{nc:Int}(h:OpsI ops nv nc){i:Nat}(hi:i<ops.length) :
  opB ops[i] ops.length nv nc=true∧Bt ops[i].S∧ops[i].S.length≤2097152∧(ops[i].Code≠36→i+1<ops.length)∧ops.length≤1500:=by
 obtain⟨h1,h2⟩:=h
 unfold fZ at h1
 rw[az,az,ab,ab,Bool.not_eq_true',List.any_eq_false]at h1
 obtain⟨h3,h4,h5⟩:=h1
 have h6:=h5 _ (aV hi)
 obtain⟨h7,h8⟩:=h2.2 _ (aV hi)
 refine⟨by simpa using h6,h7,h8,fun hc=>?_,by omega⟩
 rcases Nat.lt_or_ge (i+1) ops.length with h | h
 ·exact h
 ·have e:ops.length-1=i:=by omega
  rw[e,cG hi]at h4
  exact absurd h4 hc
theorem Tg{o:bA}(h:1≤o.Code∧o.Code≤36):zC o=some (b7 o,()):=by
 rw[RV]
 simp only[RU,en,aa]
 unfold b7
 by_cases hr:12≤o.Code∧o.Code≤23
 ·have n:∀ k:Int,(k<12∨23<k)→¬ o.Code=k:=fun k h1 h2=>by omega
  simp[n,hr.1,hr.2]
 ·have ee:o.Code=1∨o.Code=2∨o.Code=3∨o.Code=4∨o.Code=5∨o.Code=6∨o.Code=7∨o.Code=8∨o.Code=9∨o.Code=10∨o.Code=11∨o.Code=24∨o.Code=25∨o.Code=26∨o.Code=27∨o.Code=28∨o.Code=29∨o.Code=30∨o.Code=31∨o.Code=32∨o.Code=33∨o.Code=34∨o.Code=35∨o.Code=36:=by omega
  rcases ee with e | e | e | e | e | e | e | e | e | e | e | e | e | e | e | e | e | e | e | e | e | e | e | e <;> simp[e]
theorem Te{o:bA}(h:1≤o.Code∧o.Code≤36):xr o=some (b7 o,()):=by
 rw[Np]
 simp only[Nm,Nn]
 unfold b7
 by_cases hr:12≤o.Code∧o.Code≤23
 ·have n:∀ k:Int,(k<12∨23<k)→¬ o.Code=k:=fun k h1 h2=>by omega
  simp[n,hr.1,hr.2]
 ·have ee:o.Code=1∨o.Code=2∨o.Code=3∨o.Code=4∨o.Code=5∨o.Code=6∨o.Code=7∨o.Code=8∨o.Code=9∨o.Code=10∨o.Code=11∨o.Code=24∨o.Code=25∨o.Code=26∨o.Code=27∨o.Code=28∨o.Code=29∨o.Code=30∨o.Code=31∨o.Code=32∨o.Code=33∨o.Code=34∨o.Code=35∨o.Code=36:=by omega
  rcases ee with e | e | e | e | e | e | e | e | e | e | e | e | e | e | e | e | e | e | e | e | e | e | e | e <;> simp[e]
def vD(line:List Int)(nr a:Int)(V:List bF)(C:List bo)(out:List Int)(x:Option (Int×Bool×bQ×WT×Unit)):R→Prop
 | .err e=>e≠0∧∃ p b z s o,x=some (p,b,z,wT s line o,())∧s.Err=e
 | .stop=>∃ z,x=some (a,false,z,wT ⟨V,C,nr,0⟩ line out,())
 | .go b V' C' out' st=>x=some (b,true,⟨(),st⟩,wT ⟨V',C',nr,0⟩ line out',())
theorem Hu{line:List Int}{nr a:Int}{V:List bF}{C:List bo}{out:List Int}{x:Option (bQ×WT×Unit)}{r:R}(ha:w64 (a+1)=a+1)(h:lG line nr (a+1) x r) :
  vD line nr a V C out (x.bind fun(r0:bQ×(bE×((List (List Int))×((List (List Int))×((List Int)×((List (List Int))×((List Int)×(Int×(Bool×Unit))))))))×Unit) =>
   jI a r0.1.l r0.1.stack r0.2.1.1 r0.2.1.2.1 r0.2.1.2.2.1 r0.2.1.2.2.2.1 r0.2.1.2.2.2.2.1 r0.2.1.2.2.2.2.2.1 r0.2.1.2.2.2.2.2.2.1 r0.2.1.2.2.2.2.2.2.2.1) r:=by
 cases r with
 | err e =>
  obtain⟨h1,z,s,o,rfl,h2⟩:=h
  rw[aa,gA]
  exact⟨h1,_,_,_,_,_,rfl,h2⟩
 | stop=>exact h.elim
 | go b V' C' out' st =>
  obtain⟨rfl,rfl⟩:=h
  rw[aa,gA,ha]
  rfl
theorem BL{α:Type}(st:List α)(K:Nat)(hK:K≤st.length):List.append [] (List.take (st.length-(K:Int).toNat) (List.drop (K:Int).toNat st))=st.drop K:=by
 rw[af,a8 (by rw[aQ];exact aG _)];rfl
theorem qS(s:bE)(line out t:List Int)(h:out.length+t.length≤1000000):oA s [] [] line (dh line) out 0 false t =
  if 600<(out++t).length then(if s.Err=0 then some (wT ⟨s.Vars,s.Cells,s.Nr,5⟩ line out,())else some (wT s line out,()))else some (wT s line (out++t),()):=by
 rw[RG,aq]
 by_cases c:600<(out++t).length
 ·have c':=c
  rw[ag]at c'
  rw[an,bm c,Gy]
  by_cases d:s.Err=0
  ·rw[ak d,bm d];rfl
  ·rw[aj d,bn d];rfl
 ·have c':=c
  rw[ag]at c'
  rw[ap,bn c,al];rfl
theorem SY{line:List Int}{nr a:Int}{V:List bF}{C:List bo}{out:List Int}{st:List bF}{o:bA}{nv:Nat}{nc n:Int}(hnv:nv≤100000)(ha:0≤a∧a<2000)(hL:iS line nr)(h:VmI nv nc V C out st)(ho:opB o n nv nc=true)(hS:Bt o.S)(hSl:o.S.length≤2097152) :
  vD line nr a V C out (tW ⟨(),st⟩ ⟨V,C,nr,0⟩ [] [] line (dh line) out 0 false o a) (jO line nr o a V C out st):=by
 have hcode:=EV ho
 obtain⟨k1,k2⟩:=z8 ho
 obtain⟨o1,o2,o3,o4,o5,o6⟩:=yF ho
 have hst:=h.2.2.2.1
 have hw1:w64 (a+1)=a+1:=aq
 rw[RT,Tg hcode,aa]
 dsimp only
 unfold jO
 have hw:w64 ((st.length:Int)-b7 o)=(st.length:Int)-b7 o:=aq
 rw[hw]
 by_cases c:(st.length:Int)<b7 o
 ·rw[bm c,an,la,aa]
  exact⟨by decide,_,_,_,_,_,rfl,rfl⟩
 ·have hK:(st.length:Int)-b7 o=((st.length-(b7 o).toNat:Nat):Int):=by omega
  have hKl:st.length-(b7 o).toNat≤st.length:=Nat.sub_le _ _
  rw[bn c,hK,ap,al,bm (by rw[cg,aP];omega),al,BL _ _ hKl,af]
  have hlen:((st.drop (st.length-(b7 o).toNat)).length:Int)=b7 o:=by rw[aQ];omega
  have hl:∀ v∈st.drop (st.length-(b7 o).toNat),VG v:=fun v hv=>h.2.2.2.2 v (List.mem_of_mem_drop hv)
  have h':VmI nv nc V C out (st.take (st.length-(b7 o).toNat)):=⟨h.1,h.2.1,h.2.2.1,by rw[aP];omega,fun v hv=>h.2.2.2.2 v (List.mem_of_mem_take hv)⟩
  generalize st.drop (st.length-(b7 o).toNat)=l at *
  generalize st.take (st.length-(b7 o).toNat)=rest at *
  have hrs:=h'.2.2.2.1
  have hout:=h'.2.2.1.1
  have l0:=cX hl 0
  have t0:=(eM l0).1
  unfold doR
  by_cases c36:o.Code=36
  ·rw[ak c36,bm c36];exact⟨_,rfl⟩
  rw[aj c36,bn c36]
  by_cases c30:o.Code=30
  ·rw[ak c30,bm c30];rfl
  rw[aj c30,bn c30]
  by_cases c31:o.Code=31
  ·have hk:b7 o=1:=by unfold b7;simp[c31]
   rw[ak c31,bm c31,al,(oL _).2,aa]
   dsimp only
   cases lk (l.getD 0 bU) with
   | true=>rw[bn (by decide),bm rfl,gA,hw1];rfl
   | false=>rw[bm (by decide),bn (by decide)];rfl
  rw[aj c31,bn c31]
  by_cases c32:o.Code=32
  ·rw[ak c32,bm c32,gA,hw1];rfl
  rw[aj c32,bn c32]
  by_cases c33:o.Code=33
  ·have hk:b7 o=1:=by unfold b7;simp[c33]
   rw[ak c33,bm c33]
   unfold iL
   by_cases cN:o.N=1
   ·rw[ak cN,bm cN,qS _ _ _ _ (by simp;omega)]
    by_cases d:600<(out++[32]).length
    ·have d2:600<(out++([32]++cr (l.getD 0 bU))).length:=by
      rw[ag,ag];rw[ag]at d;omega
     rw[bm d,bm (c:=_=(0:Int)) rfl,aa,al,fx,aa,bm d2]
     unfold wT
     dsimp only
     rw[qS _ _ _ _ (by omega)]
     by_cases d3:600<(out++cr (l.getD 0 bU)).length
     ·rw[bm d3,bn (by simp),aa,gA]
      exact⟨by decide,_,_,_,_,_,rfl,rfl⟩
     ·rw[bn d3,aa,gA]
      exact⟨by decide,_,_,_,_,_,rfl,rfl⟩
    ·rw[bn d,aa,al,fx,aa]
     unfold wT
     dsimp only
     rw[qS _ _ _ _ (by rw[ag,bj];omega),ah]
     by_cases d2:600<(out++([32]++cr (l.getD 0 bU))).length
     ·rw[bm d2,bm d2,bm (c:=_=(0:Int)) rfl,aa,gA]
      exact⟨by decide,_,_,_,_,_,rfl,rfl⟩
     ·rw[bn d2,bn d2,aa,gA,hw1];rfl
   ·rw[aj cN,bn cN,al,fx,aa,bg]
    dsimp only
    rw[qS _ _ _ _ (by omega)]
    by_cases d2:600<(out++cr (l.getD 0 bU)).length
    ·rw[bm d2,bm d2,bm (c:=_=(0:Int)) rfl,aa,gA]
     exact⟨by decide,_,_,_,_,_,rfl,rfl⟩
    ·rw[bn d2,bn d2,aa,gA,hw1];rfl
  rw[aj c33,bn c33]
  by_cases c34:o.Code=34
  ·rw[ak c34,bm c34,qS _ _ _ _ (by simp;omega)]
   unfold iL
   by_cases d2:600<(out++[10]).length
   ·rw[bm d2,bm d2,bm (c:=_=(0:Int)) rfl,aa,gA]
    exact⟨by decide,_,_,_,_,_,rfl,rfl⟩
   ·rw[bn d2,bn d2,aa,gA,hw1];rfl
  rw[aj c34,bn c34]
  have named:(o.Code=3∨o.Code=4∨o.Code=5∨o.Code=6∨o.Code=7∨o.Code=8∨o.Code=35)→vD line nr a V C out (jJ a l true ⟨(),rest⟩ (bP.mk ⟨V,C,nr,0⟩ [] [] line (dh line) out 0 false) o) (fG (a+1) V C out rest o l):=fun hc=>by
   rw[GF,bm rfl]
   exact Hu hw1 (Pb hnv h' hl hlen hc o2)
  by_cases c3:o.Code=3
  ·rw[ak c3,bm (.inl c3),ac c3];exact named (.inl c3)
  rw[aj c3]
  by_cases c4:o.Code=4
  ·rw[ak c4,bm (.inr (.inl c4)),ac c4];exact named (.inr (.inl c4))
  rw[aj c4]
  by_cases c5:o.Code=5
  ·rw[ak c5,bm (.inr (.inr (.inl c5))),ac c5];exact named (.inr (.inr (.inl c5)))
  rw[aj c5]
  by_cases c6:o.Code=6
  ·rw[ak c6,bm (.inr (.inr (.inr (.inl c6)))),ac c6];exact named (.inr (.inr (.inr (.inl c6))))
  rw[aj c6]
  by_cases c7:o.Code=7
  ·rw[ak c7,bm (.inr (.inr (.inr (.inr (.inl c7))))),ac c7];exact named (.inr (.inr (.inr (.inr (.inl c7)))))
  rw[aj c7]
  by_cases c8:o.Code=8
  ·rw[ak c8,bm (.inr (.inr (.inr (.inr (.inr (.inl c8)))))),ac c8];exact named (.inr (.inr (.inr (.inr (.inr (.inl c8))))))
  rw[aj c8]
  by_cases c35:o.Code=35
  ·rw[bm (.inr (.inr (.inr (.inr (.inr (.inr c35)))))),ac c35];exact named (.inr (.inr (.inr (.inr (.inr (.inr c35))))))
  have hno:¬ (o.Code=3∨o.Code=4∨o.Code=5∨o.Code=6∨o.Code=7∨o.Code=8∨o.Code=35):=by omega
  rw[ae c35,bn hno,GF,bn (by decide)]
  exact Hu hw1 (Tr hL hrs hl hlen (by omega) hno hS hSl o4)
theorem Nc{ops:List bA}{a t:Int}(s:bE)(line out:List Int)(st:List bF){e:Int}(he:e≠0):kB ops a t s line out st e=some (iT s line out st e,()):=by
 rw[xn,aj he];rfl
def ry(ops:List bA)(line:List Int)(nr t:Int)(V:List bF)(C:List bo)(out:List Int)(x:Option (IT×Unit)):R→Prop
 | .err e=>e≠0∧∃ s o u,x=some (iT s line o u e,())
 | .stop=>∃ u,x=some (iT ⟨V,C,nr,0⟩ line out u 0,())
 | .go b V' C' out' st=>x=kB ops b (t+1) ⟨V',C',nr,0⟩ line out' st 0
theorem xA{ops:List bA}{line:List Int}{nr a t:Int}{V:List bF}{C:List bo}{out:List Int}{x:Option (IT×Unit)}{r:R}(ht:w64 (t+1)=t+1)(h:lC line nr a x r) :
  ry ops line nr t V C out (x.bind fun(r0:(bE×((List Int)×((List Int)×((List bF)×(Int×Unit)))))×Unit)=>kC ops a t r0.1.1 r0.1.2.1 r0.1.2.2.1 r0.1.2.2.2.1 r0.1.2.2.2.2.1) r:=by
 cases r with
 | err e =>
  obtain⟨h1,s,o,u,rfl⟩:=h
  rw[aa,nE]
  exact⟨h1,_,_,_,Nc _ _ _ _ h1⟩
 | stop=>exact h.elim
 | go b V' C' out' st =>
  obtain⟨rfl,rfl⟩:=h
  rw[aa,nE,ht]
  rfl
theorem NO{ops:List bA}{line:List Int}{nr t:Int}{V:List bF}{C:List bo}{out:List Int}{st:List bF}{nv:Nat}{nc:Int}(hnv:nv≤100000)(hops:OpsI ops nv nc)(i:Nat)(hi:i<ops.length)(ht:1≤t∧t≤20000)(hL:iS line nr)(h:VmI nv nc V C out st) :
  ry ops line nr t V C out (kB ops (i:Int) t ⟨V,C,nr,0⟩ line out st 0) (jO line nr ops[i] (i:Int) V C out st):=by
 obtain⟨ho,hS,hSl,hlast,hlen⟩:=hops.get hi
 have hcode:=EV ho
 obtain⟨k1,k2⟩:=z8 ho
 obtain⟨o1,o2,o3,o4,o5,o6⟩:=yF ho
 have hst:=h.2.2.2.1
 have hw1:w64 ((i:Int)+1)=(i:Int)+1:=aq
 have hwt:w64 (t+1)=t+1:=aq
 rw[xn,bm (by simp),ap,al,cl hi]
 generalize ops[i]=o at *
 rw[Te hcode,aa,Ni]
 dsimp only
 unfold jO
 have hw:w64 ((st.length:Int)-b7 o)=(st.length:Int)-b7 o:=aq
 rw[hw]
 by_cases c:(st.length:Int)<b7 o
 ·rw[bm c,an,jh,aa,bm ⟨by omega,by omega,by rw[cg];omega⟩,aa]
  unfold iT
  dsimp only
  rw[bm (by simp)]
  exact⟨by decide,_,_,_,rfl⟩
 ·have hK:(st.length:Int)-b7 o=((st.length-(b7 o).toNat:Nat):Int):=by omega
  have hKl:st.length-(b7 o).toNat≤st.length:=Nat.sub_le _ _
  rw[bn c,hK,ap,al,bm (by rw[cg,aP];omega),al,BL _ _ hKl,af,aa]
  have hlen:((st.drop (st.length-(b7 o).toNat)).length:Int)=b7 o:=by rw[aQ];omega
  have hl:∀ v∈st.drop (st.length-(b7 o).toNat),VG v:=fun v hv=>h.2.2.2.2 v (List.mem_of_mem_drop hv)
  have h':VmI nv nc V C out (st.take (st.length-(b7 o).toNat)):=⟨h.1,h.2.1,h.2.2.1,by rw[aP];omega,fun v hv=>h.2.2.2.2 v (List.mem_of_mem_take hv)⟩
  generalize st.drop (st.length-(b7 o).toNat)=l at *
  generalize st.take (st.length-(b7 o).toNat)=rest at *
  dsimp only
  rw[bn (by simp)]
  unfold doR
  by_cases c36:o.Code=36
  ·rw[ak c36,bm c36];exact⟨_,rfl⟩
  rw[aj c36,bn c36]
  by_cases c30:o.Code=30
  ·rw[ak c30,bm c30,nE,hwt];rfl
  rw[aj c30,bn c30]
  by_cases c31:o.Code=31
  ·have hk:b7 o=1:=by unfold b7;simp[c31]
   rw[ak c31,bm c31,al,(oL _).1,aa]
   dsimp only
   cases lk (l.getD 0 bU) with
   | true=>rw[bn (by decide),bm rfl,nE,hwt,hw1];rfl
   | false=>rw[bm (by decide),bn (by decide),nE,hwt];rfl
  rw[aj c31,bn c31]
  by_cases c32:o.Code=32
  ·rw[ak c32,bm c32,nE,hwt,hw1];rfl
  rw[aj c32,bn c32]
  have store:(o.Code=4∨o.Code=5∨o.Code=7∨o.Code=8∨o.Code=35)→ry ops line nr t V C out (iz ops (w64 ((i:Int)+1)) t l true (bH.mk ⟨V,C,nr,0⟩ line out rest 0) o) (fG ((i:Int)+1) V C out rest o l):=fun hc=>by
   rw[xp,bm rfl,hw1]
   exact xA hwt (SZ hnv h' hl hlen hc (fun e=>o2 (.inr e)))
  have outp:∀ b,b=true→(o.Code=33∨o.Code=34)→ry ops line nr t V C out (iz ops (w64 ((i:Int)+1)) t l b (bH.mk ⟨V,C,nr,0⟩ line out rest 0) o) (iL ((i:Int)+1) V C out rest (if o.Code=33 then(if o.N=1 then [32]else [])++cr (l.getD 0 bU)else [10])):=fun b hb hc=>by
   rw[xp,bm hb,hw1]
   exact xA hwt (PE h' hl hlen hc)
  by_cases c4:o.Code=4
  ·rw[ak c4,am,am,bm (.inr (.inl c4)),ac c4];exact store (.inl c4)
  rw[aj c4]
  by_cases c5:o.Code=5
  ·rw[ak c5,am,am,bm (.inr (.inr (.inl c5))),ac c5];exact store (.inr (.inl c5))
  rw[aj c5]
  by_cases c7:o.Code=7
  ·rw[ak c7,am,am,bm (.inr (.inr (.inr (.inr (.inl c7))))),ac c7];exact store (.inr (.inr (.inl c7)))
  rw[aj c7]
  by_cases c8:o.Code=8
  ·rw[ak c8,am,am,bm (.inr (.inr (.inr (.inr (.inr (.inl c8)))))),ac c8];exact store (.inr (.inr (.inr (.inl c8))))
  rw[aj c8]
  by_cases c35:o.Code=35
  ·rw[ak c35,am,am,bm (.inr (.inr (.inr (.inr (.inr (.inr c35)))))),ac c35];exact store (.inr (.inr (.inr (.inr c35))))
  rw[aj c35]
  by_cases c33:o.Code=33
  ·have:=outp _ (ac c33) (.inl c33)
   rw[bm c33]at this
   rw[ak c33,bm c33];exact this
  rw[aj c33,bn c33]
  by_cases c34:o.Code=34
  ·have:=outp _ (ac c34) (.inr c34)
   rw[bn c33]at this
   rw[bm c34];exact this
  rw[bn c34,xp,aj c34,hw1]
  have hl1:=xA (ops:=ops) (V:=V) (C:=C) (out:=out) hwt (OV (a:=(i:Int)+1) hL h' hl hlen (by omega) (by omega) hS hSl (fun e=>o2 (.inl e)) o4)
  have hr:(if o.Code=3∨o.Code=6 then fG ((i:Int)+1) V C out rest o l else if(dJ line nr o l).1=0 then eV ((i:Int)+1) V C out rest (dJ line nr o l).2 else .err (dJ line nr o l).1) =
    (if o.Code=3∨o.Code=4∨o.Code=5∨o.Code=6∨o.Code=7∨o.Code=8∨o.Code=35 then fG ((i:Int)+1) V C out rest o l else if(dJ line nr o l).1=0 then eV ((i:Int)+1) V C out rest (dJ line nr o l).2 else .err (dJ line nr o l).1):=by
   by_cases c36':o.Code=3∨o.Code=6
   ·rw[bm c36',al]
   ·rw[bn c36',bn (c:=o.Code=3∨o.Code=4∨o.Code=5∨o.Code=6∨o.Code=7∨o.Code=8∨o.Code=35) (by omega)]
  rw[← hr]
  exact hl1
def FRelI(nv:Nat)(nc:Int)(line:List Int)(nr:Int)(x:Option (IT×Unit)):Fin→Prop
 | .err e=>(1≤e∧e≤7)∧∃ s o u,x=some (iT s line o u e,())
 | .fin V C out=>(∃ u,x=some (iT ⟨V,C,nr,0⟩ line out u 0,()))∧VmI nv nc V C out []
def AF(line:List Int)(nr:Int)(x:Option (WT×Unit)):Fin→Prop
 | .err e=>∃ s o,x=some (wT s line o,())∧s.Err=e
 | .fin V C out=>x=some (wT ⟨V,C,nr,0⟩ line out,())
theorem Qx{ops:List bA}{line:List Int}{nr:Int}{nv:Nat}{nc:Int}(hnv:nv≤100000)(hops:OpsI ops nv nc)(hL:iS line nr):∀ (n:Nat) (a:Int) (V:List bF) (C:List bo) (out:List Int) (st:List bF),n≤20000→0≤a∧a<(ops.length:Int)→VmI nv nc V C out st →
  FRelI nv nc line nr (kB ops a ((20001-n:Nat):Int) ⟨V,C,nr,0⟩ line out st 0) (oo ops line nr n a V C out st):=by
 intro n
 induction n with
 | zero =>
  intro a V C out st hn ha h
  rw[xn,bm (by simp),bm (by decide),jh,aa]
  exact⟨⟨by decide,by decide⟩,_,_,_,rfl⟩
 | succ n ih =>
  intro a V C out st hn ha h
  obtain⟨i,rfl⟩:=Int.eq_ofNat_of_zero_le ha.1
  have hi:i<ops.length:=by omega
  obtain⟨ho,hS,hSl,hlast,hlen⟩:=hops.get hi
  have h1:=NO hnv hops i hi (t:=((20001-(n+1):Nat):Int)) (by omega) hL h
  have h2:=Hv (line:=line) (nr:=nr) (n:=(ops.length:Int)) (a:=(i:Int)) (o:=ops[i]) (by omega) (by omega) (fun hc=>by have:=hlast hc;omega) hL h ho hS
  unfold oo
  rw[af,cG hi]
  revert h1 h2
  cases jO line nr ops[i] (i:Int) V C out st with
  | err e=>intro h1 h2;exact⟨h2,h1.2⟩
  | stop=>intro h1 h2;exact⟨h1,h.1,h.2.1,h.2.2.1,by simp,fun v hv=>by cases hv⟩
  | go b V' C' out' st' =>
   intro h1 h2
   have h3:=ih b V' C' out' st' (by omega) h2.1 h2.2
   have e:((20001-(n+1):Nat):Int)+1=((20001-n:Nat):Int):=by omega
   rw[← e]at h3
   have h4:kB ops (i:Int) ((20001-(n+1):Nat):Int) ⟨V,C,nr,0⟩ line out st 0=_:=h1
   rw[h4]
   exact h3
theorem Qy{ops:List bA}{line:List Int}{nr:Int}{nv:Nat}{nc:Int}(hnv:nv≤100000)(hops:OpsI ops nv nc)(hL:iS line nr):∀ (n:Nat) (a:Int) (V:List bF) (C:List bo) (out:List Int) (st:List bF),n≤20000→0≤a∧a<(ops.length:Int)→VmI nv nc V C out st →
  AF line nr (qD ops a ((20000-n:Nat):Int) (bP.mk ⟨V,C,nr,0⟩ [] [] line (dh line) out 0 false) ⟨(),st⟩) (oo ops line nr n a V C out st):=by
 have stopE:∀ (a t:Int) (s:bE) (o:List Int) (z:bQ) (e:Int),s.Err=e→e≠0→∃ s' o',qD ops a t (bP.mk s [] [] line (dh line) o 0 false) z=some (wT s' line o',())∧s'.Err=e:=fun a t s o z e h1 h2=>by
  rw[zy,aj (by dsimp only;rw[h1];exact h2)]
  exact⟨_,_,rfl,h1⟩
 intro n
 induction n with
 | zero =>
  intro a V C out st hn ha h
  rw[zy,bm (by simp),bm (by decide),la,aa]
  exact⟨_,_,rfl,rfl⟩
 | succ n ih =>
  intro a V C out st hn ha h
  obtain⟨i,rfl⟩:=Int.eq_ofNat_of_zero_le ha.1
  have hi:i<ops.length:=by omega
  obtain⟨ho,hS,hSl,hlast,hlen⟩:=hops.get hi
  have h1:=SY (line:=line) (nr:=nr) (a:=(i:Int)) (o:=ops[i]) hnv (by omega) hL h ho hS hSl
  have h2:=Hv (line:=line) (nr:=nr) (n:=(ops.length:Int)) (a:=(i:Int)) (o:=ops[i]) (by omega) (by omega) (fun hc=>by have:=hlast hc;omega) hL h ho hS
  unfold oo
  rw[af,cG hi,zy,bm (by simp),ap,al,cl hi,aq]
  revert h1 h2
  cases jO line nr ops[i] (i:Int) V C out st with
  | err e =>
   intro h1 h2
   obtain⟨g1,p,b,z,s,o,g2,g3⟩:=h1
   rw[g2,aa]
   dsimp only
   cases b with
   | true=>rw[bn (by decide)];exact stopE _ _ s o z e g3 g1
   | false=>rw[bm (by decide)];exact⟨_,_,rfl,g3⟩
  | stop =>
   intro h1 h2
   obtain⟨z,g2⟩:=h1
   rw[g2,aa]
   rfl
  | go b V' C' out' st' =>
   intro h1 h2
   have h3:=ih b V' C' out' st' (by omega) h2.1 h2.2
   have e:((20000-(n+1):Nat):Int)+1=((20000-n:Nat):Int):=by omega
   rw[← e]at h3
   have h4:tW ⟨(),st⟩ ⟨V,C,nr,0⟩ [] [] line (dh line) out 0 false ops[i] (i:Int)=_:=h1
   rw[h4,aa]
   dsimp only
   rw[bn (by decide)]
   exact h3
def StI(nv:Nat)(nc:Int)(s:bE):Prop:=(s.Vars.length=nv∧∀ v∈s.Vars,VG v)∧CG nc s.Cells∧(0≤s.Nr∧s.Nr≤1000000)∧s.Err=0
def StG(nv:Nat)(nc:Int)(s:bE):Prop:=(s.Vars.length=nv∧∀ v∈s.Vars,VG v)∧CG nc s.Cells∧(0≤s.Nr∧s.Nr≤1000000)∧0≤s.Err∧s.Err≤7
theorem StI.g{nv:Nat}{nc:Int}{s:bE}(h:StI nv nc s):StG nv nc s:=⟨h.1,h.2.1,h.2.2.1,by have:=h.2.2.2;omega⟩
theorem StG.i{nv:Nat}{nc:Int}{s:bE}(h:StG nv nc s)(he:s.Err=0):StI nv nc s:=⟨h.1,h.2.1,h.2.2.1,he⟩
theorem StG.of{nv:Nat}{nc:Int}{s:bE}(h:mG s nv nc=true)(hb:mV s):StG nv nc s:=by
 unfold mG at h
 rw[az,az,az,az,az,ab,Bool.not_eq_true',List.any_eq_false,ab,ab,ab,Bool.not_eq_true']at h
 obtain⟨h1,h2,h3,h4,h5,h6⟩:=h
 have hbad:∀ i (hi:i<s.Cells.length),(0≤s.Cells[i].Name∧s.Cells[i].Name<nc∧s.Cells[i].Key.length≤300∧iQ s.Cells[i].Val=true)∧(0<i→dw (s.Cells[i-1]'(by omega)) s.Cells[i]=true):=fun i hi=>by
  have:=anyB_false.1 h6 i hi
  unfold vT at this
  rw[cG hi,cG (show i-1<s.Cells.length by omega)]at this
  simp only[Bool.or_eq_false_iff,decide_eq_false_iff_not,Bool.not_eq_false',Bool.and_eq_false_iff]at this
  obtain⟨g1,g2,g3,g4,g5⟩:=this
  refine⟨⟨by omega,by omega,by omega,g4⟩,fun h0=>?_⟩
  rcases g5 with g5 | g5
  ·omega
  ·exact g5
 refine⟨⟨by omega,fun v hv=>⟨by simpa using h2 v hv,hb.1.2 v hv⟩⟩,⟨by omega,fun c hc=>?_,?_⟩,h4,h5⟩
 ·obtain⟨i,hi,rfl⟩:=bk.1 hc
  obtain⟨g1,g2,g3,g4⟩:=(hbad i hi).1
  exact⟨g1,g2,g3,g4,hb.2.2 _ hc⟩
 ·rw[List.pairwise_iff_getElem]
  intro i j hi hj hij
  have key:∀ (d j:Nat) (hj:j<s.Cells.length),j=i+1+d→dw s.Cells[i] s.Cells[j]=true:=by
   intro d
   induction d with
   | zero=>intro j hj e;subst e;exact(hbad (i+1) hj).2 (by omega)
   | succ d ih =>
    intro j hj e
    have h1:=ih (j-1) (by omega) (by omega)
    exact vV h1 ((hbad j hj).2 (by omega))
  exact key (j-i-1) j hj (by omega)
theorem StI.of{nv:Nat}{nc:Int}{s:bE}(h:mG s nv nc=true)(hb:mV s)(he:s.Err=0):StI nv nc s:=(StG.of h hb).i he
theorem StG.to{nv:Nat}{nc:Int}{s:bE}(h:StG nv nc s)(hnv:nv≤100000):mG s nv nc=true∧mV s:=by
 obtain⟨⟨h1,h2⟩,⟨c1,c2,c3⟩,h4,h5⟩:=h
 refine⟨?_,⟨by omega,fun v hv=>(h2 v hv).2⟩,by omega,fun c hc=>(c2 c hc).2.2.2.2⟩
 unfold mG
 rw[az,az,az,az,az,ab,Bool.not_eq_true',List.any_eq_false,ab,ab,ab,Bool.not_eq_true']
 refine⟨by omega,fun v hv=>by rw[(h2 v hv).1];decide,by omega,h4,by omega,anyB_false.2 fun i hi=>?_⟩
 unfold vT
 obtain⟨g1,g2,g3,g4⟩:=c2 _ (aV hi)
 rw[cG hi,cG (show i-1<s.Cells.length by omega),ae (by omega),ae (by omega),ae (by omega),g4.1]
 by_cases c:i=0
 ·subst c;rfl
 ·rw[List.pairwise_iff_getElem.1 c3 (i-1) i (by omega) hi (by omega)];simp
theorem StI.to{nv:Nat}{nc:Int}{s:bE}(h:StI nv nc s)(hnv:nv≤100000):mG s nv nc=true∧mV s:=h.g.to hnv
def kg(s:bE)(nr:Int):Fin→bE×List Int
 | .err e=>(⟨s.Vars,s.Cells,s.Nr,e⟩,[])
 | .fin V C out=>(⟨V,C,nr,0⟩,out)
theorem Kz{nv:Nat}{nc:Int}{line:List Int}{nr:Int}{x:Option (IT×Unit)}{r:Fin}(h:FRelI nv nc line nr x r)(s:bE)(hv:s.Vars.length≤100000)(hc:s.Cells.length≤100000) :
  (x.bind fun(r8:(bE×((List Int)×((List Int)×((List bF)×(Int×Unit)))))×Unit) =>
   (xl r8.1.1 r8.1.2.1 r8.1.2.2.1 r8.1.2.2.2.1 r8.1.2.2.2.2.1 s).bind fun(r9:bE×(List Int)×(Unit×((List Int)×((List Int)×((List bF)×(Int×Unit)))))×Unit) =>
   some (r9.1,r9.2.1,()))=some ((kg s nr r).1,(kg s nr r).2,()):=by
 cases r with
 | err e =>
  obtain⟨h1,s',o,u,rfl⟩:=h
  rw[aa]
  unfold iT
  dsimp only
  rw[DA,ae (show ¬ e=0 by omega),bm (by decide),rI hv hc]
  rfl
 | fin V C out =>
  obtain⟨⟨u,rfl⟩,_⟩:=h
  rw[aa]
  unfold iT
  dsimp only
  rw[DA,bn (by simp)]
  rfl
theorem KB{line:List Int}{nr:Int}{x:Option (WT×Unit)}{r:Fin}(h:AF line nr x r)(hne:∀ e,r = .err e→e≠0)(s:bE)(hv:s.Vars.length≤100000)(hc:s.Cells.length≤100000) :
  (x.bind fun(r0:(bE×((List (List Int))×((List (List Int))×((List Int)×((List (List Int))×((List Int)×(Int×(Bool×Unit))))))))×Unit) =>
   (zt (bP.mk r0.1.1 r0.1.2.1 r0.1.2.2.1 r0.1.2.2.2.1 r0.1.2.2.2.2.1 r0.1.2.2.2.2.2.1 r0.1.2.2.2.2.2.2.1 r0.1.2.2.2.2.2.2.2.1) s).bind fun(r1:bE×(List Int)×bP×Unit) =>
   some (r1.1,r1.2.1,()))=some ((kg s nr r).1,(kg s nr r).2,()):=by
 cases r with
 | err e =>
  obtain⟨s',o,rfl,h2⟩:=h
  rw[aa]
  unfold wT
  dsimp only
  rw[Gx]
  dsimp only
  rw[h2,ae (hne e rfl),bm (by decide),rJ hv hc]
  rfl
 | fin V C out =>
  have h':x=_:=h
  rw[h',aa]
  unfold wT
  dsimp only
  rw[Gx,bn (by simp)]
  rfl
theorem KA{nv:Nat}{nc:Int}{line:List Int}{nr:Int}{x:Option (IT×Unit)}{r:Fin}(h:FRelI nv nc line nr x r)(s:bE)(hs:StI nv nc s)(hnr:0≤nr∧nr≤1000000):StG nv nc (kg s nr r).1∧(kg s nr r).2.length≤600∧Bt (kg s nr r).2:=by
 cases r with
 | err e =>
  have h1:=h.1
  exact⟨⟨hs.1,hs.2.1,hs.2.2.1,by show 0≤e;omega,by show e≤7;omega⟩,Nat.zero_le _,fun x hx=>by cases hx⟩
 | fin V C out =>
  obtain⟨_,g1,g2,g3,g4⟩:=h
  exact⟨⟨g1,g2,hnr,by show(0:Int)≤0;omega,by show(0:Int)≤7;omega⟩,g3⟩
def PrI(p:bC):Prop:=fb p=true∧jX p
theorem PrI.nv{p:bC}(h:PrI p):p.Vars.length≤8:=by
 have h1:=h.1
 unfold fb kI at h1
 simp only[az,ab]at h1
 omega
theorem PrI.main{p:bC}(h:PrI p):OpsI p.Main p.Vars.length p.Cells.length:=by
 have h1:=h.1
 unfold fb at h1
 simp only[az]at h1
 exact⟨h1.2.2.2.2,h.2.2.2.2⟩
theorem PrI.start{p:bC}(h:PrI p):OpsI p.Start p.Vars.length p.Cells.length:=by
 have h1:=h.1
 unfold fb at h1
 simp only[az]at h1
 exact⟨h1.2.2.2.1,h.2.2.2.1⟩
theorem OpsI.pos{ops:List bA}{nv:Nat}{nc:Int}(h:OpsI ops nv nc):0<(ops.length:Int):=by
 have h1:=h.1
 unfold fZ at h1
 rw[az,ab]at h1
 omega
theorem FRelI.ne{nv:Nat}{nc:Int}{line:List Int}{nr:Int}{x:Option (IT×Unit)}{r:Fin}(h:FRelI nv nc line nr x r):∀ e,r = .err e→e≠0:=by
 intro e he
 subst he
 have:=h.1
 omega
def hU(n:Nat):bE:=⟨List.replicate n bU,[],0,0⟩
theorem Pd(n:Nat)(h:n≤8):su (n:Int)=some (hU n,())∧tM (n:Int)=some (hU n,()):=by
 have h1:mnI (n:Int) 8=(n:Int):=by unfold mnI;rw[am]
 have h2:mxI 0 (n:Int)=(n:Int):=by unfold mxI;split <;> omega
 have h3:qE (n:Int) 8=some ((n:Int),()):=by
  rw[GJ]
  by_cases c:(n:Int)<8
  ·rw[ak c]
  ·rw[aj c,show(8:Int)=(n:Int) by omega]
 have h4:oC 0 (n:Int)=some ((n:Int),()):=by
  rw[zG]
  by_cases c:(0:Int)>(n:Int)
  ·omega
  ·rw[aj c]
 rw[Mc,Rh,h1,h2,h3,aa]
 dsimp only
 rw[h4,aa]
 dsimp only
 rw[bm ⟨by omega,by omega,by rw[cg];omega⟩,af]
 exact⟨rfl,rfl⟩
theorem Pc(n:Nat)(nc:Int):StI n nc (hU n):=by
 refine⟨⟨a7,fun v hv=>?_⟩,⟨by show 0≤40;omega,fun c hc=>(by cases hc),List.Pairwise.nil⟩,⟨by show(0:Int)≤0;omega,by show(0:Int)≤1000000;omega⟩,rfl⟩
 rw[(List.mem_replicate.1 hv).2];exact pb
noncomputable def ij(p:bC):bE×List Int:=kg (hU p.Vars.length) 0 (oo p.Start [] 0 20000 0 (hU p.Vars.length).Vars [] [] [])
theorem SW{p:bC}(hp:PrI p):wO p=some ((ij p).1,(ij p).2,())∧zB p=some ((ij p).1,(ij p).2,())∧StG p.Vars.length p.Cells.length (ij p).1∧(ij p).2.length≤600∧Bt (ij p).2:=by
 have hnv:=hp.nv
 have hI:=Pc p.Vars.length p.Cells.length
 have hv:(hU p.Vars.length).Vars.length≤100000:=by rw[hI.1.1];omega
 have hc:(hU p.Vars.length).Cells.length≤100000:=Nat.zero_le _
 have hL:iS [] 0:=⟨⟨Nat.zero_le _,fun x hx=>by cases hx⟩,by omega,by omega⟩
 have hV:VmI p.Vars.length (p.Cells.length:Int) (hU p.Vars.length).Vars [] [] []:=⟨hI.1,hI.2.1,⟨by simp,fun x hx=>by cases hx⟩,by simp,fun x hx=>by cases hx⟩
 have r1:=Qx (by omega) hp.start hL 20000 0 _ [] [] [] (aG _) ⟨Int.le_refl _,hp.start.pos⟩ hV
 have r2:=Qy (by omega) hp.start hL 20000 0 _ [] [] [] (aG _) ⟨Int.le_refl _,hp.start.pos⟩ hV
 have e1:=Kz r1 (hU p.Vars.length) hv hc
 have e2:=KB r2 r1.ne (hU p.Vars.length) hv hc
 have e3:=KA r1 (hU p.Vars.length) hI ⟨by omega,by omega⟩
 obtain⟨n1,n2⟩:=Pd p.Vars.length hnv
 rw[Mb,RS,wM p hp.2,n1,n2]
 simp only[aa,hp.1,Bool.not_true,Bool.false_eq_true,if_false,rI hv hc,rJ hv hc,Nk,RP]
 exact⟨e1,e2,e3⟩
end Go.Proofs.YthgknhkeifcflaaGreatDoor.E.TG
namespace Go.Proofs.YthgknhkeifcflaaGreatDoor.E
set_option linter.unusedVariables false
theorem S7{α:Type}(L:Int→Int→Option (Int×Unit))(S:α→Int→Option (Int×Unit))(l:List α)(Q:α→Prop)(hl:l.length≤9223372036854775807)
  (hS:∀ x∈l,∀ k:Int,0≤k→k≤1048576→∃ r,S x k=some (r,())∧r≤1048576∧(0≤r→Q x))
  (stop:∀ k,L k (l.length:Int)=some (k,()))
  (step:∀ (k:Int) (i:Nat) (h:i<l.length),L k i=(S l[i] k).bind fun(r0:Int×Unit)=>if(decide (r0.1<0))=true then some ((-1),())else L r0.1 ((i+1:Nat):Int))
  (n:Int) (h0:0≤n) (h1:n≤1048576):∃ r,L n 0=some (r,())∧r≤1048576∧(0≤r→∀ x∈l,Q x):=by
 have key:∀ (d i:Nat) (k:Int),i+d=l.length→0≤k→k≤1048576→∃ r,L k i=some (r,())∧r≤1048576∧(0≤r→∀ j (h:j<l.length),i≤j→Q l[j]):=by
  intro d
  induction d with
  | zero =>
   intro i k hd k0 k1
   have hi:i=l.length:=by omega
   subst hi
   exact⟨k,stop k,k1,fun _ j hj hij=>by omega⟩
  | succ d ih =>
   intro i k hd k0 k1
   have hi:i<l.length:=by omega
   obtain⟨r,e1,e2,e3⟩:=hS l[i] (aV hi) k k0 k1
   rw[step k i hi,e1,aa]
   by_cases h:r<0
   ·rw[ak h]
    exact⟨-1,rfl,by omega,fun h=>by omega⟩
   ·rw[aj h]
    obtain⟨r',g1,g2,g3⟩:=ih (i+1) r (by omega) (by omega) e2
    refine⟨r',g1,g2,fun hr j hj hij=>?_⟩
    by_cases e:j=i
    ·subst e;exact e3 (by omega)
    ·exact g3 hr j hj (by omega)
 obtain⟨r,e1,e2,e3⟩:=key l.length 0 n (by omega) h0 h1
 exact⟨r,e1,e2,fun hr x hx=>by
  obtain⟨j,hj,rfl⟩:=bk.1 hx
  exact e3 hr j hj (by omega)⟩
theorem td{α:Type}(L:List α→Int→Int→Option (Int×List α×Unit))(H:List α→Int→Int→Option (Int×Unit))(P:α→Prop)(b:Nat)(bd:Int)
  (stop:∀ a k,L a k (a.length:Int)=some (k,a,())) (hstop:∀ a k,H a k (a.length:Int)=some (k,()))
  (step:∀ (a:List α) (k:Int) (i:Nat) (h:i<a.length),a.length≤4294967296→P a[i]→0≤k→k+b≤bd →
   ∃ y k',L a k i=L (a.set i y) k' ((i+1:Nat):Int)∧k≤k'∧k'≤k+b∧∀ (c:List α) (hc:i<c.length),c.length≤4294967296→c[i]=y→H c k i=H c k' ((i+1:Nat):Int))
  (l:List α) (k:Int) (hl:l.length≤4294967296) (hP:∀ x∈l,P x) (hk:0≤k) (hb:k+b*l.length≤bd) :
  ∃ k' l',L l k 0=some (k',l',())∧H l' k 0=some (k',())∧l'.length=l.length∧k≤k'∧k'≤k+b*l.length:=by
 have hs:∀ d:Nat,(b*((d+1:Nat):Int):Int)=b*d+b:=fun d=>by rw[Int.natCast_add,Int.mul_add];simp
 have hz:∀ d:Nat,(0:Int)≤b*d:=fun d=>by exact_mod_cast Nat.zero_le (b*d)
 have key:∀ (d i:Nat) (a:List α) (k:Int),i+d=a.length→a.length≤4294967296→(∀ j (h:j<a.length),i≤j→P a[j])→0≤k→k+b*d≤bd →
   ∃ k' a',L a k (i:Int)=some (k',a',())∧k≤k'∧k'≤k+b*d∧a'.length=a.length∧(∀ j,j<i→a'[j]? = a[j]?) ∧
    ∀ c:List α,c.length=a.length→(∀ j,i≤j→c[j]? = a'[j]?)→H c k (i:Int)=some (k',()):=by
  intro d
  induction d with
  | zero =>
   intro i a k hd hl hp hk hb
   have hi:i=a.length:=by omega
   subst hi
   refine⟨k,a,stop a k,Int.le_refl k,by simp,rfl,fun _ _=>rfl,fun c hc _=>?_⟩
   rw[← hc];exact hstop c k
  | succ d ih =>
   intro i a k hd hl hp hk hb
   have hi:i<a.length:=by omega
   have h0:=hz d
   rw[hs]at hb
   obtain⟨y,k1,e1,e2,e3,e4⟩:=step a k i hi hl (hp i hi (aG i)) hk (by omega)
   obtain⟨k',a',f1,f2,f3,f4,f5,f6⟩:=ih (i+1) (a.set i y) k1 (by rw[aX];omega) (by rw[aX];exact hl)
    (fun j hj hij=>by rw[List.getElem_set_ne (by omega)];exact hp j (by rw[aX]at hj;exact hj) (by omega)) (by omega) (by omega)
   rw[aX]at f4 f6
   refine⟨k',a',e1.trans f1,by omega,by rw[hs];omega,f4,fun j hj=>?_,fun c hc hcj=>?_⟩
   ·rw[f5 j (by omega),List.getElem?_set_ne (by omega)]
   ·have hic:i<c.length:=by omega
    have hc0:c[i]? = some y:=by rw[hcj i (aG i),f5 i (by omega),List.getElem?_set_self hi]
    rw[List.getElem?_eq_getElem hic]at hc0
    rw[e4 c hic (by omega) (aN hc0)]
    exact f6 c hc fun j hj=>hcj j (by omega)
 obtain⟨k',a',e1,e2,e3,e4,_,e6⟩:=key l.length 0 l k (by omega) hl (fun j hj _=>hP _ (aV hj)) hk hb
 exact⟨k',a',e1,e6 a' e4 fun _ _=>rfl,e4,e2,e3⟩
end Go.Proofs.YthgknhkeifcflaaGreatDoor.E
namespace Go.Proofs.YthgknhkeifcflaaGreatDoor.E.TG
open Go.Proofs.YthgknhkeifcflaaGreatDoor.E
set_option linter.unusedVariables false
theorem O2(n:Nat):∀ (k:Int) (s:List Int),k≤9223372036854775807→0≤k→k<10 ^ n→s.length+n≤1000→∃ t,sX k s=some (t,()):=by
 induction n with
 | zero =>
  intro k s h h0 hk hs
  have:k=0:=by simp at hk;omega
  subst this
  rw[Eg,bn (by simp),bm (by show 1+s.length≤_;omega)]
  exact⟨_,rfl⟩
 | succ n ih =>
  intro k s h h0 hk hs
  rw[Eg]
  by_cases h:k>0
  ·rw[ak h,bm (by show 1+s.length≤_;omega),ba h0,aq (n:=k/10)]
   refine ih (k/10) _ (by omega) (by omega) ?_ (by show(s.length+1)+n≤1000;omega)
   rw[Int.pow_succ]at hk
   omega
  ·rw[aj h,bm (by show 1+s.length≤_;omega)]
   exact⟨_,rfl⟩
theorem O3(k:Int)(h:k≤9223372036854775807):∃ t,fF k=some (t,()):=by
 rw[Oy]
 by_cases h0:k≤0
 ·rw[ak h0];exact⟨_,rfl⟩
 ·rw[aj h0]
  exact O2 19 k [] h (by omega) (by omega) (by simp)
open Classical in
noncomputable def kH(k:Int):List Int:=if h:∃ t,fF k=some (t,())then Classical.choose h else []
theorem iD(k:Int)(h:k≤9223372036854775807):fF k=some (kH k,()):=by
 have:=O3 k h
 unfold kH
 rw[dif_pos this]
 exact Classical.choose_spec this
def vo(M:Nat)(x:bq):Prop:=x.Line.length≤M
def lz(M:Nat)(x:bt):Prop:=vo M x.C
def oY(M:Nat)(x:bw):Prop:=(x.List.length≤M∧∀ y∈x.List,lz M y)
def iq(M:Nat)(x:bF):Prop:=x.S.length≤M
def j0(M:Nat)(x:bo):Prop:=x.Key.length≤M∧iq M x.Val
def lB(M:Nat)(x:bE):Prop:=(x.Vars.length≤M∧∀ y∈x.Vars,iq M y)∧(x.Cells.length≤M∧∀ y∈x.Cells,j0 M y)
def lA(M:Nat)(x:bz):Prop:=lB M x.State∧x.Done.length≤M∧x.Out.length≤M
def oX(M:Nat)(x:bv):Prop:=oY M x.Log∧lA M x.Snap
theorem K6(x:bq)(h:vo 2097152 x):xM x x=some (true,()):=by
 unfold vo at h
 rw[NZ]
 simp
theorem K7(x:bt)(h:lz 2097152 x):xN x x=some (true,()):=by
 unfold lz at h
 rw[N1]
 rw[K6 _ (h)]
 simp
theorem K8(l:List bt)(h:l.length≤2097152∧∀ x∈l,lz 2097152 x):xO l l=some (true,()):=by
 have hl:=h.1
 rw[N0,bn (by simp)]
 exact na (fun i=>nO l l i) l _ (fun i hi=>by
  show nO l l i=_
  rw[D0,an,al,al,cl hi,K7 _ (h.2 _ (aV hi)),aa,bn (by simp),ci hi (by omega)]) (by
  show nO l l _=_
  rw[D0,bn (by simp)])
theorem Lk(l:List bt)(k:Int)(h:l.length≤2097152∧∀ x∈l,lz 2097152 x)(hk:0≤k)(hb:k+8388608≤2305843009213693952):∃ k' l',ya l k=some (k',l',())∧xX l' k=some (k',())∧l'.length=l.length∧k≤k'∧k'≤k+8388608:=by
 have hl:=h.1
 rw[On]
 have step:∀ (a:List bt) (k:Int) (i:Nat) (hi:i<a.length),a.length≤4294967296→(lz 2097152) a[i]→0≤k→k+(4:Nat)≤2305843009213693952→∃ y k',jB a k i=jB (a.set i y) k' ((i+1:Nat):Int)∧k≤k'∧k'≤k+(4:Nat)∧∀ (d:List bt) (hd:i<d.length),d.length≤4294967296→d[i]=y→jx d k i=jx d k' ((i+1:Nat):Int):=by
  intro a k i hi ha hp hk hb
  have c:(0:Int)≤(i:Int)∧(i:Int)<(a.length:Int):=by omega
  refine⟨⟨k,⟨k+1,k+1+1,kH (k+1+1+1)⟩⟩,k+1+1+1+1,?_,by omega,by omega,fun d hd hdl hdy=>?_⟩
  ·show jB a k i=jB _ _ _
   rw[Ec,ak c.2,bm c,aq (n:=k+1),aq (n:=k+1+1),aq (n:=k+1+1+1),aq (n:=k+1+1+1+1),ci hi (by omega),iD _ (by omega)]
   simp only[aX,bm c,aa,af,lR,hi,List.set_set]
  ·show jx d k i=jx _ _ _
   have c2:(0:Int)≤(i:Int)∧(i:Int)<(d.length:Int):=by omega
   rw[D8,ak c2.2,aq (n:=k+1),aq (n:=k+1+1),aq (n:=k+1+1+1),aq (n:=k+1+1+1+1),ci hd (by omega),iD _ (by omega),cl hd,hdy]
   simp only[bm c2,aa,decide_true,Bool.not_true,Bool.false_eq_true,if_false]
 obtain⟨k',l',e1,e2,e3,e4,e5⟩:=td (fun a k i=>jB a k i) (fun a k i=>jx a k i) (lz 2097152) 4 2305843009213693952
  (fun a k=>by show jB a k _=_;rw[Ec,bn (by simp)])
  (fun a k=>by show jx a k _=_;rw[D8,bn (by simp)])
  step l k (by omega) (h.2) hk (by omega)
 exact⟨k',l',e1,by rw[Oe];exact e2,e3,e4,by omega⟩
theorem Lb(x:bw)(h:oY 2097152 x):xQ x x=some (true,()):=by
 unfold oY at h
 rw[N4]
 rw[K8 _ (h)]
 simp
theorem Lp(x:bw)(k:Int)(h:oY 2097152 x)(hk:0≤k)(hb:k+8388608≤2305843009213693952):∃ k' x',yd x k=some (k',x',())∧xZ x' k=some (k',())∧k≤k'∧k'≤k+8388608:=by
 unfold oY at h
 obtain⟨k0,x0,a0,b0,_,c0,d0⟩:=Lk x.List k (h) (by omega) (by omega)
 refine⟨k0,⟨x.Base,x.BaseTerm,x0⟩,?_,?_,by omega,by omega⟩
 ·rw[Or,a0,aa]
 ·rw[Oh,b0,aa,ap]
theorem Cs(x:bF)(h:iq 2097152 x):sS x x=some (true,()):=by
 unfold iq at h
 rw[Oc]
 simp
theorem Lg(l:List bF)(h:l.length≤2097152∧∀ x∈l,iq 2097152 x):xV l l=some (true,()):=by
 have hl:=h.1
 rw[Ob,bn (by simp)]
 exact na (fun i=>nS l l i) l _ (fun i hi=>by
  show nS l l i=_
  rw[D6,an,al,al,cl hi,Cs _ (h.2 _ (aV hi)),aa,bn (by simp),ci hi (by omega)]) (by
  show nS l l _=_
  rw[D6,bn (by simp)])
theorem Lt(l:List bF)(k:Int)(h:l.length≤2097152∧∀ x∈l,iq 2097152 x)(hk:0≤k)(hb:k+6291456≤2305843009213693952):∃ k' l',yh l k=some (k',l',())∧x8 l' k=some (k',())∧l'.length=l.length∧k≤k'∧k'≤k+6291456:=by
 have hl:=h.1
 rw[Oz]
 have step:∀ (a:List bF) (k:Int) (i:Nat) (hi:i<a.length),a.length≤4294967296→(iq 2097152) a[i]→0≤k→k+(3:Nat)≤2305843009213693952→∃ y k',jE a k i=jE (a.set i y) k' ((i+1:Nat):Int)∧k≤k'∧k'≤k+(3:Nat)∧∀ (d:List bF) (hd:i<d.length),d.length≤4294967296→d[i]=y→jz d k i=jz d k' ((i+1:Nat):Int):=by
  intro a k i hi ha hp hk hb
  have c:(0:Int)≤(i:Int)∧(i:Int)<(a.length:Int):=by omega
  refine⟨⟨k,k+1,kH (k+1+1)⟩,k+1+1+1,?_,by omega,by omega,fun d hd hdl hdy=>?_⟩
  ·show jE a k i=jE _ _ _
   rw[Eh,ak c.2,bm c,aq (n:=k+1),aq (n:=k+1+1),aq (n:=k+1+1+1),ci hi (by omega),iD _ (by omega)]
   simp only[aX,bm c,aa,af,lR,hi,List.set_set]
  ·show jz d k i=jz _ _ _
   have c2:(0:Int)≤(i:Int)∧(i:Int)<(d.length:Int):=by omega
   rw[Ea,ak c2.2,aq (n:=k+1),aq (n:=k+1+1),aq (n:=k+1+1+1),ci hd (by omega),iD _ (by omega),cl hd,hdy]
   simp only[bm c2,aa,decide_true,Bool.not_true,Bool.false_eq_true,if_false]
 obtain⟨k',l',e1,e2,e3,e4,e5⟩:=td (fun a k i=>jE a k i) (fun a k i=>jz a k i) (iq 2097152) 3 2305843009213693952
  (fun a k=>by show jE a k _=_;rw[Eh,bn (by simp)])
  (fun a k=>by show jz a k _=_;rw[Ea,bn (by simp)])
  step l k (by omega) (h.2) hk (by omega)
 exact⟨k',l',e1,by rw[Ol];exact e2,e3,e4,by omega⟩
theorem K4(x:bo)(h:j0 2097152 x):xK x x=some (true,()):=by
 unfold j0 at h
 rw[NY]
 rw[Cs _ (h.2)]
 simp
theorem K5(l:List bo)(h:l.length≤2097152∧∀ x∈l,j0 2097152 x):xL l l=some (true,()):=by
 have hl:=h.1
 rw[NX,bn (by simp)]
 exact na (fun i=>nN l l i) l _ (fun i hi=>by
  show nN l l i=_
  rw[DZ,an,al,al,cl hi,K4 _ (h.2 _ (aV hi)),aa,bn (by simp),ci hi (by omega)]) (by
  show nN l l _=_
  rw[DZ,bn (by simp)])
theorem Lj(l:List bo)(k:Int)(h:l.length≤2097152∧∀ x∈l,j0 2097152 x)(hk:0≤k)(hb:k+10485760≤2305843009213693952):∃ k' l',x9 l k=some (k',l',())∧xW l' k=some (k',())∧l'.length=l.length∧k≤k'∧k'≤k+10485760:=by
 have hl:=h.1
 rw[Om]
 have step:∀ (a:List bo) (k:Int) (i:Nat) (hi:i<a.length),a.length≤4294967296→(j0 2097152) a[i]→0≤k→k+(5:Nat)≤2305843009213693952→∃ y k',jA a k i=jA (a.set i y) k' ((i+1:Nat):Int)∧k≤k'∧k'≤k+(5:Nat)∧∀ (d:List bo) (hd:i<d.length),d.length≤4294967296→d[i]=y→jv d k i=jv d k' ((i+1:Nat):Int):=by
  intro a k i hi ha hp hk hb
  have c:(0:Int)≤(i:Int)∧(i:Int)<(a.length:Int):=by omega
  refine⟨⟨k,kH (k+1),⟨k+1+1,k+1+1+1,kH (k+1+1+1+1)⟩⟩,k+1+1+1+1+1,?_,by omega,by omega,fun d hd hdl hdy=>?_⟩
  ·show jA a k i=jA _ _ _
   rw[Eb,ak c.2,bm c,aq (n:=k+1),aq (n:=k+1+1),aq (n:=k+1+1+1),aq (n:=k+1+1+1+1),aq (n:=k+1+1+1+1+1),ci hi (by omega),iD _ (by omega),iD _ (by omega)]
   simp only[aX,bm c,aa,af,lR,hi,List.set_set]
  ·show jv d k i=jv _ _ _
   have c2:(0:Int)≤(i:Int)∧(i:Int)<(d.length:Int):=by omega
   rw[D7,ak c2.2,aq (n:=k+1),aq (n:=k+1+1),aq (n:=k+1+1+1),aq (n:=k+1+1+1+1),aq (n:=k+1+1+1+1+1),ci hd (by omega),iD _ (by omega),iD _ (by omega),cl hd,hdy]
   simp only[bm c2,aa,decide_true,Bool.not_true,Bool.false_eq_true,if_false]
 obtain⟨k',l',e1,e2,e3,e4,e5⟩:=td (fun a k i=>jA a k i) (fun a k i=>jv a k i) (j0 2097152) 5 2305843009213693952
  (fun a k=>by show jA a k _=_;rw[Eb,bn (by simp)])
  (fun a k=>by show jv a k _=_;rw[D7,bn (by simp)])
  step l k (by omega) (h.2) hk (by omega)
 exact⟨k',l',e1,by rw[Od];exact e2,e3,e4,by omega⟩
theorem Lf(x:bE)(h:lB 2097152 x):xU x x=some (true,()):=by
 unfold lB at h
 rw[N9]
 rw[Lg _ (h.1),K5 _ (h.2)]
 simp
theorem Ls(x:bE)(k:Int)(h:lB 2097152 x)(hk:0≤k)(hb:k+16777216≤2305843009213693952):∃ k' x',yg x k=some (k',x',())∧x7 x' k=some (k',())∧k≤k'∧k'≤k+16777216:=by
 unfold lB at h
 obtain⟨k0,x0,a0,b0,_,c0,d0⟩:=Lt x.Vars k (h.1) (by omega) (by omega)
 obtain⟨k1,x1,a1,b1,_,c1,d1⟩:=Lj x.Cells k0 (h.2) (by omega) (by omega)
 refine⟨k1,⟨x0,x1,x.Nr,x.Err⟩,?_,?_,by omega,by omega⟩
 ·rw[Ow,a0,aa,a1,aa]
 ·rw[Oj,b0,aa,ap,b1,aa,ap]
theorem La(l:List Int)(h:l.length≤2097152):xP l l=some (true,()):=by
 have hl:=h
 rw[N3,bn (by simp)]
 exact na (fun i=>nP l l i) l _ (fun i hi=>by
  show nP l l i=_
  rw[D3,an,al,al,bn (by simp),ci hi (by omega)]) (by
  show nP l l _=_
  rw[D3,bn (by simp)])
theorem Lm(l:List Int)(k:Int)(h:l.length≤2097152)(hk:0≤k)(hb:k+2097152≤2305843009213693952):∃ k' l',yc l k=some (k',l',())∧xY l' k=some (k',())∧l'.length=l.length∧k≤k'∧k'≤k+2097152:=by
 have hl:=h
 rw[Oq]
 have step:∀ (a:List Int) (k:Int) (i:Nat) (hi:i<a.length),a.length≤4294967296→(fun _=>True) a[i]→0≤k→k+(1:Nat)≤2305843009213693952→∃ y k',jC a k i=jC (a.set i y) k' ((i+1:Nat):Int)∧k≤k'∧k'≤k+(1:Nat)∧∀ (d:List Int) (hd:i<d.length),d.length≤4294967296→d[i]=y→jy d k i=jy d k' ((i+1:Nat):Int):=by
  intro a k i hi ha hp hk hb
  have c:(0:Int)≤(i:Int)∧(i:Int)<(a.length:Int):=by omega
  refine⟨k,k+1,?_,by omega,by omega,fun d hd hdl hdy=>?_⟩
  ·show jC a k i=jC _ _ _
   rw[Ed,ak c.2,bm c,aq (n:=k+1),ci hi (by omega),af]
  ·show jy d k i=jy _ _ _
   have c2:(0:Int)≤(i:Int)∧(i:Int)<(d.length:Int):=by omega
   rw[D9,ak c2.2,bm c2,cl hd,hdy,bn (by simp),aq (n:=k+1),ci hd (by omega)]
 obtain⟨k',l',e1,e2,e3,e4,e5⟩:=td (fun a k i=>jC a k i) (fun a k i=>jy a k i) (fun _=>True) 1 2305843009213693952
  (fun a k=>by show jC a k _=_;rw[Ed,bn (by simp)])
  (fun a k=>by show jy a k _=_;rw[D9,bn (by simp)])
  step l k (by omega) (fun _ _=>trivial) hk (by omega)
 exact⟨k',l',e1,by rw[Og];exact e2,e3,e4,by omega⟩
theorem Lc(x:bz)(h:lA 2097152 x):xR x x=some (true,()):=by
 unfold lA at h
 rw[N5]
 rw[Lf _ (h.1),La _ (h.2.1)]
 simp
theorem Lq(x:bz)(k:Int)(h:lA 2097152 x)(hk:0≤k)(hb:k+18874368≤2305843009213693952):∃ k' x',ye x k=some (k',x',())∧x6 x' k=some (k',())∧k≤k'∧k'≤k+18874368:=by
 unfold lA at h
 obtain⟨k0,x0,a0,b0,c0,d0⟩:=Ls x.State k (h.1) (by omega) (by omega)
 obtain⟨k1,x1,a1,b1,_,c1,d1⟩:=Lm x.Done k0 (h.2.1) (by omega) (by omega)
 refine⟨k1,⟨x0,x1,x.Out⟩,?_,?_,by omega,by omega⟩
 ·rw[Ot,a0,aa,a1,aa]
 ·rw[Oi,b0,aa,ap,b1,aa,ap]
theorem K9(x:bv)(h:oX 2097152 x):qf x x=some (true,()):=by
 unfold oX at h
 rw[N2]
 rw[Lb _ (h.1),Lc _ (h.2)]
 simp
theorem Ll(x:bv)(k:Int)(h:oX 2097152 x)(hk:0≤k)(hb:k+27262976≤2305843009213693952):∃ k' x',yb x k=some (k',x',())∧sU x' k=some (k',())∧k≤k'∧k'≤k+27262976:=by
 unfold oX at h
 obtain⟨k0,x0,a0,b0,c0,d0⟩:=Lp x.Log k (h.1) (by omega) (by omega)
 obtain⟨k1,x1,a1,b1,c1,d1⟩:=Lq x.Snap k0 (h.2) (by omega) (by omega)
 refine⟨k1,⟨x.Term,x.Vote,x0,x1⟩,?_,?_,by omega,by omega⟩
 ·rw[Oo,a0,aa,a1,aa]
 ·rw[Of,b0,aa,ap,b1,aa,ap]
theorem CA(l:List (List Int))(n:Int)(h:l.length≤9223372036854775807∧∀ x∈l,x.length≤9223372036854775807)(h0:0≤n)(h1:n≤1048576):∃ r,s4 l n=some (r,())∧r≤1048576∧(0≤r→l.length≤1048576∧∀ x∈l,x.length≤1048576):=by
 have hl:=h.1
 rw[OD,aq (n:=n-(l.length:Int))]
 by_cases c:n-(l.length:Int)<0
 ·rw[ak c];exact⟨-1,rfl,by omega,fun h=>by omega⟩
 ·rw[aj c]
  have key:∀ (d i:Nat) (k:Int),i+d=l.length→0≤k→k≤1048576→∃ r,s5 l k i=some (r,())∧r≤1048576∧(0≤r→∀ j (h:j<l.length),i≤j→l[j].length≤1048576):=by
   intro d
   induction d with
   | zero =>
    intro i k hd k0 k1
    rw[Ej,ap]
    exact⟨k,rfl,k1,fun _ j hj hij=>by omega⟩
   | succ d ih =>
    intro i k hd k0 k1
    have hi:i<l.length:=by omega
    have hx:=h.2 _ (aV hi)
    rw[Ej,an,al,cl hi,ci hi (by omega),aq (n:=k-(l[i].length:Int))]
    by_cases g:k-(l[i].length:Int)<0
    ·rw[ak g];exact⟨-1,rfl,by omega,fun h=>by omega⟩
    ·rw[aj g]
     obtain⟨r,e1,e2,e3⟩:=ih (i+1) (k-(l[i].length:Int)) (by omega) (by omega) (by omega)
     refine⟨r,e1,e2,fun hr j hj hij=>?_⟩
     by_cases e:j=i
     ·subst e;omega
     ·exact e3 hr j hj (by omega)
  obtain⟨r,e1,e2,e3⟩:=key l.length 0 (n-l.length) (by omega) (by omega) (by omega)
  exact⟨r,e1,e2,fun hr=>⟨by omega,fun x hx=>by
   obtain⟨j,hj,rfl⟩:=bk.1 hx
   exact e3 hr j hj (by omega)⟩⟩
theorem CC(l:List (List Int))(h:l.length≤1048576∧∀ x∈l,x.length≤1048576):s7 l=some (l,()):=by
 rw[OI,bm (by have:=h.1;rw[cg];omega)]
 have:=HI (fun acc i=>nW l acc i) id l (fun acc i hi ha=>by
  show nW l acc i=_
  have hl:=h.1
  rw[El,an,al,al,ci hi (by omega),af,cG hi]
  rfl) (fun acc ha=>by
  show nW l acc _=_
  rw[El,bn (by simp)]) (List.replicate (List.length l:Int).toNat []) (by simp)
 rw[List.map_id]at this
 exact this
theorem Cr(l:List (List Int))(h:l.length≤2097152∧∀ x∈l,x.length≤2097152):sR l l=some (true,()):=by
 have hl:=h.1
 rw[Oa,bn (by simp)]
 exact na (fun i=>nR l l i) l _ (fun i hi=>by
  show nR l l i=_
  rw[D5,an,al,al,bn (by simp),ci hi (by omega)]) (by
  show nR l l _=_
  rw[D5,bn (by simp)])
theorem Cw(l:List (List Int))(k:Int)(h:l.length≤2097152∧∀ x∈l,x.length≤2097152)(hk:0≤k)(hb:k+2097152≤2305843009213693952):∃ k',sW l k=some (k',())∧k≤k'∧k'≤k+2097152:=by
 have hl:=h.1
 rw[Ox]
 obtain⟨k',e1,e2,e3⟩:=EC (fun a k i=>mf a k i) (fun _=>True) 1 2305843009213693952 (fun a k=>by show mf a k _=_;rw[Ef,bn (by simp)])
  (fun a k i hi ha hp hk hb=>⟨kH k,k+1,by
   show mf a k i=mf _ _ _
   rw[Ef,an,iD _ (by omega),aa,al,aq (n:=k+1),ci hi (by omega),af],by omega,by omega⟩) l k (by omega) (fun _ _=>trivial) hk (by omega)
 exact⟨k',e1,e2,by omega⟩
def eF(M:Nat)(x:bL):Prop:=x.S.length≤M
def gJ(M:Nat)(x:bA):Prop:=x.S.length≤M
def fO(M:Nat)(x:bM):Prop:=(x.Vars.length≤M∧∀ y∈x.Vars,y.length≤M)∧(x.Cells.length≤M∧∀ y∈x.Cells,y.length≤M)∧(x.Start.length≤M∧∀ y∈x.Start,eF M y)∧(x.Main.length≤M∧∀ y∈x.Main,eF M y)
def j1(M:Nat)(x:bC):Prop:=(x.Vars.length≤M∧∀ y∈x.Vars,y.length≤M)∧(x.Cells.length≤M∧∀ y∈x.Cells,y.length≤M)∧(x.Start.length≤M∧∀ y∈x.Start,gJ M y)∧(x.Main.length≤M∧∀ y∈x.Main,gJ M y)
theorem Ct{d:Nat}{x:bL}(h:fN (G:=gam) (d+3) (.nm 1) x):eF 9223372036854775807 x:=by
 have h':_∧_∧(x.S.length≤9223372036854775807∧_)∧_:=h
 unfold eF
 exact h'.2.2.1.1
theorem Lh{d:Nat}{x:bM}(h:fN (G:=gam) (d+5) (.nm 0) x):fO 9223372036854775807 x:=by
 have h':(x.Vars.length≤9223372036854775807∧∀ y∈x.Vars,(y.length≤9223372036854775807∧∀ b∈y,0≤b∧b≤255))∧(x.Cells.length≤9223372036854775807∧∀ y∈x.Cells,(y.length≤9223372036854775807∧∀ b∈y,0≤b∧b≤255))∧(x.Start.length≤9223372036854775807∧∀ y∈x.Start,fN (G:=gam) (d+3) (.nm 1) y)∧(x.Main.length≤9223372036854775807∧∀ y∈x.Main,fN (G:=gam) (d+3) (.nm 1) y)∧_:=h
 unfold fO
 exact⟨⟨h'.1.1,fun y hy=>(h'.1.2 y hy).1⟩,⟨h'.2.1.1,fun y hy=>(h'.2.1.2 y hy).1⟩,⟨h'.2.2.1.1,fun y hy=>Ct (d:=d+0) (h'.2.2.1.2 y hy)⟩,⟨h'.2.2.2.1.1,fun y hy=>Ct (d:=d+0) (h'.2.2.2.1.2 y hy)⟩⟩
theorem Lx(x:bL)(n:Int)(h:eF 9223372036854775807 x)(h0:0≤n)(h1:n≤1048576):∃ r,sY x n=some (r,())∧r≤1048576∧(0≤r→eF 1048576 x):=by
 unfold eF at h
 rw[OB]
 have hl0:=h
 rw[aq (n:=n-(x.S.length:Int))]
 by_cases c0:n-(x.S.length:Int)<0
 ·rw[ak c0];exact⟨-1,rfl,by omega,fun h=>by omega⟩
 rw[aj c0]
 exact⟨_,rfl,by omega,fun _=>by unfold eF;exact by omega⟩
def kq(x:bL):bA:=⟨x.Code,x.N,x.S⟩
theorem Lz(x:bL)(h:eF 1048576 x):yj x=some (kq x,()):=by
 unfold eF at h
 rw[OG]
 rfl
theorem Cu{x:bL}{M:Nat}(h:eF M x):gJ M (kq x):=by
 unfold eF at h
 unfold gJ kq
 exact h
theorem Ld(x:bA)(h:gJ 2097152 x):xS x x=some (true,()):=by
 unfold gJ at h
 rw[N7]
 simp
theorem Cz(l:List bL)(n:Int)(h:l.length≤9223372036854775807∧∀ x∈l,eF 9223372036854775807 x)(h0:0≤n)(h1:n≤1048576):∃ r,sZ l n=some (r,())∧r≤1048576∧(0≤r→l.length≤1048576∧∀ x∈l,eF 1048576 x):=by
 have hl:=h.1
 rw[OA,aq (n:=n-(l.length:Int))]
 by_cases c:n-(l.length:Int)<0
 ·rw[ak c];exact⟨-1,rfl,by omega,fun h=>by omega⟩
 ·rw[aj c]
  obtain⟨r,e1,e2,e3⟩:=S7 (fun k i=>nT l k i) sY l (eF 1048576) (by omega) (fun x hx k k0 k1=>Lx x k (h.2 x hx) k0 k1)
   (fun k=>by show nT l k _=_;rw[Ei,bn (by simp)])
   (fun k i hi=>by show nT l k i=_;rw[Ei,an,al,cl hi,ci hi (by omega)]) (n-l.length) (by omega) (by omega)
  exact⟨r,e1,e2,fun hr=>⟨by omega,e3 hr⟩⟩
theorem CB(l:List bL)(h:l.length≤1048576∧∀ x∈l,eF 1048576 x):s6 l=some (l.map kq,()):=by
 rw[OE,bm (by have:=h.1;rw[cg];omega)]
 have:=HI (fun acc i=>nU l acc i) kq l (fun acc i hi ha=>by
  show nU l acc i=_
  have hl:=h.1
  rw[Ek,an,al,cl hi,Lz _ (h.2 _ (aV hi)),aa,al,ci hi (by omega),af]
  ) (fun acc ha=>by
  show nU l acc _=_
  rw[Ek,bn (by simp)]) (List.replicate (List.length l:Int).toNat cE) (by simp)
 exact this
theorem Cq(l:List bA)(h:l.length≤2097152∧∀ x∈l,gJ 2097152 x):sQ l l=some (true,()):=by
 have hl:=h.1
 rw[N6,bn (by simp)]
 exact na (fun i=>nQ l l i) l _ (fun i hi=>by
  show nQ l l i=_
  rw[D4,an,al,al,cl hi,Ld _ (h.2 _ (aV hi)),aa,bn (by simp),ci hi (by omega)]) (by
  show nQ l l _=_
  rw[D4,bn (by simp)])
theorem Cv(l:List bA)(k:Int)(h:l.length≤2097152∧∀ x∈l,gJ 2097152 x)(hk:0≤k)(hb:k+6291456≤2305843009213693952):∃ k',sV l k=some (k',())∧k≤k'∧k'≤k+6291456:=by
 have hl:=h.1
 rw[Ou]
 have step:∀ (a:List bA) (k:Int) (i:Nat) (hi:i<a.length),a.length≤4294967296→(gJ 2097152) a[i]→0≤k→k+(3:Nat)≤2305843009213693952→∃ y k',jD a k i=jD (a.set i y) k' ((i+1:Nat):Int)∧k≤k'∧k'≤k+(3:Nat):=by
  intro a k i hi ha hp hk hb
  have c:(0:Int)≤(i:Int)∧(i:Int)<(a.length:Int):=by omega
  refine⟨⟨k,k+1,kH (k+1+1)⟩,k+1+1+1,?_,by omega,by omega⟩
  show jD a k i=jD _ _ _
  rw[Ee,ak c.2,bm c,aq (n:=k+1),aq (n:=k+1+1),aq (n:=k+1+1+1),ci hi (by omega),iD _ (by omega)]
  simp only[aX,bm c,aa,af,lR,hi,List.set_set]
 obtain⟨k',e1,e2,e3⟩:=EC (fun a k i=>jD a k i) (gJ 2097152) 3 2305843009213693952 (fun a k=>by show jD a k _=_;rw[Ee,bn (by simp)]) step l k (by omega) h.2 hk (by omega)
 exact⟨k',e1,e2,by omega⟩
theorem Ly(x:bM)(n:Int)(h:fO 9223372036854775807 x)(h0:0≤n)(h1:n≤1048576):∃ r,yi x n=some (r,())∧r≤1048576∧(0≤r→fO 1048576 x):=by
 unfold fO at h
 rw[OC]
 obtain⟨r0,e0,f0,g0⟩:=CA x.Vars n (h.1) (by omega) (by omega)
 rw[e0,aa]
 dsimp only
 by_cases c0:r0<0
 ·rw[ak c0];exact⟨-1,rfl,by omega,fun h=>by omega⟩
 rw[aj c0]
 obtain⟨r1,e1,f1,g1⟩:=CA x.Cells r0 (h.2.1) (by omega) (by omega)
 rw[e1,aa]
 dsimp only
 by_cases c1:r1<0
 ·rw[ak c1];exact⟨-1,rfl,by omega,fun h=>by omega⟩
 rw[aj c1]
 obtain⟨r2,e2,f2,g2⟩:=Cz x.Start r1 (h.2.2.1) (by omega) (by omega)
 rw[e2,aa]
 dsimp only
 by_cases c2:r2<0
 ·rw[ak c2];exact⟨-1,rfl,by omega,fun h=>by omega⟩
 rw[aj c2]
 obtain⟨r3,e3,f3,g3⟩:=Cz x.Main r2 (h.2.2.2) (by omega) (by omega)
 rw[e3,aa]
 dsimp only
 by_cases c3:r3<0
 ·rw[ak c3];exact⟨-1,rfl,by omega,fun h=>by omega⟩
 rw[aj c3]
 exact⟨_,rfl,by omega,fun _=>by unfold fO;exact⟨g0 (by omega),g1 (by omega),g2 (by omega),g3 (by omega)⟩⟩
def lT(x:bM):bC:=⟨x.Vars,x.Cells,(x.Start.map kq),(x.Main.map kq)⟩
theorem LA(x:bM)(h:fO 1048576 x):nV x=some (lT x,()):=by
 unfold fO at h
 rw[OH]
 rw[CC _ (h.1),aa]
 rw[CC _ (h.2.1),aa]
 rw[CB _ (h.2.2.1),aa]
 rw[CB _ (h.2.2.2),aa]
 rfl
theorem Li{x:bM}{M:Nat}(h:fO M x):j1 M (lT x):=by
 unfold fO at h
 unfold j1 lT
 exact⟨h.1,h.2.1,⟨by rw[bh];exact(h.2.2.1).1,fun y hy=>by obtain⟨x',hx',rfl⟩:=List.mem_map.1 hy;exact Cu ((h.2.2.1).2 x' hx')⟩,⟨by rw[bh];exact(h.2.2.2).1,fun y hy=>by obtain⟨x',hx',rfl⟩:=List.mem_map.1 hy;exact Cu ((h.2.2.2).2 x' hx')⟩⟩
theorem Le(x:bC)(h:j1 2097152 x):xT x x=some (true,()):=by
 unfold j1 at h
 rw[N8]
 rw[Cr _ (h.1),Cr _ (h.2.1),Cq _ (h.2.2.1),Cq _ (h.2.2.2)]
 simp
theorem Lr(x:bC)(k:Int)(h:j1 2097152 x)(hk:0≤k)(hb:k+16777216≤2305843009213693952):∃ k',yf x k=some (k',())∧k≤k'∧k'≤k+16777216:=by
 unfold j1 at h
 obtain⟨k0,a0,c0,d0⟩:=Cw x.Vars k (h.1) (by omega) (by omega)
 obtain⟨k1,a1,c1,d1⟩:=Cw x.Cells k0 (h.2.1) (by omega) (by omega)
 obtain⟨k2,a2,c2,d2⟩:=Cv x.Start k1 (h.2.2.1) (by omega) (by omega)
 obtain⟨k3,a3,c3,d3⟩:=Cv x.Main k2 (h.2.2.2) (by omega) (by omega)
 refine⟨k3,?_,by omega,by omega⟩
 rw[Ov,a0,aa,a1,aa,a2,aa,a3,aa]
theorem BQ{d:Nat}{x:bL}(h:fN (G:=gam) (d+3) (.nm 1) x):∀ b∈x.S,0≤b∧b≤255:=by
 have h':_∧_∧(x.S.length≤9223372036854775807∧∀ b∈x.S,0≤b∧b≤255)∧_:=h
 exact h'.2.2.1.2
def AL(x:bM):Prop:=(∀ y∈x.Start,∀ b∈y.S,0≤b∧b≤255)∧∀ y∈x.Main,∀ b∈y.S,0≤b∧b≤255
theorem KI{d:Nat}{x:bM}(h:fN (G:=gam) (d+5) (.nm 0) x):AL x:=by
 have h':_∧_∧(x.Start.length≤9223372036854775807∧∀ y∈x.Start,fN (G:=gam) (d+3) (.nm 1) y)∧(x.Main.length≤9223372036854775807∧∀ y∈x.Main,fN (G:=gam) (d+3) (.nm 1) y)∧_:=h
 exact⟨fun y hy=>BQ (d:=d+0) (h'.2.2.1.2 y hy),fun y hy=>BQ (d:=d+0) (h'.2.2.2.1.2 y hy)⟩
theorem A4{l:List bL}(h:l.length≤1048576∧∀ y∈l,eF 1048576 y)(hb:∀ y∈l,∀ b∈y.S,0≤b∧b≤255):lv (l.map kq):=by
 refine⟨by rw[bh];have:=h.1;omega,fun o ho=>?_⟩
 obtain⟨y,hy,rfl⟩:=List.mem_map.1 ho
 have:=h.2 y hy
 unfold eF at this
 exact⟨hb y hy,by show y.S.length≤_;omega⟩
theorem Jl{x:bM}(h:fO 1048576 x)(hb:AL x):jX (lT x):=by
 unfold fO at h
 obtain⟨h1,h2,h3,h4⟩:=h
 exact⟨⟨by show x.Vars.length≤_;have:=h1.1;omega,fun y hy=>by have:=h1.2 y hy;omega⟩,⟨by show x.Cells.length≤_;have:=h2.1;omega,fun y hy=>by have:=h2.2 y hy;omega⟩,A4 h3 hb.1,A4 h4 hb.2⟩
theorem Cm{x:bM}(h:fO 1048576 x):j1 2097152 (lT x):=by
 have:=Li h
 unfold j1 gJ at *
 obtain⟨h1,h2,h3,h4⟩:=this
 exact⟨⟨by omega,fun y hy=>by have:=h1.2 y hy;omega⟩,⟨by omega,fun y hy=>by have:=h2.2 y hy;omega⟩,⟨by omega,fun y hy=>by have:=h3.2 y hy;omega⟩,⟨by omega,fun y hy=>by have:=h4.2 y hy;omega⟩⟩
theorem StG.gi{nv:Nat}{nc:Int}{s:bE}(h:StG nv nc s)(hn:nv≤100000):lB 2097152 s:=by
 obtain⟨⟨h1,h2⟩,⟨c1,c2,c3⟩,_⟩:=h
 unfold lB
 refine⟨⟨by omega,fun v hv=>?_⟩,⟨by omega,fun c hc=>?_⟩⟩
 ·have:=(h2 v hv).bd.2
  unfold iq;omega
 ·obtain⟨_,_,g3,g4⟩:=c2 c hc
  have:=g4.bd.2
  unfold j0 iq
  exact⟨by omega,by omega⟩
def MG(p:bC)(m:bz):Prop:=StG p.Vars.length p.Cells.length m.State∧(m.Done.length=3∧∀ n∈m.Done,0≤n∧n≤100000)∧m.Out.length≤1500
theorem MG.gi{p:bC}{m:bz}(hp:PrI p)(h:MG p m):lA 2097152 m:=by
 have:=hp.nv
 exact⟨h.1.gi (by omega),by have:=h.2.1.1;omega,by have:=h.2.2;omega⟩
theorem MG.to{p:bC}{m:bz}(hp:PrI p)(h:MG p m):tc p m=true∧mV m.State∧m.Done.length≤2097152:=by
 have:=hp.nv
 obtain⟨h1,⟨h2,h3⟩,h4⟩:=h
 obtain⟨b1,b2⟩:=h1.to (by omega)
 refine⟨?_,b2,by omega⟩
 unfold tc
 have e:(m.Done.any fun n=>!decide (0≤n∧n≤100000))=false:=List.any_eq_false.2 fun n hn=>by rw[ac (h3 n hn)];decide
 rw[hp.1,b1,e,ac (show(m.Done.length:Int)=3 by omega),ac (show(m.Out.length:Int)≤1500 by omega)]
 rfl
theorem MG.of{p:bC}{m:bz}(h:tc p m=true)(hb:mV m.State):fb p=true∧MG p m:=by
 unfold tc at h
 rw[az,az,az,az,ab,ab,Bool.not_eq_true',List.any_eq_false]at h
 obtain⟨h1,h2,h3,h4,h5⟩:=h
 exact⟨h1,StG.of h2 hb,⟨by omega,fun n hn=>by have:=h4 n hn;simpa using this⟩,by omega⟩
noncomputable def dQ(p:bC):bz:=⟨(ij p).1,[0,0,0],(ij p).2⟩
theorem yA{p:bC}(hp:PrI p):wH p=some (dQ p,())∧zE p=some (dQ p,())∧MG p (dQ p):=by
 obtain⟨e1,e2,e3,e4,e5⟩:=SW hp
 rw[LX,RX,wM p hp.2]
 have c:¬ ((ij p).2.length:Int)>1500:=by omega
 simp only[aa,hp.1,Bool.not_true,Bool.false_eq_true,if_false,e1,e2,ae c]
 refine⟨rfl,rfl,e3,⟨rfl,fun n hn=>?_⟩,by show(ij p).2.length≤1500;omega⟩
 have:n=0:=by
  rcases aK.1 hn with h | hn
  ·exact h
  rcases aK.1 hn with h | hn
  ·exact h
  exact aJ.1 hn
 omega
def noM:bz:=⟨⟨[],[],0,0⟩,[],[]⟩
theorem Pi:lA 2097152 noM:=⟨⟨⟨Nat.zero_le _,fun y hy=>by cases hy⟩,⟨Nat.zero_le _,fun y hy=>by cases hy⟩⟩,Nat.zero_le _,Nat.zero_le _⟩
end Go.Proofs.YthgknhkeifcflaaGreatDoor.E.TG
