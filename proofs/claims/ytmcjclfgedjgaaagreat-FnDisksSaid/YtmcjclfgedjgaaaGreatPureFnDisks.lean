/- The pure statement of FnDisks. No condition. -/
import Derived.Test.YtmcjclfgedjgaaaGreatM3
import Derived.Test.YtmcjclfgedjgaaaGreatTDe1
import Derived.Test.YtmcjclfgedjgaaaGreatTDe2
import Derived.Test.YtmcjclfgedjgaaaGreatTDe3
import Derived.Test.YtmcjclfgedjgaaaGreatQFnDisks
namespace Go.Proofs.YtmcjclfgedjgaaaGreat.E.TD
open Go.Proofs.YtmcjclfgedjgaaaGreat.E
set_option linter.unusedVariables false
theorem Fz(a b:Int):ju a b=some (mnI b a,()):=by
 rw[tY];unfold mnI
 by_cases h:a<b
 ·rw[ak h,bm h]
 ·rw[aj h,bn h]
theorem FB(a b:Int):s_l1Max a b=some (mxI b a,()):=by
 rw[tX];unfold mxI
 by_cases h:a>b
 ·rw[ak h,bm h]
 ·rw[aj h,bn h]
def dR(d:bq)(k:Int):Int:=d.Sure+max 0 (min k ((d.Bytes.length:Int)-d.Sure))
def fP(d:bq)(k:Int):bq:=if eg d=true then⟨d.Bytes.take (dR d k).toNat,dR d k⟩else d
theorem vR(d:bq)(k:Int)(hl:d.Bytes.length≤1048576)(hk:-9223372036854775808≤k∧k≤9223372036854775807):tg d k=some (fP d k,())∧j6 d k=some (fP d k,()):=by
 rw[Hu,Bv,rE d (by omega),rA d (by omega),pT,pi]
 simp only[aa]
 unfold fP
 cases hd:eg d with
 | false=>exact⟨rfl,rfl⟩
 | true =>
  obtain⟨d1,d2,d3⟩:=diskOk_iff.1 hd
  simp only[Bool.not_true,Bool.false_eq_true,if_false,if_true,Fz,FB,aa]
  rw[ar (n:=(d.Bytes.length:Int)-d.Sure)]
  have e1:mxI (mnI ((d.Bytes.length:Int)-d.Sure) k) 0=max 0 (min k ((d.Bytes.length:Int)-d.Sure)):=by unfold mxI mnI;split <;> split <;> omega
  have e2:mxI 0 (mnI k ((d.Bytes.length:Int)-d.Sure))=max 0 (min k ((d.Bytes.length:Int)-d.Sure)):=by unfold mxI mnI;split <;> split <;> omega
  rw[e1,e2]
  unfold dR
  generalize hm:max 0 (min k ((d.Bytes.length:Int)-d.Sure))=m
  have hm':0≤m∧m≤(d.Bytes.length:Int)-d.Sure:=by omega
  have e3:w64 (d.Sure+m)=d.Sure+m:=ar
  have c1:0≤d.Sure+m∧d.Sure+m≤(d.Bytes.length:Int):=by omega
  have c2:0+List.length (List.take ((d.Sure+m).toNat-0) (List.drop 0 d.Bytes))≤room:=by
   rw[aQ,aR,b8];omega
  simp only[e3,bm c1,bm c2]
  refine⟨rfl,?_⟩
  first
  | rfl
  | (rw[aN,Nat.sub_zero];rfl)
def eY(d:bq)(b:List Int):bq×Bool:=if eg d=true then(if(b.length:Int)>80000-(d.Bytes.length:Int) then(d,false) else(⟨d.Bytes++b,d.Sure⟩,true)) else(d,false)
theorem zN(d:bq)(b:List Int)(hl:d.Bytes.length≤1048576)(hb:b.length≤1048576):sV d b=some ((eY d b).1,(eY d b).2,())∧rS d b=some ((eY d b).1,(eY d b).2,()):=by
 rw[G4,Br,rE d (by omega),rA d (by omega),pT,pi]
 simp only[aa]
 rw[ar (n:=80000-(d.Bytes.length:Int)),ar (n:=(d.Bytes.length:Int)+b.length)]
 unfold eY
 cases eg d with
 | false=>exact⟨rfl,rfl⟩
 | true =>
  have hr:d.Bytes.length+b.length≤room:=by rw[b8];omega
  simp only[Bool.not_true,Bool.false_eq_true,if_false,bm hr,if_true]
  by_cases h:(b.length:Int)>80000-(d.Bytes.length:Int)
  ·rw[ak h,ap,bm h]
   exact⟨rfl,rfl⟩
  ·rw[bn h,aj h,aq]
   exact⟨rfl,rfl⟩
def gN(d:bq):bq:=if eg d=true then⟨d.Bytes,(d.Bytes.length:Int)⟩else d
theorem JG(d:bq)(hl:d.Bytes.length≤4294967296):tr d=some (gN d,())∧j7 d=some (gN d,()):=by
 rw[HO,Bw,rE d hl,rA d hl,pT,pi]
 simp only[aa]
 unfold gN
 cases eg d with
 | true=>exact⟨rfl,rfl⟩
 | false=>exact⟨rfl,rfl⟩
theorem AK{c:bL}(h:cq c):Tot (jy c) (fun y=>y.1.Bytes.length≤200000∧cq y.2.1):=by
 rw[I9]
 refine tb (vg h) (fun b hb=>?_)
 have h1:=hb.1.1
 rw[ar (n:=(b.1.length:Int)+1)]
 refine tb (du hb.2 _ (by omega)) (fun y hy=>tb (du hy.2 14 (by omega)) (fun z hz=>ti (fun _=>tb (xg hz.2 _ (by simp)) (fun u hu=>ts ⟨h1,hu.2⟩)) (fun _=>ti (fun _=>tb (du hz.2 2 (by omega)) (fun u hu=>?_)) (fun _=>ts ⟨h1,hz.2⟩))))
 rw[ar (n:=80000+u.1)]
 refine tc (by rw[b8];omega) (ts ⟨?_,hu.2⟩)
 show(List.replicate _ _).length≤_
 rw[a8];omega
theorem AJ{α:Type}(B T:List Int)(S K:Int)(h1:S≤K)(h0:0≤K)(h2:K≤(B.length:Int))(h3:(T.length:Int)=K)(hT:List.take K.toNat B=T)(X Y Z:Option α) :
  (if(decide ((T.length:Int)≥S))=true then if(decide (K=(T.length:Int)))=true then if(0:Int)≤(T.length:Int)∧(T.length:Int)≤(B.length:Int)then if(decide (T=List.take ((T.length:Int).toNat-0) (List.drop 0 B)))=true then X else Y else Z else Y else Y)=X:=by
 have e:T=List.take ((T.length:Int).toNat-0) (List.drop 0 B):=by rw[aN,Nat.sub_zero,h3,hT]
 rw[ap,ak h3.symm,al,ak e]
theorem Gk:zC:=by
 intro b hb
 rw[BS,zV,aa]
 by_cases h:(b.length:Int)>1048576
 ·rw[ak h]
 rw[aj h]
 have hl:b.length≤1048576:=by omega
 obtain⟨c,ec,hc⟩:=FD b hl
 obtain⟨⟨d,c2,u2⟩,e1,hd,hc2⟩:=AK hc
 dsimp only at hd hc2
 obtain⟨⟨k,c3,u3⟩,e2,hk,_⟩:=xg hc2 [0,1,5,30,99999,(-1),9223372036854775807,(-9223372036854775808)] (by simp)
 dsimp only at hk
 have hk':-9223372036854775808≤k∧k≤9223372036854775807:=by
  simp only[aL,List.not_mem_nil,or_false]at hk
  omega
 obtain⟨⟨x,c4,u4⟩,e3,⟨hx,_⟩,_⟩:=vg hc2
 dsimp only at hx
 have d1:ta b=some (d,k,()):=by rw[Hs,ec,aa,e1,aa,e2];rfl
 have d2:s8 b=some (d,x,()):=by rw[Hq,ec,aa,e1,aa,e3];rfl
 have d3:td b=some (d,()):=by rw[Ht,ec,aa,e1];rfl
 have d4:s9 b=some (d,()):=by rw[Hr,ec,aa,e1];rfl
 obtain⟨f1,f2⟩:=vR d k (by omega) hk'
 obtain⟨a1,a2⟩:=zN d x (by omega) (by omega)
 obtain⟨s1,s2⟩:=JG d (by omega)
 obtain⟨g1,g2⟩:=vR (gN d) 0 (by unfold gN;split <;> first | omega | (show d.Bytes.length≤_;omega)) (by omega)
 simp only[d1,d2,d3,d4,f1,f2,a1,a2,s1,s2,g2,pT,pi,aa,decide_true,Bool.not_true,Bool.false_eq_true,if_false]
 cases hok:eg d with
 | false =>
  have e5:eY d x=(d,false):=by unfold eY;rw[hok];rfl
  have e6:fP d k=d:=by unfold fP;rw[hok];rfl
  rw[e5,e6]
  simp
 | true =>
  obtain⟨q1,q2,q3⟩:=diskOk_iff.1 hok
  have e6:fP d k=⟨d.Bytes.take (dR d k).toNat,dR d k⟩:=by unfold fP;rw[hok,bm rfl]
  have hkn:d.Sure≤dR d k∧dR d k≤(d.Bytes.length:Int):=by unfold dR;omega
  have hlen:((d.Bytes.take (dR d k).toNat).length:Int)=dR d k:=by rw[aQ];omega
  have e7:gN d=⟨d.Bytes,(d.Bytes.length:Int)⟩:=by unfold gN;rw[hok,bm rfl]
  have hok2:eg ⟨d.Bytes,(d.Bytes.length:Int)⟩=true:=diskOk_iff.2 ⟨q1,by show(0:Int)≤d.Bytes.length;omega,Int.le_refl _⟩
  have e8:(fP (gN d) 0).Bytes=d.Bytes:=by
   rw[e7]
   unfold fP
   rw[hok2,bm rfl]
   have hz:dR ⟨d.Bytes,(d.Bytes.length:Int)⟩ 0=(d.Bytes.length:Int):=by unfold dR;dsimp only;omega
   rw[hz]
   show List.take (Int.toNat _) d.Bytes=d.Bytes
   exact a9 (by omega)
  have ht:List.take ((dR d k).toNat-0) (List.drop 0 d.Bytes)=List.take (dR d k).toNat d.Bytes:=by rw[aN,Nat.sub_zero]
  generalize hT:List.take (dR d k).toNat d.Bytes=T at hlen e6 ht
  have F:=fun {α:Type} (X Y Z:Option α)=>AJ (α:=α) d.Bytes T d.Sure (dR d k) hkn.1 (by omega) hkn.2 hlen hT X Y Z
  have t1:(true=true)=True:=eq_self true
  by_cases c:(x.length:Int)>80000-(d.Bytes.length:Int)
  ·have e5:eY d x=(d,false):=by unfold eY;rw[hok,bm rfl,bm c]
   rw[e5,e6,e8]
   simp only[Bool.false_eq_true,if_false]
   rw[F]
   simp
  ·have e5:eY d x=(⟨d.Bytes++x,d.Sure⟩,true):=by unfold eY;rw[hok,bm rfl,bn c]
   rw[e5,e6,e8]
   simp only[if_true,decide_true,Bool.not_true,Bool.false_eq_true,if_false]
   rw[al,F]
end Go.Proofs.YtmcjclfgedjgaaaGreat.E.TD
