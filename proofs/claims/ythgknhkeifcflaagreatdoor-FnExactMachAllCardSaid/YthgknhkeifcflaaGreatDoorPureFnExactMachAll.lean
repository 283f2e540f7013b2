/- The pure statement of FnExactMachAll. No condition. -/
import Derived.Test.YthgknhkeifcflaaGreatDoorM2
import Derived.Test.YthgknhkeifcflaaGreatDoorTEe1
import Derived.Test.YthgknhkeifcflaaGreatDoorTEe2
import Derived.Test.YthgknhkeifcflaaGreatDoorTEe3
import Derived.Test.YthgknhkeifcflaaGreatDoorTEe4
import Derived.Test.YthgknhkeifcflaaGreatDoorQFnExactMachAll
namespace Go.Proofs.YthgknhkeifcflaaGreatDoor.E.TE
open Go.Proofs.YthgknhkeifcflaaGreatDoor.E
set_option linter.unusedVariables false
theorem L6{d:Nat}{x:bJ}(h:fb (G:=gam) (d+3) (.nm 16) x):Bt x.Line:=by
 have h':_∧_∧(x.Line.length≤9223372036854775807∧∀ b∈x.Line,0≤b∧b≤255)∧_:=h
 exact h'.2.2.1.2
theorem MJ(l:List bq)(k:Int)(h:l.length≤2097152)(hk:0≤k)(hb:k+6291456≤2305843009213693952):∃ k',yL l k=some (k',())∧k≤k'∧k'≤k+6291456:=by
 rw[PH]
 obtain⟨k',e1,e2,e3⟩:=zb (fun a k i=>mw a k i) (fun _=>True) 3 2305843009213693952 (fun a k=>by show mw a k _=_;rw[Fi,bn (by simp)])
  (fun a k i hi ha hp hk hb=>⟨⟨k,k+1,kZ (k+1+1)⟩,k+1+1+1,by
   show mw a k i=mw _ _ _
   have c:(0:Int)≤(i:Int)∧(i:Int)<(a.length:Int):=by omega
   rw[Fi,ak c.2,bm c,aq (n:=k+1),aq (n:=k+1+1),aq (n:=k+1+1+1),ch hi (by omega),jU _ (by omega)]
   simp only[aX,bm c,aa,af,mc,hi,List.set_set],by omega,by omega⟩) l k (by omega) (fun _ _=>trivial) hk (by omega)
 exact⟨k',e1,e2,by omega⟩
theorem Rp:Ka:=by
 intro p cs hp hcs
 rw[Pm]
 obtain⟨q1,e1,e2,e3⟩:=MS p 1048576 (MF (d:=35) hp) (by omega) (by omega)
 rw[e1,aa]
 dsimp only
 by_cases c1:q1<0
 ·rw[ak c1]
 rw[aj c1]
 obtain⟨q2,f1,f2,f3⟩:=MQ cs q1 ⟨hcs.1,fun x hx=>MD (d:=36) (hcs.2 x hx)⟩ (by omega) e2
 rw[f1,aa]
 dsimp only
 by_cases c2:q2<0
 ·rw[ak c2]
 rw[aj c2]
 have gp:=e3 (by omega)
 have gc:=f3 (by omega)
 have bp:=Kx gp (L7 (d:=35) hp)
 have hlen:(cs.map kI).length≤2097152:=by rw[bh];have:=gc.1;omega
 have hb:∀ c∈cs.map kI,Bt c.Line:=fun c h=>by
  obtain⟨x,hx,rfl⟩:=List.mem_map.1 h
  exact L6 (d:=36) (hcs.2 x hx)
 have hl:∀ c∈cs.map kI,c.Line.length≤2097152:=fun c h=>by
  obtain⟨x,hx,rfl⟩:=List.mem_map.1 h
  have h1:x.Line.length≤1048576:=gc.2 x hx
  show x.Line.length≤_
  omega
 obtain⟨t1,t2,gr⟩:=Qp bp hlen hb hl
 obtain⟨k1,m1,m2,m3⟩:=MM (me p) 1 (Dg gp) (by omega) (by omega)
 obtain⟨k2,n1,n2,n3⟩:=MJ (cs.map kI) k1 hlen (by omega) (by omega)
 obtain⟨k3,x3,w1,w2,w3,w4⟩:=ML (qJ (me p) (cs.map kI)) 1 gr (by omega) (by omega)
 have c4:¬ k2<0:=by omega
 have c5:¬ k3<0:=by omega
 simp only[MW p gp,MU cs gc,t1,t2,MA _ (Dg gp),Mw _ ⟨hlen,fun c h=>hl c h⟩,My _ gr,m1,n1,w1,w2,aa,decide_true,Bool.not_true,Bool.false_eq_true,if_false,ab,bn c4,bn c5]
end Go.Proofs.YthgknhkeifcflaaGreatDoor.E.TE
