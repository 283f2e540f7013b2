/- The pure statement of FnMachBytes. No condition. -/
import Derived.Test.YtemajhlhgphhjaaGreatDoorM3
import Derived.Test.YtemajhlhgphhjaaGreatDoorTMe1
import Derived.Test.YtemajhlhgphhjaaGreatDoorTMe2
import Derived.Test.YtemajhlhgphhjaaGreatDoorTMe3
import Derived.Test.YtemajhlhgphhjaaGreatDoorTMe4
import Derived.Test.YtemajhlhgphhjaaGreatDoorQFnMachBytes
namespace Go.Proofs.YtemajhlhgphhjaaGreatDoor.E.TM
open Go.Proofs.YtemajhlhgphhjaaGreatDoor.E
set_option linter.unusedVariables false
theorem Na(p:bG)(m:bC):(gy p m).length≤30200:=by
 unfold gy
 split
 ·exact IC (mi ‹_›)
 ·simp
theorem M9(p:bG){m:bC}(h:SmM m):Bt (gy p m):=by
 unfold gy
 split
 ·exact Gi h
 ·exact lI
theorem N4{b:List Int}(hl:b.length≤1048576):Tot (yy b) (fun y=>SmP y.1∧y.2.1.length≤40000∧Bt y.2.1):=by
 obtain⟨c,ec,hc⟩:=II b hl
 rw[VR,ec,aa]
 refine tb (Jv hc) (fun y hy=>?_)
 have hv:y.1.Vars.length≤8:=hy.1.1.1.names
 have sm:=IE hv hy.2.1
 have hn:=Na y.1 y.2.1
 rw[J4 _ _ hy.1.sm.big sm.big,aa]
 dsimp only
 exact tb (N0 hy.2.2 (by omega) (M9 y.1 sm)) (fun z hz=>ts ⟨hy.1.sm,by have:=hz.1.1;show z.1.length≤_;omega,hz.1.2⟩)
theorem ID{b:List Int}(hl:b.length≤1048576):sq b=some (true,()):=by
 obtain⟨⟨p,raw,u⟩,e,hp,hr,hb⟩:=N4 hl
 dsimp only at hp hr hb
 obtain⟨m,ok,e1,e2,h0,h1⟩:=TU (b:=raw) (by omega) hb p hp.big
 rw[Qs,e,aa]
 dsimp only
 rw[e1,e2,aa,aa]
 dsimp only
 rw[ac rfl,bw rfl]
 cases ok with
 | false =>
  rw[h0 rfl]
  rfl
 | true =>
  obtain⟨q1,q2,q3⟩:=h1 rfl
  rw[bz (by decide),bw rfl,HG p m hp.big q3,aa]
  unfold gy
  rw[bw q2,q1,ac rfl]
theorem UY:Mq:=by
 intro b hb
 rw[Qt,MT,aa]
 by_cases h:(b.length:Int)>1048576
 ·rw[am h]
 rw[al h]
 have hl:b.length≤1048576:=by omega
 obtain⟨c,ec,hc⟩:=II b hl
 obtain⟨⟨p,m,c2,u⟩,e1,hp,hm⟩:=NT hc
 dsimp only at hp hm
 have d1:yx b=some (p,m,()):=by rw[VQ,ec,aa,e1];rfl
 have bp:=hp.big
 have bm:=hm.big
 rw[d1,aa]
 dsimp only
 rw[HG p m bp bm,J4 p m bp bm,kE p m bp bm.1 bm.2.1]
 simp only[aa,Ut,decide_true,Bool.not_true,Bool.false_eq_true,if_false]
 by_cases hB:eH p m=true
 ·have e2:gy p m=eQ m:=by unfold gy;rw[bw hB]
  have s1:=hm.1.1.1
  have s2:=hm.1.2.1
  have s3:=hm.2.1
  rw[bw hB,e2,Uv bp hm hB,aa]
  dsimp only
  rw[bz (by decide),Yq p m (by omega) (by omega) (by omega),aa]
  dsimp only
  rw[bz (by decide)]
  exact ID hl
 ·rw[bz hB];exact ID hl
end Go.Proofs.YtemajhlhgphhjaaGreatDoor.E.TM
