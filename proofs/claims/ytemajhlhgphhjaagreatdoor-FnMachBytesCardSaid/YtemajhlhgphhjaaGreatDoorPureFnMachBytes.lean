/- The pure statement of FnMachBytes. No condition. -/
import Derived.Test.YtemajhlhgphhjaaGreatDoorM3
import Derived.Test.YtemajhlhgphhjaaGreatDoorTMe1
import Derived.Test.YtemajhlhgphhjaaGreatDoorTMe2
import Derived.Test.YtemajhlhgphhjaaGreatDoorTMe3
import Derived.Test.YtemajhlhgphhjaaGreatDoorTMe4
import Derived.Test.YtemajhlhgphhjaaGreatDoorQFnMachBytes
namespace Go.Proofs.YtemajhlhgphhjaaGreatDoor.E.TM
open Go.Proofs.YtemajhlhgphhjaaGreatDoor.E
set_option linter.unusedVariables false
theorem MX(p:bG)(m:bC):(gw p m).length≤30200:=by
 unfold gw
 split
 ·exact Ip (mg ‹_›)
 ·simp
theorem MW(p:bG){m:bC}(h:SmM m):Bt (gw p m):=by
 unfold gw
 split
 ·exact FZ h
 ·exact lG
theorem NO{b:List Int}(hl:b.length≤1048576):Tot (ym b) (fun y=>SmP y.1∧y.2.1.length≤40000∧Bt y.2.1):=by
 obtain⟨c,ec,hc⟩:=Iu b hl
 rw[Vx,ec,aa]
 refine tb (Jh hc) (fun y hy=>?_)
 have hv:y.1.Vars.length≤8:=hy.1.1.1.names
 have sm:=Ir hv hy.2.1
 have hn:=MX y.1 y.2.1
 rw[JR _ _ hy.1.sm.big sm.big,aa]
 dsimp only
 exact tb (NK hy.2.2 (by omega) (MW y.1 sm)) (fun z hz=>ts ⟨hy.1.sm,by have:=hz.1.1;show z.1.length≤_;omega,hz.1.2⟩)
theorem Iq{b:List Int}(hl:b.length≤1048576):sd b=some (true,()):=by
 obtain⟨⟨p,raw,u⟩,e,hp,hr,hb⟩:=NO hl
 dsimp only at hp hr hb
 obtain⟨m,ok,e1,e2,h0,h1⟩:=TB (b:=raw) (by omega) hb p hp.big
 rw[Qb,e,aa]
 dsimp only
 rw[e1,e2,aa,aa]
 dsimp only
 rw[ac rfl,bw rfl]
 cases ok with
 | false =>
  rw[h0 rfl]
  rfl
 | true =>
  obtain⟨q1,q2,q3⟩:=h1 rfl
  rw[bz (by decide),bw rfl,Ht p m hp.big q3,aa]
  unfold gw
  rw[bw q2,q1,ac rfl]
theorem UF:Md:=by
 intro b hb
 rw[Qc,MH,aa]
 by_cases h:(b.length:Int)>1048576
 ·rw[am h]
 rw[al h]
 have hl:b.length≤1048576:=by omega
 obtain⟨c,ec,hc⟩:=Iu b hl
 obtain⟨⟨p,m,c2,u⟩,e1,hp,hm⟩:=ND hc
 dsimp only at hp hm
 have d1:yl b=some (p,m,()):=by rw[Vw,ec,aa,e1];rfl
 have bp:=hp.big
 have bm:=hm.big
 rw[d1,aa]
 dsimp only
 rw[Ht p m bp bm,JR p m bp bm,kC p m bp bm.1 bm.2.1]
 simp only[aa,Ua,decide_true,Bool.not_true,Bool.false_eq_true,if_false]
 by_cases hB:eE p m=true
 ·have e2:gw p m=eM m:=by unfold gw;rw[bw hB]
  have s1:=hm.1.1.1
  have s2:=hm.1.2.1
  have s3:=hm.2.1
  rw[bw hB,e2,Uc bp hm hB,aa]
  dsimp only
  rw[bz (by decide),X7 p m (by omega) (by omega) (by omega),aa]
  dsimp only
  rw[bz (by decide)]
  exact Iq hl
 ·rw[bz hB];exact Iq hl
end Go.Proofs.YtemajhlhgphhjaaGreatDoor.E.TM
