/- The pure statement of FnExactWorldOk. No condition. -/
import Derived.Test.YtcngnpahpbaagaaGreatDoorM2
import Derived.Test.YtcngnpahpbaagaaGreatDoorTHe1
import Derived.Test.YtcngnpahpbaagaaGreatDoorTHe2
import Derived.Test.YtcngnpahpbaagaaGreatDoorQFnExactWorldOk
namespace Go.Proofs.YtcngnpahpbaagaaGreatDoor.E.TH
open Go.Proofs.YtcngnpahpbaagaaGreatDoor.E
set_option linter.unusedVariables false
def Lb_World (x:laws_World):Prop:=Lb_Prog x.Prog∧∀ y∈x.Nodes,Lb_State y.Hard.Snap.State∧Lb_State y.Now.State
theorem fb_World {d:Nat} {x:laws_World} (h:Fine (G:=gam) (d+11) (.nm 3) x):Lb_World x:=by
 have h':Fine (G:=gam) (d+10) (.nm 0) x.Prog∧_∧(x.Nodes.length≤9223372036854775807∧∀ y∈x.Nodes,Fine (G:=gam) (d+9) (.nm 4) y)∧_:=h
 exact ⟨fb_Prog (d:=d+5) h'.1,fun y hy=>fb_Peer (d:=d+0) (h'.2.2.1.2 y hy)⟩
theorem bWorld {x:laws_World} (h:Gl_World 1048576 x) (hb:Lb_World x):BWorld (hc_World x):=by
 unfold Gl_World at h
 obtain ⟨h1,h2,h3,h4,h5,h6,h7⟩:=h
 refine ⟨bProg h1 hb.1,⟨by show (x.Nodes.map hc_Peer).length≤_; rw [List.length_map]; have:=h2.1; omega,fun n hn=>?_⟩,⟨by show (x.Net.map hc_Rpc).length≤_; rw [List.length_map]; have:=h3.1; omega,fun r hr=>?_⟩,by show x.Sent.length≤_; omega,by show x.Acked.length≤_; omega,by show (x.Done.map hc_Cmd).length≤_; rw [List.length_map]; have:=h7.1; omega,fun c hc=>?_⟩
 ·obtain ⟨y,hy,rfl⟩:=List.mem_map.1 hn; exact bPeer (h2.2 y hy) (hb.2 y hy)
 ·obtain ⟨y,hy,rfl⟩:=List.mem_map.1 hr; exact bRpc (h3.2 y hy)
 ·obtain ⟨y,hy,rfl⟩:=List.mem_map.1 hc
  have:=h7.2 y hy
  unfold Gl_Cmd at this
  show y.Line.length≤_
  omega
theorem gi_up_World {x:laws_World} (h:Gl_World 1048576 x):Gi_World 2097152 (hc_World x):=by
 have h':=hg_World h
 have hp:Gi_Prog 2097152 (hc_Prog x.Prog):=by unfold Gl_World at h; exact gi_up_Prog h.1
 unfold Gi_World at *
 obtain ⟨h1,h2,h3,h4,h5,h6,h7⟩:=h'
 refine ⟨hp,⟨by omega,fun y hy=>gi_mono_Peer (h2.2 y hy)⟩,⟨by omega,fun y hy=>gi_mono_Rpc (h3.2 y hy)⟩,?_,by omega,by omega,by omega,fun y hy=>?_⟩
 ·unfold Gi_Sink at *; omega
 ·have:=h7.2 y hy
  unfold Gi_Cmd at *; omega
theorem pureFnExactWorldOk:PureFnExactWorldOk:=by
 intro w hw
 obtain ⟨q1,e1,e2,e3⟩:=hsz_World w 1048576 (hf_World (d:=29) hw) (by omega) (by omega)
 rw [l_FnExactWorldOk_eq,e1,Option.bind_some]
 dsimp only
 by_cases c1:q1 < 0
 ·rw [if_pos (decide_eq_true c1)]
 rw [if_neg (by rw [decide_eq_true_eq]; exact c1)]
 have gw:=e3 (by omega)
 have bw:=bWorld gw (fb_World (d:=29) hw)
 simp only [hto_World w gw,s_WorldOk_ok _ bw,i_WorldOk_ok _ bw,heq_World _ (gi_up_World gw),Option.bind_some,decide_true,Bool.not_true,Bool.false_eq_true,if_false]
end Go.Proofs.YtcngnpahpbaagaaGreatDoor.E.TH
