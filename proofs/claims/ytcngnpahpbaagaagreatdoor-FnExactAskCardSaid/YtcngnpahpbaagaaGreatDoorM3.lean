/- What the pure statement needs (3). No condition. -/
import Derived.Test.YtcngnpahpbaagaaGreatDoorM2
import Derived.Test.YtcngnpahpbaagaaGreatDoorTHe1
import Derived.Test.YtcngnpahpbaagaaGreatDoorTHe2
import Derived.Test.YtcngnpahpbaagaaGreatDoorTHe3
namespace Go.Proofs.YtcngnpahpbaagaaGreatDoor.E.TH
open Go.Proofs.YtcngnpahpbaagaaGreatDoor.E
set_option linter.unusedVariables false
theorem repeat_one (x:Int):x_slices_Repeat_int [x] 1=some ([x],()):=by
 have h1:x_math_bits_Mul (wu64 (([x]:List Int).length:Int)) (wu64 1)=some (0,1,()):=by
  rw [x_math_bits_Mul_eq,x_math_bits_Mul64_eq,show (([x]:List Int).length:Int)=1 from rfl]
  kernel_rfl
 have h2:w64 1=1:=by decide
 rw [x_slices_Repeat_int_eq,if_neg (by decide),x_slices_Repeat_int_L1_eq,h1,Option.bind_some]
 dsimp only
 rw [if_neg (by decide),if_neg (by decide),x_slices_Repeat_int_L2_eq,h2,if_pos (by rw [room_eq]; omega),if_pos (by show 1≤1; omega)]
 have h3:List.append [x] (List.drop (List.length [x]) (List.replicate (1:Int).toNat 0))=[x]:=rfl
 rw [h3,x_slices_Repeat_int_L3_eq,if_neg (by rw [decide_eq_true_eq]; omega)]
theorem ones_one (x:Int):s_l22Ones 1 x=some ([x],()):=by
 rw [s_l22Ones_eq,s_l22Ones_L1_eq,if_pos (by decide),if_pos (by rw [room_eq]; simp),show w64 (0+1)=1 by decide,s_l22Ones_L1_eq,if_neg (by decide)]
 rfl
theorem hardDo_vote (p:impl_Prog) (h:impl_Hard) (r:impl_Rec) (hp:BProg p) (hb:BHard h) (gh:Gi_Hard 2097152 h) (hk:r.Kind=1) (h3:r.List=[]) {y:impl_Hard} (hy:i_HardDo p h r=some (y,())):y.Log=h.Log:=by
 rw [i_HardDo_eq,cpI_Hard h gh,i_HardOk_ok p h hp hb,i_RecOk_ok r (by rw [h3]; simp)] at hy
 simp only [Option.bind_some] at hy
 have self:∀ {x:impl_Hard},(some (h,()):Option (impl_Hard × Unit))=some (x,())→x.Log=h.Log:=fun {x} hx=>by
  have:h=x:=congrArg Prod.fst (Option.some.inj hx)
  subst this
  rfl
 cases hB:hardB p h with
 | false=>rw [hB,if_pos (by decide)] at hy; exact self hy
 | true =>
  rw [hB,if_neg (by decide)] at hy
  cases hR:recOk r with
  | false=>rw [hR,if_pos (by decide)] at hy; exact self hy
  | true =>
   rw [hR,if_neg (by decide),if_pos (decide_eq_true hk)] at hy
   have bY:BHard ⟨r.Term,r.Vote,h.Log,h.Snap⟩:=hb
   rw [(hardEnd hp hb gh bY z_impl_Hard).1] at hy
   cases hh:hardB p ⟨r.Term,r.Vote,h.Log,h.Snap⟩ with
   | false=>rw [hh] at hy; exact self hy
   | true =>
    rw [hh,if_pos rfl] at hy
    have e1:impl_Hard.mk r.Term r.Vote h.Log h.Snap=y:=congrArg Prod.fst (Option.some.inj hy)
    subst e1
    rfl
theorem vote_spec (p:impl_Prog) (n:impl_Peer) (t v:Int) (hp:BProg p) (hb:BPeer n) (gn:Gi_Peer 2097152 n) {k:Int} (hP:peerB p n k=true) :
  ∃ y ok,s_WriteDown p n (impl_Rec.mk 1 t v 0 [] [])=some (y,ok,())∧i_WriteDown p n (impl_Rec.mk 1 t v 0 [] [])=some (y,ok,())∧BPeer y∧Gi_Peer 2097152 y∧y.Hard.Log=n.Hard.Log∧y.Id=n.Id∧(0≤y.Hard.Term∧y.Hard.Term≤300):=by
 obtain ⟨y,ok,t1,t2,t3,t4,t5,t6⟩:=writeDown_same p n (impl_Rec.mk 1 t v 0 [] []) hp hb gn ⟨⟨by simp,fun x hx=>by cases hx⟩,⟨by simp,fun x hx=>by cases hx⟩,by show InI 0; unfold InI; omega⟩
 refine ⟨y,ok,t1,t2,t3,t4,?_⟩
 cases ok with
 | false=>rw [t5 rfl]; exact ⟨rfl,rfl,(hardB_log (peerB_parts hP).2.2.1).2.2.1⟩
 | true =>
  obtain ⟨q,h',d',g1,g2⟩:=t6 rfl
  have gh:Gi_Hard 2097152 n.Hard:=by unfold Gi_Peer at gn; exact gn.1
  have hv:=hardDo_vote p n.Hard _ hp hb.1 gh rfl rfl g1
  have ht:=(hardB_log (peerB_parts q).2.2.1).2.2.1
  rw [g2] at ht ⊢
  exact ⟨hv,rfl,ht⟩
theorem sWrite_ok (p:impl_Prog) (n y:impl_Peer) (k:Int) (ok:Bool) (r:impl_Rec) (h:s_WriteDown p n r=some (y,ok,())):s_l23Write (spec_l23Work.mk p k n true) r=some (spec_l23Work.mk p k y ok,()):=by
 rw [s_l23Write_eq]
 dsimp only
 rw [if_neg (by decide),h]; rfl
theorem iWrite_ok (p:impl_Prog) (n y:impl_Peer) (k:Int) (ok:Bool) (r:impl_Rec) (h:i_WriteDown p n r=some (y,ok,())):i_act_write p n k false r=some ((p,(y,(k,(!ok,())))),()):=by
 rw [i_act_write_eq,h,Option.bind_some]
 cases ok <;> rfl
theorem bpeer_tell (n:impl_Peer) (r:impl_Rpc) (hb:BPeer n) (g:Gi_Peer 2097152 (tellOf n r).1):BPeer (tellOf n r).1:=by
 unfold Gi_Peer at g
 obtain ⟨_,_,_,_,_,_,g7,g8⟩:=g
 revert g7 g8
 unfold tellOf
 split
 ·intro _ _; exact hb
 ·intro g7 g8
  obtain ⟨h1,h2,h3,h4,h5,h6,h7,h8⟩:=hb
  exact ⟨h1,h2,h3,h4,h5,h6,g7,fun x hx=>brpc_of_gi (g8 x hx)⟩
theorem lead_same (p:impl_Prog) (n:impl_Peer) (hp:BProg p) (hb:BPeer n) (gn:Gi_Peer 2097152 n) (hlog:logOk n.Hard.Log=true) :
  ∃ y,s_l23Lead (spec_l23Work.mk p 1 n true)=some (spec_l23Work.mk p 1 y true,())∧i_act_lead p n 1 false=some ((p,(y,(1,(false,())))),())∧Gi_Peer 2097152 y:=by
 have hl:n.Hard.Log.List.length≤2097152:=hb.1.1.1
 obtain ⟨h1,h2,h3,h4,h5,h6,h7,h8⟩:=hb
 obtain ⟨w1,w2,w3,w4,w5⟩:=logOk_len hlog
 obtain ⟨L1,L2⟩:=lastI_val hlog
 have hc1:(0:Int)≤1∧(1:Int)≤1∧(1:Int)≤(room:Int):=by rw [room_eq]; omega
 have er:List.replicate (1:Int).toNat (0:Int)=[0]:=rfl
 rw [s_l23Lead_eq,i_act_lead_eq]
 dsimp only
 rw [cpS_Peer n gn,cpI_Peer n gn,s_LastOf_ok _ hl,i_LastOf_ok _ hl]
 simp only [Option.bind_some]
 rw [ones_one,repeat_one]
 simp only [Option.bind_some]
 rw [if_pos hc1,if_pos hc1,er]
 generalize hX:w64 (lastI n.Hard.Log+1)=X
 have bN:BPeer ⟨n.Id,n.Hard,2,n.Votes,[X],[0],n.Commit,n.Now,n.Disk,n.Held⟩:=⟨h1,h2,by simp,by simp,h5,h6,h7,h8⟩
 have gN:Gi_Peer 2097152 ⟨n.Id,n.Hard,2,n.Votes,[X],[0],n.Commit,n.Now,n.Disk,n.Held⟩:=by
  unfold Gi_Peer at gn ⊢
  obtain ⟨k1,k2,k3,k4,k5,k6,k7⟩:=gn
  exact ⟨k1,k2,by simp,by simp,k5,k6,k7⟩
 have gF:Gi_Peer 2097152 ⟨n.Id,n.Hard,0,n.Votes,n.Next,n.Match,n.Commit,n.Now,n.Disk,n.Held⟩:=gn
 obtain ⟨y,ok,t1,t2,t3,t4,t5,t6,t7⟩:=put_spec p ⟨n.Id,n.Hard,2,n.Votes,[X],[0],n.Commit,n.Now,n.Disk,n.Held⟩ (impl_Entry.mk n.Hard.Term (impl_Cmd.mk (-1) 0 [])) hp bN gN (by show (([]:List Int).length)≤_; simp) hlog
 have a1:=actPut_ok p ⟨n.Id,n.Hard,2,n.Votes,[X],[0],n.Commit,n.Now,n.Disk,n.Held⟩ 1 (impl_Entry.mk n.Hard.Term (impl_Cmd.mk (-1) 0 [])) hl t2
 have hyl:y.Hard.Log.List.length≤2097152:=t3.1.1.1
 have t1':=sWrite_ok p _ y 1 ok _ t1
 dsimp only at t1' a1 t7
 rw [t1',a1,Option.bind_some,Option.bind_some]
 dsimp only
 rw [i_LastOf_ok _ hyl,Option.bind_some]
 dsimp only
 cases ok with
 | false=>exact ⟨_,rfl,rfl,gF⟩
 | true =>
  simp only [Bool.not_true,Bool.false_eq_true,if_false]
  rcases t7 with e | e
  ·rw [e,if_pos (decide_eq_true rfl),if_pos (decide_eq_true rfl)]
   exact ⟨_,rfl,rfl,gF⟩
  ·have hy:=(hardB_log (peerB_parts (t6 rfl)).2.2.1).1
   obtain ⟨M1,M2⟩:=lastI_val hy
   rw [e] at M1
   dsimp only at M1
   rw [List.length_append,List.length_singleton] at M1
   rw [e]
   dsimp only
   rw [if_neg (by rw [decide_eq_true_eq,List.length_append,List.length_singleton]; omega),if_neg (by rw [decide_eq_true_eq]; omega)]
   exact ⟨y,rfl,rfl,t4⟩
theorem askS_no (k last term:Int) (n z N:impl_Peer) (p:impl_Prog) (gn:Gi_Peer 2097152 n) (hk:k≤5):∀ (d:Nat) (to:Int),0≤to→to+d=k→s_Ask_L1 k last term to n z p k N false=some (n,false,())
 | 0,to,h0,h=>by
  rw [s_Ask_L1_eq,if_neg (by rw [decide_eq_true_eq]; omega),if_pos (by decide),cpS_Peer n gn]; rfl
 | d+1,to,h0,h=>by
  have ih:=askS_no k last term n z N p gn hk d (to+1) (by omega) (by omega)
  rw [s_Ask_L1_eq,if_pos (decide_eq_true (by omega)),w64_id (n:=to+1) (by omega) (by omega),s_l23Tell_eq]
  dsimp only
  rw [if_pos (c:=(!false)=true) (by decide),Option.bind_some]
  split <;> exact ih
theorem askI_no (k last term:Int) (n z:impl_Peer) (p:impl_Prog) (gn:Gi_Peer 2097152 n) (hk:k≤5):∀ (d:Nat) (to:Int) (N:impl_Peer),Gi_Peer 2097152 N→0≤to→to+d=k→i_Ask_L1 k last term k to n z p N k true=some (n,false,())
 | 0,to,N,gN,h0,h=>by
  rw [i_Ask_L1_eq,if_neg (by rw [decide_eq_true_eq]; omega),if_neg (by decide),actEnd_no p N n k gn]; rfl
 | d+1,to,N,gN,h0,h=>by
  have gr:Gi_Rpc 2097152 (impl_Rpc.mk 1 0 0 0 last term 0 [] false []):=⟨⟨by simp,fun e he=>by cases he⟩,by simp⟩
  obtain ⟨_,_,gy⟩:=tell_val N (told N to (impl_Rpc.mk 1 0 0 0 last term 0 [] false [])) gN gr
  rw [i_Ask_L1_eq,if_pos (decide_eq_true (by omega)),w64_id (n:=to+1) (by omega) (by omega),iTell_ok p N k true to _ gN gr,Option.bind_some]
  dsimp only
  rw [ite_self]
  split
  ·exact askI_no k last term n z p gn hk d (to+1) _ gy (by omega) (by omega)
  ·exact askI_no k last term n z p gn hk d (to+1) N gN (by omega) (by omega)
theorem ask_loop (p:impl_Prog) (k last term:Int) (n z z':impl_Peer) (hp:BProg p) (gn:Gi_Peer 2097152 n) (hk:1≤k∧k≤5) (hid:0≤n.Id∧n.Id≤w64 (k - 1)) (hl:0≤last∧last≤300) (ht:0≤term∧term≤300) :
  ∀ (d:Nat) (to:Int) (N:impl_Peer),0≤to→to+d=k→BPeer N→Gi_Peer 2097152 N→N.Id=n.Id→logOk N.Hard.Log=true→(0≤N.Hard.Term∧N.Hard.Term≤300) →
   ∃ y ok,s_Ask_L1 k last term to n z p k N true=some (y,ok,())∧i_Ask_L1 k last term k to n z' p N k false=some (y,ok,())∧Gi_Peer 2097152 y
 | 0,to,N,h0,h,bN,gN,eN,lN,tN=>by
  rw [s_Ask_L1_eq,i_Ask_L1_eq,if_neg (c:=decide (to < k)=true) (by rw [decide_eq_true_eq]; omega),if_neg (c:=decide (to < k)=true) (by rw [decide_eq_true_eq]; omega),if_neg (c:=(!true)=true) (by decide),if_pos (c:=(!false)=true) (by decide),s_Most_eq,i_Most_eq,Option.bind_some,Option.bind_some]
  dsimp only
  by_cases k1:k=1
  ·subst k1
   have m1:decide (w64 (w64 (Int.tdiv 1 2)+1)=1)=true:=by decide
   obtain ⟨y,l1,l2,l3⟩:=lead_same p N hp bN gN lN
   rw [if_pos m1,if_pos m1,l1,l2,Option.bind_some,Option.bind_some]
   dsimp only
   rw [actEnd_yes]
   exact ⟨y,true,rfl,rfl,l3⟩
  ·have m1:¬ decide (w64 (w64 (Int.tdiv k 2)+1)=1)=true:=by
    have:k=2∨k=3∨k=4∨k=5:=by omega
    rcases this with e | e | e | e <;> subst e <;> decide
   rw [if_neg m1,if_neg m1,actEnd_yes]
   exact ⟨N,true,rfl,rfl,gN⟩
 | d+1,to,N,h0,h,bN,gN,eN,lN,tN=>by
  have ek:w64 (k - 1)=k - 1:=w64_id (by omega) (by omega)
  have gr:Gi_Rpc 2097152 (impl_Rpc.mk 1 0 0 0 last term 0 [] false []):=⟨⟨by simp,fun e he=>by cases he⟩,by simp⟩
  have gr':Gi_Rpc 2097152 (impl_Rpc.mk 1 0 to 0 last term 0 [] false []):=⟨⟨by simp,fun e he=>by cases he⟩,by simp⟩
  rw [s_Ask_L1_eq,i_Ask_L1_eq,if_pos (decide_eq_true (by omega)),if_pos (decide_eq_true (by omega)),w64_id (n:=to+1) (by omega) (by omega)]
  by_cases e:to=n.Id
  ·have e1:¬ (!decide (to=n.Id))=true:=by rw [decide_eq_true e]; decide
   rw [if_neg e1,if_neg e1]
   exact ask_loop p k last term n z z' hp gn hk hid hl ht d (to+1) N (by omega) (by omega) bN gN eN lN tN
  ·have e1:(!decide (to=n.Id))=true:=by rw [decide_eq_false e]; rfl
   obtain ⟨_,_,gy⟩:=tell_val N (told N to (impl_Rpc.mk 1 0 0 0 last term 0 [] false [])) gN gr
   have by_:=bpeer_tell N (told N to (impl_Rpc.mk 1 0 0 0 last term 0 [] false [])) bN gy
   have hr:rpcB (told N to (impl_Rpc.mk 1 0 0 0 last term 0 [] false [])) k=true :=
    rpcB_mk (by show (1:Int)≤1∧(1:Int)≤5; omega) hk (by show 0≤N.Id∧N.Id≤_; rw [eN]; exact hid) (by show 0≤to∧to≤_; omega) (by show ¬ N.Id=to; rw [eN]; omega) tN hl ht (by show (0:Int)≤0∧(0:Int)≤300; omega) rfl (by show (([]:List Int).length:Int)≤30000; simp)
   have s1:=sTell_ok p N k (impl_Rpc.mk 1 0 to 0 last term 0 [] false []) gN gr'
   have s2:told N (impl_Rpc.mk 1 0 to 0 last term 0 [] false []).To (impl_Rpc.mk 1 0 to 0 last term 0 [] false [])=told N to (impl_Rpc.mk 1 0 0 0 last term 0 [] false []):=rfl
   rw [s2,hr,Bool.and_true] at s1
   have hd:(tellOf N (told N to (impl_Rpc.mk 1 0 0 0 last term 0 [] false []))).1.Id=N.Id∧(tellOf N (told N to (impl_Rpc.mk 1 0 0 0 last term 0 [] false []))).1.Hard=N.Hard:=by
    unfold tellOf; split <;> exact ⟨rfl,rfl⟩
   rw [if_pos e1,if_pos e1,s1,iTell_ok p N k false to _ gN gr]
   generalize tellOf N (told N to (impl_Rpc.mk 1 0 0 0 last term 0 [] false []))=T at *
   obtain ⟨y,ok⟩:=T
   simp only [Option.bind_some]
   dsimp only at gy by_ hd
   cases ok with
   | false =>
    rw [if_neg (by decide),askS_no k last term n z y p gn hk.2 d (to+1) (by omega) (by omega),askI_no k last term n z' p gn hk.2 d (to+1) y gy (by omega) (by omega)]
    exact ⟨n,false,rfl,rfl,gn⟩
   | true =>
    rw [if_pos rfl]
    exact ask_loop p k last term n z z' hp gn hk hid hl ht d (to+1) y (by omega) (by omega) by_ gy (hd.1.trans eN) (by rw [hd.2]; exact lN) (by rw [hd.2]; exact tN)
theorem lastT_nn {l:impl_Log} (h:logOk l=true):0≤lastT l:=by
 obtain ⟨w1,w2,w3,w4,w5⟩:=logOk_len h
 have hk:listOk l.List l.BaseTerm=true:=by
  unfold logOk at h
  exact (and_iff'.1 (and_iff'.1 (and_iff'.1 h).2).2).2
 unfold lastT
 split
 ·omega
 ·have hlt:l.List.length - 1 < l.List.length:=by omega
  rw [getD_lt hlt]
  have:=((listOk_mx _ _ hk).2 _ (List.getElem_mem hlt)).1
  omega
theorem ask_same (p:impl_Prog) (n:impl_Peer) (k:Int) (hp:BProg p) (hb:BPeer n) (gn:Gi_Peer 2097152 n) :
  ∃ y ok,s_Ask p n k=some (y,ok,())∧i_Ask p n k=some (y,ok,())∧Gi_Peer 2097152 y:=by
 have hl:n.Hard.Log.List.length≤2097152:=hb.1.1.1
 rw [s_Ask_eq,i_Ask_eq,s_PeerOk_ok p n k hp hb,i_PeerOk_ok p n k hp hb,cpI_Peer n gn,cpS_Peer n gn]
 simp only [Option.bind_some]
 have no:∃ y ok,(some (n,false,()):Option (impl_Peer × Bool × Unit))=some (y,ok,())∧(some (n,false,()):Option (impl_Peer × Bool × Unit))=some (y,ok,())∧Gi_Peer 2097152 y:=⟨n,false,rfl,rfl,gn⟩
 cases hP:peerB p n k with
 | false=>exact no
 | true =>
  obtain ⟨a1,a2,a3,a4,a5,a6,a7,a8,a9,b1,b2,b3,b4,b5,b6⟩:=peerB_parts hP
  obtain ⟨hlog,hsnap,hterm,hvote,hlast⟩:=hardB_log a3
  obtain ⟨w1,w2,w3,w4,w5⟩:=logOk_len hlog
  obtain ⟨L1,L2⟩:=lastI_val hlog
  have ek:w64 (k - 1)=k - 1:=w64_id (by omega) (by omega)
  simp only [Bool.not_true,Bool.false_eq_true,if_false]
  by_cases hr:n.Role=2
  ·rw [if_pos (decide_eq_true hr),if_pos (decide_eq_true hr)]; exact no
  have hr1:¬ decide (n.Role=2)=true:=by rw [decide_eq_true_eq]; exact hr
  rw [if_neg hr1,if_neg hr1]
  by_cases ht:n.Hard.Term=300
  ·rw [if_pos (decide_eq_true ht),if_pos (decide_eq_true (by omega))]; exact no
  rw [if_neg (by rw [decide_eq_true_eq]; exact ht),if_neg (by rw [decide_eq_true_eq]; omega)]
  obtain ⟨y,ok,t1,t2,t3,t4,t5,t6,t7⟩:=vote_spec p n (w64 (n.Hard.Term+1)) n.Id hp hb gn hP
  rw [sWrite_ok p n y k ok _ t1,iWrite_ok p n y k ok _ t2]
  simp only [Option.bind_some]
  have c1:(0:Int)≤k∧k≤k∧k≤(room:Int):=by rw [room_eq]; omega
  have hrl:(List.replicate k.toNat false).length=k.toNat:=List.length_replicate
  have c2:(0:Int)≤n.Id∧n.Id < ((List.replicate k.toNat false).length:Int):=by rw [hrl]; omega
  rw [if_pos c1,if_pos c1,if_pos c2,if_pos c2,s_LastOf_ok _ hl,t5,i_LastOf_ok _ hl]
  simp only [Option.bind_some]
  obtain ⟨h1,h2,h3,h4,h5,h6,h7,h8⟩:=t3
  have hvl:(List.set (List.replicate k.toNat false) n.Id.toNat true).length≤2097152:=by rw [List.length_set,hrl]; omega
  have gN:Gi_Peer 2097152 ⟨y.Id,y.Hard,1,List.set (List.replicate k.toNat false) n.Id.toNat true,y.Next,y.Match,y.Commit,y.Now,y.Disk,y.Held⟩:=by
   unfold Gi_Peer at t4 ⊢
   obtain ⟨k1,k2,k3,k4,k5,k6,k7⟩:=t4
   exact ⟨k1,hvl,k3,k4,k5,k6,k7⟩
  cases ok with
  | false =>
   rw [askS_no k _ _ n _ _ p gn a1.2 k.toNat 0 (by omega) (by omega),Bool.not_false,askI_no k _ _ n _ p gn a1.2 k.toNat 0 _ gN (by omega) (by omega)]
   exact no
  | true =>
   exact ask_loop p k (lastI n.Hard.Log) (lastT n.Hard.Log) n _ _ hp gn a1 a2 (by omega) (by have:=lastT_nn hlog; omega) k.toNat 0 _ (by omega) (by omega) ⟨h1,hvl,h3,h4,h5,h6,h7,h8⟩ gN t6 (by rw [t5]; exact hlog) t7
end Go.Proofs.YtcngnpahpbaagaaGreatDoor.E.TH
