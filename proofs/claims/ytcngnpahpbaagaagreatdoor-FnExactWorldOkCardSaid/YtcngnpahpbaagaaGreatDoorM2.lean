/- What the pure statement needs (2). No condition. -/
import Derived.Test.YtcngnpahpbaagaaGreatDoorM1
import Derived.Test.YtcngnpahpbaagaaGreatDoorTHe1
import Derived.Test.YtcngnpahpbaagaaGreatDoorTHe2
namespace Go.Proofs.YtcngnpahpbaagaaGreatDoor.E.TH
open Go.Proofs.YtcngnpahpbaagaaGreatDoor.E
set_option linter.unusedVariables false
def lastI (l:impl_Log):Int:=if l.List.length=0 then l.Base else w64 (l.Base+l.List.length)
def lastT (l:impl_Log):Int:=if l.List.length=0 then l.BaseTerm else (l.List.getD (l.List.length - 1) z_impl_Entry).Term
theorem s_LastOf_ok (l:impl_Log) (hl:l.List.length≤2097152):s_LastOf l=some (lastI l,lastT l,()):=by
 rw [s_LastOf_eq]
 unfold lastI lastT
 by_cases h:l.List.length=0
 ·rw [if_pos (decide_eq_true (by omega)),if_pos h,if_pos h]
 ·have w1:w64 ((l.List.length:Int) - 1)=((l.List.length - 1:Nat):Int):=by rw [w64_id (by omega) (by omega)]; omega
  rw [if_neg (by rw [decide_eq_true_eq]; omega),w1,if_pos (by omega),if_neg h,if_neg h,Int.toNat_natCast]
theorem i_LastOf_ok (l:impl_Log) (hl:l.List.length≤2097152):i_LastOf l=some (lastI l,lastT l,()):=by
 have:=s_LastOf_ok l hl
 rw [s_LastOf_eq] at this
 rw [i_LastOf_eq]; exact this
def BLog (l:impl_Log):Prop:=l.List.length≤2097152∧∀ e∈l.List,e.C.Line.length≤2097152
theorem BLog.lines {l:impl_Log} (h:BLog l):LinesOk l.List:=fun e he=>by have:=h.2 e he; omega
def BMach (m:impl_Mach):Prop:=BState m.State∧m.Done.length≤2097152∧m.Out.length≤2097152
def BHard (h:impl_Hard):Prop:=BLog h.Log∧BMach h.Snap
noncomputable def hardB (p:impl_Prog) (h:impl_Hard):Bool :=
 decide (0≤h.Term∧h.Term≤300) && (decide (-1≤h.Vote∧h.Vote≤4) && (logOk h.Log && (decide (lastT h.Log≤h.Term) && machB p h.Snap)))
theorem i_isIndex_val (n:Int):i_isIndex n=some (decide (0≤n∧n≤300),()):=by rw [i_isIndex_eq,i_in_ok]; rfl
theorem i_isVote_val (n:Int):i_isVote n=some (decide (-1≤n∧n≤4),()):=by rw [i_isVote_eq,i_in_ok]; rfl
theorem i_HardOk_ok (p:impl_Prog) (h:impl_Hard) (hp:BProg p) (hb:BHard h):i_HardOk p h=some (hardB p h,()):=by
 rw [i_HardOk_eq,i_LastOf_ok _ hb.1.1,i_isIndex_val,i_isVote_val,i_LogOk_ok _ (by have:=hb.1.1; omega),i_MachOk_ok p _ hp hb.2.1 hb.2.2.1]
 simp only [Option.bind_some]
 unfold hardB
 cases decide (0≤h.Term∧h.Term≤300) <;> cases decide (-1≤h.Vote∧h.Vote≤4) <;> cases logOk h.Log <;> cases decide (lastT h.Log≤h.Term) <;> rfl
theorem s_HardOk_ok (p:impl_Prog) (h:impl_Hard) (hp:BProg p) (hb:BHard h):s_HardOk p h=some (hardB p h,()):=by
 rw [s_HardOk_eq,s_LastOf_ok _ hb.1.1,s_l1In_ok,s_l1In_ok,s_LogOk_ok _ (by have:=hb.1.1; omega) hb.1.lines,s_MachOk_ok p _ hp hb.2.1 hb.2.2.1]
 simp only [Option.bind_some]
 unfold hardB
 cases decide (0≤h.Term∧h.Term≤300) <;> cases decide (-1≤h.Vote∧h.Vote≤4) <;> cases logOk h.Log <;> cases decide (lastT h.Log≤h.Term) <;> rfl
def BRpc (r:impl_Rpc):Prop:=r.List.length≤2097152∧∀ e∈r.List,e.C.Line.length≤2097152
def rpcB (r:impl_Rpc) (n:Int):Bool :=
 decide (1≤r.Kind∧r.Kind≤5) && (decide (1≤n∧n≤5) && (decide (0≤r.From∧r.From≤w64 (n - 1)) && (decide (0≤r.To∧r.To≤w64 (n - 1)) && (!decide (r.From=r.To) && (decide (0≤r.Term∧r.Term≤300) && (decide (0≤r.Index∧r.Index≤300) && (decide (0≤r.IndexTerm∧r.IndexTerm≤300) && (decide (0≤r.Commit∧r.Commit≤300) && (entriesOk r.List r.Term && decide ((r.Snap.length:Int)≤30000))))))))))
theorem rpc_ok (r:impl_Rpc) (n:Int) (hb:BRpc r):s_RpcOk r n=some (rpcB r n,())∧i_RpcOk r n=some (rpcB r n,()):=by
 have hl:r.List.length≤4294967296:=by have:=hb.1; omega
 have hw:LinesOk r.List:=fun e he=>by have:=hb.2 e he; omega
 rw [s_RpcOk_eq,i_RpcOk_eq]
 simp only [s_l1In_ok,i_in_ok,i_isIndex_val,s_l19List_ok _ _ hl hw,i_entriesOk_ok _ _ hl,Option.bind_some]
 unfold rpcB
 cases decide (1≤r.Kind∧r.Kind≤5) with
 | false=>exact ⟨rfl,rfl⟩
 | true =>
 cases decide (1≤n∧n≤5) with
 | false=>exact ⟨rfl,rfl⟩
 | true =>
 cases decide (0≤r.From∧r.From≤w64 (n - 1)) with
 | false=>exact ⟨rfl,rfl⟩
 | true =>
 cases decide (0≤r.To∧r.To≤w64 (n - 1)) with
 | false=>exact ⟨rfl,rfl⟩
 | true =>
 cases decide (r.From=r.To) with
 | true=>exact ⟨rfl,rfl⟩
 | false =>
 cases decide (0≤r.Term∧r.Term≤300) with
 | false=>exact ⟨rfl,rfl⟩
 | true =>
 cases decide (0≤r.Index∧r.Index≤300) with
 | false=>exact ⟨rfl,rfl⟩
 | true =>
 cases decide (0≤r.IndexTerm∧r.IndexTerm≤300) with
 | false=>exact ⟨rfl,rfl⟩
 | true =>
 cases decide (0≤r.Commit∧r.Commit≤300) with
 | false=>exact ⟨rfl,rfl⟩
 | true =>
 cases entriesOk r.List r.Term with
 | false=>exact ⟨rfl,rfl⟩
 | true=>exact ⟨rfl,rfl⟩
def numsBad (l:List Int) (a b:Int):Bool:=l.any (fun n=>!decide (a≤n∧n≤b))
theorem i_numbersOk_ok (l:List Int) (k a b:Int) (hl:l.length≤2097152):i_numbersOk l k a b=some (decide ((l.length:Int)=k) && !numsBad l a b,()):=by
 rw [i_numbersOk_eq,x_slices_ContainsFunc_int_numbersOk_1_eq,x_slices_IndexFunc_int_numbersOk_1_eq]
 obtain ⟨j,e,e1,_⟩:=index_loop (fun i=>x_slices_IndexFunc_int_numbersOk_1_L1 l (l.length:Int) i a b) (a,b,()) l.length (fun i=>!decide (a≤l.getD i 0∧l.getD i 0≤b)) (fun i hi=>by
  show x_slices_IndexFunc_int_numbersOk_1_L1 l _ i a b=_
  rw [x_slices_IndexFunc_int_numbersOk_1_L1_eq,if_pos (decide_eq_true (by omega)),if_pos (by omega),w64_succ hi (by omega),Int.toNat_natCast,i_numbersOk_1_eq,i_in_ok,Option.bind_some,Option.bind_some]) (by
  show x_slices_IndexFunc_int_numbersOk_1_L1 l _ _ a b=_
  rw [x_slices_IndexFunc_int_numbersOk_1_L1_eq,if_neg (by simp)])
 rw [e,Option.bind_some,Option.bind_some]
 dsimp only
 rw [e1,anyB_list l 0 (fun n=>!decide (a≤n∧n≤b))]
 unfold numsBad
 cases decide ((l.length:Int)=k) <;> rfl
def BPeer (n:impl_Peer):Prop:=BHard n.Hard∧n.Votes.length≤2097152∧n.Next.length≤2097152∧n.Match.length≤2097152∧BMach n.Now∧n.Disk.Bytes.length≤2097152∧n.Held.length≤2097152∧∀ r∈n.Held,BRpc r
def heldBad (n:impl_Peer) (k:Int):Bool:=n.Held.any (fun r=>!rpcB r k || !decide (r.From=n.Id))
noncomputable def peerB (p:impl_Prog) (n:impl_Peer) (k:Int):Bool :=
 decide (1≤k∧k≤5) && (decide (0≤n.Id∧n.Id≤w64 (k - 1)) && (hardB p n.Hard && (!decide (n.Hard.Vote ≥ k) && (decide (0≤n.Role∧n.Role≤2) && (decide ((n.Votes.length:Int)=k) &&
 (decide ((n.Next.length:Int)=k) && (!numsBad n.Next 1 (w64 (lastI n.Hard.Log+1)) && (decide ((n.Match.length:Int)=k) && (!numsBad n.Match 0 (lastI n.Hard.Log) &&
 (decide (n.Hard.Log.Base≤n.Commit∧n.Commit≤lastI n.Hard.Log) && (machB p n.Now && (diskOk n.Disk && (decide ((n.Held.length:Int)≤40) && !heldBad n k)))))))))))))
theorem i_PeerOk_ok (p:impl_Prog) (n:impl_Peer) (k:Int) (hp:BProg p) (hb:BPeer n):i_PeerOk p n k=some (peerB p n k,()):=by
 obtain ⟨h1,h2,h3,h4,h5,h6,h7,h8⟩:=hb
 have hheld:x_slices_ContainsFunc_impl_Rpc_PeerOk_1 n.Held k n=some (heldBad n k,k,n,()):=by
  rw [x_slices_ContainsFunc_impl_Rpc_PeerOk_1_eq,x_slices_IndexFunc_impl_Rpc_PeerOk_1_eq]
  obtain ⟨j,e,e1,_⟩:=index_loop (fun i=>x_slices_IndexFunc_impl_Rpc_PeerOk_1_L1 n.Held (n.Held.length:Int) i k n) (k,n,()) n.Held.length (fun i=>!rpcB (n.Held.getD i z_impl_Rpc) k || !decide ((n.Held.getD i z_impl_Rpc).From=n.Id)) (fun i hi=>by
   show x_slices_IndexFunc_impl_Rpc_PeerOk_1_L1 n.Held _ i k n=_
   rw [x_slices_IndexFunc_impl_Rpc_PeerOk_1_L1_eq,if_pos (decide_eq_true (by omega)),if_pos (by omega),w64_succ hi (by omega),Int.toNat_natCast,i_PeerOk_1_eq,(rpc_ok _ k (by rw [getD_lt hi]; exact h8 _ (List.getElem_mem hi))).2,Option.bind_some]
   dsimp only
   cases rpcB (n.Held.getD i z_impl_Rpc) k <;> rfl) (by
   show x_slices_IndexFunc_impl_Rpc_PeerOk_1_L1 n.Held _ _ k n=_
   rw [x_slices_IndexFunc_impl_Rpc_PeerOk_1_L1_eq,if_neg (by simp)])
  rw [e,Option.bind_some]
  dsimp only
  rw [e1,anyB_list n.Held z_impl_Rpc (fun r=>!rpcB r k || !decide (r.From=n.Id))]
  rfl
 have e40:decide ((n.Held.length:Int) > 40) = !decide ((n.Held.length:Int)≤40):=by
  by_cases g:(n.Held.length:Int)≤40
  ·rw [decide_eq_true g,decide_eq_false (by omega)]; rfl
  ·rw [decide_eq_false g,decide_eq_true (by omega)]; rfl
 rw [i_PeerOk_eq,i_in_ok,i_in_ok,i_HardOk_ok p _ hp h1,i_in_ok,i_LastOf_ok _ h1.1.1]
 simp only [Option.bind_some]
 rw [i_numbersOk_ok _ _ _ _ h3,i_numbersOk_ok _ _ _ _ h4,i_in_ok,i_MachOk_ok p _ hp h5.1 h5.2.1,i_DiskOk_ok,hheld,e40]
 simp only [Option.bind_some]
 unfold peerB
 cases decide (1≤k∧k≤5) with
 | false=>rfl
 | true =>
 cases decide (0≤n.Id∧n.Id≤w64 (k - 1)) with
 | false=>rfl
 | true =>
 cases hardB p n.Hard with
 | false=>rfl
 | true =>
 cases decide (n.Hard.Vote ≥ k) with
 | true=>rfl
 | false =>
 cases decide (0≤n.Role∧n.Role≤2) with
 | false=>rfl
 | true =>
 cases decide ((n.Votes.length:Int)=k) with
 | false=>rfl
 | true =>
 cases decide ((n.Next.length:Int)=k) with
 | false=>rfl
 | true =>
 cases numsBad n.Next 1 (w64 (lastI n.Hard.Log+1)) with
 | true=>rfl
 | false =>
 cases decide ((n.Match.length:Int)=k) with
 | false=>rfl
 | true =>
 cases numsBad n.Match 0 (lastI n.Hard.Log) with
 | true=>rfl
 | false =>
 cases decide (n.Hard.Log.Base≤n.Commit∧n.Commit≤lastI n.Hard.Log) with
 | false=>rfl
 | true =>
 cases machB p n.Now <;> cases diskOk n.Disk <;> cases decide ((n.Held.length:Int)≤40) <;> rfl
theorem s_PeerOk_ok (p:impl_Prog) (n:impl_Peer) (k:Int) (hp:BProg p) (hb:BPeer n):s_PeerOk p n k=some (peerB p n k,()):=by
 obtain ⟨h1,h2,h3,h4,h5,h6,h7,h8⟩:=hb
 rw [s_PeerOk_eq,s_l1In_ok,s_l1In_ok,s_HardOk_ok p _ hp h1,s_l1In_ok,s_LastOf_ok _ h1.1.1]
 simp only [Option.bind_some]
 unfold peerB
 cases decide (1≤k∧k≤5) with
 | false=>rfl
 | true =>
 cases decide (0≤n.Id∧n.Id≤w64 (k - 1)) with
 | false=>rfl
 | true =>
 cases hardB p n.Hard with
 | false=>rfl
 | true =>
 cases decide (n.Hard.Vote ≥ k) with
 | true=>rfl
 | false =>
 cases decide (0≤n.Role∧n.Role≤2) with
 | false=>rfl
 | true =>
 cases decide ((n.Votes.length:Int)=k) with
 | false=>rfl
 | true =>
 by_cases hn:(n.Next.length:Int)=k
 case neg=>rw [decide_eq_false hn]; rfl
 rw [decide_eq_true hn]
 by_cases hm:(n.Match.length:Int)=k
 case neg=>rw [decide_eq_false hm,Bool.false_and,Bool.and_false]; rfl
 rw [decide_eq_true hm]
 subst hn
 have hm':n.Match.length=n.Next.length:=by omega
 have f2:=find_loopN (fun i=>s_PeerOk_L2 (n.Next.length:Int) (lastI n.Hard.Log) i p n) n.Held.length (fun i=>!rpcB (n.Held.getD i z_impl_Rpc) n.Next.length || !decide ((n.Held.getD i z_impl_Rpc).From=n.Id)) (some (false,())) (some (decide (n.Hard.Log.Base≤n.Commit∧n.Commit≤lastI n.Hard.Log) && (machB p n.Now && (diskOk n.Disk && decide ((n.Held.length:Int)≤40))),())) (fun i hi=>by
  show s_PeerOk_L2 _ _ i p n=_
  rw [s_PeerOk_L2_eq,if_pos (decide_eq_true (by omega)),if_pos (by omega),w64_succ hi (by omega),Int.toNat_natCast,(rpc_ok _ _ (by rw [getD_lt hi]; exact h8 _ (List.getElem_mem hi))).1,Option.bind_some,if_pos (c:=0≤(i:Int)∧(i:Int) < (n.Held.length:Int)) (by omega)]
  dsimp only
  cases rpcB (n.Held.getD i z_impl_Rpc) n.Next.length <;> rfl) (by
  show s_PeerOk_L2 _ _ _ p n=_
  rw [s_PeerOk_L2_eq,if_neg (by simp),s_l1In_ok,s_MachOk_ok p _ hp h5.1 h5.2.1,s_DiskOk_ok]
  simp only [Option.bind_some]
  cases decide (n.Hard.Log.Base≤n.Commit∧n.Commit≤lastI n.Hard.Log) <;> cases machB p n.Now <;> cases diskOk n.Disk <;> rfl)
 have f1:=find_loopN (fun i=>s_PeerOk_L1 (n.Next.length:Int) (lastI n.Hard.Log) i p n) n.Next.length (fun i=>!decide (1≤n.Next.getD i 0∧n.Next.getD i 0≤w64 (lastI n.Hard.Log+1)) || !decide (0≤n.Match.getD i 0∧n.Match.getD i 0≤lastI n.Hard.Log)) (some (false,())) (s_PeerOk_L2 (n.Next.length:Int) (lastI n.Hard.Log) 0 p n) (fun i hi=>by
  show s_PeerOk_L1 _ _ i p n=_
  rw [s_PeerOk_L1_eq,if_pos (decide_eq_true (by omega)),if_pos (c:=0≤(i:Int)∧(i:Int) < (n.Next.length:Int)) (by omega),w64_succ hi (by omega),Int.toNat_natCast,s_l1In_ok,s_l1In_ok,Option.bind_some,Option.bind_some,if_pos (c:=0≤(i:Int)∧(i:Int) < (n.Match.length:Int)) (by omega)]
  dsimp only
  cases decide (1≤n.Next.getD i 0∧n.Next.getD i 0≤w64 (lastI n.Hard.Log+1)) <;> rfl) (by
  show s_PeerOk_L1 _ _ _ p n=_
  rw [s_PeerOk_L1_eq,if_neg (by simp)])
 rw [f1,f2,anyB_or (fun i=>!decide (1≤n.Next.getD i 0∧n.Next.getD i 0≤w64 (lastI n.Hard.Log+1))) (fun i=>!decide (0≤n.Match.getD i 0∧n.Match.getD i 0≤lastI n.Hard.Log)),anyB_list n.Next 0 (fun x=>!decide (1≤x∧x≤w64 (lastI n.Hard.Log+1))),anyB_list n.Held z_impl_Rpc (fun r=>!rpcB r n.Next.length || !decide (r.From=n.Id)),← hm',anyB_list n.Match 0 (fun x=>!decide (0≤x∧x≤lastI n.Hard.Log))]
 have e1:n.Next.any (fun x=>!decide (1≤x∧x≤w64 (lastI n.Hard.Log+1)))=numsBad n.Next 1 (w64 (lastI n.Hard.Log+1)):=rfl
 have e2:n.Match.any (fun x=>!decide (0≤x∧x≤lastI n.Hard.Log))=numsBad n.Match 0 (lastI n.Hard.Log):=rfl
 have e3:n.Held.any (fun r=>!rpcB r n.Match.length || !decide (r.From=n.Id))=heldBad n n.Match.length:=rfl
 rw [e1,e2,e3]
 cases numsBad n.Next 1 (w64 (lastI n.Hard.Log+1)) <;> cases numsBad n.Match 0 (lastI n.Hard.Log) <;> cases heldBad n n.Match.length <;> cases decide (n.Hard.Log.Base≤n.Commit∧n.Commit≤lastI n.Hard.Log) <;> cases machB p n.Now <;> cases diskOk n.Disk <;> cases decide ((n.Held.length:Int)≤40) <;> rfl
theorem fb_Val {d:Nat} {x:laws_Val} (h:Fine (G:=gam) (d+3) (.nm 11) x):Bt x.S:=by
 have h':_∧_∧(x.S.length≤9223372036854775807∧∀ b∈x.S,0≤b∧b≤255)∧_:=h
 exact h'.2.2.1.2
theorem fb_Cell {d:Nat} {x:laws_Cell} (h:Fine (G:=gam) (d+4) (.nm 12) x):Bt x.Val.S:=by
 have h':_∧(x.Key.length≤9223372036854775807∧_)∧Fine (G:=gam) (d+3) (.nm 11) x.Val∧_:=h
 exact fb_Val (d:=d+0) h'.2.2.1
def Lb_State (x:laws_State):Prop:=(∀ y∈x.Vars,Bt y.S)∧∀ y∈x.Cells,Bt y.Val.S
theorem fb_State {d:Nat} {x:laws_State} (h:Fine (G:=gam) (d+6) (.nm 10) x):Lb_State x:=by
 have h':(x.Vars.length≤9223372036854775807∧∀ y∈x.Vars,Fine (G:=gam) (d+4) (.nm 11) y)∧(x.Cells.length≤9223372036854775807∧∀ y∈x.Cells,Fine (G:=gam) (d+4) (.nm 12) y)∧_∧_∧_:=h
 exact ⟨fun y hy=>fb_Val (d:=d+1) (h'.1.2 y hy),fun y hy=>fb_Cell (d:=d+0) (h'.2.1.2 y hy)⟩
theorem fb_Mach {d:Nat} {x:laws_Mach} (h:Fine (G:=gam) (d+7) (.nm 9) x):Lb_State x.State:=by
 have h':Fine (G:=gam) (d+6) (.nm 10) x.State∧(x.Done.length≤9223372036854775807∧_)∧(x.Out.length≤9223372036854775807∧_)∧_:=h
 exact fb_State (d:=d+0) h'.1
theorem fb_Hard {d:Nat} {x:laws_Hard} (h:Fine (G:=gam) (d+8) (.nm 5) x):Lb_State x.Snap.State:=by
 have h':_∧_∧Fine (G:=gam) (d+7) (.nm 6) x.Log∧Fine (G:=gam) (d+7) (.nm 9) x.Snap∧_:=h
 exact fb_Mach (d:=d+0) h'.2.2.2.1
theorem fb_Peer {d:Nat} {x:laws_Peer} (h:Fine (G:=gam) (d+9) (.nm 4) x):Lb_State x.Hard.Snap.State∧Lb_State x.Now.State:=by
 have h':_∧Fine (G:=gam) (d+8) (.nm 5) x.Hard∧_∧(x.Votes.length≤9223372036854775807∧_)∧(x.Next.length≤9223372036854775807∧_)∧(x.Match.length≤9223372036854775807∧_)∧_∧Fine (G:=gam) (d+8) (.nm 9) x.Now∧_:=h
 exact ⟨fb_Hard (d:=d+0) h'.2.1,fb_Mach (d:=d+1) h'.2.2.2.2.2.2.2.1⟩
theorem fb_Op {d:Nat} {x:laws_Op} (h:Fine (G:=gam) (d+3) (.nm 1) x):∀ b∈x.S,0≤b∧b≤255:=by
 have h':_∧_∧(x.S.length≤9223372036854775807∧∀ b∈x.S,0≤b∧b≤255)∧_:=h
 exact h'.2.2.1.2
def Lb_Prog (x:laws_Prog):Prop:=(∀ y∈x.Start,∀ b∈y.S,0≤b∧b≤255)∧∀ y∈x.Main,∀ b∈y.S,0≤b∧b≤255
theorem fb_Prog {d:Nat} {x:laws_Prog} (h:Fine (G:=gam) (d+5) (.nm 0) x):Lb_Prog x:=by
 have h':_∧_∧(x.Start.length≤9223372036854775807∧∀ y∈x.Start,Fine (G:=gam) (d+3) (.nm 1) y)∧(x.Main.length≤9223372036854775807∧∀ y∈x.Main,Fine (G:=gam) (d+3) (.nm 1) y)∧_:=h
 exact ⟨fun y hy=>fb_Op (d:=d+0) (h'.2.2.1.2 y hy),fun y hy=>fb_Op (d:=d+0) (h'.2.2.2.1.2 y hy)⟩
theorem bOps {l:List laws_Op} (h:l.length≤1048576∧∀ y∈l,Gl_Op 1048576 y) (hb:∀ y∈l,∀ b∈y.S,0≤b∧b≤255):BOps (l.map hc_Op):=by
 refine ⟨by rw [List.length_map]; have:=h.1; omega,fun o ho=>?_⟩
 obtain ⟨y,hy,rfl⟩:=List.mem_map.1 ho
 have:=h.2 y hy
 unfold Gl_Op at this
 exact ⟨hb y hy,by show y.S.length≤_; omega⟩
theorem bProg {x:laws_Prog} (h:Gl_Prog 1048576 x) (hb:Lb_Prog x):BProg (hc_Prog x):=by
 unfold Gl_Prog at h
 obtain ⟨h1,h2,h3,h4⟩:=h
 exact ⟨⟨by show x.Vars.length≤_; have:=h1.1; omega,fun y hy=>by have:=h1.2 y hy; omega⟩,⟨by show x.Cells.length≤_; have:=h2.1; omega,fun y hy=>by have:=h2.2 y hy; omega⟩,bOps h3 hb.1,bOps h4 hb.2⟩
theorem bState {x:laws_State} (h:Gl_State 1048576 x) (hb:Lb_State x):BState (hc_State x):=by
 unfold Gl_State at h
 obtain ⟨h1,h2⟩:=h
 refine ⟨⟨by show (x.Vars.map hc_Val).length≤_; rw [List.length_map]; have:=h1.1; omega,fun v hv=>?_⟩,by show (x.Cells.map hc_Cell).length≤_; rw [List.length_map]; have:=h2.1; omega,fun c hc=>?_⟩
 ·obtain ⟨y,hy,rfl⟩:=List.mem_map.1 hv; exact hb.1 y hy
 ·obtain ⟨y,hy,rfl⟩:=List.mem_map.1 hc; exact hb.2 y hy
theorem bMach {x:laws_Mach} (h:Gl_Mach 1048576 x) (hb:Lb_State x.State):BMach (hc_Mach x):=by
 unfold Gl_Mach at h
 exact ⟨bState h.1 hb,by show x.Done.length≤_; have:=h.2.1; omega,by show x.Out.length≤_; have:=h.2.2; omega⟩
theorem bList {l:List laws_Entry} (h:l.length≤1048576∧∀ y∈l,Gl_Entry 1048576 y):(l.map hc_Entry).length≤2097152∧∀ e∈l.map hc_Entry,e.C.Line.length≤2097152:=by
 refine ⟨by rw [List.length_map]; have:=h.1; omega,fun e he=>?_⟩
 obtain ⟨y,hy,rfl⟩:=List.mem_map.1 he
 have:=h.2 y hy
 unfold Gl_Entry Gl_Cmd at this
 show y.C.Line.length≤_
 omega
theorem bHard {x:laws_Hard} (h:Gl_Hard 1048576 x) (hb:Lb_State x.Snap.State):BHard (hc_Hard x):=by
 unfold Gl_Hard Gl_Log at h
 exact ⟨bList h.1,bMach h.2 hb⟩
theorem bRpc {x:laws_Rpc} (h:Gl_Rpc 1048576 x):BRpc (hc_Rpc x):=by
 unfold Gl_Rpc at h
 exact bList h.1
theorem bPeer {x:laws_Peer} (h:Gl_Peer 1048576 x) (hb:Lb_State x.Hard.Snap.State∧Lb_State x.Now.State):BPeer (hc_Peer x):=by
 unfold Gl_Peer Gl_Disk at h
 obtain ⟨h1,h2,h3,h4,h5,h6,h7⟩:=h
 refine ⟨bHard h1 hb.1,by show x.Votes.length≤_; omega,by show x.Next.length≤_; omega,by show x.Match.length≤_; omega,bMach h5 hb.2,by show x.Disk.Bytes.length≤_; omega,by show (x.Held.map hc_Rpc).length≤_; rw [List.length_map]; have:=h7.1; omega,fun r hr=>?_⟩
 obtain ⟨y,hy,rfl⟩:=List.mem_map.1 hr
 exact bRpc (h7.2 y hy)
theorem gi_up_Prog {x:laws_Prog} (h:Gl_Prog 1048576 x):Gi_Prog 2097152 (hc_Prog x):=by
 have:=hg_Prog h
 unfold Gi_Prog Gi_Op at *
 obtain ⟨h1,h2,h3,h4⟩:=this
 exact ⟨⟨by omega,fun y hy=>by have:=h1.2 y hy; omega⟩,⟨by omega,fun y hy=>by have:=h2.2 y hy; omega⟩,⟨by omega,fun y hy=>by have:=h3.2 y hy; omega⟩,⟨by omega,fun y hy=>by have:=h4.2 y hy; omega⟩⟩
theorem gi_mono_Rpc {x:impl_Rpc} (h:Gi_Rpc 1048576 x):Gi_Rpc 2097152 x:=by
 unfold Gi_Rpc Gi_Entry Gi_Cmd at *
 exact ⟨⟨by have:=h.1.1; omega,fun y hy=>by have:=h.1.2 y hy; omega⟩,by have:=h.2; omega⟩
theorem gi_mono_Mach {x:impl_Mach} (h:Gi_Mach 1048576 x):Gi_Mach 2097152 x:=by
 unfold Gi_Mach Gi_State Gi_Val Gi_Cell Gi_Val at *
 obtain ⟨⟨⟨a1,a2⟩,b1,b2⟩,c1,c2⟩:=h
 exact ⟨⟨⟨by omega,fun y hy=>by have:=a2 y hy; omega⟩,by omega,fun y hy=>by have:=b2 y hy; omega⟩,by omega,by omega⟩
theorem gi_mono_Hard {x:impl_Hard} (h:Gi_Hard 1048576 x):Gi_Hard 2097152 x:=by
 unfold Gi_Hard Gi_Log Gi_Entry Gi_Cmd at *
 obtain ⟨⟨a1,a2⟩,a3⟩:=h
 exact ⟨⟨by omega,fun y hy=>by have:=a2 y hy; omega⟩,gi_mono_Mach a3⟩
theorem gi_mono_Peer {x:impl_Peer} (h:Gi_Peer 1048576 x):Gi_Peer 2097152 x:=by
 unfold Gi_Peer Gi_Disk at *
 obtain ⟨h1,h2,h3,h4,h5,h6,h7,h8⟩:=h
 exact ⟨gi_mono_Hard h1,by omega,by omega,by omega,gi_mono_Mach h5,by omega,by omega,fun y hy=>gi_mono_Rpc (h8 y hy)⟩
def Gl_Sink (M:Nat) (x:laws_Sink):Prop:=x.Text.length≤M
def Gi_Sink (M:Nat) (x:impl_Sink):Prop:=x.Text.length≤M
def Gl_World (M:Nat) (x:laws_World):Prop:=Gl_Prog M x.Prog∧(x.Nodes.length≤M∧∀ y∈x.Nodes,Gl_Peer M y)∧(x.Net.length≤M∧∀ y∈x.Net,Gl_Rpc M y)∧Gl_Sink M x.Sink∧x.Sent.length≤M∧x.Acked.length≤M∧(x.Done.length≤M∧∀ y∈x.Done,Gl_Cmd M y)
def Gi_World (M:Nat) (x:impl_World):Prop:=Gi_Prog M x.Prog∧(x.Nodes.length≤M∧∀ y∈x.Nodes,Gi_Peer M y)∧(x.Net.length≤M∧∀ y∈x.Net,Gi_Rpc M y)∧Gi_Sink M x.Sink∧x.Sent.length≤M∧x.Acked.length≤M∧(x.Done.length≤M∧∀ y∈x.Done,Gi_Cmd M y)
theorem hf_Sink {d:Nat} {x:laws_Sink} (h:Fine (G:=gam) (d+3) (.nm 2) x):Gl_Sink 9223372036854775807 x:=by
 have h':_∧(x.Text.length≤9223372036854775807∧_)∧_:=h
 unfold Gl_Sink
 exact h'.2.1.1
theorem hf_World {d:Nat} {x:laws_World} (h:Fine (G:=gam) (d+11) (.nm 3) x):Gl_World 9223372036854775807 x:=by
 have h':Fine (G:=gam) (d+10) (.nm 0) x.Prog∧_∧(x.Nodes.length≤9223372036854775807∧∀ y∈x.Nodes,Fine (G:=gam) (d+9) (.nm 4) y)∧(x.Net.length≤9223372036854775807∧∀ y∈x.Net,Fine (G:=gam) (d+9) (.nm 14) y)∧Fine (G:=gam) (d+10) (.nm 2) x.Sink∧(x.Sent.length≤9223372036854775807∧_)∧(x.Acked.length≤9223372036854775807∧_)∧(x.Done.length≤9223372036854775807∧∀ y∈x.Done,Fine (G:=gam) (d+9) (.nm 8) y)∧_:=h
 unfold Gl_World
 exact ⟨hf_Prog (d:=d+5) h'.1,⟨h'.2.2.1.1,fun y hy=>hf_Peer (d:=d+0) (h'.2.2.1.2 y hy)⟩,⟨h'.2.2.2.1.1,fun y hy=>hf_Rpc (d:=d+3) (h'.2.2.2.1.2 y hy)⟩,hf_Sink (d:=d+7) h'.2.2.2.2.1,h'.2.2.2.2.2.1.1,h'.2.2.2.2.2.2.1.1,⟨h'.2.2.2.2.2.2.2.1.1,fun y hy=>hf_Cmd (d:=d+6) (h'.2.2.2.2.2.2.2.1.2 y hy)⟩⟩
theorem hsz_PeerS (l:List laws_Peer) (n:Int) (h:l.length≤9223372036854775807∧∀ x∈l,Gl_Peer 9223372036854775807 x) (h0:0≤n) (h1:n≤1048576):∃ r,l_szPeerS l n=some (r,())∧r≤1048576∧(0≤r→l.length≤1048576∧∀ x∈l,Gl_Peer 1048576 x):=by
 have hl:=h.1
 rw [l_szPeerS_eq,w64_id (n:=n - (l.length:Int)) (by omega) (by omega)]
 by_cases c:n - (l.length:Int) < 0
 ·rw [if_pos (decide_eq_true c)]; exact ⟨-1,rfl,by omega,fun h=>by omega⟩
 ·rw [if_neg (by rw [decide_eq_true_eq]; exact c)]
  obtain ⟨r,e1,e2,e3⟩:=sz_rows (fun k i=>l_szPeerS_L1 l k i) l_szPeer l (Gl_Peer 1048576) (by omega) (fun x hx k k0 k1=>hsz_Peer x k (h.2 x hx) k0 k1)
   (fun k=>by show l_szPeerS_L1 l k _=_; rw [l_szPeerS_L1_eq,if_neg (by simp)])
   (fun k i hi=>by show l_szPeerS_L1 l k i=_; rw [l_szPeerS_L1_eq,if_pos (decide_eq_true (by omega)),if_pos (by omega),getD_nat hi,w64_succ hi (by omega)]) (n - l.length) (by omega) (by omega)
  exact ⟨r,e1,e2,fun hr=>⟨by omega,e3 hr⟩⟩
theorem hto_PeerS (l:List laws_Peer) (h:l.length≤1048576∧∀ x∈l,Gl_Peer 1048576 x):l_toPeerS l=some (l.map hc_Peer,()):=by
 rw [l_toPeerS_eq,if_pos (by have:=h.1; rw [room_eq]; omega)]
 have:=to_loop (fun acc i=>l_toPeerS_L1 l acc i) hc_Peer l (fun acc i hi ha=>by
  show l_toPeerS_L1 l acc i=_
  have hl:=h.1
  rw [l_toPeerS_L1_eq,if_pos (decide_eq_true (by omega)),if_pos (by omega),getD_nat hi,hto_Peer _ (h.2 _ (List.getElem_mem hi)),Option.bind_some,if_pos (by omega),w64_succ hi (by omega),Int.toNat_natCast]
  ) (fun acc ha=>by
  show l_toPeerS_L1 l acc _=_
  rw [l_toPeerS_L1_eq,if_neg (by simp)]) (List.replicate (List.length l:Int).toNat z_impl_Peer) (by simp)
 exact this
theorem heq_PeerS (l:List impl_Peer) (h:l.length≤2097152∧∀ x∈l,Gi_Peer 2097152 x):l_eqPeerS l l=some (true,()):=by
 have hl:=h.1
 rw [l_eqPeerS_eq,if_neg (by simp)]
 exact all_loop (fun i=>l_eqPeerS_L1 l l i) l _ (fun i hi=>by
  show l_eqPeerS_L1 l l i=_
  rw [l_eqPeerS_L1_eq,if_pos (decide_eq_true (by omega)),if_pos (by omega),if_pos (by omega),getD_nat hi,heq_Peer _ (h.2 _ (List.getElem_mem hi)),Option.bind_some,if_neg (by simp),w64_succ hi (by omega)]) (by
  show l_eqPeerS_L1 l l _=_
  rw [l_eqPeerS_L1_eq,if_neg (by simp)])
theorem hsz_Sink (x:laws_Sink) (n:Int) (h:Gl_Sink 9223372036854775807 x) (h0:0≤n) (h1:n≤1048576):∃ r,l_szSink x n=some (r,())∧r≤1048576∧(0≤r→Gl_Sink 1048576 x):=by
 unfold Gl_Sink at h
 rw [l_szSink_eq]
 have hl0:=h
 rw [w64_id (n:=n - (x.Text.length:Int)) (by omega) (by omega)]
 by_cases c0:n - (x.Text.length:Int) < 0
 ·rw [if_pos (decide_eq_true c0)]; exact ⟨-1,rfl,by omega,fun h=>by omega⟩
 rw [if_neg (by rw [decide_eq_true_eq]; exact c0)]
 exact ⟨_,rfl,by omega,fun _=>by unfold Gl_Sink; exact by omega⟩
def hc_Sink (x:laws_Sink):impl_Sink:=⟨x.Epoch,x.Text⟩
theorem hto_Sink (x:laws_Sink) (h:Gl_Sink 1048576 x):l_toSink x=some (hc_Sink x,()):=by
 unfold Gl_Sink at h
 rw [l_toSink_eq]
 rfl
theorem hg_Sink {x:laws_Sink} {M:Nat} (h:Gl_Sink M x):Gi_Sink M (hc_Sink x):=by
 unfold Gl_Sink at h
 unfold Gi_Sink hc_Sink
 exact h
theorem heq_Sink (x:impl_Sink) (h:Gi_Sink 2097152 x):l_eqSink x x=some (true,()):=by
 unfold Gi_Sink at h
 rw [l_eqSink_eq]
 simp
theorem hsz_CmdS (l:List laws_Cmd) (n:Int) (h:l.length≤9223372036854775807∧∀ x∈l,Gl_Cmd 9223372036854775807 x) (h0:0≤n) (h1:n≤1048576):∃ r,l_szCmdS l n=some (r,())∧r≤1048576∧(0≤r→l.length≤1048576∧∀ x∈l,Gl_Cmd 1048576 x):=by
 have hl:=h.1
 rw [l_szCmdS_eq,w64_id (n:=n - (l.length:Int)) (by omega) (by omega)]
 by_cases c:n - (l.length:Int) < 0
 ·rw [if_pos (decide_eq_true c)]; exact ⟨-1,rfl,by omega,fun h=>by omega⟩
 ·rw [if_neg (by rw [decide_eq_true_eq]; exact c)]
  obtain ⟨r,e1,e2,e3⟩:=sz_rows (fun k i=>l_szCmdS_L1 l k i) l_szCmd l (Gl_Cmd 1048576) (by omega) (fun x hx k k0 k1=>hsz_Cmd x k (h.2 x hx) k0 k1)
   (fun k=>by show l_szCmdS_L1 l k _=_; rw [l_szCmdS_L1_eq,if_neg (by simp)])
   (fun k i hi=>by show l_szCmdS_L1 l k i=_; rw [l_szCmdS_L1_eq,if_pos (decide_eq_true (by omega)),if_pos (by omega),getD_nat hi,w64_succ hi (by omega)]) (n - l.length) (by omega) (by omega)
  exact ⟨r,e1,e2,fun hr=>⟨by omega,e3 hr⟩⟩
theorem hto_CmdS (l:List laws_Cmd) (h:l.length≤1048576∧∀ x∈l,Gl_Cmd 1048576 x):l_toCmdS l=some (l.map hc_Cmd,()):=by
 rw [l_toCmdS_eq,if_pos (by have:=h.1; rw [room_eq]; omega)]
 have:=to_loop (fun acc i=>l_toCmdS_L1 l acc i) hc_Cmd l (fun acc i hi ha=>by
  show l_toCmdS_L1 l acc i=_
  have hl:=h.1
  rw [l_toCmdS_L1_eq,if_pos (decide_eq_true (by omega)),if_pos (by omega),getD_nat hi,hto_Cmd _ (h.2 _ (List.getElem_mem hi)),Option.bind_some,if_pos (by omega),w64_succ hi (by omega),Int.toNat_natCast]
  ) (fun acc ha=>by
  show l_toCmdS_L1 l acc _=_
  rw [l_toCmdS_L1_eq,if_neg (by simp)]) (List.replicate (List.length l:Int).toNat z_impl_Cmd) (by simp)
 exact this
theorem heq_CmdS (l:List impl_Cmd) (h:l.length≤2097152∧∀ x∈l,Gi_Cmd 2097152 x):l_eqCmdS l l=some (true,()):=by
 have hl:=h.1
 rw [l_eqCmdS_eq,if_neg (by simp)]
 exact all_loop (fun i=>l_eqCmdS_L1 l l i) l _ (fun i hi=>by
  show l_eqCmdS_L1 l l i=_
  rw [l_eqCmdS_L1_eq,if_pos (decide_eq_true (by omega)),if_pos (by omega),if_pos (by omega),getD_nat hi,heq_Cmd _ (h.2 _ (List.getElem_mem hi)),Option.bind_some,if_neg (by simp),w64_succ hi (by omega)]) (by
  show l_eqCmdS_L1 l l _=_
  rw [l_eqCmdS_L1_eq,if_neg (by simp)])
theorem hsz_World (x:laws_World) (n:Int) (h:Gl_World 9223372036854775807 x) (h0:0≤n) (h1:n≤1048576):∃ r,l_szWorld x n=some (r,())∧r≤1048576∧(0≤r→Gl_World 1048576 x):=by
 unfold Gl_World at h
 rw [l_szWorld_eq]
 obtain ⟨r0,e0,f0,g0⟩:=hsz_Prog x.Prog n (h.1) (by omega) (by omega)
 rw [e0,Option.bind_some]
 dsimp only
 by_cases c0:r0 < 0
 ·rw [if_pos (decide_eq_true c0)]; exact ⟨-1,rfl,by omega,fun h=>by omega⟩
 rw [if_neg (by rw [decide_eq_true_eq]; exact c0)]
 obtain ⟨r1,e1,f1,g1⟩:=hsz_PeerS x.Nodes r0 (h.2.1) (by omega) (by omega)
 rw [e1,Option.bind_some]
 dsimp only
 by_cases c1:r1 < 0
 ·rw [if_pos (decide_eq_true c1)]; exact ⟨-1,rfl,by omega,fun h=>by omega⟩
 rw [if_neg (by rw [decide_eq_true_eq]; exact c1)]
 obtain ⟨r2,e2,f2,g2⟩:=hsz_RpcS x.Net r1 (h.2.2.1) (by omega) (by omega)
 rw [e2,Option.bind_some]
 dsimp only
 by_cases c2:r2 < 0
 ·rw [if_pos (decide_eq_true c2)]; exact ⟨-1,rfl,by omega,fun h=>by omega⟩
 rw [if_neg (by rw [decide_eq_true_eq]; exact c2)]
 obtain ⟨r3,e3,f3,g3⟩:=hsz_Sink x.Sink r2 (h.2.2.2.1) (by omega) (by omega)
 rw [e3,Option.bind_some]
 dsimp only
 by_cases c3:r3 < 0
 ·rw [if_pos (decide_eq_true c3)]; exact ⟨-1,rfl,by omega,fun h=>by omega⟩
 rw [if_neg (by rw [decide_eq_true_eq]; exact c3)]
 obtain ⟨r4,e4,f4,g4⟩:=hsz_IntS x.Sent r3 (h.2.2.2.2.1) (by omega) (by omega)
 rw [e4,Option.bind_some]
 dsimp only
 by_cases c4:r4 < 0
 ·rw [if_pos (decide_eq_true c4)]; exact ⟨-1,rfl,by omega,fun h=>by omega⟩
 rw [if_neg (by rw [decide_eq_true_eq]; exact c4)]
 obtain ⟨r5,e5,f5,g5⟩:=hsz_IntS x.Acked r4 (h.2.2.2.2.2.1) (by omega) (by omega)
 rw [e5,Option.bind_some]
 dsimp only
 by_cases c5:r5 < 0
 ·rw [if_pos (decide_eq_true c5)]; exact ⟨-1,rfl,by omega,fun h=>by omega⟩
 rw [if_neg (by rw [decide_eq_true_eq]; exact c5)]
 obtain ⟨r6,e6,f6,g6⟩:=hsz_CmdS x.Done r5 (h.2.2.2.2.2.2) (by omega) (by omega)
 rw [e6,Option.bind_some]
 dsimp only
 by_cases c6:r6 < 0
 ·rw [if_pos (decide_eq_true c6)]; exact ⟨-1,rfl,by omega,fun h=>by omega⟩
 rw [if_neg (by rw [decide_eq_true_eq]; exact c6)]
 exact ⟨_,rfl,by omega,fun _=>by unfold Gl_World; exact ⟨g0 (by omega),g1 (by omega),g2 (by omega),g3 (by omega),g4 (by omega),g5 (by omega),g6 (by omega)⟩⟩
def hc_World (x:laws_World):impl_World:=⟨(hc_Prog x.Prog),x.Size,(x.Nodes.map hc_Peer),(x.Net.map hc_Rpc),(hc_Sink x.Sink),x.Sent,x.Acked,(x.Done.map hc_Cmd)⟩
theorem hto_World (x:laws_World) (h:Gl_World 1048576 x):l_toWorld x=some (hc_World x,()):=by
 unfold Gl_World at h
 rw [l_toWorld_eq]
 rw [hto_Prog _ (h.1),Option.bind_some]
 rw [hto_PeerS _ (h.2.1),Option.bind_some]
 rw [hto_RpcS _ (h.2.2.1),Option.bind_some]
 rw [hto_Sink _ (h.2.2.2.1),Option.bind_some]
 rw [hto_IntS _ (h.2.2.2.2.1),Option.bind_some]
 rw [hto_IntS _ (h.2.2.2.2.2.1),Option.bind_some]
 rw [hto_CmdS _ (h.2.2.2.2.2.2),Option.bind_some]
 rfl
theorem hg_World {x:laws_World} {M:Nat} (h:Gl_World M x):Gi_World M (hc_World x):=by
 unfold Gl_World at h
 unfold Gi_World hc_World
 exact ⟨hg_Prog (h.1),⟨by rw [List.length_map]; exact (h.2.1).1,fun y hy=>by obtain ⟨x',hx',rfl⟩:=List.mem_map.1 hy; exact hg_Peer ((h.2.1).2 x' hx')⟩,⟨by rw [List.length_map]; exact (h.2.2.1).1,fun y hy=>by obtain ⟨x',hx',rfl⟩:=List.mem_map.1 hy; exact hg_Rpc ((h.2.2.1).2 x' hx')⟩,hg_Sink (h.2.2.2.1),h.2.2.2.2.1,h.2.2.2.2.2.1,⟨by rw [List.length_map]; exact (h.2.2.2.2.2.2).1,fun y hy=>by obtain ⟨x',hx',rfl⟩:=List.mem_map.1 hy; exact hg_Cmd ((h.2.2.2.2.2.2).2 x' hx')⟩⟩
theorem heq_World (x:impl_World) (h:Gi_World 2097152 x):l_eqWorld x x=some (true,()):=by
 unfold Gi_World at h
 rw [l_eqWorld_eq]
 rw [heq_Prog _ (h.1),heq_PeerS _ (h.2.1),heq_RpcS _ (h.2.2.1),heq_Sink _ (h.2.2.2.1),heq_IntS _ (h.2.2.2.2.1),heq_IntS _ (h.2.2.2.2.2.1),heq_CmdS _ (h.2.2.2.2.2.2)]
 simp
def BWorld (w:impl_World):Prop:=BProg w.Prog∧(w.Nodes.length≤2097152∧∀ n∈w.Nodes,BPeer n)∧(w.Net.length≤2097152∧∀ r∈w.Net,BRpc r)∧w.Sent.length≤2097152∧w.Acked.length≤2097152∧w.Done.length≤2097152∧∀ c∈w.Done,c.Line.length≤2097152
def sinkB (s:impl_Sink):Bool:=decide (0≤s.Epoch∧s.Epoch≤300) && decide ((s.Text.length:Int)≤1500)
theorem s_SinkOk_val (s:impl_Sink):s_SinkOk s=some (sinkB s,()):=by
 rw [s_SinkOk_eq,s_l1In_ok,Option.bind_some]
 unfold sinkB
 cases decide (0≤s.Epoch∧s.Epoch≤300) <;> rfl
theorem i_SinkOk_val (s:impl_Sink):i_SinkOk s=some (sinkB s,()):=by
 rw [i_SinkOk_eq,i_isIndex_val,Option.bind_some]
 unfold sinkB
 cases decide (0≤s.Epoch∧s.Epoch≤300) <;> rfl
theorem s_l26Nums_ok (l:List Int) (hl:l.length≤2097152):s_l26Nums l=some (decide ((l.length:Int)=3) && !numsBad l 0 100000,()):=by
 rw [s_l26Nums_eq]
 have f:=find_loopN (fun i=>s_l26Nums_L1 l i) l.length (fun i=>!decide (0≤l.getD i 0∧l.getD i 0≤100000)) (some (false,())) (some (decide ((l.length:Int)=3),())) (fun i hi=>by
  show s_l26Nums_L1 l i=_
  rw [s_l26Nums_L1_eq,if_pos (decide_eq_true (by omega)),if_pos (by omega),w64_succ hi (by omega),Int.toNat_natCast,s_l1In_ok,Option.bind_some]) (by
  show s_l26Nums_L1 l _=_
  rw [s_l26Nums_L1_eq,if_neg (by simp)])
 rw [f,anyB_list l 0 (fun n=>!decide (0≤n∧n≤100000))]
 have e:l.any (fun n=>!decide (0≤n∧n≤100000))=numsBad l 0 100000:=rfl
 rw [e]
 cases numsBad l 0 100000 <;> cases decide ((l.length:Int)=3) <;> rfl
noncomputable def nodeBad (w:impl_World) (i:Nat):Bool:=!decide ((w.Nodes.getD i z_impl_Peer).Id=(i:Int)) || !peerB w.Prog (w.Nodes.getD i z_impl_Peer) w.Size
noncomputable def worldB (w:impl_World):Bool :=
 progB w.Prog && (decide (1≤w.Size∧w.Size≤5) && (decide ((w.Nodes.length:Int)=w.Size) && (!decide ((w.Net.length:Int) > 40) && (sinkB w.Sink && (!anyB (nodeBad w) w.Nodes.length && (!w.Net.any (fun r=>!rpcB r w.Size) &&
 ((decide ((w.Sent.length:Int)=3) && !numsBad w.Sent 0 100000) && ((decide ((w.Acked.length:Int)=3) && !numsBad w.Acked 0 100000) && (decide ((w.Done.length:Int)≤300) && !w.Done.any (fun c=>!cmdOk c))))))))))
theorem i_WorldOk_ok (w:impl_World) (h:BWorld w):i_WorldOk w=some (worldB w,()):=by
 obtain ⟨h1,h2,h3,h4,h5,h6,h7⟩:=h
 have h21:=h2.1
 have h31:=h3.1
 have hnet:x_slices_ContainsFunc_impl_Rpc_WorldOk_1 w.Net w=some (w.Net.any (fun r=>!rpcB r w.Size),w,()):=by
  rw [x_slices_ContainsFunc_impl_Rpc_WorldOk_1_eq,x_slices_IndexFunc_impl_Rpc_WorldOk_1_eq]
  obtain ⟨j,e,e1,_⟩:=index_loop (fun i=>x_slices_IndexFunc_impl_Rpc_WorldOk_1_L1 w.Net (w.Net.length:Int) i w) (w,()) w.Net.length (fun i=>!rpcB (w.Net.getD i z_impl_Rpc) w.Size) (fun i hi=>by
   show x_slices_IndexFunc_impl_Rpc_WorldOk_1_L1 w.Net _ i w=_
   rw [x_slices_IndexFunc_impl_Rpc_WorldOk_1_L1_eq,if_pos (decide_eq_true (by omega)),if_pos (by omega),w64_succ hi (by omega),Int.toNat_natCast,i_WorldOk_1_eq,(rpc_ok _ _ (by rw [getD_lt hi]; exact h3.2 _ (List.getElem_mem hi))).2,Option.bind_some,Option.bind_some]) (by
   show x_slices_IndexFunc_impl_Rpc_WorldOk_1_L1 w.Net _ _ w=_
   rw [x_slices_IndexFunc_impl_Rpc_WorldOk_1_L1_eq,if_neg (by simp)])
  rw [e,Option.bind_some]
  dsimp only
  rw [e1,anyB_list w.Net z_impl_Rpc (fun r=>!rpcB r w.Size)]
 have hdone:x_slices_ContainsFunc_impl_Cmd_WorldOk_2 w.Done=some (w.Done.any (fun c=>!cmdOk c),()):=by
  rw [x_slices_ContainsFunc_impl_Cmd_WorldOk_2_eq,x_slices_IndexFunc_impl_Cmd_WorldOk_2_eq]
  obtain ⟨j,e,e1,_⟩:=index_loop (fun i=>x_slices_IndexFunc_impl_Cmd_WorldOk_2_L1 w.Done (w.Done.length:Int) i) () w.Done.length (fun i=>!cmdOk (w.Done.getD i z_impl_Cmd)) (fun i hi=>by
   show x_slices_IndexFunc_impl_Cmd_WorldOk_2_L1 w.Done _ i=_
   rw [x_slices_IndexFunc_impl_Cmd_WorldOk_2_L1_eq,if_pos (decide_eq_true (by omega)),if_pos (by omega),w64_succ hi (by omega),Int.toNat_natCast,i_WorldOk_2_eq,i_CmdOk_ok,Option.bind_some,Option.bind_some]) (by
   show x_slices_IndexFunc_impl_Cmd_WorldOk_2_L1 w.Done _ _=_
   rw [x_slices_IndexFunc_impl_Cmd_WorldOk_2_L1_eq,if_neg (by simp)])
  rw [e,Option.bind_some]
  dsimp only
  rw [e1,anyB_list w.Done z_impl_Cmd (fun c=>!cmdOk c)]
 have f1:=find_loopN (fun i=>i_WorldOk_L1 w.Nodes (w.Nodes.length:Int) i w) w.Nodes.length (nodeBad w) (some (false,())) (some (!w.Net.any (fun r=>!rpcB r w.Size) && ((decide ((w.Sent.length:Int)=3) && !numsBad w.Sent 0 100000) && ((decide ((w.Acked.length:Int)=3) && !numsBad w.Acked 0 100000) && (decide ((w.Done.length:Int)≤300) && !w.Done.any (fun c=>!cmdOk c)))),())) (fun i hi=>by
  show i_WorldOk_L1 w.Nodes _ i w=_
  rw [i_WorldOk_L1_eq,if_pos (decide_eq_true (by omega)),if_pos (by omega),w64_succ hi (by omega),Int.toNat_natCast,i_PeerOk_ok _ _ _ h1 (by rw [getD_lt hi]; exact h2.2 _ (List.getElem_mem hi)),Option.bind_some]
  unfold nodeBad
  cases decide ((w.Nodes.getD i z_impl_Peer).Id=(i:Int)) <;> rfl) (by
  show i_WorldOk_L1 w.Nodes _ _ w=_
  rw [i_WorldOk_L1_eq,if_neg (by simp),hnet,Option.bind_some]
  dsimp only
  rw [i_numbersOk_ok _ _ _ _ h4,i_numbersOk_ok _ _ _ _ h5,hdone,Option.bind_some,Option.bind_some,Option.bind_some]
  dsimp only
  cases w.Net.any (fun r=>!rpcB r w.Size) <;> cases (decide ((w.Sent.length:Int)=3) && !numsBad w.Sent 0 100000) <;> cases (decide ((w.Acked.length:Int)=3) && !numsBad w.Acked 0 100000) <;> cases decide ((w.Done.length:Int)≤300) <;> rfl)
 rw [i_WorldOk_eq,i_ProgOk_ok _ h1,i_in_ok,i_SinkOk_val]
 simp only [Option.bind_some]
 rw [f1]
 unfold worldB
 cases progB w.Prog <;> cases decide (1≤w.Size∧w.Size≤5) <;> cases decide ((w.Nodes.length:Int)=w.Size) <;> cases decide ((w.Net.length:Int) > 40) <;> cases sinkB w.Sink <;> cases anyB (nodeBad w) w.Nodes.length <;> rfl
theorem s_WorldOk_ok (w:impl_World) (h:BWorld w):s_WorldOk w=some (worldB w,()):=by
 obtain ⟨h1,h2,h3,h4,h5,h6,h7⟩:=h
 have h21:=h2.1
 have h31:=h3.1
 rw [s_WorldOk_eq,s_ProgOk_ok _ h1,s_l1In_ok,s_SinkOk_val,s_l26Nums_ok _ h4,s_l26Nums_ok _ h5]
 simp only [Option.bind_some]
 unfold worldB
 cases progB w.Prog with
 | false=>rfl
 | true =>
 cases decide (1≤w.Size∧w.Size≤5) with
 | false=>rfl
 | true =>
 by_cases hn:(w.Nodes.length:Int)=w.Size
 case neg=>rw [decide_eq_false hn]; rfl
 have f3:=find_loopN (fun i=>s_WorldOk_L3 i w) w.Done.length (fun i=>!cmdOk (w.Done.getD i z_impl_Cmd)) (some (false,())) (some (true,())) (fun i hi=>by
  show s_WorldOk_L3 i w=_
  rw [s_WorldOk_L3_eq,if_pos (decide_eq_true (by omega)),if_pos (by omega),w64_succ hi (by omega),Int.toNat_natCast,s_CmdOk_ok _ (by rw [getD_lt hi]; have:=h7 _ (List.getElem_mem hi); omega),Option.bind_some]) (by
  show s_WorldOk_L3 _ w=_
  rw [s_WorldOk_L3_eq,if_neg (by simp)])
 have f2:=find_loopN (fun i=>s_WorldOk_L2 i w) w.Net.length (fun i=>!rpcB (w.Net.getD i z_impl_Rpc) w.Size) (some (false,())) (s_WorldOk_L3 0 w) (fun i hi=>by
  show s_WorldOk_L2 i w=_
  rw [s_WorldOk_L2_eq,if_pos (decide_eq_true (by omega)),if_pos (by omega),w64_succ hi (by omega),Int.toNat_natCast,(rpc_ok _ _ (by rw [getD_lt hi]; exact h3.2 _ (List.getElem_mem hi))).1,Option.bind_some]) (by
  show s_WorldOk_L2 _ w=_
  rw [s_WorldOk_L2_eq,if_neg (by simp)])
 have f1:=find_loopN (fun i=>s_WorldOk_L1 i w) w.Nodes.length (nodeBad w) (some (false,())) (s_WorldOk_L2 0 w) (fun i hi=>by
  show s_WorldOk_L1 i w=_
  rw [s_WorldOk_L1_eq,if_pos (decide_eq_true (by omega)),if_pos (by omega),w64_succ hi (by omega),Int.toNat_natCast,s_PeerOk_ok _ _ _ h1 (by rw [getD_lt hi]; exact h2.2 _ (List.getElem_mem hi)),Option.bind_some,if_pos (c:=0≤(i:Int)∧(i:Int) < (w.Nodes.length:Int)) (by omega)]
  unfold nodeBad
  cases decide ((w.Nodes.getD i z_impl_Peer).Id=(i:Int)) <;> rfl) (by
  show s_WorldOk_L1 _ w=_
  rw [s_WorldOk_L1_eq,if_neg (by rw [decide_eq_true_eq]; omega)])
 have e3:decide ((w.Done.length:Int) > 300) = !decide ((w.Done.length:Int)≤300):=by
  by_cases g:(w.Done.length:Int)≤300
  ·rw [decide_eq_true g,decide_eq_false (by omega)]; rfl
  ·rw [decide_eq_false g,decide_eq_true (by omega)]; rfl
 rw [f1,f2,f3,anyB_list w.Done z_impl_Cmd (fun c=>!cmdOk c),anyB_list w.Net z_impl_Rpc (fun r=>!rpcB r w.Size),e3,decide_eq_true hn]
 cases decide ((w.Net.length:Int) > 40) with
 | true=>rfl
 | false =>
 cases sinkB w.Sink with
 | false=>rfl
 | true =>
 cases (decide ((w.Sent.length:Int)=3) && !numsBad w.Sent 0 100000) <;> cases (decide ((w.Acked.length:Int)=3) && !numsBad w.Acked 0 100000) <;> cases decide ((w.Done.length:Int)≤300) <;> cases anyB (nodeBad w) w.Nodes.length <;> cases w.Net.any (fun r=>!rpcB r w.Size) <;> cases w.Done.any (fun c=>!cmdOk c) <;> rfl
end Go.Proofs.YtcngnpahpbaagaaGreatDoor.E.TH
