/- What the pure statement needs (2). No condition. -/
import Derived.Test.YtcngnpahpbaagaaGreatDoorM1
import Derived.Test.YtcngnpahpbaagaaGreatDoorTHe1
import Derived.Test.YtcngnpahpbaagaaGreatDoorTHe2
import Derived.Test.YtcngnpahpbaagaaGreatDoorTHe3
namespace Go.Proofs.YtcngnpahpbaagaaGreatDoor.E.TH
open Go.Proofs.YtcngnpahpbaagaaGreatDoor.E
set_option linter.unusedVariables false
def entOk (m:Int) (e:impl_Entry):Bool:=decide (0≤e.Term∧e.Term≤m) && cmdOk e.C
def entriesOk (l:List impl_Entry) (m:Int):Bool:=decide ((l.length:Int)≤40) && l.all (entOk m)
theorem s_l19List_ok (l:List impl_Entry) (m:Int) (hl:l.length≤4294967296) (hw:LinesOk l):s_l19List l m=some (entriesOk l m,()):=by
 rw [s_l19List_eq]
 have key:∀ (d i:Nat),i+d=l.length→s_l19List_L1 l m i=some ((l.drop i).all (entOk m) && decide ((l.length:Int)≤40),()):=by
  intro d
  induction d with
  | zero =>
   intro i hd
   rw [s_l19List_L1_eq,if_neg (by rw [decide_eq_true_eq]; omega),List.drop_eq_nil_of_le (by omega)]; rfl
  | succ d ih =>
   intro i hd
   have hi:i < l.length:=by omega
   have c:(0:Int)≤(i:Int)∧(i:Int) < (l.length:Int):=by omega
   rw [s_l19List_L1_eq,if_pos (decide_eq_true c.2),getD_nat hi,w64_succ hi (by omega),List.drop_eq_getElem_cons hi]
   simp only [if_pos c,s_l1In_ok,s_CmdOk_ok _ (hw _ (List.getElem_mem hi)),Option.bind_some]
   rw [ih (i+1) (by omega),List.all_cons]
   unfold entOk
   cases decide (0≤l[i].Term∧l[i].Term≤m) with
   | false=>rfl
   | true=>cases cmdOk l[i].C <;> rfl
 have:=key l.length 0 (by omega)
 unfold entriesOk
 rw [Bool.and_comm]
 simpa using this
theorem i_entriesOk_1_ok (e:impl_Entry) (m:Int):i_entriesOk_1 e m=some (!entOk m e,m,()):=by
 rw [i_entriesOk_1_eq,i_in_ok,i_CmdOk_ok]
 unfold entOk
 simp only [Option.bind_some]
 cases decide (0≤e.Term∧e.Term≤m) <;> rfl
theorem i_entriesOk_ok (l:List impl_Entry) (m:Int) (hl:l.length≤4294967296):i_entriesOk l m=some (entriesOk l m,()):=by
 have key:∀ (d i:Nat),i+d=l.length→∃ r,x_slices_IndexFunc_impl_Entry_entriesOk_1_L1 l (l.length:Int) i m=some (r,m,())∧(r ≥ 0 ↔ (l.drop i).all (entOk m)=false):=by
  intro d
  induction d with
  | zero =>
   intro i hd
   rw [x_slices_IndexFunc_impl_Entry_entriesOk_1_L1_eq,if_neg (by rw [decide_eq_true_eq]; omega),List.drop_eq_nil_of_le (by omega)]
   exact ⟨-1,rfl,by simp⟩
  | succ d ih =>
   intro i hd
   have hi:i < l.length:=by omega
   have c:(0:Int)≤(i:Int)∧(i:Int) < (l.length:Int):=by omega
   rw [x_slices_IndexFunc_impl_Entry_entriesOk_1_L1_eq,if_pos (decide_eq_true c.2),getD_nat hi,w64_succ hi (by omega),List.drop_eq_getElem_cons hi]
   simp only [if_pos c,i_entriesOk_1_ok,Option.bind_some,List.all_cons]
   cases entOk m l[i] with
   | false=>exact ⟨_,rfl,by simp⟩
   | true =>
    obtain ⟨r,e1,e2⟩:=ih (i+1) (by omega)
    exact ⟨r,by simpa using e1,by simpa using e2⟩
 obtain ⟨r,e1,e2⟩:=key l.length 0 (by omega)
 rw [i_entriesOk_eq]
 unfold entriesOk
 by_cases h:(l.length:Int)≤40
 ·have e1':x_slices_IndexFunc_impl_Entry_entriesOk_1_L1 l (l.length:Int) 0 m=some (r,m,()):=e1
  rw [if_pos (decide_eq_true h),decide_eq_true h,x_slices_ContainsFunc_impl_Entry_entriesOk_1_eq,x_slices_IndexFunc_impl_Entry_entriesOk_1_eq,e1']
  simp only [Option.bind_some,Bool.true_and]
  rw [List.drop_zero] at e2
  cases hb:l.all (entOk m) with
  | false=>rw [decide_eq_true (e2.2 hb)]; rfl
  | true=>rw [decide_eq_false (fun h=>by rw [e2.1 h] at hb; cases hb)]; rfl
 ·rw [if_neg (by rw [decide_eq_true_eq]; exact h),decide_eq_false h]; rfl
def lastI (l:impl_Log):Int:=if l.List.length=0 then l.Base else w64 (l.Base+l.List.length)
def lastT (l:impl_Log):Int:=if l.List.length=0 then l.BaseTerm else (l.List.getD (l.List.length - 1) z_impl_Entry).Term
theorem s_LastOf_ok (l:impl_Log) (hl:l.List.length≤2097152):s_LastOf l=some (lastI l,lastT l,()):=by
 rw [s_LastOf_eq]
 unfold lastI lastT
 by_cases h:l.List.length=0
 ·rw [if_pos (decide_eq_true (by omega)),if_pos h,if_pos h]
 ·have w1:w64 ((l.List.length:Int) - 1)=((l.List.length - 1:Nat):Int):=by rw [w64_id (by omega) (by omega)]; omega
  rw [if_neg (by rw [decide_eq_true_eq]; omega),w1,if_pos (by omega),if_neg h,if_neg h,Int.toNat_natCast]
theorem i_LastOf_ok (l:impl_Log) (hl:l.List.length≤2097152):i_LastOf l=some (lastI l,lastT l,()):=by
 have:=s_LastOf_ok l hl
 rw [s_LastOf_eq] at this
 rw [i_LastOf_eq]; exact this
def BLog (l:impl_Log):Prop:=l.List.length≤2097152∧∀ e∈l.List,e.C.Line.length≤2097152
theorem BLog.lines {l:impl_Log} (h:BLog l):LinesOk l.List:=fun e he=>by have:=h.2 e he; omega
def BMach (m:impl_Mach):Prop:=BState m.State∧m.Done.length≤2097152∧m.Out.length≤2097152
def BHard (h:impl_Hard):Prop:=BLog h.Log∧BMach h.Snap
noncomputable def hardB (p:impl_Prog) (h:impl_Hard):Bool :=
 decide (0≤h.Term∧h.Term≤300) && (decide (-1≤h.Vote∧h.Vote≤4) && (logOk h.Log && (decide (lastT h.Log≤h.Term) && machB p h.Snap)))
theorem i_isIndex_val (n:Int):i_isIndex n=some (decide (0≤n∧n≤300),()):=by rw [i_isIndex_eq,i_in_ok]; rfl
theorem i_isVote_val (n:Int):i_isVote n=some (decide (-1≤n∧n≤4),()):=by rw [i_isVote_eq,i_in_ok]; rfl
theorem i_HardOk_ok (p:impl_Prog) (h:impl_Hard) (hp:BProg p) (hb:BHard h):i_HardOk p h=some (hardB p h,()):=by
 rw [i_HardOk_eq,i_LastOf_ok _ hb.1.1,i_isIndex_val,i_isVote_val,i_LogOk_ok _ (by have:=hb.1.1; omega),i_MachOk_ok p _ hp hb.2.1 hb.2.2.1]
 simp only [Option.bind_some]
 unfold hardB
 cases decide (0≤h.Term∧h.Term≤300) <;> cases decide (-1≤h.Vote∧h.Vote≤4) <;> cases logOk h.Log <;> cases decide (lastT h.Log≤h.Term) <;> rfl
theorem s_HardOk_ok (p:impl_Prog) (h:impl_Hard) (hp:BProg p) (hb:BHard h):s_HardOk p h=some (hardB p h,()):=by
 rw [s_HardOk_eq,s_LastOf_ok _ hb.1.1,s_l1In_ok,s_l1In_ok,s_LogOk_ok _ (by have:=hb.1.1; omega) hb.1.lines,s_MachOk_ok p _ hp hb.2.1 hb.2.2.1]
 simp only [Option.bind_some]
 unfold hardB
 cases decide (0≤h.Term∧h.Term≤300) <;> cases decide (-1≤h.Vote∧h.Vote≤4) <;> cases logOk h.Log <;> cases decide (lastT h.Log≤h.Term) <;> rfl
theorem fb_Val {d:Nat} {x:laws_Val} (h:Fine (G:=gam) (d+3) (.nm 11) x):Bt x.S:=by
 have h':_∧_∧(x.S.length≤9223372036854775807∧∀ b∈x.S,0≤b∧b≤255)∧_:=h
 exact h'.2.2.1.2
theorem fb_Cell {d:Nat} {x:laws_Cell} (h:Fine (G:=gam) (d+4) (.nm 12) x):Bt x.Val.S:=by
 have h':_∧(x.Key.length≤9223372036854775807∧_)∧Fine (G:=gam) (d+3) (.nm 11) x.Val∧_:=h
 exact fb_Val (d:=d+0) h'.2.2.1
def Lb_State (x:laws_State):Prop:=(∀ y∈x.Vars,Bt y.S)∧∀ y∈x.Cells,Bt y.Val.S
theorem fb_State {d:Nat} {x:laws_State} (h:Fine (G:=gam) (d+6) (.nm 10) x):Lb_State x:=by
 have h':(x.Vars.length≤9223372036854775807∧∀ y∈x.Vars,Fine (G:=gam) (d+4) (.nm 11) y)∧(x.Cells.length≤9223372036854775807∧∀ y∈x.Cells,Fine (G:=gam) (d+4) (.nm 12) y)∧_∧_∧_:=h
 exact ⟨fun y hy=>fb_Val (d:=d+1) (h'.1.2 y hy),fun y hy=>fb_Cell (d:=d+0) (h'.2.1.2 y hy)⟩
theorem fb_Mach {d:Nat} {x:laws_Mach} (h:Fine (G:=gam) (d+7) (.nm 9) x):Lb_State x.State:=by
 have h':Fine (G:=gam) (d+6) (.nm 10) x.State∧(x.Done.length≤9223372036854775807∧_)∧(x.Out.length≤9223372036854775807∧_)∧_:=h
 exact fb_State (d:=d+0) h'.1
theorem fb_Hard {d:Nat} {x:laws_Hard} (h:Fine (G:=gam) (d+8) (.nm 5) x):Lb_State x.Snap.State:=by
 have h':_∧_∧Fine (G:=gam) (d+7) (.nm 6) x.Log∧Fine (G:=gam) (d+7) (.nm 9) x.Snap∧_:=h
 exact fb_Mach (d:=d+0) h'.2.2.2.1
theorem fb_Op {d:Nat} {x:laws_Op} (h:Fine (G:=gam) (d+3) (.nm 1) x):∀ b∈x.S,0≤b∧b≤255:=by
 have h':_∧_∧(x.S.length≤9223372036854775807∧∀ b∈x.S,0≤b∧b≤255)∧_:=h
 exact h'.2.2.1.2
def Lb_Prog (x:laws_Prog):Prop:=(∀ y∈x.Start,∀ b∈y.S,0≤b∧b≤255)∧∀ y∈x.Main,∀ b∈y.S,0≤b∧b≤255
theorem fb_Prog {d:Nat} {x:laws_Prog} (h:Fine (G:=gam) (d+5) (.nm 0) x):Lb_Prog x:=by
 have h':_∧_∧(x.Start.length≤9223372036854775807∧∀ y∈x.Start,Fine (G:=gam) (d+3) (.nm 1) y)∧(x.Main.length≤9223372036854775807∧∀ y∈x.Main,Fine (G:=gam) (d+3) (.nm 1) y)∧_:=h
 exact ⟨fun y hy=>fb_Op (d:=d+0) (h'.2.2.1.2 y hy),fun y hy=>fb_Op (d:=d+0) (h'.2.2.2.1.2 y hy)⟩
theorem bOps {l:List laws_Op} (h:l.length≤1048576∧∀ y∈l,Gl_Op 1048576 y) (hb:∀ y∈l,∀ b∈y.S,0≤b∧b≤255):BOps (l.map hc_Op):=by
 refine ⟨by rw [List.length_map]; have:=h.1; omega,fun o ho=>?_⟩
 obtain ⟨y,hy,rfl⟩:=List.mem_map.1 ho
 have:=h.2 y hy
 unfold Gl_Op at this
 exact ⟨hb y hy,by show y.S.length≤_; omega⟩
theorem bProg {x:laws_Prog} (h:Gl_Prog 1048576 x) (hb:Lb_Prog x):BProg (hc_Prog x):=by
 unfold Gl_Prog at h
 obtain ⟨h1,h2,h3,h4⟩:=h
 exact ⟨⟨by show x.Vars.length≤_; have:=h1.1; omega,fun y hy=>by have:=h1.2 y hy; omega⟩,⟨by show x.Cells.length≤_; have:=h2.1; omega,fun y hy=>by have:=h2.2 y hy; omega⟩,bOps h3 hb.1,bOps h4 hb.2⟩
theorem bState {x:laws_State} (h:Gl_State 1048576 x) (hb:Lb_State x):BState (hc_State x):=by
 unfold Gl_State at h
 obtain ⟨h1,h2⟩:=h
 refine ⟨⟨by show (x.Vars.map hc_Val).length≤_; rw [List.length_map]; have:=h1.1; omega,fun v hv=>?_⟩,by show (x.Cells.map hc_Cell).length≤_; rw [List.length_map]; have:=h2.1; omega,fun c hc=>?_⟩
 ·obtain ⟨y,hy,rfl⟩:=List.mem_map.1 hv; exact hb.1 y hy
 ·obtain ⟨y,hy,rfl⟩:=List.mem_map.1 hc; exact hb.2 y hy
theorem bMach {x:laws_Mach} (h:Gl_Mach 1048576 x) (hb:Lb_State x.State):BMach (hc_Mach x):=by
 unfold Gl_Mach at h
 exact ⟨bState h.1 hb,by show x.Done.length≤_; have:=h.2.1; omega,by show x.Out.length≤_; have:=h.2.2; omega⟩
theorem bList {l:List laws_Entry} (h:l.length≤1048576∧∀ y∈l,Gl_Entry 1048576 y):(l.map hc_Entry).length≤2097152∧∀ e∈l.map hc_Entry,e.C.Line.length≤2097152:=by
 refine ⟨by rw [List.length_map]; have:=h.1; omega,fun e he=>?_⟩
 obtain ⟨y,hy,rfl⟩:=List.mem_map.1 he
 have:=h.2 y hy
 unfold Gl_Entry Gl_Cmd at this
 show y.C.Line.length≤_
 omega
theorem bHard {x:laws_Hard} (h:Gl_Hard 1048576 x) (hb:Lb_State x.Snap.State):BHard (hc_Hard x):=by
 unfold Gl_Hard Gl_Log at h
 exact ⟨bList h.1,bMach h.2 hb⟩
theorem gi_up_Prog {x:laws_Prog} (h:Gl_Prog 1048576 x):Gi_Prog 2097152 (hc_Prog x):=by
 have:=hg_Prog h
 unfold Gi_Prog Gi_Op at *
 obtain ⟨h1,h2,h3,h4⟩:=this
 exact ⟨⟨by omega,fun y hy=>by have:=h1.2 y hy; omega⟩,⟨by omega,fun y hy=>by have:=h2.2 y hy; omega⟩,⟨by omega,fun y hy=>by have:=h3.2 y hy; omega⟩,⟨by omega,fun y hy=>by have:=h4.2 y hy; omega⟩⟩
theorem gi_mono_Mach {x:impl_Mach} (h:Gi_Mach 1048576 x):Gi_Mach 2097152 x:=by
 unfold Gi_Mach Gi_State Gi_Val Gi_Cell Gi_Val at *
 obtain ⟨⟨⟨a1,a2⟩,b1,b2⟩,c1,c2⟩:=h
 exact ⟨⟨⟨by omega,fun y hy=>by have:=a2 y hy; omega⟩,by omega,fun y hy=>by have:=b2 y hy; omega⟩,by omega,by omega⟩
theorem gi_mono_Hard {x:impl_Hard} (h:Gi_Hard 1048576 x):Gi_Hard 2097152 x:=by
 unfold Gi_Hard Gi_Log Gi_Entry Gi_Cmd at *
 obtain ⟨⟨a1,a2⟩,a3⟩:=h
 exact ⟨⟨by omega,fun y hy=>by have:=a2 y hy; omega⟩,gi_mono_Mach a3⟩
def putNum:Nat→Int→List Int
 | 0,n=>[n % 256]
 | d+1,n=>if n > 127 then (n % 128+128) :: putNum d (n / 128) else [n % 256]
theorem putNum_len (d:Nat):∀ n:Int,(putNum d n).length≤d+1:=by
 induction d with
 | zero=>intro n; simp [putNum]
 | succ d ih =>
  intro n; unfold putNum; split
  ·have:=ih (n / 128); simp; omega
  ·simp
theorem w8_mod (n:Int):w8 n=n % 256:=IntKind.wrap_u8 n
theorem shr7 {n:Int} (h:0≤n):shrI .i64 n 7=n / 128:=by
 show n.fdiv (2 ^ 7)=n / 128
 rw [Int.fdiv_eq_ediv_of_nonneg n (by decide)]; rfl
theorem s_PutNum_L1_ok (d:Nat):∀ (n:Int) (out:List Int),0≤n→n < 128 ^ (d+1)→n≤9223372036854775807→out.length+d≤1000→s_PutNum_L1 n out=some (out ++ putNum d n,()):=by
 induction d with
 | zero =>
  intro n out h0 h1 h2 h3
  rw [s_PutNum_L1_eq,if_neg (by rw [decide_eq_true_eq]; simp at h1; omega),if_pos (by rw [room_eq]; omega),w8_mod]; rfl
 | succ d ih =>
  intro n out h0 h1 h2 h3
  rw [s_PutNum_L1_eq]
  unfold putNum
  have c1:out.length+1≤room:=by rw [room_eq]; omega
  by_cases h:n > 127
  ·have e:=ih (n / 128) (out ++ [n % 128+128]) (by omega) (by rw [Int.pow_succ] at h1; omega) (by omega) (by simp; omega)
   rw [List.append_assoc,List.singleton_append] at e
   rw [if_pos h,if_pos (decide_eq_true h),if_pos c1,Int.tdiv_eq_ediv_of_nonneg h0,Int.tmod_eq_emod_of_nonneg h0,w64_id (n:=n / 128) (by omega) (by omega),w64_id (n:=n % 128+128) (by omega) (by omega),w8_id (n:=n % 128+128) (by omega) (by omega)]
   exact e
  ·rw [if_neg h,if_neg (by rw [decide_eq_true_eq]; exact h),if_pos c1,w8_mod]; rfl
theorem i_PutNum_L1_ok (d:Nat):∀ (n:Int) (out:List Int),0≤n→n < 128 ^ (d+1)→n≤9223372036854775807→out.length+d≤1000→i_PutNum_L1 n out=some (out ++ putNum d n,()):=by
 induction d with
 | zero =>
  intro n out h0 h1 h2 h3
  rw [i_PutNum_L1_eq,if_neg (by rw [decide_eq_true_eq]; simp at h1; omega),if_pos (by rw [room_eq]; omega),w8_mod]; rfl
 | succ d ih =>
  intro n out h0 h1 h2 h3
  rw [i_PutNum_L1_eq]
  unfold putNum
  have c1:out.length+1≤room:=by rw [room_eq]; omega
  by_cases h:n > 127
  ·have e:=ih (n / 128) (out ++ [n % 128+128]) (by omega) (by rw [Int.pow_succ] at h1; omega) (by omega) (by simp; omega)
   rw [List.append_assoc,List.singleton_append] at e
   rw [if_pos h,if_pos (decide_eq_true h),if_pos c1,shr7 h0,and_127 h0 (by omega),or_128 (by omega) (by omega),w8_id (n:=n % 128+128) (by omega) (by omega)]
   exact e
  ·rw [if_neg h,if_neg (by rw [decide_eq_true_eq]; exact h),if_pos c1,w8_mod]; rfl
def putNumOf (n:Int):List Int:=if 0≤n∧n≤4611686018427387903 then putNum 8 n else []
theorem putNumOf_len (n:Int):(putNumOf n).length≤9:=by
 unfold putNumOf; split
 ·exact putNum_len 8 n
 ·simp
theorem s_PutNum_ok (n:Int):s_PutNum n=some (putNumOf n,()):=by
 rw [s_PutNum_eq,s_l1In_ok,Option.bind_some]
 unfold putNumOf
 by_cases h:0≤n∧n≤4611686018427387903
 ·rw [if_pos h,if_neg (by simp [h])]
  exact s_PutNum_L1_ok 8 n [] h.1 (by have:=h.2; omega) (by omega) (by simp)
 ·rw [if_neg h,if_pos (by simp [h])]
theorem i_PutNum_ok (n:Int):i_PutNum n=some (putNumOf n,()):=by
 rw [i_PutNum_eq,i_in_ok,Option.bind_some]
 unfold putNumOf
 by_cases h:0≤n∧n≤4611686018427387903
 ·rw [if_pos h,if_neg (by simp [h])]
  exact i_PutNum_L1_ok 8 n [] h.1 (by have:=h.2; omega) (by omega) (by simp)
 ·rw [if_neg h,if_pos (by simp [h])]
def putText (s:List Int):List Int:=putNumOf s.length ++ s
theorem putText_len (s:List Int):(putText s).length≤9+s.length:=by
 unfold putText; rw [List.length_append]; have:=putNumOf_len s.length; omega
theorem s_PutText_ok (s:List Int) (h:s.length≤4000000000):s_PutText s=some (putText s,()):=by
 have:=putNumOf_len s.length
 rw [s_PutText_eq,s_PutNum_ok,Option.bind_some]
 dsimp only
 rw [if_pos (by rw [room_eq]; omega),if_pos (by rw [room_eq]; omega)]; rfl
theorem i_PutText_ok (s:List Int) (h:s.length≤4000000000):i_PutText s=some (putText s,()):=by
 have:=putNumOf_len s.length
 rw [i_PutText_eq,i_PutNum_ok,Option.bind_some]
 dsimp only
 rw [if_pos (by rw [room_eq]; omega)]; rfl
def Bytes (b:List Int):Prop:=∀ x∈b,0≤x∧x≤255
def zig (n:Int):Int:=if n < 0 then -2 * n - 1 else 2 * n
def InZ (n:Int):Prop:=-2305843009213693951≤n∧n≤2305843009213693951
instance (n:Int):Decidable (InZ n):=inferInstanceAs (Decidable (_∧_))
def putInt (n:Int):List Int:=if InZ n then putNumOf (zig n) else []
theorem i_PutInt_ok (n:Int):i_PutInt n=some (putInt n,()):=by
 rw [i_PutInt_eq,i_in_ok,Option.bind_some]
 unfold putInt
 by_cases h:InZ n
 ·have hh:=h
  unfold InZ at hh
  rw [if_pos h,if_neg (by simp [hh])]
  unfold zig
  by_cases h2:n < 0
  ·rw [if_pos (decide_eq_true h2),if_pos h2,w64_id (n:=-2 * n) (by omega) (by omega),w64_id (by omega) (by omega),i_PutNum_ok]; rfl
  ·rw [if_neg (by rw [decide_eq_true_eq]; exact h2),if_neg h2,w64_id (by omega) (by omega),i_PutNum_ok]; rfl
 ·have hh:=h
  unfold InZ at hh
  rw [if_neg h,if_pos (by simp [hh])]
theorem s_PutInt_ok (n:Int):s_PutInt n=some (putInt n,()):=by
 rw [s_PutInt_eq,s_l1In_ok,Option.bind_some]
 unfold putInt
 by_cases h:InZ n
 ·have hh:=h
  unfold InZ at hh
  rw [if_pos h,if_neg (by simp [hh])]
  unfold zig
  by_cases h2:n < 0
  ·rw [if_pos (decide_eq_true h2),if_pos h2,w64_id (n:=-2 * n) (by omega) (by omega),w64_id (by omega) (by omega),s_PutNum_ok]; rfl
  ·rw [if_neg (by rw [decide_eq_true_eq]; exact h2),if_neg h2,w64_id (by omega) (by omega),s_PutNum_ok]; rfl
 ·have hh:=h
  unfold InZ at hh
  rw [if_neg h,if_pos (by simp [hh])]
theorem fold_loop {α β ρ:Type} (F:β→Int→Option ρ) (g:β→α→β) (l:List α) (P:Nat→β→Prop)
  (step:∀ (i:Nat) (h:i < l.length) (acc:β),P i acc→F acc i=F (g acc l[i]) ((i+1:Nat):Int)∧P (i+1) (g acc l[i])) (acc:β) (h0:P 0 acc) :
  F acc 0=F (l.foldl g acc) (l.length:Int)∧P l.length (l.foldl g acc):=by
 have key:∀ (d i:Nat) (acc:β),i+d=l.length→P i acc→F acc i=F ((l.drop i).foldl g acc) (l.length:Int)∧P l.length ((l.drop i).foldl g acc):=by
  intro d
  induction d with
  | zero =>
   intro i acc hd hp
   have hi:i=l.length:=by omega
   subst hi
   rw [List.drop_length]; exact ⟨rfl,hp⟩
  | succ d ih =>
   intro i acc hd hp
   have hi:i < l.length:=by omega
   obtain ⟨e1,e2⟩:=step i hi acc hp
   rw [e1,List.drop_eq_getElem_cons hi,List.foldl_cons]
   exact ih (i+1) _ (by omega) e2
 exact key l.length 0 acc (by omega) h0
theorem putInt_len (n:Int):(putInt n).length≤9:=by
 unfold putInt
 split
 ·exact putNumOf_len _
 ·simp
def valBytes (v:impl_Val):List Int:=(putNumOf v.Kind ++ putInt v.N) ++ putText v.S
theorem valBytes_len (v:impl_Val):(valBytes v).length≤27+v.S.length:=by
 unfold valBytes
 have h1:=putNumOf_len v.Kind
 have h2:=putInt_len v.N
 have h3:=putText_len v.S
 rw [List.length_append,List.length_append]; omega
theorem lenA {α:Type} (a b:List α):(List.append a b).length=a.length+b.length:=List.length_append
theorem s_l17Val_ok (v:impl_Val) (h:v.S.length≤2097152):s_l17Val v=some (valBytes v,()):=by
 have h1:=putNumOf_len v.Kind
 have h2:=putInt_len v.N
 have h3:=putText_len v.S
 rw [s_l17Val_eq,s_PutNum_ok,s_PutInt_ok,s_PutText_ok _ (by omega),Option.bind_some,Option.bind_some]
 dsimp only
 rw [if_pos (by rw [room_eq]; omega),Option.bind_some,if_pos (by rw [room_eq,lenA]; dsimp only; omega)]
 rfl
theorem i_putVal_ok (out:List Int) (v:impl_Val) (ho:out.length≤2000000000) (h:v.S.length≤2097152):i_putVal out v=some (out ++ valBytes v,()):=by
 have h1:=putNumOf_len v.Kind
 have h2:=putInt_len v.N
 have h3:=putText_len v.S
 rw [i_putVal_eq,i_PutNum_ok,i_PutInt_ok,i_PutText_ok _ (by omega),Option.bind_some,Option.bind_some]
 dsimp only
 rw [if_pos (by rw [room_eq]; omega),if_pos (by rw [room_eq,lenA]; omega),Option.bind_some,if_pos (by rw [room_eq,lenA,lenA]; dsimp only; omega)]
 unfold valBytes
 rw [← List.append_assoc,← List.append_assoc]
 rfl
def addV (a:List Int) (v:impl_Val):List Int:=a ++ valBytes v
def addC (a:List Int) (c:impl_Cell):List Int:=((a ++ putNumOf c.Name) ++ putText c.Key) ++ valBytes c.Val
def addN (a:List Int) (n:Int):List Int:=a ++ putNumOf n
def bytesV (m:impl_Mach):List Int:=m.State.Vars.foldl addV (putNumOf (m.State.Vars.length:Int)) ++ putNumOf (m.State.Cells.length:Int)
def bytesC (m:impl_Mach):List Int:=((m.State.Cells.foldl addC (bytesV m)) ++ putNumOf m.State.Nr) ++ putNumOf m.State.Err
def machBytes (m:impl_Mach):List Int:=m.Done.foldl addN (bytesC m) ++ putText m.Out
def MachFine (m:impl_Mach):Prop :=
 m.State.Vars.length≤8∧(∀ v∈m.State.Vars,v.S.length≤300)∧m.State.Cells.length≤40∧(∀ c∈m.State.Cells,c.Key.length≤300∧c.Val.S.length≤300)∧m.Done.length=3∧m.Out.length≤1500
theorem and_iff' {a b:Bool}:(a && b)=true ↔ a=true∧b=true:=by cases a <;> cases b <;> simp
theorem valB_len {v:impl_Val} (h:valB v=true):v.S.length≤300:=by
 unfold valB at h
 have h1:=(and_iff'.1 (and_iff'.1 h).1).2
 by_cases c:(v.S.length:Int) > 300
 ·rw [decide_eq_true c] at h1; cases h1
 ·omega
theorem not_true' {a:Bool} (h:(!a)=true):a=false:=by cases a with
 | true=>cases h
 | false=>rfl
theorem any_false {α:Type} {l:List α} {p:α→Bool} (h:l.any p=false):∀ x∈l,p x=false:=by
 intro x hx
 cases e:p x with
 | false=>rfl
 | true =>
  have:l.any p=true:=List.any_eq_true.2 ⟨x,hx,e⟩
  rw [h] at this; cases this
theorem stateB_fine {s:impl_State} {v c:Int} (h:stateB s v c=true):(s.Vars.length:Int)=v∧(∀ x∈s.Vars,valB x=true)∧s.Cells.length≤40∧(∀ x∈s.Cells,x.Key.length≤300∧valB x.Val=true∧0≤x.Name∧x.Name < c)∧(0≤s.Nr∧s.Nr≤1000000)∧(0≤s.Err∧s.Err≤7):=by
 unfold stateB at h
 obtain ⟨a1,h⟩:=and_iff'.1 h
 obtain ⟨a2,h⟩:=and_iff'.1 h
 obtain ⟨a3,h⟩:=and_iff'.1 h
 obtain ⟨a4,h⟩:=and_iff'.1 h
 obtain ⟨a5,a6⟩:=and_iff'.1 h
 have a3':=of_decide_eq_true a3
 refine ⟨of_decide_eq_true a1,fun x hx=>?_,by omega,fun x hx=>?_,of_decide_eq_true a4,of_decide_eq_true a5⟩
 ·have:=any_false (not_true' a2) x hx
  cases e:valB x with
  | true=>rfl
  | false=>rw [e] at this; cases this
 ·obtain ⟨i,hi,rfl⟩:=List.mem_iff_getElem.1 hx
  have:=anyB_false.1 (not_true' a6) i hi
  unfold cellBad at this
  rw [getD_lt hi,Bool.or_eq_false_iff,Bool.or_eq_false_iff,Bool.or_eq_false_iff,Bool.or_eq_false_iff] at this
  obtain ⟨b1,b2,b3,b4,_⟩:=this
  have b1':=of_decide_eq_false b1
  have b2':=of_decide_eq_false b2
  have b3':=of_decide_eq_false b3
  refine ⟨by omega,?_,by omega,by omega⟩
  cases e:valB s.Cells[i].Val with
  | true=>rfl
  | false=>rw [e] at b4; cases b4
theorem machB_fine {p:impl_Prog} {m:impl_Mach} (h:machB p m=true):MachFine m:=by
 unfold machB at h
 obtain ⟨h1,h⟩:=and_iff'.1 h
 obtain ⟨h2,h⟩:=and_iff'.1 h
 obtain ⟨h3,h⟩:=and_iff'.1 h
 obtain ⟨h4,h5⟩:=and_iff'.1 h
 obtain ⟨s1,s2,s3,s4,s5⟩:=stateB_fine h2
 unfold progB namesB at h1
 have hv:=of_decide_eq_true (and_iff'.1 (and_iff'.1 h1).1).2
 have h3':=of_decide_eq_true h3
 have h5':=of_decide_eq_true h5
 exact ⟨by omega,fun v hv=>valB_len (s2 v hv),s3,fun c hc=>⟨(s4 c hc).1,valB_len (s4 c hc).2.1⟩,by omega,by omega⟩
theorem foldV_len (l:List impl_Val) (h:∀ v∈l,v.S.length≤300):∀ acc:List Int,(l.foldl addV acc).length≤acc.length+327 * l.length:=by
 induction l with
 | nil=>intro acc; simp
 | cons v l ih =>
  intro acc
  have h1:=ih (fun x hx=>h x (List.mem_cons_of_mem _ hx)) (addV acc v)
  have h2:=valBytes_len v
  have h3:=h v (List.mem_cons_self ..)
  have h4:(addV acc v).length=acc.length+(valBytes v).length:=by unfold addV; rw [List.length_append]
  rw [List.foldl_cons,List.length_cons]; omega
theorem addC_len (a:List Int) (c:impl_Cell) (h:c.Key.length≤300∧c.Val.S.length≤300):(addC a c).length≤a.length+645:=by
 unfold addC
 have h1:=putNumOf_len c.Name
 have h2:=putText_len c.Key
 have h3:=valBytes_len c.Val
 rw [List.length_append,List.length_append,List.length_append]; omega
theorem foldC_len (l:List impl_Cell) (h:∀ c∈l,c.Key.length≤300∧c.Val.S.length≤300):∀ acc:List Int,(l.foldl addC acc).length≤acc.length+645 * l.length:=by
 induction l with
 | nil=>intro acc; simp
 | cons v l ih =>
  intro acc
  have h1:=ih (fun x hx=>h x (List.mem_cons_of_mem _ hx)) (addC acc v)
  have h2:=addC_len acc v (h v (List.mem_cons_self ..))
  rw [List.foldl_cons,List.length_cons]; omega
theorem foldN_len (l:List Int):∀ acc:List Int,(l.foldl addN acc).length≤acc.length+9 * l.length:=by
 induction l with
 | nil=>intro acc; simp
 | cons v l ih =>
  intro acc
  have h1:=ih (addN acc v)
  have h2:=putNumOf_len v
  have h4:(addN acc v).length=acc.length+(putNumOf v).length:=by unfold addN; rw [List.length_append]
  rw [List.foldl_cons,List.length_cons]; omega
theorem bytesV_len {m:impl_Mach} (h:MachFine m):(bytesV m).length≤2700:=by
 obtain ⟨h1,h2,h3,h4,h5,h6⟩:=h
 unfold bytesV
 have a1:=foldV_len _ h2 (putNumOf (m.State.Vars.length:Int))
 have a2:=putNumOf_len (m.State.Vars.length:Int)
 have a3:=putNumOf_len (m.State.Cells.length:Int)
 rw [List.length_append]; omega
theorem bytesC_len {m:impl_Mach} (h:MachFine m):(bytesC m).length≤28600:=by
 have hv:=bytesV_len h
 obtain ⟨h1,h2,h3,h4,h5,h6⟩:=h
 unfold bytesC
 have a1:=foldC_len _ h4 (bytesV m)
 have a2:=putNumOf_len m.State.Nr
 have a3:=putNumOf_len m.State.Err
 rw [List.length_append,List.length_append]; omega
theorem s_l17Bytes_ok (m:impl_Mach) (h:MachFine m):s_l17Bytes m=some (machBytes m,()):=by
 have hv:=bytesV_len h
 have hc:=bytesC_len h
 obtain ⟨h1,h2,h3,h4,h5,h6⟩:=h
 rw [s_l17Bytes_eq,s_PutNum_ok,Option.bind_some]
 dsimp only
 have a2:=putNumOf_len (m.State.Vars.length:Int)
 obtain ⟨f1,_⟩:=fold_loop (fun acc i=>s_l17Bytes_L1 acc i m m.State) addV m.State.Vars (fun i acc=>acc.length≤9+400 * i) (fun i hi acc hp=>by
  have hS:=h2 _ (List.getElem_mem hi)
  have hv:=valBytes_len m.State.Vars[i]
  refine ⟨?_,by show (acc ++ valBytes m.State.Vars[i]).length≤_; rw [List.length_append]; omega⟩
  show s_l17Bytes_L1 acc i m m.State=s_l17Bytes_L1 _ _ m m.State
  rw [s_l17Bytes_L1_eq,if_pos (decide_eq_true (by omega)),if_pos (by omega),getD_nat hi,s_l17Val_ok _ (by omega),Option.bind_some,if_pos (by rw [room_eq]; dsimp only; omega),w64_succ hi (by omega)]
  rfl) (putNumOf (m.State.Vars.length:Int)) (by omega)
 rw [f1,s_l17Bytes_L1_eq,if_neg (by simp),s_PutNum_ok,Option.bind_some]
 dsimp only
 have e1:List.append (m.State.Vars.foldl addV (putNumOf (m.State.Vars.length:Int))) (putNumOf (m.State.Cells.length:Int))=bytesV m:=rfl
 rw [if_pos (by have:=congrArg List.length e1; rw [lenA] at this; rw [room_eq]; omega),e1]
 obtain ⟨f2,_⟩:=fold_loop (fun acc i=>s_l17Bytes_L2 acc i m m.State) addC m.State.Cells (fun i acc=>acc.length≤2700+700 * i) (fun i hi acc hp=>by
  have hS:=h4 _ (List.getElem_mem hi)
  have hp':acc.length≤2700+700 * i:=hp
  refine ⟨?_,Nat.le_trans (addC_len acc _ hS) (by omega)⟩
  show s_l17Bytes_L2 acc i m m.State=s_l17Bytes_L2 _ _ m m.State
  have q1:=putNumOf_len m.State.Cells[i].Name
  have q2:=putText_len m.State.Cells[i].Key
  have q3:=valBytes_len m.State.Cells[i].Val
  have hb:(0:Int)≤(i:Int)∧(i:Int) < (m.State.Cells.length:Int):=by omega
  rw [s_l17Bytes_L2_eq,if_pos (decide_eq_true (by omega)),getD_nat hi]
  simp only [if_pos hb]
  rw [s_PutNum_ok,Option.bind_some,if_pos (by rw [room_eq]; dsimp only; omega),s_PutText_ok _ (by omega),Option.bind_some,if_pos (by rw [room_eq,lenA]; dsimp only; omega),s_l17Val_ok _ (by omega),Option.bind_some,if_pos (by rw [room_eq,lenA,lenA]; dsimp only; omega),w64_succ hi (by omega)]
  rfl) (bytesV m) (by omega)
 rw [f2,s_l17Bytes_L2_eq,if_neg (by simp),s_PutNum_ok,Option.bind_some]
 dsimp only
 have e2:List.append (List.append (m.State.Cells.foldl addC (bytesV m)) (putNumOf m.State.Nr)) (putNumOf m.State.Err)=bytesC m:=rfl
 have e2l:=congrArg List.length e2
 rw [lenA,lenA] at e2l
 rw [if_pos (by rw [room_eq]; omega),s_PutNum_ok,Option.bind_some]
 dsimp only
 rw [if_pos (by rw [room_eq,lenA]; omega),e2]
 obtain ⟨f3,_⟩:=fold_loop (fun acc i=>s_l17Bytes_L3 acc i m) addN m.Done (fun i acc=>acc.length≤28600+9 * i) (fun i hi acc hp=>by
  have q1:=putNumOf_len m.Done[i]
  refine ⟨?_,by show (acc ++ putNumOf m.Done[i]).length≤_; rw [List.length_append]; omega⟩
  show s_l17Bytes_L3 acc i m=s_l17Bytes_L3 _ _ m
  rw [s_l17Bytes_L3_eq,if_pos (decide_eq_true (by omega)),if_pos (by omega),getD_nat hi,s_PutNum_ok,Option.bind_some,if_pos (by rw [room_eq]; dsimp only; omega),w64_succ hi (by omega)]
  rfl) (bytesC m) (by omega)
 have q4:=putText_len m.Out
 have q5:=foldN_len m.Done (bytesC m)
 rw [f3,s_l17Bytes_L3_eq,if_neg (by simp),s_PutText_ok _ (by omega),Option.bind_some,if_pos (by rw [room_eq]; dsimp only; omega)]
 rfl
theorem i_bytes_ok (m:impl_Mach) (h:MachFine m):i_MachBytes_L1 (putNumOf (m.State.Vars.length:Int)) m.State.Vars (m.State.Vars.length:Int) 0 m=some (machBytes m,()):=by
 have hv:=bytesV_len h
 have hc:=bytesC_len h
 obtain ⟨h1,h2,h3,h4,h5,h6⟩:=h
 have a2:=putNumOf_len (m.State.Vars.length:Int)
 obtain ⟨f1,_⟩:=fold_loop (fun acc i=>i_MachBytes_L1 acc m.State.Vars (m.State.Vars.length:Int) i m) addV m.State.Vars (fun i acc=>acc.length≤9+400 * i) (fun i hi acc hp=>by
  have hS:=h2 _ (List.getElem_mem hi)
  have hv:=valBytes_len m.State.Vars[i]
  refine ⟨?_,by show (acc ++ valBytes m.State.Vars[i]).length≤_; rw [List.length_append]; omega⟩
  show i_MachBytes_L1 acc m.State.Vars _ i m=i_MachBytes_L1 _ _ _ _ m
  rw [i_MachBytes_L1_eq,if_pos (decide_eq_true (by omega)),if_pos (by omega),getD_nat hi,i_putVal_ok _ _ (by omega) (by omega),Option.bind_some,w64_succ hi (by omega)]
  rfl) (putNumOf (m.State.Vars.length:Int)) (by omega)
 rw [f1,i_MachBytes_L1_eq,if_neg (by simp),i_PutNum_ok,Option.bind_some]
 dsimp only
 have e1:List.append (m.State.Vars.foldl addV (putNumOf (m.State.Vars.length:Int))) (putNumOf (m.State.Cells.length:Int))=bytesV m:=rfl
 rw [if_pos (by have:=congrArg List.length e1; rw [lenA] at this; rw [room_eq]; omega),e1]
 obtain ⟨f2,_⟩:=fold_loop (fun acc i=>i_MachBytes_L2 acc m.State.Cells (m.State.Cells.length:Int) i m) addC m.State.Cells (fun i acc=>acc.length≤2700+700 * i) (fun i hi acc hp=>by
  have hS:=h4 _ (List.getElem_mem hi)
  have hp':acc.length≤2700+700 * i:=hp
  refine ⟨?_,Nat.le_trans (addC_len acc _ hS) (by omega)⟩
  show i_MachBytes_L2 acc m.State.Cells _ i m=i_MachBytes_L2 _ _ _ _ m
  have q1:=putNumOf_len m.State.Cells[i].Name
  have q2:=putText_len m.State.Cells[i].Key
  have q3:=valBytes_len m.State.Cells[i].Val
  rw [i_MachBytes_L2_eq,if_pos (decide_eq_true (by omega)),if_pos (by omega),getD_nat hi,i_PutNum_ok,Option.bind_some,if_pos (by rw [room_eq]; dsimp only; omega),i_PutText_ok _ (by omega),Option.bind_some,if_pos (by rw [room_eq,lenA]; dsimp only; omega),i_putVal_ok _ _ (by rw [lenA,lenA]; dsimp only; omega) (by omega),Option.bind_some,w64_succ hi (by omega)]
  rfl) (bytesV m) (by omega)
 rw [f2,i_MachBytes_L2_eq,if_neg (by simp),i_PutNum_ok,Option.bind_some]
 dsimp only
 have e2:List.append (List.append (m.State.Cells.foldl addC (bytesV m)) (putNumOf m.State.Nr)) (putNumOf m.State.Err)=bytesC m:=rfl
 have e2l:=congrArg List.length e2
 rw [lenA,lenA] at e2l
 rw [if_pos (by rw [room_eq]; omega),i_PutNum_ok,Option.bind_some]
 dsimp only
 rw [if_pos (by rw [room_eq,lenA]; omega),e2]
 obtain ⟨f3,_⟩:=fold_loop (fun acc i=>i_MachBytes_L3 acc m.Done (m.Done.length:Int) i m) addN m.Done (fun i acc=>acc.length≤28600+9 * i) (fun i hi acc hp=>by
  have q1:=putNumOf_len m.Done[i]
  refine ⟨?_,by show (acc ++ putNumOf m.Done[i]).length≤_; rw [List.length_append]; omega⟩
  show i_MachBytes_L3 acc m.Done _ i m=i_MachBytes_L3 _ _ _ _ m
  rw [i_MachBytes_L3_eq,if_pos (decide_eq_true (by omega)),if_pos (by omega),getD_nat hi,i_PutNum_ok,Option.bind_some,if_pos (by rw [room_eq]; dsimp only; omega),w64_succ hi (by omega)]
  rfl) (bytesC m) (by omega)
 have q4:=putText_len m.Out
 have q5:=foldN_len m.Done (bytesC m)
 rw [f3,i_MachBytes_L3_eq,if_neg (by simp),i_PutText_ok _ (by omega),Option.bind_some,if_pos (by rw [room_eq]; dsimp only; omega)]
 rfl
noncomputable def machBytesP (p:impl_Prog) (m:impl_Mach):List Int:=if machB p m=true then machBytes m else []
theorem i_MachBytes_ok (p:impl_Prog) (m:impl_Mach) (hp:BProg p) (hm:BMach m):i_MachBytes p m=some (machBytesP p m,()):=by
 rw [i_MachBytes_eq,i_MachOk_ok p m hp hm.1 hm.2.1,Option.bind_some]
 dsimp only
 unfold machBytesP
 cases h:machB p m with
 | false=>rfl
 | true =>
  have hf:=machB_fine h
  rw [if_neg (c:=(!true)=true) (by simp),if_pos (c:=true=true) rfl,i_PutNum_ok,Option.bind_some]
  exact i_bytes_ok m hf
def recOk (r:impl_Rec):Bool :=
 if decide (0≤r.Term∧r.Term≤300) && (decide (0≤r.Prev∧r.Prev≤300) && (entriesOk r.List 300 && !decide ((r.Snap.length:Int) > 30000))) then
  if r.Kind=1 then decide (-1≤r.Vote∧r.Vote≤4) && (decide (r.Prev=0) && (decide ((r.List.length:Int)=0) && decide (r.Snap=[])))
  else if r.Kind=2 then decide (r.Vote=0) && decide (r.Snap=[])
  else if r.Kind=3 then decide (r.Vote=0) && decide ((r.List.length:Int)=0)
  else false
 else false
theorem i_isVote_ok (n:Int):i_isVote n=some (decide (-1≤n∧n≤4),()):=by rw [i_isVote_eq,i_in_ok]; rfl
theorem rec_tail {k v p:Int} {a b c:Bool}:(if k=1 then
   if a=true then if p=0 then if b=true then some (c,()) else some (false,()) else some (false,()) else some (false,())
  else if k=2 then if v=0 then some (c,()) else some (false,())
  else if k=3 then if v=0 then some (b,()) else some (false,()) else some (false,())) =
  some (if k=1 then a && (decide (p=0) && (b && c)) else if k=2 then decide (v=0) && c else if k=3 then decide (v=0) && b else false,()):=by
 by_cases h1:k=1
 ·simp only [if_pos h1]
  cases a
  ·rfl
  ·by_cases h2:p=0
   ·simp only [h2]; cases b <;> simp
   ·simp [h2]
 ·simp only [if_neg h1]
  by_cases h2:k=2
  ·simp only [if_pos h2]
   by_cases h3:v=0 <;> simp [h3]
  ·simp only [if_neg h2]
   by_cases h3:k=3
   ·simp only [if_pos h3]
    by_cases h4:v=0 <;> simp [h4]
   ·simp only [if_neg h3]
theorem s_RecOk_ok (r:impl_Rec) (hl:r.List.length≤4294967296) (hw:LinesOk r.List):s_RecOk r=some (recOk r,()):=by
 rw [s_RecOk_eq]
 unfold recOk
 simp only [s_l1In_ok,s_l19List_ok _ _ hl hw,Option.bind_some]
 cases decide (0≤r.Term∧r.Term≤300) with
 | false=>rfl
 | true =>
 cases decide (0≤r.Prev∧r.Prev≤300) with
 | false=>rfl
 | true =>
 cases entriesOk r.List 300 with
 | false=>rfl
 | true =>
 cases decide ((r.Snap.length:Int) > 30000) with
 | true=>rfl
 | false =>
  have:=rec_tail (k:=r.Kind) (v:=r.Vote) (p:=r.Prev) (a:=decide (-1≤r.Vote∧r.Vote≤4)) (b:=decide ((r.List.length:Int)=0)) (c:=decide (r.Snap=[]))
  simpa only [decide_eq_true_eq,Bool.not_true,Bool.not_false,Bool.false_eq_true,if_false,Bool.true_and,if_true] using this
theorem i_RecOk_ok (r:impl_Rec) (hl:r.List.length≤4294967296):i_RecOk r=some (recOk r,()):=by
 rw [i_RecOk_eq]
 unfold recOk
 simp only [isIndex_ok,i_isVote_ok,i_entriesOk_ok _ _ hl,Option.bind_some]
 cases decide (0≤r.Term∧r.Term≤300) with
 | false=>rfl
 | true =>
 cases decide (0≤r.Prev∧r.Prev≤300) with
 | false=>rfl
 | true =>
 cases entriesOk r.List 300 with
 | false=>rfl
 | true =>
 cases decide ((r.Snap.length:Int) > 30000) with
 | true=>rfl
 | false =>
  have:=rec_tail (k:=r.Kind) (v:=r.Vote) (p:=r.Prev) (a:=decide (-1≤r.Vote∧r.Vote≤4)) (b:=decide ((r.List.length:Int)=0)) (c:=decide (r.Snap=[]))
  simpa only [decide_eq_true_eq,Bool.not_true,Bool.not_false,Bool.false_eq_true,if_false,Bool.true_and,if_true] using this
def sumL:List Int→Int→Int→Int
 | [],a,b=>w64 (w64 (b * 65536)+a)
 | x :: l,a,b=>sumL l (Int.tmod (w64 (a+w64 x)) 65521) (Int.tmod (w64 (b+Int.tmod (w64 (a+w64 x)) 65521)) 65521)
def sumOf (l:List Int):Int:=sumL l 1 0
theorem s_SumOf_ok (l:List Int) (hl:l.length≤4294967296):s_SumOf l=some (sumOf l,()):=by
 rw [s_SumOf_eq]
 have key:∀ (d i:Nat) (a b:Int),i+d=l.length→s_SumOf_L1 l a b i=some (sumL (l.drop i) a b,()):=by
  intro d
  induction d with
  | zero =>
   intro i a b hd
   rw [s_SumOf_L1_eq,if_neg (by rw [decide_eq_true_eq]; omega),List.drop_eq_nil_of_le (by omega)]; rfl
  | succ d ih =>
   intro i a b hd
   have hi:i < l.length:=by omega
   rw [s_SumOf_L1_eq,if_pos (decide_eq_true (by omega)),if_pos (by omega),getD_nat hi,w64_succ hi (by omega),ih (i+1) _ _ (by omega),List.drop_eq_getElem_cons hi]; rfl
 have:=key l.length 0 1 0 (by omega)
 simpa [sumOf] using this
theorem i_SumOf_ok (l:List Int) (hl:l.length≤4294967296):i_SumOf l=some (sumOf l,()):=by
 rw [i_SumOf_eq]
 have key:∀ (d i:Nat) (a b:Int),i+d=l.length→i_SumOf_L1 a b l (l.length:Int) i=some (sumL (l.drop i) a b,()):=by
  intro d
  induction d with
  | zero =>
   intro i a b hd
   rw [i_SumOf_L1_eq,if_neg (by rw [decide_eq_true_eq]; omega),List.drop_eq_nil_of_le (by omega)]; rfl
  | succ d ih =>
   intro i a b hd
   have hi:i < l.length:=by omega
   rw [i_SumOf_L1_eq,if_pos (decide_eq_true (by omega)),if_pos (by omega),getD_nat hi,w64_succ hi (by omega),ih (i+1) _ _ (by omega),List.drop_eq_getElem_cons hi]; rfl
 have:=key l.length 0 1 0 (by omega)
 simpa [sumOf] using this
def entBytes (acc:List Int) (e:impl_Entry):List Int:=(((acc ++ putNumOf e.Term) ++ putNumOf (w64 (e.C.Who+1))) ++ putNumOf e.C.Seq) ++ putText e.C.Line
def bodyFrom:List impl_Entry→List Int→List Int
 | [],acc=>acc
 | e :: l,acc=>bodyFrom l (entBytes acc e)
theorem entBytes_len (acc:List Int) (e:impl_Entry) (h:e.C.Line.length≤60):(entBytes acc e).length≤acc.length+96:=by
 unfold entBytes
 simp only [List.length_append]
 have a:=putNumOf_len e.Term
 have b:=putNumOf_len (w64 (e.C.Who+1))
 have c:=putNumOf_len e.C.Seq
 have d:=putText_len e.C.Line
 omega
theorem bodyFrom_len:∀ (l:List impl_Entry) (acc:List Int),(∀ e∈l,e.C.Line.length≤60)→(bodyFrom l acc).length≤acc.length+96 * l.length
 | [],acc,_=>by simp [bodyFrom]
 | e :: l,acc,h=>by
  have h1:=entBytes_len acc e (h e (List.mem_cons_self ..))
  have h2:=bodyFrom_len l (entBytes acc e) fun x hx=>h x (List.mem_cons_of_mem _ hx)
  show (bodyFrom l (entBytes acc e)).length≤_
  rw [List.length_cons]; omega
theorem cmdOk_line {c:impl_Cmd} (h:cmdOk c=true):c.Line.length≤60:=by
 unfold cmdOk at h
 split at h
 ·simp only [Bool.and_eq_true,decide_eq_true_eq] at h; rw [h.2]; exact Nat.zero_le _
 ·simp only [Bool.and_eq_true,decide_eq_true_eq] at h; omega
theorem entriesOk_spec {l:List impl_Entry} {m:Int} (h:entriesOk l m=true):l.length≤40∧∀ e∈l,e.C.Line.length≤60:=by
 unfold entriesOk at h
 simp only [Bool.and_eq_true,decide_eq_true_eq,List.all_eq_true] at h
 refine ⟨by omega,fun e he=>?_⟩
 have:=h.2 e he
 unfold entOk at this
 simp only [Bool.and_eq_true] at this
 exact cmdOk_line this.2
theorem recOk_spec {r:impl_Rec} (h:recOk r=true):r.List.length≤40∧(∀ e∈r.List,e.C.Line.length≤60)∧r.Snap.length≤30000:=by
 unfold recOk at h
 split at h
 ·rename_i hc
  simp only [Bool.and_eq_true,Bool.not_eq_true',decide_eq_false_iff_not] at hc
  have:=entriesOk_spec hc.2.2.1
  exact ⟨this.1,this.2,by omega⟩
 ·cases h
theorem s_l19Body_L1_ok (r:impl_Rec) (hl:r.List.length≤40) (hw:∀ e∈r.List,e.C.Line.length≤60) (hs:r.Snap.length≤30000):∀ (d i:Nat) (acc:List Int),i+d=r.List.length→acc.length≤100+96 * i→s_l19Body_L1 acc i r=some (bodyFrom (r.List.drop i) acc ++ putText r.Snap,()):=by
 intro d
 induction d with
 | zero =>
  intro i acc hd ha
  have a:=putText_len r.Snap
  rw [s_l19Body_L1_eq,if_neg (by rw [decide_eq_true_eq]; omega),s_PutText_ok _ (by omega),Option.bind_some]
  dsimp only
  rw [if_pos (by rw [room_eq]; omega),List.drop_eq_nil_of_le (by omega)]; rfl
 | succ d ih =>
  intro i acc hd ha
  have hi:i < r.List.length:=by omega
  have he:=hw _ (List.getElem_mem hi)
  have a:=putNumOf_len (r.List[i]).Term
  have b:=putNumOf_len (w64 ((r.List[i]).C.Who+1))
  have c:=putNumOf_len (r.List[i]).C.Seq
  have t:=putText_len (r.List[i]).C.Line
  have el:=entBytes_len acc _ he
  have c1:acc.length+(putNumOf (r.List[i]).Term).length≤room:=by rw [room_eq]; omega
  have c2:(acc ++ putNumOf (r.List[i]).Term).length+(putNumOf (w64 ((r.List[i]).C.Who+1))).length≤room:=by rw [room_eq,List.length_append]; omega
  have c3:((acc ++ putNumOf (r.List[i]).Term) ++ putNumOf (w64 ((r.List[i]).C.Who+1))).length+(putNumOf (r.List[i]).C.Seq).length≤room:=by rw [room_eq]; simp only [List.length_append]; omega
  have c4:(((acc ++ putNumOf (r.List[i]).Term) ++ putNumOf (w64 ((r.List[i]).C.Who+1))) ++ putNumOf (r.List[i]).C.Seq).length+(putText (r.List[i]).C.Line).length≤room:=by rw [room_eq]; simp only [List.length_append]; omega
  rw [s_l19Body_L1_eq,if_pos (decide_eq_true (by omega)),if_pos (by omega),getD_nat hi,w64_succ hi (by omega)]
  simp only [s_PutNum_ok,s_PutText_ok _ (show (r.List[i]).C.Line.length≤4000000000 by omega),Option.bind_some,List.append_eq,if_pos c1,if_pos c2,if_pos c3,if_pos c4]
  rw [List.drop_eq_getElem_cons hi]
  exact ih (i+1) (entBytes acc r.List[i]) (by omega) (by omega)
theorem i_RecBytes_L2_ok (r:impl_Rec) (hl:r.List.length≤40) (hw:∀ e∈r.List,e.C.Line.length≤60):∀ (d i:Nat) (acc:List Int),i+d=r.List.length→acc.length≤100+96 * i→i_RecBytes_L2 acc r.List (r.List.length:Int) i r=i_RecBytes_L2 (bodyFrom (r.List.drop i) acc) r.List (r.List.length:Int) (r.List.length:Int) r:=by
 intro d
 induction d with
 | zero =>
  intro i acc hd ha
  rw [List.drop_eq_nil_of_le (by omega),show i=r.List.length by omega]; rfl
 | succ d ih =>
  intro i acc hd ha
  have hi:i < r.List.length:=by omega
  have he:=hw _ (List.getElem_mem hi)
  have a:=putNumOf_len (r.List[i]).Term
  have b:=putNumOf_len (w64 ((r.List[i]).C.Who+1))
  have c:=putNumOf_len (r.List[i]).C.Seq
  have t:=putText_len (r.List[i]).C.Line
  have el:=entBytes_len acc _ he
  have c1:acc.length+(putNumOf (r.List[i]).Term).length≤room:=by rw [room_eq]; omega
  have c2:(acc ++ putNumOf (r.List[i]).Term).length+(putNumOf (w64 ((r.List[i]).C.Who+1))).length≤room:=by rw [room_eq,List.length_append]; omega
  have c3:((acc ++ putNumOf (r.List[i]).Term) ++ putNumOf (w64 ((r.List[i]).C.Who+1))).length+(putNumOf (r.List[i]).C.Seq).length≤room:=by rw [room_eq]; simp only [List.length_append]; omega
  have c4:(((acc ++ putNumOf (r.List[i]).Term) ++ putNumOf (w64 ((r.List[i]).C.Who+1))) ++ putNumOf (r.List[i]).C.Seq).length+(putText (r.List[i]).C.Line).length≤room:=by rw [room_eq]; simp only [List.length_append]; omega
  have step3:i_RecBytes_L3 acc r.List (r.List.length:Int) i [(r.List[i]).Term,w64 ((r.List[i]).C.Who+1),(r.List[i]).C.Seq] 3 0 r r.List[i]=i_RecBytes_L2 (entBytes acc r.List[i]) r.List (r.List.length:Int) ((i+1:Nat):Int) r:=by
   have w1:w64 (0+1)=1:=w64_id (by omega) (by omega)
   have w2:w64 (1+1)=2:=w64_id (by omega) (by omega)
   have w3:w64 (2+1)=3:=w64_id (by omega) (by omega)
   rw [i_RecBytes_L3_eq,if_pos (by decide),if_pos (by simp),i_PutNum_ok,Option.bind_some]
   rw [if_pos (by exact c1),w1,i_RecBytes_L3_eq,if_pos (by decide),if_pos (by simp),i_PutNum_ok,Option.bind_some]
   rw [if_pos (by exact c2),w2,i_RecBytes_L3_eq,if_pos (by decide),if_pos (by simp),i_PutNum_ok,Option.bind_some]
   rw [if_pos (by exact c3),w3,i_RecBytes_L3_eq,if_neg (by decide),i_PutText_ok _ (by omega),Option.bind_some,if_pos (by exact c4),w64_succ hi (by omega)]
   rfl
  rw [i_RecBytes_L2_eq,if_pos (decide_eq_true (by omega)),if_pos (by omega),getD_nat hi,step3,List.drop_eq_getElem_cons hi]
  exact ih (i+1) (entBytes acc r.List[i]) (by omega) (by omega)
def recHead (r:impl_Rec):List Int:=(((putNumOf r.Kind ++ putNumOf r.Term) ++ putNumOf (w64 (r.Vote+1))) ++ putNumOf r.Prev) ++ putNumOf (r.List.length:Int)
def recBody (r:impl_Rec):List Int:=bodyFrom r.List (recHead r) ++ putText r.Snap
def sumBytes (b:List Int):List Int:=[w8 (sumOf b),w8 (shrI .i64 (sumOf b) 8),w8 (shrI .i64 (sumOf b) 16),w8 (shrI .i64 (sumOf b) 24)]
def recBytes (r:impl_Rec):List Int:=if recOk r then (putNumOf ((recBody r).length:Int) ++ recBody r) ++ sumBytes (recBody r) else []
theorem recHead_len (r:impl_Rec):(recHead r).length≤45:=by
 unfold recHead
 simp only [List.length_append]
 have a:=putNumOf_len r.Kind
 have b:=putNumOf_len r.Term
 have c:=putNumOf_len (w64 (r.Vote+1))
 have d:=putNumOf_len r.Prev
 have e:=putNumOf_len (r.List.length:Int)
 omega
theorem recBody_len {r:impl_Rec} (h:recOk r=true):(recBody r).length≤40000:=by
 obtain ⟨h1,h2,h3⟩:=recOk_spec h
 unfold recBody
 rw [List.length_append]
 have a:=bodyFrom_len r.List (recHead r) h2
 have b:=putText_len r.Snap
 have c:=recHead_len r
 omega
theorem recBytes_len (r:impl_Rec):(recBytes r).length≤41000:=by
 unfold recBytes
 split
 ·rename_i h
  have a:=recBody_len h
  have b:=putNumOf_len ((recBody r).length:Int)
  simp only [List.length_append,sumBytes,List.length_cons,List.length_nil]
  omega
 ·simp
theorem s_RecBytes_ok (r:impl_Rec) (hl:r.List.length≤4294967296) (hw:LinesOk r.List):s_RecBytes r=some (recBytes r,()):=by
 rw [s_RecBytes_eq,s_RecOk_ok r hl hw,Option.bind_some]
 unfold recBytes
 cases h:recOk r with
 | false=>rfl
 | true =>
  obtain ⟨h1,h2,h3⟩:=recOk_spec h
  have hb:=recBody_len h
  have a:=putNumOf_len r.Kind
  have b:=putNumOf_len r.Term
  have c:=putNumOf_len (w64 (r.Vote+1))
  have d:=putNumOf_len r.Prev
  have e:=putNumOf_len (r.List.length:Int)
  have f:=putNumOf_len ((recBody r).length:Int)
  have body:s_l19Body r=some (recBody r,()):=by
   rw [s_l19Body_eq]
   have c1:(putNumOf r.Kind).length+(putNumOf r.Term).length≤room:=by rw [room_eq]; omega
   have c2:(putNumOf r.Kind ++ putNumOf r.Term).length+(putNumOf (w64 (r.Vote+1))).length≤room:=by rw [room_eq]; simp only [List.length_append]; omega
   have c3:((putNumOf r.Kind ++ putNumOf r.Term) ++ putNumOf (w64 (r.Vote+1))).length+(putNumOf r.Prev).length≤room:=by rw [room_eq]; simp only [List.length_append]; omega
   have c4:(((putNumOf r.Kind ++ putNumOf r.Term) ++ putNumOf (w64 (r.Vote+1))) ++ putNumOf r.Prev).length+(putNumOf (r.List.length:Int)).length≤room:=by rw [room_eq]; simp only [List.length_append]; omega
   simp only [s_PutNum_ok,Option.bind_some,List.append_eq,if_pos c1,if_pos c2,if_pos c3,if_pos c4]
   exact s_l19Body_L1_ok r h1 h2 h3 r.List.length 0 (recHead r) (by omega) (by have:=recHead_len r; omega)
  rw [if_neg (by simp),body,Option.bind_some,s_PutNum_ok,Option.bind_some]
  dsimp only
  rw [if_pos (by rw [room_eq]; omega),s_l19Sum_eq,s_SumOf_ok _ (by omega)]
  simp only [Option.bind_some,List.append_eq,if_true]
  rw [if_pos (by rw [room_eq]; simp only [List.length_append,List.length_cons,List.length_nil]; omega)]
  rfl
theorem i_RecBytes_ok (r:impl_Rec) (hl:r.List.length≤4294967296):i_RecBytes r=some (recBytes r,()):=by
 rw [i_RecBytes_eq,i_RecOk_ok r hl,Option.bind_some]
 unfold recBytes
 cases h:recOk r with
 | false=>rfl
 | true =>
  obtain ⟨h1,h2,h3⟩:=recOk_spec h
  have hb:=recBody_len h
  have a:=putNumOf_len r.Kind
  have b:=putNumOf_len r.Term
  have c:=putNumOf_len (w64 (r.Vote+1))
  have d:=putNumOf_len r.Prev
  have e:=putNumOf_len (r.List.length:Int)
  have f:=putNumOf_len ((recBody r).length:Int)
  have g:=putText_len r.Snap
  have w1:w64 (0+1)=1:=w64_id (by omega) (by omega)
  have w2:w64 (1+1)=2:=w64_id (by omega) (by omega)
  have w3:w64 (2+1)=3:=w64_id (by omega) (by omega)
  have w4:w64 (3+1)=4:=w64_id (by omega) (by omega)
  have w5:w64 (4+1)=5:=w64_id (by omega) (by omega)
  rw [if_neg (by simp),i_RecBytes_L1_eq,if_pos (by decide),if_pos (by simp),i_PutNum_ok,Option.bind_some]
  rw [if_pos (by show 0+(putNumOf r.Kind).length≤room; rw [room_eq]; omega),w1,i_RecBytes_L1_eq,if_pos (by decide),if_pos (by simp),i_PutNum_ok,Option.bind_some]
  rw [if_pos (by show (putNumOf r.Kind).length+(putNumOf r.Term).length≤room; rw [room_eq]; omega),w2,i_RecBytes_L1_eq,if_pos (by decide),if_pos (by simp),i_PutNum_ok,Option.bind_some]
  rw [if_pos (by show (putNumOf r.Kind ++ putNumOf r.Term).length+(putNumOf (w64 (r.Vote+1))).length≤room; rw [room_eq]; simp only [List.length_append]; omega),w3,i_RecBytes_L1_eq,if_pos (by decide),if_pos (by simp),i_PutNum_ok,Option.bind_some]
  rw [if_pos (by show ((putNumOf r.Kind ++ putNumOf r.Term) ++ putNumOf (w64 (r.Vote+1))).length+(putNumOf r.Prev).length≤room; rw [room_eq]; simp only [List.length_append]; omega),w4,i_RecBytes_L1_eq,if_pos (by decide),if_pos (by simp),i_PutNum_ok,Option.bind_some]
  rw [if_pos (by show (((putNumOf r.Kind ++ putNumOf r.Term) ++ putNumOf (w64 (r.Vote+1))) ++ putNumOf r.Prev).length+(putNumOf (r.List.length:Int)).length≤room; rw [room_eq]; simp only [List.length_append]; omega),w5,i_RecBytes_L1_eq,if_neg (by decide)]
  have key:=i_RecBytes_L2_ok r h1 h2 r.List.length 0 (recHead r) (by omega) (by have:=recHead_len r; omega)
  have key':i_RecBytes_L2 (recHead r) r.List (r.List.length:Int) 0 r=_:=key
  refine Eq.trans key' ?_
  rw [List.drop_zero,i_RecBytes_L2_eq,if_neg (by simp),i_PutText_ok _ (by omega),Option.bind_some]
  have hb':(bodyFrom r.List (recHead r) ++ putText r.Snap).length≤40000:=hb
  have c1:(bodyFrom r.List (recHead r)).length+(putText r.Snap).length≤room:=by rw [List.length_append] at hb'; rw [room_eq]; omega
  simp only [if_pos c1,List.append_eq]
  show ((i_SumOf (recBody r)).bind fun r1=>(i_PutNum ((recBody r).length:Int)).bind fun r2=>if r2.1.length+(recBody r).length≤room then if (r2.1 ++ recBody r).length+4≤room then some ((r2.1 ++ recBody r) ++ [w8 r1.1,w8 (shrI .i64 r1.1 8),w8 (shrI .i64 r1.1 16),w8 (shrI .i64 r1.1 24)],()) else none else none)=_
  rw [i_SumOf_ok _ (by omega),i_PutNum_ok]
  simp only [Option.bind_some]
  rw [if_pos (by rw [room_eq]; omega),if_pos (by rw [room_eq,List.length_append]; omega)]
  rfl
theorem clone_Entry (l:List impl_Entry) (hl:l.length≤4294967296):x_slices_Clone_impl_Entry l=some (l,()):=by
 rw [x_slices_Clone_impl_Entry_eq,if_pos (show 0+l.length≤room by rw [room_eq]; omega)]
 cases l with
 | nil=>exact amb_self _
 | cons a l=>rfl
def thereOf (l:impl_Log):List impl_Entry:=if 0≤l.Base∧l.Base≤300 then l.List.take (300 - l.Base).toNat else []
theorem there_ok (l:impl_Log) (hl:l.List.length≤4294967296):i_there l=some (thereOf l,()):=by
 rw [i_there_eq,isIndex_ok,Option.bind_some]
 unfold thereOf
 by_cases h:0≤l.Base∧l.Base≤300
 ·rw [if_neg (by simp [h]),if_pos h,w64_id (n:=300 - l.Base) (by omega) (by omega)]
  have hm:mnI (l.List.length:Int) (300 - l.Base)=min (l.List.length:Int) (300 - l.Base):=by unfold mnI; split <;> omega
  rw [hm,if_pos (by omega),List.drop_zero,Nat.sub_zero]
  congr 2
  by_cases h2:(l.List.length:Int)≤300 - l.Base
  ·rw [List.take_of_length_le (by omega),List.take_of_length_le (by omega)]
  ·rw [show (min (l.List.length:Int) (300 - l.Base))=300 - l.Base by omega]
 ·rw [if_pos (by simp [h]),if_neg h]
theorem logOk_len {l:impl_Log} (h:logOk l=true):0≤l.Base∧l.Base≤300∧(l.List.length:Int)≤300 - l.Base∧0≤l.BaseTerm∧l.BaseTerm≤300:=by
 unfold logOk at h
 obtain ⟨h1,h⟩:=and_iff'.1 h
 obtain ⟨h2,h⟩:=and_iff'.1 h
 obtain ⟨h3,h4⟩:=and_iff'.1 h
 have h1':=of_decide_eq_true h1
 have h2':=of_decide_eq_true h2
 have h3':=of_decide_eq_true h3
 omega
theorem hardB_log {p:impl_Prog} {h:impl_Hard} (hh:hardB p h=true):logOk h.Log=true∧machB p h.Snap=true∧(0≤h.Term∧h.Term≤300)∧(-1≤h.Vote∧h.Vote≤4)∧lastT h.Log≤h.Term:=by
 unfold hardB at hh
 obtain ⟨h1,hh⟩:=and_iff'.1 hh
 obtain ⟨h2,hh⟩:=and_iff'.1 hh
 obtain ⟨h3,hh⟩:=and_iff'.1 hh
 obtain ⟨h4,h5⟩:=and_iff'.1 hh
 exact ⟨h3,h5,of_decide_eq_true h1,of_decide_eq_true h2,of_decide_eq_true h4⟩
theorem there_all {l:impl_Log} (h:logOk l=true):thereOf l=l.List:=by
 obtain ⟨h1,h2,h3,_⟩:=logOk_len h
 unfold thereOf
 rw [if_pos ⟨h1,h2⟩,List.take_of_length_le (by omega)]
theorem from_at {l:impl_Log} (h:logOk l=true) (k:Nat) (hk:k < l.List.length):i_From l (l.Base+k+1)=some (l.List.drop k,()):=by
 obtain ⟨h1,h2,h3,_⟩:=logOk_len h
 have e1:w64 (l.Base+(l.List.length:Int))=l.Base+l.List.length:=w64_id (by omega) (by omega)
 have e2:w64 (w64 (l.Base+k+1 - l.Base) - 1)=(k:Int):=by rw [w64_id (n:=l.Base+k+1 - l.Base) (by omega) (by omega),w64_id (by omega) (by omega)]; omega
 rw [i_From_eq,there_ok l (by omega),there_all h,Option.bind_some]
 dsimp only
 rw [if_neg (by rw [decide_eq_true_eq]; omega),if_neg (by rw [decide_eq_true_eq]; omega),e1,if_neg (by rw [decide_eq_true_eq]; omega),e2,if_pos (by omega),Int.toNat_natCast,List.take_of_length_le (by rw [List.length_drop]; exact Nat.le_refl _),clone_Entry _ (by rw [List.length_drop]; omega),Option.bind_some]
def termN (l:impl_Log) (k:Nat):Int:=if k=0 then l.BaseTerm else (l.List.getD (k - 1) z_impl_Entry).Term
theorem term_at {l:impl_Log} (h:logOk l=true) (k:Nat) (hk:k≤l.List.length):i_TermAt l (l.Base+k)=some (termN l k,()):=by
 obtain ⟨h1,h2,h3,_⟩:=logOk_len h
 have e1:w64 (l.Base+(l.List.length:Int))=l.Base+l.List.length:=w64_id (by omega) (by omega)
 rw [i_TermAt_eq,there_ok l (by omega),there_all h,Option.bind_some]
 dsimp only
 unfold termN
 by_cases c:k=0
 ·rw [if_pos (decide_eq_true (by omega)),if_pos c]
 ·have e2:w64 (w64 (l.Base+k - l.Base) - 1)=((k - 1:Nat):Int):=by rw [w64_id (n:=l.Base+k - l.Base) (by omega) (by omega),w64_id (by omega) (by omega)]; omega
  rw [if_neg (by rw [decide_eq_true_eq]; omega),if_pos (decide_eq_true (by omega)),if_pos (decide_eq_true (by omega)),e1,if_pos (decide_eq_true (by omega)),e2,if_pos (by omega),Int.toNat_natCast,if_neg c]
theorem s_l1Min_ok (a b:Int):s_l1Min a b=some (if a < b then a else b,()):=by
 rw [s_l1Min_eq]
 by_cases c:a < b
 ·rw [if_pos (decide_eq_true c),if_pos c]
 ·rw [if_neg (by rw [decide_eq_true_eq]; exact c),if_neg c]
theorem lastI_all {l:impl_Log} (h:logOk l=true):lastI l=l.Base+l.List.length:=by
 obtain ⟨h1,h2,h3,_⟩:=logOk_len h
 unfold lastI
 split
 ·omega
 ·rw [w64_id (by omega) (by omega)]
theorem put_rows (h:impl_Hard) (hl:logOk h.Log=true) (hw:LinesOk h.Log.List):∀ (d k:Nat) (acc:List Int),h.Log.List.length≤k+d→40 * acc.length≤40 * 82000+41000 * k→k≤300+40→(k≤h.Log.List.length∨True) →
  ∃ l,s_l21Bytes_L2 acc (termN h.Log k) (k:Int) h=some (l,())∧i_HardBytes_L2 acc (lastI h.Log) (h.Log.Base+k) h=some (l,())∧l.length≤1000000:=by
 obtain ⟨h1,h2,h3,_⟩:=logOk_len hl
 rw [lastI_all hl]
 intro d
 induction d with
 | zero =>
  intro k acc hd ha hk _
  rw [s_l21Bytes_L2_eq,i_HardBytes_L2_eq,if_neg (by rw [decide_eq_true_eq]; omega),if_neg (by rw [decide_eq_true_eq]; omega)]
  exact ⟨acc,rfl,rfl,by omega⟩
 | succ d ih =>
  intro k acc hd ha hk _
  by_cases c:k < h.Log.List.length
  ·have w1:w64 ((k:Int)+40)=((k+40:Nat):Int):=by rw [w64_id (by omega) (by omega)]; omega
   have w2:w64 (h.Log.Base+(k:Int))=h.Log.Base+k:=w64_id (by omega) (by omega)
   have w3:w64 (h.Log.Base+(k:Int)+1)=h.Log.Base+k+1:=w64_id (by omega) (by omega)
   have w4:w64 (h.Log.Base+(k:Int)+40)=h.Log.Base+((k+40:Nat):Int):=by rw [w64_id (by omega) (by omega)]; omega
   have hmin:(if ((k+40:Nat):Int) < (h.Log.List.length:Int) then ((k+40:Nat):Int) else (h.Log.List.length:Int))=((min (k+40) h.Log.List.length:Nat):Int):=by split <;> omega
   have hmn:mnI ((h.Log.List.drop k).length:Int) 40=((min (h.Log.List.length - k) 40:Nat):Int):=by
    unfold mnI; rw [List.length_drop]; split <;> omega
   have hlist:List.take ((min (k+40) h.Log.List.length:Nat) - k) (h.Log.List.drop k)=List.take (min (h.Log.List.length - k) 40) (h.Log.List.drop k):=by
    congr 1; omega
   have hL:(List.take (min (h.Log.List.length - k) 40) (h.Log.List.drop k)).length≤4294967296:=by rw [List.length_take,List.length_drop]; omega
   have hW:LinesOk (List.take (min (h.Log.List.length - k) 40) (h.Log.List.drop k)):=fun e he=>hw e (List.mem_of_mem_drop (List.mem_of_mem_take he))
   have hrb:=recBytes_len ⟨2,termN h.Log k,0,h.Log.Base+k,List.take (min (h.Log.List.length - k) 40) (h.Log.List.drop k),[]⟩
   rw [s_l21Bytes_L2_eq,if_pos (decide_eq_true (by omega)),w1,s_l1Min_ok,hmin,Option.bind_some]
   dsimp only
   rw [if_pos (by omega),w2,Int.toNat_natCast,Int.toNat_natCast,hlist,s_RecBytes_ok _ hL hW,Option.bind_some]
   dsimp only
   have w5:w64 (((min (k+40) h.Log.List.length:Nat):Int) - 1)=((min (k+40) h.Log.List.length - 1:Nat):Int):=by rw [w64_id (by omega) (by omega)]; omega
   rw [if_pos (by rw [room_eq]; omega),w5,if_pos (by omega),Int.toNat_natCast]
   rw [i_HardBytes_L2_eq,if_pos (decide_eq_true (by omega)),w3,from_at hl k c,Option.bind_some,term_at hl k (by omega),Option.bind_some]
   dsimp only
   rw [hmn,if_pos (by rw [List.length_drop]; omega),Int.toNat_natCast,Nat.sub_zero,List.drop_zero,i_RecBytes_ok _ hL,Option.bind_some]
   dsimp only
   rw [if_pos (by rw [room_eq]; omega),w4]
   have hlen:∀ r:List Int,(List.append acc r).length=acc.length+r.length:=fun r=>List.length_append
   by_cases c2:k+40≤h.Log.List.length
   ·have ht:(h.Log.List.getD (min (k+40) h.Log.List.length - 1) z_impl_Entry).Term=termN h.Log (k+40):=by
     unfold termN
     rw [if_neg (by omega),show min (k+40) h.Log.List.length=k+40 by omega]
    rw [ht]
    exact ih (k+40) _ (by omega) (by rw [hlen]; omega) (by omega) (.inr trivial)
   ·rw [s_l21Bytes_L2_eq,if_neg (by rw [decide_eq_true_eq]; omega),i_HardBytes_L2_eq,if_neg (by rw [decide_eq_true_eq]; omega)]
    exact ⟨_,rfl,rfl,by rw [hlen]; omega⟩
  ·rw [s_l21Bytes_L2_eq,i_HardBytes_L2_eq,if_neg (by rw [decide_eq_true_eq]; omega),if_neg (by rw [decide_eq_true_eq]; omega)]
   exact ⟨acc,rfl,rfl,by omega⟩
theorem hardBytes_same (p:impl_Prog) (h:impl_Hard) (hp:BProg p) (hb:BHard h):∃ l,s_HardBytes p h=some (l,())∧i_HardBytes p h=some (l,())∧l.length≤1000000:=by
 rw [s_HardBytes_eq,i_HardBytes_eq,s_HardOk_ok p h hp hb,i_HardOk_ok p h hp hb,Option.bind_some,Option.bind_some]
 cases hB:hardB p h with
 | false=>exact ⟨[],rfl,rfl,by simp⟩
 | true =>
  obtain ⟨q1,q2,q3,q4,q5⟩:=hardB_log hB
  obtain ⟨h1,h2,h3,_⟩:=logOk_len q1
  have hm:=machB_fine q2
  dsimp only
  rw [if_neg (c:=(!true)=true) (by simp),if_neg (c:=(!true)=true) (by simp),s_l21Bytes_eq,s_RecBytes_ok _ (by simp) (fun e he=>by cases he),i_RecBytes_ok _ (by simp),Option.bind_some,Option.bind_some]
  dsimp only
  have r1:=recBytes_len ⟨1,h.Term,h.Vote,0,[],[]⟩
  have go:∀ acc:List Int,acc.length≤82000→∃ l,(s_l21Bytes_L1 acc h).bind (fun (r1:(List Int) × Unit)=>some (r1.1,()))=some (l,())∧i_HardBytes_L1 acc h=some (l,())∧l.length≤1000000:=fun acc ha=>by
   obtain ⟨l,e1,e2,e3⟩:=put_rows h q1 hb.1.lines h.Log.List.length 0 acc (by omega) (by omega) (by omega) (.inr trivial)
   have e0:termN h.Log 0=h.Log.BaseTerm:=rfl
   rw [e0] at e1
   rw [s_l21Bytes_L1_eq,i_HardBytes_L1_eq,i_LastOf_ok _ hb.1.1,Option.bind_some]
   dsimp only
   have e2':i_HardBytes_L2 acc (lastI h.Log) h.Log.Base h=some (l,()):=by rw [show h.Log.Base+((0:Nat):Int)=h.Log.Base by omega] at e2; exact e2
   have e1':s_l21Bytes_L2 acc h.Log.BaseTerm 0 h=some (l,()):=e1
   rw [e1',e2']
   exact ⟨l,rfl,rfl,e3⟩
  by_cases c:h.Log.Base > 0
  ·have r2:=recBytes_len ⟨3,h.Log.BaseTerm,0,h.Log.Base,[],machBytes h.Snap⟩
   have hmb:=i_MachBytes_ok p h.Snap hp hb.2
   have hP:machBytesP p h.Snap=machBytes h.Snap:=by unfold machBytesP; rw [q2,if_pos rfl]
   rw [if_pos (decide_eq_true c),if_pos (decide_eq_true c),s_l17Bytes_ok _ hm,hmb,hP,Option.bind_some,Option.bind_some]
   dsimp only
   rw [s_RecBytes_ok _ (by simp) (fun e he=>by cases he),i_RecBytes_ok _ (by simp),Option.bind_some,Option.bind_some]
   dsimp only
   have hroom:(recBytes ⟨1,h.Term,h.Vote,0,[],[]⟩).length+(recBytes ⟨3,h.Log.BaseTerm,0,h.Log.Base,[],machBytes h.Snap⟩).length≤room:=by rw [room_eq]; omega
   rw [if_pos hroom,if_pos hroom]
   exact go _ (by rw [lenA]; omega)
  ·rw [if_neg (by rw [decide_eq_true_eq]; exact c),if_neg (by rw [decide_eq_true_eq]; exact c)]
   exact go _ (by omega)
end Go.Proofs.YtcngnpahpbaagaaGreatDoor.E.TH
