/- What the pure statement needs (2). No condition. -/
import Derived.Test.YtcngnpahpbaagaaGreatDoorM1
import Derived.Test.YtcngnpahpbaagaaGreatDoorTHe1
import Derived.Test.YtcngnpahpbaagaaGreatDoorTHe2
import Derived.Test.YtcngnpahpbaagaaGreatDoorTHe3
namespace Go.Proofs.YtcngnpahpbaagaaGreatDoor.E.TH
open Go.Proofs.YtcngnpahpbaagaaGreatDoor.E
set_option linter.unusedVariables false
noncomputable def looksV (s:List Int):Int × Bool:=match s_DecLooks s with
 | some (v,ok,_)=>(v,ok)
 | none=>(0,false)
theorem looks_ok (s:List Int) (hs:s.length≤1000000) (hb:Bt s):s_DecLooks s=some ((looksV s).1,(looksV s).2,())∧i_DecLooks s=some ((looksV s).1,(looksV s).2,()):=by
 obtain ⟨v,ok,e1,e2,_⟩:=decLooks_same s hs hb
 have:looksV s=(v,ok):=by unfold looksV; rw [e1]
 rw [this]; exact ⟨e1,e2⟩
noncomputable def valB (v:impl_Val):Bool:=(decide (-9000000000000≤v.N∧v.N≤9000000000000) && !decide ((v.S.length:Int) > 300)) &&
 (if v.Kind=0 then decide (v.N=0) && decide (v.S=[]) else if v.Kind=1 then decide (v.S=[]) else if v.Kind=2 then decide (v.N=0) else if v.Kind=3 then (looksV v.S).2 && decide ((looksV v.S).1=v.N) else false)
theorem i_ValOk_ok (v:impl_Val) (hb:Bt v.S):i_ValOk v=some (valB v,()):=by
 rw [i_ValOk_eq,i_DecOk_val,Option.bind_some]
 dsimp only
 unfold valB
 cases decide (-9000000000000≤v.N∧v.N≤9000000000000) with
 | false=>rfl
 | true =>
  by_cases h:(v.S.length:Int) > 300
  ·rw [decide_eq_true h]; rfl
  ·rw [decide_eq_false h,(looks_ok v.S (by omega) hb).2,Option.bind_some]
   dsimp only
   simp only [ite_and]
   by_cases c0:v.Kind=0
   ·simp [c0]
   by_cases c1:v.Kind=1
   ·simp [c1]
   by_cases c2:v.Kind=2
   ·simp [c2]
   by_cases c3:v.Kind=3
   ·simp [c3]
   simp [c0,c1,c2,c3]
theorem s_ValOk_ok (v:impl_Val) (hb:Bt v.S):s_ValOk v=some (valB v,()):=by
 rw [s_ValOk_eq,s_DecOk_ok,s_l1In_ok,Option.bind_some,Option.bind_some]
 dsimp only
 unfold valB
 by_cases hk:0≤v.Kind∧v.Kind≤3
 ·rw [decide_eq_true hk]
  cases decide (-9000000000000≤v.N∧v.N≤9000000000000) with
  | false=>rfl
  | true =>
   by_cases h:(v.S.length:Int) > 300
   ·rw [decide_eq_true h]; rfl
   ·rw [decide_eq_false h,(looks_ok v.S (by omega) hb).1,Option.bind_some]
    dsimp only
    simp only [ite_and]
    by_cases c0:v.Kind=0
    ·simp [c0]
    by_cases c1:v.Kind=1
    ·simp [c1]
    by_cases c2:v.Kind=2
    ·simp [c2]
    have c3:v.Kind=3:=by omega
    simp [c3]
 ·rw [decide_eq_false hk,if_pos (c:=(!false)=true) rfl,if_neg (c:=v.Kind=0) (by omega),if_neg (c:=v.Kind=1) (by omega),if_neg (c:=v.Kind=2) (by omega),if_neg (c:=v.Kind=3) (by omega),Bool.and_false]
def cellLess (a b:impl_Cell):Bool:=decide (a.Name < b.Name) || (decide (a.Name=b.Name) && ltS a.Key b.Key)
theorem s_l11Less_ok (a:impl_Cell) (n:Int) (k:List Int):s_l11Less a n k=some (decide (a.Name < n) || (decide (a.Name=n) && ltS a.Key k),()):=by
 rw [s_l11Less_eq]
 cases decide (a.Name < n) <;> cases decide (a.Name=n) <;> rfl
theorem strCompare_ok (a b:List Int):x_strings_Compare a b=some (cmpI a b,()):=by
 rw [x_strings_Compare_eq,x_internal_bytealg_CompareString_eq,x_internal_bytealg_abigen_runtime_cmpstring_eq]; rfl
theorem cmp_ge (a b:List Int):decide (cmpI a b ≥ 0) = !ltS a b:=by
 unfold cmpI
 cases ltS a b with
 | true=>rfl
 | false=>cases ltS b a <;> rfl
theorem i_cellBefore_ok (a b:impl_Cell):∃ k,i_cellBefore a b=some (k,())∧decide (k ≥ 0) = !cellLess a b:=by
 rw [i_cellBefore_eq,strCompare_ok,Option.bind_some]
 unfold cellLess
 by_cases h:a.Name < b.Name
 ·rw [if_pos (decide_eq_true h),decide_eq_true h]; exact ⟨_,rfl,rfl⟩
 ·rw [if_neg (by rw [decide_eq_true_eq]; exact h),decide_eq_false h]
  by_cases g:a.Name > b.Name
  ·rw [if_pos (decide_eq_true g),decide_eq_false (by omega)]; exact ⟨_,rfl,rfl⟩
  ·rw [if_neg (by rw [decide_eq_true_eq]; exact g),decide_eq_true (by omega)]
   refine ⟨_,rfl,?_⟩
   rw [cmp_ge]; rfl
noncomputable def cellBad (l:List impl_Cell) (c:Int) (i:Nat):Bool :=
 decide ((l.getD i z_impl_Cell).Name < 0) || (decide ((l.getD i z_impl_Cell).Name ≥ c) || (decide (((l.getD i z_impl_Cell).Key.length:Int) > 300) || (!valB (l.getD i z_impl_Cell).Val || (decide ((i:Int) > 0) && !cellLess (l.getD (i - 1) z_impl_Cell) (l.getD i z_impl_Cell)))))
noncomputable def stateB (s:impl_State) (v c:Int):Bool :=
 decide ((s.Vars.length:Int)=v) && (!s.Vars.any (fun x=>!valB x) && (decide ((s.Cells.length:Int)≤40) && (decide (0≤s.Nr∧s.Nr≤1000000) && (decide (0≤s.Err∧s.Err≤7) && !anyB (cellBad s.Cells c) s.Cells.length))))
def BState (s:impl_State):Prop:=(s.Vars.length≤2097152∧∀ v∈s.Vars,Bt v.S)∧s.Cells.length≤2097152∧∀ c∈s.Cells,Bt c.Val.S
theorem anyVals_ok (l:List impl_Val) (hl:l.length≤4294967296) (hb:∀ v∈l,Bt v.S):x_slices_ContainsFunc_impl_Val_StateOk_1 l=some (l.any (fun x=>!valB x),()):=by
 rw [x_slices_ContainsFunc_impl_Val_StateOk_1_eq,x_slices_IndexFunc_impl_Val_StateOk_1_eq]
 obtain ⟨k,e,e1,_⟩:=index_loop (fun i=>x_slices_IndexFunc_impl_Val_StateOk_1_L1 l (l.length:Int) i) () l.length (fun i=>!valB (l.getD i z_impl_Val)) (fun i hi=>by
  show x_slices_IndexFunc_impl_Val_StateOk_1_L1 l _ i=_
  rw [x_slices_IndexFunc_impl_Val_StateOk_1_L1_eq,if_pos (decide_eq_true (by omega)),if_pos (by omega),w64_succ hi (by omega),Int.toNat_natCast,i_StateOk_1_eq,i_ValOk_ok _ (by rw [getD_lt hi]; exact hb _ (List.getElem_mem hi)),Option.bind_some,Option.bind_some]) (by
  show x_slices_IndexFunc_impl_Val_StateOk_1_L1 l _ _=_
  rw [x_slices_IndexFunc_impl_Val_StateOk_1_L1_eq,if_neg (by simp)])
 rw [e,Option.bind_some]
 dsimp only
 rw [e1,anyB_list l z_impl_Val (fun x=>!valB x)]
theorem i_cells_ok (s:impl_State) (c:Int) (hl:s.Cells.length≤4294967296) (hb:∀ x∈s.Cells,Bt x.Val.S):i_StateOk_L1 c s.Cells (s.Cells.length:Int) 0 s=some (!anyB (cellBad s.Cells c) s.Cells.length,()):=by
 have:=find_loopN (fun i=>i_StateOk_L1 c s.Cells (s.Cells.length:Int) i s) s.Cells.length (cellBad s.Cells c) (some (false,())) (some (true,())) (fun i hi=>by
  show i_StateOk_L1 c s.Cells _ i s=_
  obtain ⟨k,e,e1⟩:=i_cellBefore_ok (s.Cells.getD (i - 1) z_impl_Cell) (s.Cells.getD i z_impl_Cell)
  rw [i_StateOk_L1_eq,if_pos (decide_eq_true (by omega)),if_pos (by omega),w64_succ hi (by omega),Int.toNat_natCast,i_ValOk_ok _ (by rw [getD_lt hi]; exact hb _ (List.getElem_mem hi)),Option.bind_some]
  dsimp only
  unfold cellBad
  by_cases h0:(i:Int) > 0
  ·have w1:w64 ((i:Int) - 1)=((i - 1:Nat):Int):=by rw [w64_id (by omega) (by omega)]; omega
   rw [decide_eq_true h0,w1,Int.toNat_natCast,if_pos (c:=(true=true)) rfl,if_pos (c:=0≤((i - 1:Nat):Int)∧((i - 1:Nat):Int) < (s.Cells.length:Int)) (by omega),e,Option.bind_some]
   dsimp only
   rw [e1]
   cases decide ((s.Cells.getD i z_impl_Cell).Name < 0) <;> cases decide ((s.Cells.getD i z_impl_Cell).Name ≥ c) <;> cases decide (((s.Cells.getD i z_impl_Cell).Key.length:Int) > 300) <;> cases valB (s.Cells.getD i z_impl_Cell).Val <;> rfl
  ·rw [decide_eq_false h0,if_neg (c:=(false=true)) (by simp)]
   cases decide ((s.Cells.getD i z_impl_Cell).Name < 0) <;> cases decide ((s.Cells.getD i z_impl_Cell).Name ≥ c) <;> cases decide (((s.Cells.getD i z_impl_Cell).Key.length:Int) > 300) <;> cases valB (s.Cells.getD i z_impl_Cell).Val <;> rfl) (by
  show i_StateOk_L1 c s.Cells _ _ s=_
  rw [i_StateOk_L1_eq,if_neg (by simp)])
 rw [this]
 cases anyB (cellBad s.Cells c) s.Cells.length <;> rfl
theorem i_StateOk_ok (s:impl_State) (v c:Int) (h:BState s):i_StateOk s v c=some (stateB s v c,()):=by
 rw [i_StateOk_eq,anyVals_ok s.Vars (by have:=h.1.1; omega) h.1.2,i_in_ok,i_in_ok,i_cells_ok s c (by have:=h.2.1; omega) h.2.2]
 simp only [Option.bind_some]
 have e:decide ((s.Cells.length:Int) > 40) = !decide ((s.Cells.length:Int)≤40):=by
  by_cases g:(s.Cells.length:Int)≤40
  ·rw [decide_eq_true g,decide_eq_false (by omega)]; rfl
  ·rw [decide_eq_false g,decide_eq_true (by omega)]; rfl
 unfold stateB
 rw [e]
 cases decide ((s.Vars.length:Int)=v) <;> cases s.Vars.any (fun x=>!valB x) <;> cases decide ((s.Cells.length:Int)≤40) <;> cases decide (0≤s.Nr∧s.Nr≤1000000) <;> cases decide (0≤s.Err∧s.Err≤7) <;> rfl
theorem s_StateOk_ok (s:impl_State) (v c:Int) (h:BState s):s_StateOk s v c=some (stateB s v c,()):=by
 have h1:=h.1.1
 have h2:=h.2.1
 rw [s_StateOk_eq]
 have f2:=find_loopN (fun i=>s_StateOk_L2 v c i s) s.Cells.length (cellBad s.Cells c) (some (false,())) (some (decide ((s.Vars.length:Int)=v) && (decide ((s.Cells.length:Int)≤40) && (decide (0≤s.Nr∧s.Nr≤1000000) && decide (0≤s.Err∧s.Err≤7))),())) (fun i hi=>by
  show s_StateOk_L2 v c i s=_
  rw [s_StateOk_L2_eq,if_pos (decide_eq_true (by omega)),if_pos (by omega),w64_succ hi (by omega),Int.toNat_natCast,s_ValOk_ok _ (by rw [getD_lt hi]; exact h.2.2 _ (List.getElem_mem hi)),Option.bind_some]
  dsimp only
  unfold cellBad
  by_cases h0:(i:Int) > 0
  ·have w1:w64 ((i:Int) - 1)=((i - 1:Nat):Int):=by rw [w64_id (by omega) (by omega)]; omega
   rw [decide_eq_true h0,w1,Int.toNat_natCast,if_pos (c:=(true=true)) rfl,if_pos (c:=0≤((i - 1:Nat):Int)∧((i - 1:Nat):Int) < (s.Cells.length:Int)) (by omega),s_l11Less_ok,Option.bind_some]
   dsimp only
   unfold cellLess
   cases decide ((s.Cells.getD i z_impl_Cell).Name < 0) <;> cases decide ((s.Cells.getD i z_impl_Cell).Name ≥ c) <;> cases decide (((s.Cells.getD i z_impl_Cell).Key.length:Int) > 300) <;> cases valB (s.Cells.getD i z_impl_Cell).Val <;> rfl
  ·rw [decide_eq_false h0,if_neg (c:=(false=true)) (by simp)]
   cases decide ((s.Cells.getD i z_impl_Cell).Name < 0) <;> cases decide ((s.Cells.getD i z_impl_Cell).Name ≥ c) <;> cases decide (((s.Cells.getD i z_impl_Cell).Key.length:Int) > 300) <;> cases valB (s.Cells.getD i z_impl_Cell).Val <;> rfl) (by
  show s_StateOk_L2 v c _ s=_
  rw [s_StateOk_L2_eq,if_neg (by simp),s_l1In_ok,s_l1In_ok,Option.bind_some,Option.bind_some]
  dsimp only
  cases decide ((s.Vars.length:Int)=v) <;> cases decide ((s.Cells.length:Int)≤40) <;> cases decide (0≤s.Nr∧s.Nr≤1000000) <;> rfl)
 have f1:=find_loopN (fun i=>s_StateOk_L1 v c i s) s.Vars.length (fun i=>!valB (s.Vars.getD i z_impl_Val)) (some (false,())) (s_StateOk_L2 v c 0 s) (fun i hi=>by
  show s_StateOk_L1 v c i s=_
  rw [s_StateOk_L1_eq,if_pos (decide_eq_true (by omega)),if_pos (by omega),w64_succ hi (by omega),Int.toNat_natCast,s_ValOk_ok _ (by rw [getD_lt hi]; exact h.1.2 _ (List.getElem_mem hi)),Option.bind_some]) (by
  show s_StateOk_L1 v c _ s=_
  rw [s_StateOk_L1_eq,if_neg (by simp)])
 rw [f1,f2,anyB_list s.Vars z_impl_Val (fun x=>!valB x)]
 unfold stateB
 cases decide ((s.Vars.length:Int)=v) <;> cases s.Vars.any (fun x=>!valB x) <;> cases decide ((s.Cells.length:Int)≤40) <;> cases decide (0≤s.Nr∧s.Nr≤1000000) <;> cases decide (0≤s.Err∧s.Err≤7) <;> cases anyB (cellBad s.Cells c) s.Cells.length <;> rfl
def BOps (l:List impl_Op):Prop:=l.length≤2097152∧∀ o∈l,(∀ b∈o.S,0≤b∧b≤255)∧o.S.length≤2097152
def BProg (p:impl_Prog):Prop:=(p.Vars.length≤2097152∧∀ s∈p.Vars,s.length≤2097152)∧(p.Cells.length≤2097152∧∀ s∈p.Cells,s.length≤2097152)∧BOps p.Start∧BOps p.Main
noncomputable def opsB (l:List impl_Op) (v c:Int):Bool :=
 decide (1≤(l.length:Int)∧(l.length:Int)≤1500) && (decide ((l.getD (l.length - 1) z_impl_Op).Code=36) && !l.any (fun o=>!opB o l.length v c))
theorem s_OpsOk_ok (l:List impl_Op) (v c:Int) (h:BOps l):s_OpsOk l v c=some (opsB l v c,()):=by
 have h1:=h.1
 rw [s_OpsOk_eq,s_l1In_ok,Option.bind_some]
 dsimp only
 unfold opsB
 by_cases g:1≤(l.length:Int)∧(l.length:Int)≤1500
 ·have w1:w64 ((l.length:Int) - 1)=((l.length - 1:Nat):Int):=by rw [w64_id (by omega) (by omega)]; omega
  have f:=find_loopN (fun i=>s_OpsOk_L1 l v c (l.length:Int) i) l.length (fun i=>!opB (l.getD i z_impl_Op) l.length v c) (some (false,())) (some (true,())) (fun i hi=>by
   show s_OpsOk_L1 l v c _ i=_
   rw [s_OpsOk_L1_eq,if_pos (decide_eq_true (by omega)),if_pos (by omega),w64_succ hi (by omega),Int.toNat_natCast,s_l13Op_ok _ _ _ _ (by rw [getD_lt hi]; exact (h.2 _ (List.getElem_mem hi)).1) (by rw [getD_lt hi]; have:=(h.2 _ (List.getElem_mem hi)).2; omega),Option.bind_some]) (by
   show s_OpsOk_L1 l v c _ _=_
   rw [s_OpsOk_L1_eq,if_neg (by simp)])
  rw [decide_eq_true g,if_neg (by simp),w1,if_pos (by omega),Int.toNat_natCast,f,anyB_list l z_impl_Op (fun o=>!opB o l.length v c)]
  cases decide ((l.getD (l.length - 1) z_impl_Op).Code=36) <;> cases l.any (fun o=>!opB o l.length v c) <;> rfl
 ·rw [decide_eq_false g]; rfl
theorem anyOps_ok (l:List impl_Op) (v c:Int) (h:BOps l):x_slices_ContainsFunc_impl_Op_OpsOk_1 l l v c=some (l.any (fun o=>!opB o l.length v c),l,v,c,()):=by
 have h1:=h.1
 rw [x_slices_ContainsFunc_impl_Op_OpsOk_1_eq,x_slices_IndexFunc_impl_Op_OpsOk_1_eq]
 obtain ⟨k,e,e1,_⟩:=index_loop (fun i=>x_slices_IndexFunc_impl_Op_OpsOk_1_L1 l (l.length:Int) i l v c) (l,v,c,()) l.length (fun i=>!opB (l.getD i z_impl_Op) l.length v c) (fun i hi=>by
  show x_slices_IndexFunc_impl_Op_OpsOk_1_L1 l _ i l v c=_
  rw [x_slices_IndexFunc_impl_Op_OpsOk_1_L1_eq,if_pos (decide_eq_true (by omega)),if_pos (by omega),w64_succ hi (by omega),Int.toNat_natCast,i_OpsOk_1_eq,i_opRight_ok _ _ _ _ (by rw [getD_lt hi]; exact (h.2 _ (List.getElem_mem hi)).1) (by rw [getD_lt hi]; have:=(h.2 _ (List.getElem_mem hi)).2; omega),Option.bind_some,Option.bind_some]) (by
  show x_slices_IndexFunc_impl_Op_OpsOk_1_L1 l _ _ l v c=_
  rw [x_slices_IndexFunc_impl_Op_OpsOk_1_L1_eq,if_neg (by simp)])
 rw [e,Option.bind_some]
 dsimp only
 rw [e1,anyB_list l z_impl_Op (fun o=>!opB o l.length v c)]
theorem i_OpsOk_ok (l:List impl_Op) (v c:Int) (h:BOps l):i_OpsOk l v c=some (opsB l v c,()):=by
 have h1:=h.1
 rw [i_OpsOk_eq,i_in_ok,Option.bind_some]
 dsimp only
 unfold opsB
 by_cases g:1≤(l.length:Int)∧(l.length:Int)≤1500
 ·have w1:w64 ((l.length:Int) - 1)=((l.length - 1:Nat):Int):=by rw [w64_id (by omega) (by omega)]; omega
  rw [decide_eq_true g,if_neg (by simp),w1,if_pos (by omega),Int.toNat_natCast,anyOps_ok l v c h,Option.bind_some]
  cases decide ((l.getD (l.length - 1) z_impl_Op).Code=36) <;> rfl
 ·rw [decide_eq_false g]; rfl
def nameBad (l:List (List Int)) (i:Nat):Bool:=!nameB (l.getD i []) || (decide ((i:Int) > 0) && !ltS (l.getD (i - 1) []) (l.getD i []))
def namesB (l:List (List Int)):Bool:=!anyB (nameBad l) l.length && decide ((l.length:Int)≤8)
theorem i_namesOk_ok (l:List (List Int)) (hl:l.length≤2097152) (hs:∀ s∈l,s.length≤2097152):i_namesOk l=some (namesB l,()):=by
 rw [i_namesOk_eq]
 have f:=find_loopN (fun i=>i_namesOk_L1 l l (l.length:Int) i) l.length (nameBad l) (some (false,())) (some (decide ((l.length:Int)≤8),())) (fun i hi=>by
  show i_namesOk_L1 l l _ i=_
  rw [i_namesOk_L1_eq,if_pos (decide_eq_true (by omega)),if_pos (by omega),w64_succ hi (by omega),Int.toNat_natCast,i_isName_ok _ (by rw [getD_lt hi]; have:=hs _ (List.getElem_mem hi); omega),Option.bind_some]
  dsimp only
  unfold nameBad
  by_cases h0:(i:Int) > 0
  ·have w1:w64 ((i:Int) - 1)=((i - 1:Nat):Int):=by rw [w64_id (by omega) (by omega)]; omega
   rw [decide_eq_true h0,w1,Int.toNat_natCast,if_pos (c:=(true=true)) rfl,if_pos (c:=0≤((i - 1:Nat):Int)∧((i - 1:Nat):Int) < (l.length:Int)) (by omega)]
   cases nameB (l.getD i []) <;> rfl
  ·rw [decide_eq_false h0,if_neg (c:=(false=true)) (by simp)]
   cases nameB (l.getD i []) <;> rfl) (by
  show i_namesOk_L1 l l _ _=_
  rw [i_namesOk_L1_eq,if_neg (by simp)])
 rw [f]
 unfold namesB
 cases anyB (nameBad l) l.length <;> rfl
noncomputable def progB (p:impl_Prog):Bool :=
 namesB p.Vars && (namesB p.Cells && (!p.Vars.any (fun s=>decide (s∈p.Cells)) && (opsB p.Start p.Vars.length p.Cells.length && opsB p.Main p.Vars.length p.Cells.length)))
theorem anyNames_ok (p:impl_Prog) (h:BProg p):x_slices_ContainsFunc_string_ProgOk_1 p.Vars p=some (p.Vars.any (fun s=>decide (s∈p.Cells)),p,()):=by
 have h1:=h.1.1
 have h2:=h.2.1.1
 rw [x_slices_ContainsFunc_string_ProgOk_1_eq,x_slices_IndexFunc_string_ProgOk_1_eq]
 obtain ⟨k,e,e1,_⟩:=index_loop (fun i=>x_slices_IndexFunc_string_ProgOk_1_L1 p.Vars (p.Vars.length:Int) i p) (p,()) p.Vars.length (fun i=>decide (p.Vars.getD i []∈p.Cells)) (fun i hi=>by
  show x_slices_IndexFunc_string_ProgOk_1_L1 p.Vars _ i p=_
  rw [x_slices_IndexFunc_string_ProgOk_1_L1_eq,if_pos (decide_eq_true (by omega)),if_pos (by omega),w64_succ hi (by omega),Int.toNat_natCast,i_ProgOk_1_eq,containsS_ok _ _ (by omega),Option.bind_some,Option.bind_some]) (by
  show x_slices_IndexFunc_string_ProgOk_1_L1 p.Vars _ _ p=_
  rw [x_slices_IndexFunc_string_ProgOk_1_L1_eq,if_neg (by simp)])
 rw [e,Option.bind_some]
 dsimp only
 rw [e1,anyB_list p.Vars [] (fun s=>decide (s∈p.Cells))]
theorem i_ProgOk_ok (p:impl_Prog) (h:BProg p):i_ProgOk p=some (progB p,()):=by
 rw [i_ProgOk_eq,i_namesOk_ok _ h.1.1 h.1.2,i_namesOk_ok _ h.2.1.1 h.2.1.2,anyNames_ok p h]
 simp only [Option.bind_some]
 rw [i_OpsOk_ok _ _ _ h.2.2.1,i_OpsOk_ok _ _ _ h.2.2.2]
 unfold progB
 cases namesB p.Vars <;> cases namesB p.Cells <;> cases p.Vars.any (fun s=>decide (s∈p.Cells)) <;> cases opsB p.Start p.Vars.length p.Cells.length <;> rfl
theorem s_ProgOk_ok (p:impl_Prog) (h:BProg p):s_ProgOk p=some (progB p,()):=by
 have h1:=h.1.1
 have h2:=h.2.1.1
 rw [s_ProgOk_eq]
 have f2:=find_loopN (fun i=>s_ProgOk_L2 i p) p.Cells.length (nameBad p.Cells) (some (false,())) (some (decide ((p.Vars.length:Int)≤8) && (decide ((p.Cells.length:Int)≤8) && (opsB p.Start p.Vars.length p.Cells.length && opsB p.Main p.Vars.length p.Cells.length)),())) (fun i hi=>by
  show s_ProgOk_L2 i p=_
  rw [s_ProgOk_L2_eq,if_pos (decide_eq_true (by omega)),if_pos (by omega),w64_succ hi (by omega),Int.toNat_natCast,s_l9Name_ok _ (by rw [getD_lt hi]; have:=h.2.1.2 _ (List.getElem_mem hi); omega),Option.bind_some]
  dsimp only
  unfold nameBad
  by_cases h0:(i:Int) > 0
  ·have w1:w64 ((i:Int) - 1)=((i - 1:Nat):Int):=by rw [w64_id (by omega) (by omega)]; omega
   rw [decide_eq_true h0,w1,Int.toNat_natCast,if_pos (c:=(true=true)) rfl,if_pos (c:=0≤((i - 1:Nat):Int)∧((i - 1:Nat):Int) < (p.Cells.length:Int)) (by omega),if_pos (c:=0≤(i:Int)∧(i:Int) < (p.Cells.length:Int)) (by omega)]
   cases nameB (p.Cells.getD i []) <;> rfl
  ·rw [decide_eq_false h0,if_neg (c:=(false=true)) (by simp)]
   cases nameB (p.Cells.getD i []) <;> rfl) (by
  show s_ProgOk_L2 _ p=_
  rw [s_ProgOk_L2_eq,if_neg (by simp),s_OpsOk_ok _ _ _ h.2.2.1,s_OpsOk_ok _ _ _ h.2.2.2,Option.bind_some,Option.bind_some]
  cases decide ((p.Vars.length:Int)≤8) <;> cases decide ((p.Cells.length:Int)≤8) <;> cases opsB p.Start p.Vars.length p.Cells.length <;> rfl)
 have f1:=find_loopN (fun i=>s_ProgOk_L1 i p) p.Vars.length (fun i=>nameBad p.Vars i || decide (p.Vars.getD i []∈p.Cells)) (some (false,())) (s_ProgOk_L2 0 p) (fun i hi=>by
  show s_ProgOk_L1 i p=_
  rw [s_ProgOk_L1_eq,if_pos (decide_eq_true (by omega)),if_pos (by omega),w64_succ hi (by omega),Int.toNat_natCast,s_l9Name_ok _ (by rw [getD_lt hi]; have:=h.1.2 _ (List.getElem_mem hi); omega),Option.bind_some,within_ok _ _ (by omega),Option.bind_some]
  dsimp only
  rw [if_pos (c:=0≤(i:Int)∧(i:Int) < (p.Vars.length:Int)) (by omega)]
  unfold nameBad
  by_cases h0:(i:Int) > 0
  ·have w1:w64 ((i:Int) - 1)=((i - 1:Nat):Int):=by rw [w64_id (by omega) (by omega)]; omega
   rw [decide_eq_true h0,w1,Int.toNat_natCast,if_pos (c:=(true=true)) rfl,if_pos (c:=0≤((i - 1:Nat):Int)∧((i - 1:Nat):Int) < (p.Vars.length:Int)) (by omega),if_pos (c:=0≤(i:Int)∧(i:Int) < (p.Vars.length:Int)) (by omega)]
   cases nameB (p.Vars.getD i []) <;> cases decide (p.Vars.getD i []∈p.Cells) <;> cases ltS (p.Vars.getD (i - 1) []) (p.Vars.getD i []) <;> rfl
  ·rw [decide_eq_false h0,if_neg (c:=(false=true)) (by simp)]
   cases nameB (p.Vars.getD i []) <;> cases decide (p.Vars.getD i []∈p.Cells) <;> rfl) (by
  show s_ProgOk_L1 _ p=_
  rw [s_ProgOk_L1_eq,if_neg (by simp)])
 rw [f1,f2,anyB_or (nameBad p.Vars) (fun i=>decide (p.Vars.getD i []∈p.Cells)),anyB_list p.Vars [] (fun s=>decide (s∈p.Cells))]
 unfold progB namesB
 cases anyB (nameBad p.Vars) p.Vars.length <;> cases anyB (nameBad p.Cells) p.Cells.length <;> cases p.Vars.any (fun s=>decide (s∈p.Cells)) <;> cases decide ((p.Vars.length:Int)≤8) <;> cases decide ((p.Cells.length:Int)≤8) <;> rfl
noncomputable def machB (p:impl_Prog) (m:impl_Mach):Bool :=
 progB p && (stateB m.State p.Vars.length p.Cells.length && (decide ((m.Done.length:Int)=3) && (!m.Done.any (fun n=>!decide (0≤n∧n≤100000)) && decide ((m.Out.length:Int)≤1500))))
theorem anyDone_ok (l:List Int) (hl:l.length≤2097152):x_slices_ContainsFunc_int_MachOk_1 l=some (l.any (fun n=>!decide (0≤n∧n≤100000)),()):=by
 rw [x_slices_ContainsFunc_int_MachOk_1_eq,x_slices_IndexFunc_int_MachOk_1_eq]
 obtain ⟨k,e,e1,_⟩:=index_loop (fun i=>x_slices_IndexFunc_int_MachOk_1_L1 l (l.length:Int) i) () l.length (fun i=>!decide (0≤l.getD i 0∧l.getD i 0≤100000)) (fun i hi=>by
  show x_slices_IndexFunc_int_MachOk_1_L1 l _ i=_
  rw [x_slices_IndexFunc_int_MachOk_1_L1_eq,if_pos (decide_eq_true (by omega)),if_pos (by omega),w64_succ hi (by omega),Int.toNat_natCast,i_MachOk_1_eq,i_in_ok,Option.bind_some,Option.bind_some]) (by
  show x_slices_IndexFunc_int_MachOk_1_L1 l _ _=_
  rw [x_slices_IndexFunc_int_MachOk_1_L1_eq,if_neg (by simp)])
 rw [e,Option.bind_some]
 dsimp only
 rw [e1,anyB_list l 0 (fun n=>!decide (0≤n∧n≤100000))]
theorem i_MachOk_ok (p:impl_Prog) (m:impl_Mach) (hp:BProg p) (hs:BState m.State) (hd:m.Done.length≤2097152):i_MachOk p m=some (machB p m,()):=by
 rw [i_MachOk_eq,i_ProgOk_ok p hp,i_StateOk_ok _ _ _ hs,anyDone_ok _ hd]
 simp only [Option.bind_some]
 unfold machB
 cases progB p <;> cases stateB m.State p.Vars.length p.Cells.length <;> cases decide ((m.Done.length:Int)=3) <;> cases m.Done.any (fun n=>!decide (0≤n∧n≤100000)) <;> rfl
theorem s_MachOk_ok (p:impl_Prog) (m:impl_Mach) (hp:BProg p) (hs:BState m.State) (hd:m.Done.length≤2097152):s_MachOk p m=some (machB p m,()):=by
 rw [s_MachOk_eq]
 have f:=find_loopN (fun i=>s_MachOk_L1 i p m) m.Done.length (fun i=>!decide (0≤m.Done.getD i 0∧m.Done.getD i 0≤100000)) (some (false,())) (some (progB p && (stateB m.State p.Vars.length p.Cells.length && (decide ((m.Done.length:Int)=3) && decide ((m.Out.length:Int)≤1500))),())) (fun i hi=>by
  show s_MachOk_L1 i p m=_
  rw [s_MachOk_L1_eq,if_pos (decide_eq_true (by omega)),if_pos (by omega),w64_succ hi (by omega),Int.toNat_natCast,s_l1In_ok,Option.bind_some]) (by
  show s_MachOk_L1 _ p m=_
  rw [s_MachOk_L1_eq,if_neg (by simp),s_ProgOk_ok p hp,s_StateOk_ok _ _ _ hs,Option.bind_some,Option.bind_some]
  cases progB p <;> cases stateB m.State p.Vars.length p.Cells.length <;> cases decide ((m.Done.length:Int)=3) <;> rfl)
 rw [f,anyB_list m.Done 0 (fun n=>!decide (0≤n∧n≤100000))]
 unfold machB
 cases progB p <;> cases stateB m.State p.Vars.length p.Cells.length <;> cases decide ((m.Done.length:Int)=3) <;> cases m.Done.any (fun n=>!decide (0≤n∧n≤100000)) <;> rfl
theorem idx_mem (l:List Int) (c:Int):0≤idxI l c ↔ c∈l:=by
 induction l with
 | nil=>simp [idxI]
 | cons b l ih =>
  have:=idxI_bd l c
  unfold idxI
  rw [List.mem_cons]
  by_cases hb:b=c
  ·rw [if_pos hb]; simp [hb]
  ·rw [if_neg hb]
   have hb':¬ c=b:=fun h=>hb h.symm
   by_cases hi:idxI l c = -1
   ·rw [if_pos hi]
    constructor
    ·intro h; omega
    ·rintro (h | h)
     ·exact absurd h hb'
     ·have:=ih.2 h; omega
   ·rw [if_neg hi]
    constructor
    ·intro h; exact .inr (ih.1 (by omega))
    ·rintro (h | h)
     ·exact absurd h hb'
     ·have:=ih.2 h; omega
theorem contains_one (l:List Int) (c:Int):x_strings_Contains l [c]=some (decide (c∈l),()):=by
 rw [x_strings_Contains_eq,x_strings_Index_eq,x_internal_stringslite_Index_eq]
 rw [if_neg (by simp)]
 by_cases h:[c]=l
 ·rw [if_pos (decide_eq_true h)]
  subst h
  simp
 ·rw [if_neg (by rw [decide_eq_true_eq]; exact h),if_pos (by simp),if_pos (by simp),x_internal_stringslite_IndexByte_eq,x_internal_bytealg_IndexByteString_eq]
  simp only [Option.bind_some,List.getD_cons_zero,ge_iff_le,idx_mem]
theorem s_l9Line_ok (l:List Int) (hl:l.length≤9223372036854775807):s_l9Line l=some (!decide ((10:Int)∈l),()):=by
 rw [s_l9Line_eq]
 have key:∀ (d i:Nat),i+d=l.length→s_l9Line_L1 l i=some (!decide ((10:Int)∈l.drop i),()):=by
  intro d
  induction d with
  | zero =>
   intro i hd
   rw [s_l9Line_L1_eq,if_neg (by rw [decide_eq_true_eq]; omega),List.drop_eq_nil_of_le (by omega)]; simp
  | succ d ih =>
   intro i hd
   have hi:i < l.length:=by omega
   rw [s_l9Line_L1_eq,if_pos (decide_eq_true (by omega)),if_pos (by omega),getD_nat hi,w64_succ hi hl,ih (i+1) (by omega),List.drop_eq_getElem_cons hi]
   by_cases h:l[i]=10
   ·rw [if_pos (decide_eq_true h),h]; simp
   ·rw [if_neg (by rw [decide_eq_true_eq]; exact h)]
    have h':¬ (10:Int)=l[i]:=fun e=>h e.symm
    simp only [List.mem_cons,h',false_or]
 have:=key l.length 0 (by omega)
 simpa using this
def cmdOk (c:impl_Cmd):Bool :=
 if c.Who = -1 then decide (c.Seq=0) && decide (c.Line=[])
 else decide (0≤c.Who∧c.Who≤2) && (decide (1≤c.Seq∧c.Seq≤100000) && (decide ((c.Line.length:Int)≤60) && !decide ((10:Int)∈c.Line)))
theorem i_lineOk_ok (l:List Int):i_lineOk l=some (decide ((l.length:Int)≤60) && !decide ((10:Int)∈l),()):=by
 rw [i_lineOk_eq]
 by_cases h:(l.length:Int)≤60
 ·rw [if_pos (decide_eq_true h),contains_one,Option.bind_some,decide_eq_true h]; rfl
 ·rw [if_neg (by rw [decide_eq_true_eq]; exact h),decide_eq_false h]; rfl
theorem i_CmdOk_ok (c:impl_Cmd):i_CmdOk c=some (cmdOk c,()):=by
 rw [i_CmdOk_eq]
 unfold cmdOk
 simp only [i_in_ok,i_lineOk_ok,Option.bind_some,decide_eq_true_eq]
 by_cases h1:c.Who = -1
 ·simp only [if_pos h1]
  by_cases h2:c.Seq=0
  ·simp only [if_pos h2,decide_eq_true h2,Bool.true_and]
  ·simp only [if_neg h2,decide_eq_false h2,Bool.false_and]
 ·simp only [if_neg h1]
  by_cases h2:0≤c.Who∧c.Who≤2
  ·simp only [if_pos h2,decide_eq_true h2,Bool.true_and]
   by_cases h3:1≤c.Seq∧c.Seq≤100000
   ·simp only [if_pos h3,decide_eq_true h3,Bool.true_and]
   ·simp only [if_neg h3,decide_eq_false h3,Bool.false_and]
  ·simp only [if_neg h2,decide_eq_false h2,Bool.false_and]
theorem s_CmdOk_ok (c:impl_Cmd) (hl:c.Line.length≤9223372036854775807):s_CmdOk c=some (cmdOk c,()):=by
 rw [s_CmdOk_eq]
 unfold cmdOk
 simp only [s_l1In_ok,s_l9Line_ok _ hl,Option.bind_some,decide_eq_true_eq]
 by_cases h1:c.Who = -1
 ·simp only [if_pos h1]
  by_cases h2:c.Seq=0
  ·simp only [if_pos h2,decide_eq_true h2,Bool.true_and]
  ·simp only [if_neg h2,decide_eq_false h2,Bool.false_and]
 ·simp only [if_neg h1]
  by_cases h2:0≤c.Who∧c.Who≤2
  ·simp only [if_pos h2,decide_eq_true h2,Bool.true_and]
   by_cases h3:1≤c.Seq∧c.Seq≤100000
   ·simp only [if_pos h3,decide_eq_true h3,Bool.true_and]
    by_cases h4:(c.Line.length:Int)≤60
    ·simp only [if_pos h4,decide_eq_true h4,Bool.true_and]
    ·simp only [if_neg h4,decide_eq_false h4,Bool.false_and]
   ·simp only [if_neg h3,decide_eq_false h3,Bool.false_and]
  ·simp only [if_neg h2,decide_eq_false h2,Bool.false_and]
def InI (n:Int):Prop:=-9223372036854775808≤n∧n≤9223372036854775807
theorem isIndex_ok (n:Int):i_isIndex n=some (decide (0≤n∧n≤300),()):=by rw [i_isIndex_eq,i_in_ok]; rfl
def LinesOk (l:List impl_Entry):Prop:=∀ e∈l,e.C.Line.length≤9223372036854775807
def listOk:List impl_Entry→Int→Bool
 | [],_=>true
 | e :: l,t=>decide (t≤e.Term∧e.Term≤300) && (cmdOk e.C && listOk l e.Term)
def logOk (l:impl_Log):Bool:=decide (0≤l.Base∧l.Base≤300) && (decide (0≤l.BaseTerm∧l.BaseTerm≤300) && (decide ((l.List.length:Int)≤300 - l.Base) && listOk l.List l.BaseTerm))
theorem s_LogOk_L1_ok (l:impl_Log) (hl:l.List.length≤4294967296) (hw:LinesOk l.List):∀ (d i:Nat) (t:Int),i+d=l.List.length→s_LogOk_L1 t i l=some (listOk (l.List.drop i) t,()):=by
 intro d
 induction d with
 | zero =>
  intro i t hd
  rw [s_LogOk_L1_eq,if_neg (by rw [decide_eq_true_eq]; omega),List.drop_eq_nil_of_le (by omega)]; rfl
 | succ d ih =>
  intro i t hd
  have hi:i < l.List.length:=by omega
  have c:(0:Int)≤(i:Int)∧(i:Int) < (l.List.length:Int):=by omega
  rw [s_LogOk_L1_eq,if_pos (decide_eq_true c.2),getD_nat hi,w64_succ hi (by omega),List.drop_eq_getElem_cons hi]
  simp only [if_pos c,s_l1In_ok,s_CmdOk_ok _ (hw _ (List.getElem_mem hi)),Option.bind_some]
  rw [ih (i+1) _ (by omega)]
  simp only [listOk]
  cases decide (t≤l.List[i].Term∧l.List[i].Term≤300) with
  | false=>rfl
  | true=>cases cmdOk l.List[i].C <;> rfl
theorem i_LogOk_L1_ok (l:List impl_Entry) (hl:l.length≤4294967296):∀ (d i:Nat) (t:Int),i+d=l.length→i_LogOk_L1 t l (l.length:Int) i=some (listOk (l.drop i) t,()):=by
 intro d
 induction d with
 | zero =>
  intro i t hd
  rw [i_LogOk_L1_eq,if_neg (by rw [decide_eq_true_eq]; omega),List.drop_eq_nil_of_le (by omega)]; rfl
 | succ d ih =>
  intro i t hd
  have hi:i < l.length:=by omega
  have c:(0:Int)≤(i:Int)∧(i:Int) < (l.length:Int):=by omega
  rw [i_LogOk_L1_eq,if_pos (decide_eq_true c.2),getD_nat hi,w64_succ hi (by omega),List.drop_eq_getElem_cons hi]
  simp only [if_pos c,i_in_ok,i_CmdOk_ok,Option.bind_some]
  rw [ih (i+1) _ (by omega)]
  simp only [listOk]
  cases decide (t≤l[i].Term∧l[i].Term≤300) with
  | false=>rfl
  | true=>cases cmdOk l[i].C <;> rfl
theorem s_LogOk_ok (l:impl_Log) (hl:l.List.length≤4294967296) (hw:LinesOk l.List):s_LogOk l=some (logOk l,()):=by
 rw [s_LogOk_eq]
 unfold logOk
 simp only [s_l1In_ok,Option.bind_some,Bool.not_eq_true',decide_eq_false_iff_not,decide_eq_true_eq]
 by_cases h1:0≤l.Base∧l.Base≤300
 ·have e1:w64 (300 - l.Base)=300 - l.Base:=w64_id (by omega) (by omega)
  rw [if_neg (not_not_intro h1),decide_eq_true h1,e1,Bool.true_and]
  by_cases h2:0≤l.BaseTerm∧l.BaseTerm≤300
  ·rw [if_neg (not_not_intro h2),decide_eq_true h2,Bool.true_and]
   by_cases h3:(l.List.length:Int)≤300 - l.Base
   ·rw [if_neg (by omega),decide_eq_true h3,Bool.true_and]
    exact s_LogOk_L1_ok l hl hw l.List.length 0 _ (by omega)
   ·rw [if_pos (by omega),decide_eq_false h3,Bool.false_and]
  ·rw [if_pos h2,decide_eq_false h2,Bool.false_and]
 ·rw [if_pos h1,decide_eq_false h1,Bool.false_and]
theorem i_LogOk_ok (l:impl_Log) (hl:l.List.length≤4294967296):i_LogOk l=some (logOk l,()):=by
 rw [i_LogOk_eq]
 unfold logOk
 simp only [isIndex_ok,Option.bind_some,Bool.not_eq_true',decide_eq_false_iff_not,decide_eq_true_eq]
 by_cases h1:0≤l.Base∧l.Base≤300
 ·have e1:w64 (l.Base+(l.List.length:Int))=l.Base+l.List.length:=w64_id (by omega) (by omega)
  rw [if_neg (not_not_intro h1),decide_eq_true h1,e1,Bool.true_and]
  by_cases h2:0≤l.BaseTerm∧l.BaseTerm≤300
  ·rw [if_neg (not_not_intro h2),decide_eq_true h2,Bool.true_and]
   by_cases h3:(l.List.length:Int)≤300 - l.Base
   ·rw [if_neg (by omega),decide_eq_true h3,Bool.true_and]
    exact i_LogOk_L1_ok l.List hl l.List.length 0 _ (by omega)
   ·rw [if_pos (by omega),decide_eq_false h3,Bool.false_and]
  ·rw [if_pos h2,decide_eq_false h2,Bool.false_and]
 ·rw [if_pos h1,decide_eq_false h1,Bool.false_and]
def entOk (m:Int) (e:impl_Entry):Bool:=decide (0≤e.Term∧e.Term≤m) && cmdOk e.C
def entriesOk (l:List impl_Entry) (m:Int):Bool:=decide ((l.length:Int)≤40) && l.all (entOk m)
theorem s_l19List_ok (l:List impl_Entry) (m:Int) (hl:l.length≤4294967296) (hw:LinesOk l):s_l19List l m=some (entriesOk l m,()):=by
 rw [s_l19List_eq]
 have key:∀ (d i:Nat),i+d=l.length→s_l19List_L1 l m i=some ((l.drop i).all (entOk m) && decide ((l.length:Int)≤40),()):=by
  intro d
  induction d with
  | zero =>
   intro i hd
   rw [s_l19List_L1_eq,if_neg (by rw [decide_eq_true_eq]; omega),List.drop_eq_nil_of_le (by omega)]; rfl
  | succ d ih =>
   intro i hd
   have hi:i < l.length:=by omega
   have c:(0:Int)≤(i:Int)∧(i:Int) < (l.length:Int):=by omega
   rw [s_l19List_L1_eq,if_pos (decide_eq_true c.2),getD_nat hi,w64_succ hi (by omega),List.drop_eq_getElem_cons hi]
   simp only [if_pos c,s_l1In_ok,s_CmdOk_ok _ (hw _ (List.getElem_mem hi)),Option.bind_some]
   rw [ih (i+1) (by omega),List.all_cons]
   unfold entOk
   cases decide (0≤l[i].Term∧l[i].Term≤m) with
   | false=>rfl
   | true=>cases cmdOk l[i].C <;> rfl
 have:=key l.length 0 (by omega)
 unfold entriesOk
 rw [Bool.and_comm]
 simpa using this
theorem i_entriesOk_1_ok (e:impl_Entry) (m:Int):i_entriesOk_1 e m=some (!entOk m e,m,()):=by
 rw [i_entriesOk_1_eq,i_in_ok,i_CmdOk_ok]
 unfold entOk
 simp only [Option.bind_some]
 cases decide (0≤e.Term∧e.Term≤m) <;> rfl
theorem i_entriesOk_ok (l:List impl_Entry) (m:Int) (hl:l.length≤4294967296):i_entriesOk l m=some (entriesOk l m,()):=by
 have key:∀ (d i:Nat),i+d=l.length→∃ r,x_slices_IndexFunc_impl_Entry_entriesOk_1_L1 l (l.length:Int) i m=some (r,m,())∧(r ≥ 0 ↔ (l.drop i).all (entOk m)=false):=by
  intro d
  induction d with
  | zero =>
   intro i hd
   rw [x_slices_IndexFunc_impl_Entry_entriesOk_1_L1_eq,if_neg (by rw [decide_eq_true_eq]; omega),List.drop_eq_nil_of_le (by omega)]
   exact ⟨-1,rfl,by simp⟩
  | succ d ih =>
   intro i hd
   have hi:i < l.length:=by omega
   have c:(0:Int)≤(i:Int)∧(i:Int) < (l.length:Int):=by omega
   rw [x_slices_IndexFunc_impl_Entry_entriesOk_1_L1_eq,if_pos (decide_eq_true c.2),getD_nat hi,w64_succ hi (by omega),List.drop_eq_getElem_cons hi]
   simp only [if_pos c,i_entriesOk_1_ok,Option.bind_some,List.all_cons]
   cases entOk m l[i] with
   | false=>exact ⟨_,rfl,by simp⟩
   | true =>
    obtain ⟨r,e1,e2⟩:=ih (i+1) (by omega)
    exact ⟨r,by simpa using e1,by simpa using e2⟩
 obtain ⟨r,e1,e2⟩:=key l.length 0 (by omega)
 rw [i_entriesOk_eq]
 unfold entriesOk
 by_cases h:(l.length:Int)≤40
 ·have e1':x_slices_IndexFunc_impl_Entry_entriesOk_1_L1 l (l.length:Int) 0 m=some (r,m,()):=e1
  rw [if_pos (decide_eq_true h),decide_eq_true h,x_slices_ContainsFunc_impl_Entry_entriesOk_1_eq,x_slices_IndexFunc_impl_Entry_entriesOk_1_eq,e1']
  simp only [Option.bind_some,Bool.true_and]
  rw [List.drop_zero] at e2
  cases hb:l.all (entOk m) with
  | false=>rw [decide_eq_true (e2.2 hb)]; rfl
  | true=>rw [decide_eq_false (fun h=>by rw [e2.1 h] at hb; cases hb)]; rfl
 ·rw [if_neg (by rw [decide_eq_true_eq]; exact h),decide_eq_false h]; rfl
def diskOk (d:impl_Disk):Bool:=decide ((d.Bytes.length:Int)≤80000) && decide (0≤d.Sure∧d.Sure≤(d.Bytes.length:Int))
theorem s_DiskOk_ok (d:impl_Disk):s_DiskOk d=some (diskOk d,()):=by
 rw [s_DiskOk_eq,s_l1In_ok]
 unfold diskOk
 by_cases h:(d.Bytes.length:Int)≤80000
 ·rw [if_pos (decide_eq_true h),Option.bind_some,decide_eq_true h]; rfl
 ·rw [if_neg (by rw [decide_eq_true_eq]; exact h),decide_eq_false h]; rfl
theorem i_DiskOk_ok (d:impl_Disk):i_DiskOk d=some (diskOk d,()):=by
 rw [i_DiskOk_eq,i_in_ok]
 unfold diskOk
 by_cases h:(d.Bytes.length:Int)≤80000
 ·rw [if_pos (decide_eq_true h),Option.bind_some,decide_eq_true h]; rfl
 ·rw [if_neg (by rw [decide_eq_true_eq]; exact h),decide_eq_false h]; rfl
theorem diskOk_iff {d:impl_Disk}:diskOk d=true ↔ (d.Bytes.length:Int)≤80000∧0≤d.Sure∧d.Sure≤(d.Bytes.length:Int):=by
 unfold diskOk; simp
def lastI (l:impl_Log):Int:=if l.List.length=0 then l.Base else w64 (l.Base+l.List.length)
def lastT (l:impl_Log):Int:=if l.List.length=0 then l.BaseTerm else (l.List.getD (l.List.length - 1) z_impl_Entry).Term
theorem s_LastOf_ok (l:impl_Log) (hl:l.List.length≤2097152):s_LastOf l=some (lastI l,lastT l,()):=by
 rw [s_LastOf_eq]
 unfold lastI lastT
 by_cases h:l.List.length=0
 ·rw [if_pos (decide_eq_true (by omega)),if_pos h,if_pos h]
 ·have w1:w64 ((l.List.length:Int) - 1)=((l.List.length - 1:Nat):Int):=by rw [w64_id (by omega) (by omega)]; omega
  rw [if_neg (by rw [decide_eq_true_eq]; omega),w1,if_pos (by omega),if_neg h,if_neg h,Int.toNat_natCast]
theorem i_LastOf_ok (l:impl_Log) (hl:l.List.length≤2097152):i_LastOf l=some (lastI l,lastT l,()):=by
 have:=s_LastOf_ok l hl
 rw [s_LastOf_eq] at this
 rw [i_LastOf_eq]; exact this
def BLog (l:impl_Log):Prop:=l.List.length≤2097152∧∀ e∈l.List,e.C.Line.length≤2097152
theorem BLog.lines {l:impl_Log} (h:BLog l):LinesOk l.List:=fun e he=>by have:=h.2 e he; omega
def BMach (m:impl_Mach):Prop:=BState m.State∧m.Done.length≤2097152∧m.Out.length≤2097152
def BHard (h:impl_Hard):Prop:=BLog h.Log∧BMach h.Snap
noncomputable def hardB (p:impl_Prog) (h:impl_Hard):Bool :=
 decide (0≤h.Term∧h.Term≤300) && (decide (-1≤h.Vote∧h.Vote≤4) && (logOk h.Log && (decide (lastT h.Log≤h.Term) && machB p h.Snap)))
theorem i_isIndex_val (n:Int):i_isIndex n=some (decide (0≤n∧n≤300),()):=by rw [i_isIndex_eq,i_in_ok]; rfl
theorem i_isVote_val (n:Int):i_isVote n=some (decide (-1≤n∧n≤4),()):=by rw [i_isVote_eq,i_in_ok]; rfl
theorem i_HardOk_ok (p:impl_Prog) (h:impl_Hard) (hp:BProg p) (hb:BHard h):i_HardOk p h=some (hardB p h,()):=by
 rw [i_HardOk_eq,i_LastOf_ok _ hb.1.1,i_isIndex_val,i_isVote_val,i_LogOk_ok _ (by have:=hb.1.1; omega),i_MachOk_ok p _ hp hb.2.1 hb.2.2.1]
 simp only [Option.bind_some]
 unfold hardB
 cases decide (0≤h.Term∧h.Term≤300) <;> cases decide (-1≤h.Vote∧h.Vote≤4) <;> cases logOk h.Log <;> cases decide (lastT h.Log≤h.Term) <;> rfl
theorem s_HardOk_ok (p:impl_Prog) (h:impl_Hard) (hp:BProg p) (hb:BHard h):s_HardOk p h=some (hardB p h,()):=by
 rw [s_HardOk_eq,s_LastOf_ok _ hb.1.1,s_l1In_ok,s_l1In_ok,s_LogOk_ok _ (by have:=hb.1.1; omega) hb.1.lines,s_MachOk_ok p _ hp hb.2.1 hb.2.2.1]
 simp only [Option.bind_some]
 unfold hardB
 cases decide (0≤h.Term∧h.Term≤300) <;> cases decide (-1≤h.Vote∧h.Vote≤4) <;> cases logOk h.Log <;> cases decide (lastT h.Log≤h.Term) <;> rfl
def BRpc (r:impl_Rpc):Prop:=r.List.length≤2097152∧∀ e∈r.List,e.C.Line.length≤2097152
def rpcB (r:impl_Rpc) (n:Int):Bool :=
 decide (1≤r.Kind∧r.Kind≤5) && (decide (1≤n∧n≤5) && (decide (0≤r.From∧r.From≤w64 (n - 1)) && (decide (0≤r.To∧r.To≤w64 (n - 1)) && (!decide (r.From=r.To) && (decide (0≤r.Term∧r.Term≤300) && (decide (0≤r.Index∧r.Index≤300) && (decide (0≤r.IndexTerm∧r.IndexTerm≤300) && (decide (0≤r.Commit∧r.Commit≤300) && (entriesOk r.List r.Term && decide ((r.Snap.length:Int)≤30000))))))))))
theorem rpc_ok (r:impl_Rpc) (n:Int) (hb:BRpc r):s_RpcOk r n=some (rpcB r n,())∧i_RpcOk r n=some (rpcB r n,()):=by
 have hl:r.List.length≤4294967296:=by have:=hb.1; omega
 have hw:LinesOk r.List:=fun e he=>by have:=hb.2 e he; omega
 rw [s_RpcOk_eq,i_RpcOk_eq]
 simp only [s_l1In_ok,i_in_ok,i_isIndex_val,s_l19List_ok _ _ hl hw,i_entriesOk_ok _ _ hl,Option.bind_some]
 unfold rpcB
 cases decide (1≤r.Kind∧r.Kind≤5) with
 | false=>exact ⟨rfl,rfl⟩
 | true =>
 cases decide (1≤n∧n≤5) with
 | false=>exact ⟨rfl,rfl⟩
 | true =>
 cases decide (0≤r.From∧r.From≤w64 (n - 1)) with
 | false=>exact ⟨rfl,rfl⟩
 | true =>
 cases decide (0≤r.To∧r.To≤w64 (n - 1)) with
 | false=>exact ⟨rfl,rfl⟩
 | true =>
 cases decide (r.From=r.To) with
 | true=>exact ⟨rfl,rfl⟩
 | false =>
 cases decide (0≤r.Term∧r.Term≤300) with
 | false=>exact ⟨rfl,rfl⟩
 | true =>
 cases decide (0≤r.Index∧r.Index≤300) with
 | false=>exact ⟨rfl,rfl⟩
 | true =>
 cases decide (0≤r.IndexTerm∧r.IndexTerm≤300) with
 | false=>exact ⟨rfl,rfl⟩
 | true =>
 cases decide (0≤r.Commit∧r.Commit≤300) with
 | false=>exact ⟨rfl,rfl⟩
 | true =>
 cases entriesOk r.List r.Term with
 | false=>exact ⟨rfl,rfl⟩
 | true=>exact ⟨rfl,rfl⟩
def numsBad (l:List Int) (a b:Int):Bool:=l.any (fun n=>!decide (a≤n∧n≤b))
theorem i_numbersOk_ok (l:List Int) (k a b:Int) (hl:l.length≤2097152):i_numbersOk l k a b=some (decide ((l.length:Int)=k) && !numsBad l a b,()):=by
 rw [i_numbersOk_eq,x_slices_ContainsFunc_int_numbersOk_1_eq,x_slices_IndexFunc_int_numbersOk_1_eq]
 obtain ⟨j,e,e1,_⟩:=index_loop (fun i=>x_slices_IndexFunc_int_numbersOk_1_L1 l (l.length:Int) i a b) (a,b,()) l.length (fun i=>!decide (a≤l.getD i 0∧l.getD i 0≤b)) (fun i hi=>by
  show x_slices_IndexFunc_int_numbersOk_1_L1 l _ i a b=_
  rw [x_slices_IndexFunc_int_numbersOk_1_L1_eq,if_pos (decide_eq_true (by omega)),if_pos (by omega),w64_succ hi (by omega),Int.toNat_natCast,i_numbersOk_1_eq,i_in_ok,Option.bind_some,Option.bind_some]) (by
  show x_slices_IndexFunc_int_numbersOk_1_L1 l _ _ a b=_
  rw [x_slices_IndexFunc_int_numbersOk_1_L1_eq,if_neg (by simp)])
 rw [e,Option.bind_some,Option.bind_some]
 dsimp only
 rw [e1,anyB_list l 0 (fun n=>!decide (a≤n∧n≤b))]
 unfold numsBad
 cases decide ((l.length:Int)=k) <;> rfl
def BPeer (n:impl_Peer):Prop:=BHard n.Hard∧n.Votes.length≤2097152∧n.Next.length≤2097152∧n.Match.length≤2097152∧BMach n.Now∧n.Disk.Bytes.length≤2097152∧n.Held.length≤2097152∧∀ r∈n.Held,BRpc r
def heldBad (n:impl_Peer) (k:Int):Bool:=n.Held.any (fun r=>!rpcB r k || !decide (r.From=n.Id))
noncomputable def peerB (p:impl_Prog) (n:impl_Peer) (k:Int):Bool :=
 decide (1≤k∧k≤5) && (decide (0≤n.Id∧n.Id≤w64 (k - 1)) && (hardB p n.Hard && (!decide (n.Hard.Vote ≥ k) && (decide (0≤n.Role∧n.Role≤2) && (decide ((n.Votes.length:Int)=k) &&
 (decide ((n.Next.length:Int)=k) && (!numsBad n.Next 1 (w64 (lastI n.Hard.Log+1)) && (decide ((n.Match.length:Int)=k) && (!numsBad n.Match 0 (lastI n.Hard.Log) &&
 (decide (n.Hard.Log.Base≤n.Commit∧n.Commit≤lastI n.Hard.Log) && (machB p n.Now && (diskOk n.Disk && (decide ((n.Held.length:Int)≤40) && !heldBad n k)))))))))))))
theorem i_PeerOk_ok (p:impl_Prog) (n:impl_Peer) (k:Int) (hp:BProg p) (hb:BPeer n):i_PeerOk p n k=some (peerB p n k,()):=by
 obtain ⟨h1,h2,h3,h4,h5,h6,h7,h8⟩:=hb
 have hheld:x_slices_ContainsFunc_impl_Rpc_PeerOk_1 n.Held k n=some (heldBad n k,k,n,()):=by
  rw [x_slices_ContainsFunc_impl_Rpc_PeerOk_1_eq,x_slices_IndexFunc_impl_Rpc_PeerOk_1_eq]
  obtain ⟨j,e,e1,_⟩:=index_loop (fun i=>x_slices_IndexFunc_impl_Rpc_PeerOk_1_L1 n.Held (n.Held.length:Int) i k n) (k,n,()) n.Held.length (fun i=>!rpcB (n.Held.getD i z_impl_Rpc) k || !decide ((n.Held.getD i z_impl_Rpc).From=n.Id)) (fun i hi=>by
   show x_slices_IndexFunc_impl_Rpc_PeerOk_1_L1 n.Held _ i k n=_
   rw [x_slices_IndexFunc_impl_Rpc_PeerOk_1_L1_eq,if_pos (decide_eq_true (by omega)),if_pos (by omega),w64_succ hi (by omega),Int.toNat_natCast,i_PeerOk_1_eq,(rpc_ok _ k (by rw [getD_lt hi]; exact h8 _ (List.getElem_mem hi))).2,Option.bind_some]
   dsimp only
   cases rpcB (n.Held.getD i z_impl_Rpc) k <;> rfl) (by
   show x_slices_IndexFunc_impl_Rpc_PeerOk_1_L1 n.Held _ _ k n=_
   rw [x_slices_IndexFunc_impl_Rpc_PeerOk_1_L1_eq,if_neg (by simp)])
  rw [e,Option.bind_some]
  dsimp only
  rw [e1,anyB_list n.Held z_impl_Rpc (fun r=>!rpcB r k || !decide (r.From=n.Id))]
  rfl
 have e40:decide ((n.Held.length:Int) > 40) = !decide ((n.Held.length:Int)≤40):=by
  by_cases g:(n.Held.length:Int)≤40
  ·rw [decide_eq_true g,decide_eq_false (by omega)]; rfl
  ·rw [decide_eq_false g,decide_eq_true (by omega)]; rfl
 rw [i_PeerOk_eq,i_in_ok,i_in_ok,i_HardOk_ok p _ hp h1,i_in_ok,i_LastOf_ok _ h1.1.1]
 simp only [Option.bind_some]
 rw [i_numbersOk_ok _ _ _ _ h3,i_numbersOk_ok _ _ _ _ h4,i_in_ok,i_MachOk_ok p _ hp h5.1 h5.2.1,i_DiskOk_ok,hheld,e40]
 simp only [Option.bind_some]
 unfold peerB
 cases decide (1≤k∧k≤5) with
 | false=>rfl
 | true =>
 cases decide (0≤n.Id∧n.Id≤w64 (k - 1)) with
 | false=>rfl
 | true =>
 cases hardB p n.Hard with
 | false=>rfl
 | true =>
 cases decide (n.Hard.Vote ≥ k) with
 | true=>rfl
 | false =>
 cases decide (0≤n.Role∧n.Role≤2) with
 | false=>rfl
 | true =>
 cases decide ((n.Votes.length:Int)=k) with
 | false=>rfl
 | true =>
 cases decide ((n.Next.length:Int)=k) with
 | false=>rfl
 | true =>
 cases numsBad n.Next 1 (w64 (lastI n.Hard.Log+1)) with
 | true=>rfl
 | false =>
 cases decide ((n.Match.length:Int)=k) with
 | false=>rfl
 | true =>
 cases numsBad n.Match 0 (lastI n.Hard.Log) with
 | true=>rfl
 | false =>
 cases decide (n.Hard.Log.Base≤n.Commit∧n.Commit≤lastI n.Hard.Log) with
 | false=>rfl
 | true =>
 cases machB p n.Now <;> cases diskOk n.Disk <;> cases decide ((n.Held.length:Int)≤40) <;> rfl
theorem s_PeerOk_ok (p:impl_Prog) (n:impl_Peer) (k:Int) (hp:BProg p) (hb:BPeer n):s_PeerOk p n k=some (peerB p n k,()):=by
 obtain ⟨h1,h2,h3,h4,h5,h6,h7,h8⟩:=hb
 rw [s_PeerOk_eq,s_l1In_ok,s_l1In_ok,s_HardOk_ok p _ hp h1,s_l1In_ok,s_LastOf_ok _ h1.1.1]
 simp only [Option.bind_some]
 unfold peerB
 cases decide (1≤k∧k≤5) with
 | false=>rfl
 | true =>
 cases decide (0≤n.Id∧n.Id≤w64 (k - 1)) with
 | false=>rfl
 | true =>
 cases hardB p n.Hard with
 | false=>rfl
 | true =>
 cases decide (n.Hard.Vote ≥ k) with
 | true=>rfl
 | false =>
 cases decide (0≤n.Role∧n.Role≤2) with
 | false=>rfl
 | true =>
 cases decide ((n.Votes.length:Int)=k) with
 | false=>rfl
 | true =>
 by_cases hn:(n.Next.length:Int)=k
 case neg=>rw [decide_eq_false hn]; rfl
 rw [decide_eq_true hn]
 by_cases hm:(n.Match.length:Int)=k
 case neg=>rw [decide_eq_false hm,Bool.false_and,Bool.and_false]; rfl
 rw [decide_eq_true hm]
 subst hn
 have hm':n.Match.length=n.Next.length:=by omega
 have f2:=find_loopN (fun i=>s_PeerOk_L2 (n.Next.length:Int) (lastI n.Hard.Log) i p n) n.Held.length (fun i=>!rpcB (n.Held.getD i z_impl_Rpc) n.Next.length || !decide ((n.Held.getD i z_impl_Rpc).From=n.Id)) (some (false,())) (some (decide (n.Hard.Log.Base≤n.Commit∧n.Commit≤lastI n.Hard.Log) && (machB p n.Now && (diskOk n.Disk && decide ((n.Held.length:Int)≤40))),())) (fun i hi=>by
  show s_PeerOk_L2 _ _ i p n=_
  rw [s_PeerOk_L2_eq,if_pos (decide_eq_true (by omega)),if_pos (by omega),w64_succ hi (by omega),Int.toNat_natCast,(rpc_ok _ _ (by rw [getD_lt hi]; exact h8 _ (List.getElem_mem hi))).1,Option.bind_some,if_pos (c:=0≤(i:Int)∧(i:Int) < (n.Held.length:Int)) (by omega)]
  dsimp only
  cases rpcB (n.Held.getD i z_impl_Rpc) n.Next.length <;> rfl) (by
  show s_PeerOk_L2 _ _ _ p n=_
  rw [s_PeerOk_L2_eq,if_neg (by simp),s_l1In_ok,s_MachOk_ok p _ hp h5.1 h5.2.1,s_DiskOk_ok]
  simp only [Option.bind_some]
  cases decide (n.Hard.Log.Base≤n.Commit∧n.Commit≤lastI n.Hard.Log) <;> cases machB p n.Now <;> cases diskOk n.Disk <;> rfl)
 have f1:=find_loopN (fun i=>s_PeerOk_L1 (n.Next.length:Int) (lastI n.Hard.Log) i p n) n.Next.length (fun i=>!decide (1≤n.Next.getD i 0∧n.Next.getD i 0≤w64 (lastI n.Hard.Log+1)) || !decide (0≤n.Match.getD i 0∧n.Match.getD i 0≤lastI n.Hard.Log)) (some (false,())) (s_PeerOk_L2 (n.Next.length:Int) (lastI n.Hard.Log) 0 p n) (fun i hi=>by
  show s_PeerOk_L1 _ _ i p n=_
  rw [s_PeerOk_L1_eq,if_pos (decide_eq_true (by omega)),if_pos (c:=0≤(i:Int)∧(i:Int) < (n.Next.length:Int)) (by omega),w64_succ hi (by omega),Int.toNat_natCast,s_l1In_ok,s_l1In_ok,Option.bind_some,Option.bind_some,if_pos (c:=0≤(i:Int)∧(i:Int) < (n.Match.length:Int)) (by omega)]
  dsimp only
  cases decide (1≤n.Next.getD i 0∧n.Next.getD i 0≤w64 (lastI n.Hard.Log+1)) <;> rfl) (by
  show s_PeerOk_L1 _ _ _ p n=_
  rw [s_PeerOk_L1_eq,if_neg (by simp)])
 rw [f1,f2,anyB_or (fun i=>!decide (1≤n.Next.getD i 0∧n.Next.getD i 0≤w64 (lastI n.Hard.Log+1))) (fun i=>!decide (0≤n.Match.getD i 0∧n.Match.getD i 0≤lastI n.Hard.Log)),anyB_list n.Next 0 (fun x=>!decide (1≤x∧x≤w64 (lastI n.Hard.Log+1))),anyB_list n.Held z_impl_Rpc (fun r=>!rpcB r n.Next.length || !decide (r.From=n.Id)),← hm',anyB_list n.Match 0 (fun x=>!decide (0≤x∧x≤lastI n.Hard.Log))]
 have e1:n.Next.any (fun x=>!decide (1≤x∧x≤w64 (lastI n.Hard.Log+1)))=numsBad n.Next 1 (w64 (lastI n.Hard.Log+1)):=rfl
 have e2:n.Match.any (fun x=>!decide (0≤x∧x≤lastI n.Hard.Log))=numsBad n.Match 0 (lastI n.Hard.Log):=rfl
 have e3:n.Held.any (fun r=>!rpcB r n.Match.length || !decide (r.From=n.Id))=heldBad n n.Match.length:=rfl
 rw [e1,e2,e3]
 cases numsBad n.Next 1 (w64 (lastI n.Hard.Log+1)) <;> cases numsBad n.Match 0 (lastI n.Hard.Log) <;> cases heldBad n n.Match.length <;> cases decide (n.Hard.Log.Base≤n.Commit∧n.Commit≤lastI n.Hard.Log) <;> cases machB p n.Now <;> cases diskOk n.Disk <;> cases decide ((n.Held.length:Int)≤40) <;> rfl
theorem fb_Val {d:Nat} {x:laws_Val} (h:Fine (G:=gam) (d+3) (.nm 11) x):Bt x.S:=by
 have h':_∧_∧(x.S.length≤9223372036854775807∧∀ b∈x.S,0≤b∧b≤255)∧_:=h
 exact h'.2.2.1.2
theorem fb_Cell {d:Nat} {x:laws_Cell} (h:Fine (G:=gam) (d+4) (.nm 12) x):Bt x.Val.S:=by
 have h':_∧(x.Key.length≤9223372036854775807∧_)∧Fine (G:=gam) (d+3) (.nm 11) x.Val∧_:=h
 exact fb_Val (d:=d+0) h'.2.2.1
def Lb_State (x:laws_State):Prop:=(∀ y∈x.Vars,Bt y.S)∧∀ y∈x.Cells,Bt y.Val.S
theorem fb_State {d:Nat} {x:laws_State} (h:Fine (G:=gam) (d+6) (.nm 10) x):Lb_State x:=by
 have h':(x.Vars.length≤9223372036854775807∧∀ y∈x.Vars,Fine (G:=gam) (d+4) (.nm 11) y)∧(x.Cells.length≤9223372036854775807∧∀ y∈x.Cells,Fine (G:=gam) (d+4) (.nm 12) y)∧_∧_∧_:=h
 exact ⟨fun y hy=>fb_Val (d:=d+1) (h'.1.2 y hy),fun y hy=>fb_Cell (d:=d+0) (h'.2.1.2 y hy)⟩
theorem fb_Mach {d:Nat} {x:laws_Mach} (h:Fine (G:=gam) (d+7) (.nm 9) x):Lb_State x.State:=by
 have h':Fine (G:=gam) (d+6) (.nm 10) x.State∧(x.Done.length≤9223372036854775807∧_)∧(x.Out.length≤9223372036854775807∧_)∧_:=h
 exact fb_State (d:=d+0) h'.1
theorem fb_Hard {d:Nat} {x:laws_Hard} (h:Fine (G:=gam) (d+8) (.nm 5) x):Lb_State x.Snap.State:=by
 have h':_∧_∧Fine (G:=gam) (d+7) (.nm 6) x.Log∧Fine (G:=gam) (d+7) (.nm 9) x.Snap∧_:=h
 exact fb_Mach (d:=d+0) h'.2.2.2.1
theorem fb_Peer {d:Nat} {x:laws_Peer} (h:Fine (G:=gam) (d+9) (.nm 4) x):Lb_State x.Hard.Snap.State∧Lb_State x.Now.State:=by
 have h':_∧Fine (G:=gam) (d+8) (.nm 5) x.Hard∧_∧(x.Votes.length≤9223372036854775807∧_)∧(x.Next.length≤9223372036854775807∧_)∧(x.Match.length≤9223372036854775807∧_)∧_∧Fine (G:=gam) (d+8) (.nm 9) x.Now∧_:=h
 exact ⟨fb_Hard (d:=d+0) h'.2.1,fb_Mach (d:=d+1) h'.2.2.2.2.2.2.2.1⟩
theorem fb_Op {d:Nat} {x:laws_Op} (h:Fine (G:=gam) (d+3) (.nm 1) x):∀ b∈x.S,0≤b∧b≤255:=by
 have h':_∧_∧(x.S.length≤9223372036854775807∧∀ b∈x.S,0≤b∧b≤255)∧_:=h
 exact h'.2.2.1.2
def Lb_Prog (x:laws_Prog):Prop:=(∀ y∈x.Start,∀ b∈y.S,0≤b∧b≤255)∧∀ y∈x.Main,∀ b∈y.S,0≤b∧b≤255
theorem fb_Prog {d:Nat} {x:laws_Prog} (h:Fine (G:=gam) (d+5) (.nm 0) x):Lb_Prog x:=by
 have h':_∧_∧(x.Start.length≤9223372036854775807∧∀ y∈x.Start,Fine (G:=gam) (d+3) (.nm 1) y)∧(x.Main.length≤9223372036854775807∧∀ y∈x.Main,Fine (G:=gam) (d+3) (.nm 1) y)∧_:=h
 exact ⟨fun y hy=>fb_Op (d:=d+0) (h'.2.2.1.2 y hy),fun y hy=>fb_Op (d:=d+0) (h'.2.2.2.1.2 y hy)⟩
theorem bOps {l:List laws_Op} (h:l.length≤1048576∧∀ y∈l,Gl_Op 1048576 y) (hb:∀ y∈l,∀ b∈y.S,0≤b∧b≤255):BOps (l.map hc_Op):=by
 refine ⟨by rw [List.length_map]; have:=h.1; omega,fun o ho=>?_⟩
 obtain ⟨y,hy,rfl⟩:=List.mem_map.1 ho
 have:=h.2 y hy
 unfold Gl_Op at this
 exact ⟨hb y hy,by show y.S.length≤_; omega⟩
theorem bProg {x:laws_Prog} (h:Gl_Prog 1048576 x) (hb:Lb_Prog x):BProg (hc_Prog x):=by
 unfold Gl_Prog at h
 obtain ⟨h1,h2,h3,h4⟩:=h
 exact ⟨⟨by show x.Vars.length≤_; have:=h1.1; omega,fun y hy=>by have:=h1.2 y hy; omega⟩,⟨by show x.Cells.length≤_; have:=h2.1; omega,fun y hy=>by have:=h2.2 y hy; omega⟩,bOps h3 hb.1,bOps h4 hb.2⟩
theorem bState {x:laws_State} (h:Gl_State 1048576 x) (hb:Lb_State x):BState (hc_State x):=by
 unfold Gl_State at h
 obtain ⟨h1,h2⟩:=h
 refine ⟨⟨by show (x.Vars.map hc_Val).length≤_; rw [List.length_map]; have:=h1.1; omega,fun v hv=>?_⟩,by show (x.Cells.map hc_Cell).length≤_; rw [List.length_map]; have:=h2.1; omega,fun c hc=>?_⟩
 ·obtain ⟨y,hy,rfl⟩:=List.mem_map.1 hv; exact hb.1 y hy
 ·obtain ⟨y,hy,rfl⟩:=List.mem_map.1 hc; exact hb.2 y hy
theorem bMach {x:laws_Mach} (h:Gl_Mach 1048576 x) (hb:Lb_State x.State):BMach (hc_Mach x):=by
 unfold Gl_Mach at h
 exact ⟨bState h.1 hb,by show x.Done.length≤_; have:=h.2.1; omega,by show x.Out.length≤_; have:=h.2.2; omega⟩
theorem bList {l:List laws_Entry} (h:l.length≤1048576∧∀ y∈l,Gl_Entry 1048576 y):(l.map hc_Entry).length≤2097152∧∀ e∈l.map hc_Entry,e.C.Line.length≤2097152:=by
 refine ⟨by rw [List.length_map]; have:=h.1; omega,fun e he=>?_⟩
 obtain ⟨y,hy,rfl⟩:=List.mem_map.1 he
 have:=h.2 y hy
 unfold Gl_Entry Gl_Cmd at this
 show y.C.Line.length≤_
 omega
theorem bHard {x:laws_Hard} (h:Gl_Hard 1048576 x) (hb:Lb_State x.Snap.State):BHard (hc_Hard x):=by
 unfold Gl_Hard Gl_Log at h
 exact ⟨bList h.1,bMach h.2 hb⟩
theorem bRpc {x:laws_Rpc} (h:Gl_Rpc 1048576 x):BRpc (hc_Rpc x):=by
 unfold Gl_Rpc at h
 exact bList h.1
theorem bPeer {x:laws_Peer} (h:Gl_Peer 1048576 x) (hb:Lb_State x.Hard.Snap.State∧Lb_State x.Now.State):BPeer (hc_Peer x):=by
 unfold Gl_Peer Gl_Disk at h
 obtain ⟨h1,h2,h3,h4,h5,h6,h7⟩:=h
 refine ⟨bHard h1 hb.1,by show x.Votes.length≤_; omega,by show x.Next.length≤_; omega,by show x.Match.length≤_; omega,bMach h5 hb.2,by show x.Disk.Bytes.length≤_; omega,by show (x.Held.map hc_Rpc).length≤_; rw [List.length_map]; have:=h7.1; omega,fun r hr=>?_⟩
 obtain ⟨y,hy,rfl⟩:=List.mem_map.1 hr
 exact bRpc (h7.2 y hy)
theorem gi_up_Prog {x:laws_Prog} (h:Gl_Prog 1048576 x):Gi_Prog 2097152 (hc_Prog x):=by
 have:=hg_Prog h
 unfold Gi_Prog Gi_Op at *
 obtain ⟨h1,h2,h3,h4⟩:=this
 exact ⟨⟨by omega,fun y hy=>by have:=h1.2 y hy; omega⟩,⟨by omega,fun y hy=>by have:=h2.2 y hy; omega⟩,⟨by omega,fun y hy=>by have:=h3.2 y hy; omega⟩,⟨by omega,fun y hy=>by have:=h4.2 y hy; omega⟩⟩
theorem gi_mono_Rpc {x:impl_Rpc} (h:Gi_Rpc 1048576 x):Gi_Rpc 2097152 x:=by
 unfold Gi_Rpc Gi_Entry Gi_Cmd at *
 exact ⟨⟨by have:=h.1.1; omega,fun y hy=>by have:=h.1.2 y hy; omega⟩,by have:=h.2; omega⟩
theorem gi_mono_Mach {x:impl_Mach} (h:Gi_Mach 1048576 x):Gi_Mach 2097152 x:=by
 unfold Gi_Mach Gi_State Gi_Val Gi_Cell Gi_Val at *
 obtain ⟨⟨⟨a1,a2⟩,b1,b2⟩,c1,c2⟩:=h
 exact ⟨⟨⟨by omega,fun y hy=>by have:=a2 y hy; omega⟩,by omega,fun y hy=>by have:=b2 y hy; omega⟩,by omega,by omega⟩
theorem gi_mono_Hard {x:impl_Hard} (h:Gi_Hard 1048576 x):Gi_Hard 2097152 x:=by
 unfold Gi_Hard Gi_Log Gi_Entry Gi_Cmd at *
 obtain ⟨⟨a1,a2⟩,a3⟩:=h
 exact ⟨⟨by omega,fun y hy=>by have:=a2 y hy; omega⟩,gi_mono_Mach a3⟩
theorem gi_mono_Peer {x:impl_Peer} (h:Gi_Peer 1048576 x):Gi_Peer 2097152 x:=by
 unfold Gi_Peer Gi_Disk at *
 obtain ⟨h1,h2,h3,h4,h5,h6,h7,h8⟩:=h
 exact ⟨gi_mono_Hard h1,by omega,by omega,by omega,gi_mono_Mach h5,by omega,by omega,fun y hy=>gi_mono_Rpc (h8 y hy)⟩
abbrev Has_ (l:impl_Log) (i:Int):Prop:=l.Base < i∧i≤300∧0≤l.Base∧i - l.Base - 1 < (l.List.length:Int)
theorem at_ok (l:impl_Log) (i:Int) (hl:l.List.length≤4294967296) (hb:InI l.Base) (hi:InI i):s_l18At l i=some (if Has_ l i then i - l.Base - 1 else -1,()):=by
 unfold InI at *
 rw [s_l18At_eq]
 unfold Has_
 by_cases h1:i≤l.Base
 ·rw [if_pos (decide_eq_true h1),if_neg (by omega)]
 ·rw [if_neg (by rw [decide_eq_true_eq]; exact h1)]
  by_cases h2:i > 300
  ·rw [if_pos (decide_eq_true h2),if_neg (by omega)]
  ·rw [if_neg (by rw [decide_eq_true_eq]; exact h2)]
   by_cases h3:l.Base < 0
   ·rw [if_pos (decide_eq_true h3),if_neg (by omega)]
   ·rw [if_neg (by rw [decide_eq_true_eq]; exact h3),w64_id (n:=i - l.Base) (by omega) (by omega),w64_id (n:=i - l.Base - 1) (by omega) (by omega)]
    by_cases h4:i - l.Base - 1 ≥ (l.List.length:Int)
    ·rw [if_pos (decide_eq_true h4),if_neg (by omega)]
    ·rw [if_neg (by rw [decide_eq_true_eq]; exact h4),if_pos (by omega)]
def thereOf (l:impl_Log):List impl_Entry:=if 0≤l.Base∧l.Base≤300 then l.List.take (300 - l.Base).toNat else []
theorem there_ok (l:impl_Log) (hl:l.List.length≤4294967296):i_there l=some (thereOf l,()):=by
 rw [i_there_eq,isIndex_ok,Option.bind_some]
 unfold thereOf
 by_cases h:0≤l.Base∧l.Base≤300
 ·rw [if_neg (by simp [h]),if_pos h,w64_id (n:=300 - l.Base) (by omega) (by omega)]
  have hm:mnI (l.List.length:Int) (300 - l.Base)=min (l.List.length:Int) (300 - l.Base):=by unfold mnI; split <;> omega
  rw [hm,if_pos (by omega),List.drop_zero,Nat.sub_zero]
  congr 2
  by_cases h2:(l.List.length:Int)≤300 - l.Base
  ·rw [List.take_of_length_le (by omega),List.take_of_length_le (by omega)]
  ·rw [show (min (l.List.length:Int) (300 - l.Base))=300 - l.Base by omega]
 ·rw [if_pos (by simp [h]),if_neg h]
theorem there_len (l:impl_Log):((thereOf l).length:Int)=if 0≤l.Base∧l.Base≤300 then min (300 - l.Base) (l.List.length:Int) else 0:=by
 unfold thereOf
 split
 ·rw [List.length_take]; omega
 ·rfl
theorem has_iff (l:impl_Log) (i:Int):Has_ l i ↔ l.Base < i∧0 < ((thereOf l).length:Int)∧i≤l.Base+(thereOf l).length:=by
 rw [there_len]
 unfold Has_
 split <;> omega
theorem there_get (l:impl_Log) (j:Nat) (h:j < (thereOf l).length) (z:impl_Entry):(thereOf l).getD j z=l.List.getD j z:=by
 unfold thereOf at h ⊢
 split at h
 ·rename_i hb
  rw [if_pos hb]
  rw [List.length_take] at h
  rw [List.getD_eq_getElem?_getD,List.getD_eq_getElem?_getD,List.getElem?_take,if_pos (by omega)]
 ·cases h
theorem termAt_same (l:impl_Log) (i:Int) (hl:l.List.length≤4294967296) (hb:InI l.Base) (hi:InI i):∃ y,s_TermAt l i=some (y,())∧i_TermAt l i=some (y,())∧(Has_ l i→y=(l.List.getD (i - l.Base - 1).toNat z_impl_Entry).Term):=by
 rw [s_TermAt_eq,i_TermAt_eq,at_ok l i hl hb hi,there_ok l hl]
 simp only [Option.bind_some,decide_eq_true_eq]
 by_cases h1:i=l.Base
 ·simp only [if_pos h1]
  exact ⟨_,rfl,rfl,fun h=>absurd h.1 (by omega)⟩
 ·simp only [if_neg h1]
  have hi':=has_iff l i
  have hlen:=there_len l
  unfold InI at *
  by_cases h:Has_ l i
  ·have h':=hi'.1 h
   have hh:=h
   unfold Has_ at hh
   have e1:w64 (l.Base+((thereOf l).length:Int))=l.Base+(thereOf l).length:=w64_id (by omega) (by split at hlen <;> omega)
   have e2:w64 (i - l.Base)=i - l.Base:=w64_id (by omega) (by omega)
   have e3:w64 (i - l.Base - 1)=i - l.Base - 1:=w64_id (by omega) (by omega)
   have c1:¬ i - l.Base - 1 < 0:=by omega
   have c2:0≤i - l.Base - 1∧i - l.Base - 1 < (l.List.length:Int):=by omega
   have c3:i > l.Base:=by omega
   have c4:((thereOf l).length:Int) > 0:=by omega
   have c5:i≤l.Base+(thereOf l).length:=by omega
   have c6:0≤i - l.Base - 1∧i - l.Base - 1 < ((thereOf l).length:Int):=by omega
   simp only [if_pos h,e1,e2,e3,if_neg c1,if_pos c2,if_pos c3,if_pos c4,if_pos c5,if_pos c6]
   rw [there_get l _ (by omega)]
   exact ⟨_,rfl,rfl,fun _=>rfl⟩
  ·simp only [if_neg h]
   have h':¬ (l.Base < i∧0 < ((thereOf l).length:Int)∧i≤l.Base+(thereOf l).length):=fun x=>h (hi'.2 x)
   refine ⟨-1,rfl,?_,fun h'=>absurd h' h⟩
   by_cases c1:i > l.Base
   ·simp only [if_pos c1]
    by_cases c2:((thereOf l).length:Int) > 0
    ·have e1:w64 (l.Base+((thereOf l).length:Int))=l.Base+(thereOf l).length:=w64_id (by omega) (by split at hlen <;> omega)
     have c3:¬ i≤l.Base+((thereOf l).length:Int):=by omega
     simp only [if_pos c2,e1,if_neg c3]
    ·simp only [if_neg c2]
   ·simp only [if_neg c1]
theorem clone_Entry (l:List impl_Entry) (hl:l.length≤4294967296):x_slices_Clone_impl_Entry l=some (l,()):=by
 rw [x_slices_Clone_impl_Entry_eq,if_pos (show 0+l.length≤room by rw [room_eq]; omega)]
 cases l with
 | nil=>exact amb_self _
 | cons a l=>rfl
theorem copyLog_ok (l:impl_Log) (hl:l.List.length≤4294967296):s_l18Copy l=some (l,()):=by
 rw [s_l18Copy_eq,if_pos (by rw [room_eq]; omega)]; rfl
theorem cloneLog_ok (l:impl_Log) (hl:l.List.length≤4294967296):i_cloneLog l=some (l,()):=by
 rw [i_cloneLog_eq,clone_Entry _ hl]; rfl
theorem linesQ_app {a b:List impl_Entry} (ha:LinesOk a) (hb:LinesOk b):LinesOk (a ++ b):=fun e he=>(List.mem_append.1 he).elim (ha e) (hb e)
theorem linesQ_take {a:List impl_Entry} {n:Nat} (ha:LinesOk a):LinesOk (a.take n):=fun e he=>ha e (List.mem_of_mem_take he)
theorem linesQ_one {a:List impl_Entry} (ha:LinesOk a) {i:Nat} (h:i < a.length):LinesOk [a[i]]:=fun e he=>by rw [List.mem_singleton.1 he]; exact ha _ (List.getElem_mem h)
theorem logPutQ_L1 (l:impl_Log) (lst:List impl_Entry) (p:Int) (z:impl_Log) (hl:l.List.length≤1048576) (hlst:lst.length≤1048576) (hw:LinesOk lst) (hwl:LinesOk l.List) (h0:0≤p - l.Base) (h1:p - l.Base≤1048576) :
  ∀ (d i:Nat) (o:impl_Log),i+d=lst.length→p - l.Base+i≤(o.List.length:Int)→o.List.length≤1048576+i→LinesOk o.List→(∀ e∈o.List,e∈l.List∨e∈lst) →
   ∃ y ok,s_LogPut_L1 p lst i l z o=some (y,ok,())∧i_LogPut_L1 p lst (lst.length:Int) i l z o=some (y,ok,())∧y.List.length≤2097152∧∀ e∈y.List,e∈l.List∨e∈lst:=by
 intro d
 induction d with
 | zero =>
  intro i o hd hk ho hwo hqo
  rw [s_LogPut_L1_eq,i_LogPut_L1_eq,if_neg (by rw [decide_eq_true_eq]; omega),if_neg (by rw [decide_eq_true_eq]; omega),s_LogOk_ok o (by omega) hwo,i_LogOk_ok o (by omega),copyLog_ok l (by omega),cloneLog_ok l (by omega)]
  simp only [Option.bind_some]
  cases logOk o with
  | false=>exact ⟨_,_,rfl,rfl,by omega,fun e he=>.inl he⟩
  | true=>exact ⟨_,_,rfl,rfl,by omega,hqo⟩
 | succ d ih =>
  intro i o hd hk ho hwo hqo
  have hi:i < lst.length:=by omega
  have c:(0:Int)≤(i:Int)∧(i:Int) < (lst.length:Int):=by omega
  have e1:w64 (p - l.Base)=p - l.Base:=w64_id (by omega) (by omega)
  have e2:w64 (p - l.Base+i)=p - l.Base+i:=w64_id (by omega) (by omega)
  have e3:w64 ((i:Int)+1)=((i+1:Nat):Int):=w64_succ hi (by omega)
  rw [s_LogPut_L1_eq,i_LogPut_L1_eq,if_pos (decide_eq_true c.2),if_pos (decide_eq_true c.2),e1,e2,e3,getD_nat hi]
  simp only [if_pos c,decide_eq_true_eq]
  by_cases h:p - l.Base+i < (o.List.length:Int)
  ·have c2:0≤p - l.Base+i∧p - l.Base+i < (o.List.length:Int):=by omega
   have c3:0≤p - l.Base+i∧p - l.Base+i≤(o.List.length:Int):=by omega
   simp only [if_pos h,if_pos c2,if_pos c3]
   by_cases h2:(List.getD o.List (p - l.Base+i).toNat z_impl_Entry).Term=lst[i].Term
   ·simp only [if_pos h2]
    exact ih (i+1) o (by omega) (by omega) (by omega) hwo hqo
   ·simp only [if_neg h2]
    have hlen:(List.take (p - l.Base+i).toNat o.List).length=(p - l.Base+i).toNat:=by rw [List.length_take]; omega
    have c4:0+List.length (List.take (p - l.Base+i).toNat o.List)≤room:=by rw [hlen,room_eq]; omega
    have c5:List.length (List.append [] (List.take (p - l.Base+i).toNat o.List))+1≤room:=by show (List.take (p - l.Base+i).toNat o.List).length+1≤room; rw [hlen,room_eq]; omega
    have c6:List.length (List.take (p - l.Base+i).toNat o.List)+1≤room:=c5
    simp only [if_pos c4,if_pos c5,if_pos c6]
    have hn:(List.take (p - l.Base+i).toNat o.List ++ [lst[i]]).length=(p - l.Base+i).toNat+1:=by rw [List.length_append,hlen]; rfl
    exact ih (i+1) ⟨o.Base,o.BaseTerm,List.take (p - l.Base+i).toNat o.List ++ [lst[i]]⟩ (by omega) (by show _≤((List.take (p - l.Base+i).toNat o.List ++ [lst[i]]).length:Int); rw [hn]; omega)
     (by show (List.take (p - l.Base+i).toNat o.List ++ [lst[i]]).length≤_; rw [hn]; omega) (linesQ_app (linesQ_take hwo) (linesQ_one hw hi)) (fun e he=>(List.mem_append.1 he).elim (fun h=>hqo e (List.mem_of_mem_take h)) (fun h=>.inr (by rw [List.mem_singleton.1 h]; exact List.getElem_mem hi)))
  ·simp only [if_neg h]
   have c5:List.length o.List+1≤room:=by rw [room_eq]; omega
   simp only [if_pos c5]
   have hn:(o.List ++ [lst[i]]).length=o.List.length+1:=by rw [List.length_append]; rfl
   exact ih (i+1) ⟨o.Base,o.BaseTerm,o.List ++ [lst[i]]⟩ (by omega) (by show _≤((o.List ++ [lst[i]]).length:Int); rw [hn]; omega)
    (by show (o.List ++ [lst[i]]).length≤_; rw [hn]; omega) (linesQ_app hwo (linesQ_one hw hi)) (fun e he=>(List.mem_append.1 he).elim (fun h=>hqo e h) (fun h=>.inr (by rw [List.mem_singleton.1 h]; exact List.getElem_mem hi)))
theorem logPut_q (l:impl_Log) (p t:Int) (lst:List impl_Entry) (hl:l.List.length≤1048576) (hlst:lst.length≤1048576) (hw:LinesOk lst) (hwl:LinesOk l.List) (hb:InI l.Base) (hp:InI p) :
  ∃ y ok,s_LogPut l p t lst=some (y,ok,())∧i_LogPut l p t lst=some (y,ok,())∧y.List.length≤2097152∧∀ e∈y.List,e∈l.List∨e∈lst:=by
 obtain ⟨q,q1,q2,q3⟩:=termAt_same l p (by omega) hb hp
 rw [s_LogPut_eq,i_LogPut_eq,s_LogOk_ok l (by omega) hwl,i_LogOk_ok l (by omega),copyLog_ok l (by omega),cloneLog_ok l (by omega),q1,q2]
 simp only [Option.bind_some,decide_eq_true_eq]
 cases hlog:logOk l with
 | false=>exact ⟨_,_,rfl,rfl,Nat.zero_le _,fun e he=>by cases he⟩
 | true =>
  simp only [Bool.not_true,Bool.false_eq_true,if_false]
  by_cases ht:t < 0
  ·simp only [if_pos ht]; exact ⟨_,_,rfl,rfl,by omega,fun e he=>.inl he⟩
  ·simp only [if_neg ht]
   by_cases hq:q=t
   ·subst hq
    simp only [decide_true,Bool.not_true,Bool.false_eq_true,if_false]
    have hpb:0≤p - l.Base∧p - l.Base≤(l.List.length:Int):=by
     by_cases h1:p=l.Base
     ·omega
     ·by_cases h2:Has_ l p
      ·unfold Has_ at h2; omega
      ·exfalso
       rw [s_TermAt_eq,if_neg (by rw [decide_eq_true_eq]; exact h1),at_ok l p (by omega) hb hp,if_neg h2] at q1
       have:(-1:Int)=q:=by simpa using q1
       omega
    exact logPutQ_L1 l lst p z_impl_Log hl hlst hw hwl hpb.1 (by omega) lst.length 0 l (by omega) (by omega) (by omega) hwl (fun e he=>.inl he)
   ·simp only [decide_eq_false hq,Bool.not_false,if_true]
    exact ⟨_,_,rfl,rfl,by omega,fun e he=>.inl he⟩
theorem logCut_q (l:impl_Log) (i:Int) (hl:l.List.length≤1048576) (hb:InI l.Base) (hi:InI i):∃ y:impl_Log,s_LogCut l i=some (y,())∧i_LogCut l i=some (y,())∧y.List.length≤1048576∧∀ e∈y.List,e∈l.List:=by
 obtain ⟨t,t1,t2,t3⟩:=termAt_same l i (by omega) hb hi
 rw [s_LogCut_eq,i_LogCut_eq,at_ok l i (by omega) hb hi,there_ok l (by omega),copyLog_ok l (by omega),cloneLog_ok l (by omega),t2]
 simp only [Option.bind_some,decide_eq_true_eq]
 have hi':=has_iff l i
 have hlen:=there_len l
 unfold InI at *
 by_cases h:Has_ l i
 ·have h':=hi'.1 h
  have hh:=h
  unfold Has_ at hh
  have e1:w64 (l.Base+((thereOf l).length:Int))=l.Base+(thereOf l).length:=w64_id (by omega) (by split at hlen <;> omega)
  have e2:w64 (i - l.Base)=i - l.Base:=w64_id (by omega) (by omega)
  have e3:w64 (i - l.Base - 1+1)=i - l.Base:=by rw [w64_id (by omega) (by omega)]; omega
  have c1:¬ i - l.Base - 1 < 0:=by omega
  have c2:0≤i - l.Base - 1∧i - l.Base - 1 < (l.List.length:Int):=by omega
  have c3:¬ i≤l.Base:=by omega
  have c4:¬ ((thereOf l).length:Int)=0:=by omega
  have c5:¬ i > l.Base+(thereOf l).length:=by omega
  have c6:0≤i - l.Base∧i - l.Base≤(l.List.length:Int):=by omega
  have c7:0+List.length (List.take (l.List.length - (i - l.Base).toNat) (List.drop (i - l.Base).toNat l.List))≤room:=by
   rw [List.length_take,List.length_drop,room_eq]; omega
  have c8:List.length (List.take (l.List.length - (i - l.Base).toNat) (List.drop (i - l.Base).toNat l.List))≤1048576:=by
   rw [List.length_take,List.length_drop]; omega
  simp only [if_pos h,e1,e2,e3,if_neg c1,if_pos c2,if_neg c3,if_neg c4,if_neg c5,if_pos c6,if_pos c7]
  rw [clone_Entry _ (by omega),t3 h]
  exact ⟨_,rfl,rfl,c8,fun e he=>List.mem_of_mem_drop (List.mem_of_mem_take he)⟩
 ·simp only [if_neg h]
  have h':¬ (l.Base < i∧0 < ((thereOf l).length:Int)∧i≤l.Base+(thereOf l).length):=fun x=>h (hi'.2 x)
  refine ⟨l,rfl,?_,hl,fun e he=>he⟩
  by_cases c1:i≤l.Base
  ·simp only [if_pos c1]
  ·simp only [if_neg c1]
   by_cases c2:((thereOf l).length:Int)=0
   ·simp only [if_pos c2]
   ·have e1:w64 (l.Base+((thereOf l).length:Int))=l.Base+(thereOf l).length:=w64_id (by omega) (by split at hlen <;> omega)
    have c3:i > l.Base+((thereOf l).length:Int):=by omega
    simp only [if_neg c2,e1,if_pos c3]
def putNum:Nat→Int→List Int
 | 0,n=>[n % 256]
 | d+1,n=>if n > 127 then (n % 128+128) :: putNum d (n / 128) else [n % 256]
theorem putNum_len (d:Nat):∀ n:Int,(putNum d n).length≤d+1:=by
 induction d with
 | zero=>intro n; simp [putNum]
 | succ d ih =>
  intro n; unfold putNum; split
  ·have:=ih (n / 128); simp; omega
  ·simp
theorem w8_mod (n:Int):w8 n=n % 256:=IntKind.wrap_u8 n
theorem shr7 {n:Int} (h:0≤n):shrI .i64 n 7=n / 128:=by
 show n.fdiv (2 ^ 7)=n / 128
 rw [Int.fdiv_eq_ediv_of_nonneg n (by decide)]; rfl
theorem s_PutNum_L1_ok (d:Nat):∀ (n:Int) (out:List Int),0≤n→n < 128 ^ (d+1)→n≤9223372036854775807→out.length+d≤1000→s_PutNum_L1 n out=some (out ++ putNum d n,()):=by
 induction d with
 | zero =>
  intro n out h0 h1 h2 h3
  rw [s_PutNum_L1_eq,if_neg (by rw [decide_eq_true_eq]; simp at h1; omega),if_pos (by rw [room_eq]; omega),w8_mod]; rfl
 | succ d ih =>
  intro n out h0 h1 h2 h3
  rw [s_PutNum_L1_eq]
  unfold putNum
  have c1:out.length+1≤room:=by rw [room_eq]; omega
  by_cases h:n > 127
  ·have e:=ih (n / 128) (out ++ [n % 128+128]) (by omega) (by rw [Int.pow_succ] at h1; omega) (by omega) (by simp; omega)
   rw [List.append_assoc,List.singleton_append] at e
   rw [if_pos h,if_pos (decide_eq_true h),if_pos c1,Int.tdiv_eq_ediv_of_nonneg h0,Int.tmod_eq_emod_of_nonneg h0,w64_id (n:=n / 128) (by omega) (by omega),w64_id (n:=n % 128+128) (by omega) (by omega),w8_id (n:=n % 128+128) (by omega) (by omega)]
   exact e
  ·rw [if_neg h,if_neg (by rw [decide_eq_true_eq]; exact h),if_pos c1,w8_mod]; rfl
theorem i_PutNum_L1_ok (d:Nat):∀ (n:Int) (out:List Int),0≤n→n < 128 ^ (d+1)→n≤9223372036854775807→out.length+d≤1000→i_PutNum_L1 n out=some (out ++ putNum d n,()):=by
 induction d with
 | zero =>
  intro n out h0 h1 h2 h3
  rw [i_PutNum_L1_eq,if_neg (by rw [decide_eq_true_eq]; simp at h1; omega),if_pos (by rw [room_eq]; omega),w8_mod]; rfl
 | succ d ih =>
  intro n out h0 h1 h2 h3
  rw [i_PutNum_L1_eq]
  unfold putNum
  have c1:out.length+1≤room:=by rw [room_eq]; omega
  by_cases h:n > 127
  ·have e:=ih (n / 128) (out ++ [n % 128+128]) (by omega) (by rw [Int.pow_succ] at h1; omega) (by omega) (by simp; omega)
   rw [List.append_assoc,List.singleton_append] at e
   rw [if_pos h,if_pos (decide_eq_true h),if_pos c1,shr7 h0,and_127 h0 (by omega),or_128 (by omega) (by omega),w8_id (n:=n % 128+128) (by omega) (by omega)]
   exact e
  ·rw [if_neg h,if_neg (by rw [decide_eq_true_eq]; exact h),if_pos c1,w8_mod]; rfl
def putNumOf (n:Int):List Int:=if 0≤n∧n≤4611686018427387903 then putNum 8 n else []
theorem putNumOf_len (n:Int):(putNumOf n).length≤9:=by
 unfold putNumOf; split
 ·exact putNum_len 8 n
 ·simp
theorem s_PutNum_ok (n:Int):s_PutNum n=some (putNumOf n,()):=by
 rw [s_PutNum_eq,s_l1In_ok,Option.bind_some]
 unfold putNumOf
 by_cases h:0≤n∧n≤4611686018427387903
 ·rw [if_pos h,if_neg (by simp [h])]
  exact s_PutNum_L1_ok 8 n [] h.1 (by have:=h.2; omega) (by omega) (by simp)
 ·rw [if_neg h,if_pos (by simp [h])]
theorem i_PutNum_ok (n:Int):i_PutNum n=some (putNumOf n,()):=by
 rw [i_PutNum_eq,i_in_ok,Option.bind_some]
 unfold putNumOf
 by_cases h:0≤n∧n≤4611686018427387903
 ·rw [if_pos h,if_neg (by simp [h])]
  exact i_PutNum_L1_ok 8 n [] h.1 (by have:=h.2; omega) (by omega) (by simp)
 ·rw [if_neg h,if_pos (by simp [h])]
def putText (s:List Int):List Int:=putNumOf s.length ++ s
theorem putText_len (s:List Int):(putText s).length≤9+s.length:=by
 unfold putText; rw [List.length_append]; have:=putNumOf_len s.length; omega
theorem s_PutText_ok (s:List Int) (h:s.length≤4000000000):s_PutText s=some (putText s,()):=by
 have:=putNumOf_len s.length
 rw [s_PutText_eq,s_PutNum_ok,Option.bind_some]
 dsimp only
 rw [if_pos (by rw [room_eq]; omega),if_pos (by rw [room_eq]; omega)]; rfl
theorem i_PutText_ok (s:List Int) (h:s.length≤4000000000):i_PutText s=some (putText s,()):=by
 have:=putNumOf_len s.length
 rw [i_PutText_eq,i_PutNum_ok,Option.bind_some]
 dsimp only
 rw [if_pos (by rw [room_eq]; omega)]; rfl
def getNum (b:List Int) (p:Int):Nat→Int→Int→Int × Int × Bool
 | 0,_,_=>(0,0,false)
 | d+1,n,k =>
  if p+k < (b.length:Int) then
   (let x:=b.getD (p+k).toNat 0
    let m:=bits .or .i64 n (shlI .i64 (x % 128) (7 * k))
    if 127 < x then getNum b p d m (k+1)
    else if (x=0∧0 < k)∨¬ (0≤m∧m≤4611686018427387903) then (0,0,false)
    else (m,p+k+1,true))
  else (0,0,false)
def tr3 (x:Int × Int × Bool):Int × Int × Bool × Unit:=(x.1,x.2.1,x.2.2,())
theorem byte_at {b:List Int} (hw:∀ x∈b,0≤x∧x≤255) {p:Int} (h0:0≤p) (h:p < (b.length:Int)):0≤b.getD p.toNat 0∧b.getD p.toNat 0≤255:=by
 rw [getD_lt (by omega)]
 exact hw _ (List.getElem_mem _)
theorem s_GetNum_L1_ok (b:List Int) (hb:b.length≤1048576) (hw:∀ x∈b,0≤x∧x≤255) (p:Int) (hp:0≤p) (hp2:p≤(b.length:Int)) (d:Nat):∀ (n k:Int),0≤k→k+d=9→s_GetNum_L1 b p n k=some (tr3 (getNum b p d n k)):=by
 induction d with
 | zero =>
  intro n k h0 hd
  rw [s_GetNum_L1_eq,if_neg (by rw [decide_eq_true_eq]; omega)]; rfl
 | succ d ih =>
  intro n k h0 hd
  have w1:w64 ((b.length:Int) - k)=(b.length:Int) - k:=w64_id (by omega) (by omega)
  have w2:w64 (p+k)=p+k:=w64_id (by omega) (by omega)
  have w3:w64 (7 * k)=7 * k:=w64_id (by omega) (by omega)
  have w4:w64 (k+1)=k+1:=w64_id (by omega) (by omega)
  have w5:w64 (p+k+1)=p+k+1:=w64_id (by omega) (by omega)
  rw [s_GetNum_L1_eq,if_pos (decide_eq_true (by omega)),if_neg (by rw [decide_eq_true_eq]; omega),w1,w2,w3,w4,w5]
  unfold getNum
  by_cases h:p+k < (b.length:Int)
  ·have hx:=byte_at hw (show 0≤p+k by omega) h
   have w6:w64 (b.getD (p+k).toNat 0)=b.getD (p+k).toNat 0:=w64_id (by omega) (by omega)
   have t1:Int.tmod (b.getD (p+k).toNat 0) 128=b.getD (p+k).toNat 0 % 128:=Int.tmod_eq_emod_of_nonneg hx.1
   rw [if_neg (by rw [decide_eq_true_eq]; omega),if_pos (by omega),if_pos (by omega),if_pos h,w6,t1]
   dsimp only
   generalize hm:bits .or .i64 n (shlI .i64 (b.getD (p+k).toNat 0 % 128) (7 * k))=m
   by_cases h2:127 < b.getD (p+k).toNat 0
   ·rw [if_pos h2,if_neg (by rw [decide_eq_true_eq]; omega)]
    exact ih m (k+1) (by omega) (by omega)
   ·rw [if_neg h2,if_pos (decide_eq_true (by omega))]
    simp only [decide_eq_true_eq]
    split
    ·split
     ·rw [if_pos (by omega)]; rfl
     ·split
      ·rw [if_pos (by omega)]; rfl
      ·split
       ·rw [if_pos (by omega)]; rfl
       ·rw [if_neg (by omega)]; rfl
    ·split
     ·rw [if_pos (by omega)]; rfl
     ·split
      ·rw [if_pos (by omega)]; rfl
      ·rw [if_neg (by omega)]; rfl
  ·rw [if_neg h,if_pos (decide_eq_true (by omega))]; rfl
theorem i_GetNum_L1_ok (b:List Int) (hb:b.length≤1048576) (hw:∀ x∈b,0≤x∧x≤255) (p:Int) (hp:0≤p) (hp2:p≤(b.length:Int)) (d:Nat):∀ (n k:Int),0≤k→k+d=9→i_GetNum_L1 b p n k=some (tr3 (getNum b p d n k)):=by
 induction d with
 | zero =>
  intro n k h0 hd
  rw [i_GetNum_L1_eq,if_neg (by rw [decide_eq_true_eq]; omega)]; rfl
 | succ d ih =>
  intro n k h0 hd
  have w2:w64 (p+k)=p+k:=w64_id (by omega) (by omega)
  have w3:w64 (7 * k)=7 * k:=w64_id (by omega) (by omega)
  have w4:w64 (k+1)=k+1:=w64_id (by omega) (by omega)
  have w5:w64 (p+k+1)=p+k+1:=w64_id (by omega) (by omega)
  rw [i_GetNum_L1_eq,if_pos (decide_eq_true (by omega)),w2,w3,w4,w5]
  unfold getNum
  by_cases h:p+k < (b.length:Int)
  ·have hx:=byte_at hw (show 0≤p+k by omega) h
   have w6:w64 (b.getD (p+k).toNat 0)=b.getD (p+k).toNat 0:=w64_id (by omega) (by omega)
   have t1:bits .and .i64 (b.getD (p+k).toNat 0) 127=b.getD (p+k).toNat 0 % 128:=and_127 hx.1 (by omega)
   rw [if_pos (decide_eq_true h),if_pos (by omega),if_pos (by omega),if_pos h,w6,t1]
   dsimp only
   generalize hm:bits .or .i64 n (shlI .i64 (b.getD (p+k).toNat 0 % 128) (7 * k))=m
   by_cases h2:127 < b.getD (p+k).toNat 0
   ·rw [if_pos h2,if_pos (decide_eq_true (by omega))]
    exact ih m (k+1) (by omega) (by omega)
   ·rw [if_neg h2,if_neg (by rw [decide_eq_true_eq]; omega)]
    simp only [decide_eq_true_eq,i_in_ok,Option.bind_some,Bool.not_eq_true',decide_eq_false_iff_not]
    split
    ·split
     ·rw [if_pos (by omega)]; rfl
     ·split
      ·rw [if_pos (by omega)]; rfl
      ·rw [if_neg (by omega)]; rfl
    ·split
     ·rw [if_pos (by omega)]; rfl
     ·rw [if_neg (by omega)]; rfl
  ·rw [if_neg h,if_neg (by rw [decide_eq_true_eq]; omega)]; rfl
def getNumOf (b:List Int) (p:Int):Int × Int × Bool:=if 0≤p∧p≤(b.length:Int) then getNum b p 9 0 0 else (0,0,false)
theorem i_GetNum_ok (b:List Int) (hb:b.length≤1048576) (hw:∀ x∈b,0≤x∧x≤255) (p:Int):i_GetNum b p=some (tr3 (getNumOf b p)):=by
 rw [i_GetNum_eq,i_in_ok,Option.bind_some]
 unfold getNumOf
 by_cases h:0≤p∧p≤(b.length:Int)
 ·rw [if_pos h,if_neg (by simp [h])]; exact i_GetNum_L1_ok b hb hw p h.1 h.2 9 0 0 (by omega) (by omega)
 ·rw [if_neg h,if_pos (by simp [h])]; rfl
theorem s_GetNum_ok (b:List Int) (hb:b.length≤1048576) (hw:∀ x∈b,0≤x∧x≤255) (p:Int) (hp:-9223372036854775808≤p∧p≤9223372036854775807):s_GetNum b p=some (tr3 (getNumOf b p)):=by
 rw [s_GetNum_eq]
 unfold getNumOf
 by_cases h:0≤p∧p≤(b.length:Int)
 ·rw [if_pos h]; exact s_GetNum_L1_ok b hb hw p h.1 h.2 9 0 0 (by omega) (by omega)
 ·rw [if_neg h,s_GetNum_L1_eq,if_pos (by decide)]
  by_cases h1:p < 0
  ·rw [if_pos (by simp [h1])]; rfl
  ·rw [if_neg (by simp [h1]),w64_id (by omega) (by omega),if_pos (decide_eq_true (by omega))]; rfl
theorem getNum_bd (b:List Int) (p:Int) (hp:0≤p) (hp2:p≤(b.length:Int)) (d:Nat):∀ n k:Int,0≤k→k+d=9→0≤(getNum b p d n k).1∧(getNum b p d n k).1≤4611686018427387903∧0≤(getNum b p d n k).2.1∧(getNum b p d n k).2.1≤(b.length:Int):=by
 induction d with
 | zero=>intro n k h0 hd; simp [getNum]
 | succ d ih =>
  intro n k h0 hd
  unfold getNum
  split
  ·dsimp only; split
   ·exact ih _ _ (by omega) (by omega)
   ·split
    ·simp
    ·rename_i h1 _ h2
     dsimp only; omega
  ·simp
theorem getNumOf_bd (b:List Int) (p:Int):0≤(getNumOf b p).1∧(getNumOf b p).1≤4611686018427387903∧0≤(getNumOf b p).2.1∧(getNumOf b p).2.1≤(b.length:Int):=by
 unfold getNumOf; split
 ·rename_i h; exact getNum_bd b p h.1 h.2 9 0 0 (by omega) (by omega)
 ·simp
theorem or_shl {n y:Int} {k:Nat} (h0:0≤n) (h1:n < 128 ^ k) (y0:0≤y) (y1:y < 128) (hk:k≤8):bits .or .i64 n (shlI .i64 y (7 * (k:Int)))=n+y * 128 ^ k:=by
 obtain ⟨a,rfl⟩:=Int.eq_ofNat_of_zero_le h0
 obtain ⟨c,rfl⟩:=Int.eq_ofNat_of_zero_le y0
 have e128:(128:Nat) ^ k=2 ^ (7 * k):=by rw [Nat.pow_mul]
 have ha:a < 2 ^ (7 * k):=by rw [← e128]; exact_mod_cast h1
 have hc:c < 128:=by omega
 have hp:2 ^ (7 * k) * c+a < 2 ^ 63:=by
  have h1:2 ^ (7 * k) * c+a < 2 ^ (7 * k) * 128:=by
   have:2 ^ (7 * k) * c+2 ^ (7 * k)≤2 ^ (7 * k) * 128:=by
    rw [← Nat.mul_succ]; exact Nat.mul_le_mul_left _ (by omega)
   omega
  have h2:2 ^ (7 * k) * 128=2 ^ (7 * k+7):=by rw [Nat.pow_add]
  have h3:(2:Nat) ^ (7 * k+7)≤2 ^ 63:=Nat.pow_le_pow_right (by omega) (by omega)
  omega
 have hcp:c * 2 ^ (7 * k) < 2 ^ 63:=by rw [Nat.mul_comm]; omega
 have hs:shlI .i64 (c:Int) (7 * (k:Int))=((c * 2 ^ (7 * k):Nat):Int):=by
  unfold shlI
  have ht:(7 * (k:Int)).toNat=7 * k:=by omega
  have hm:min (7 * (k:Int)).toNat IntKind.i64.bits=7 * k:=by rw [ht]; show min (7 * k) 64=7 * k; omega
  rw [hm]
  have e:(c:Int) * 2 ^ (7 * k)=((c * 2 ^ (7 * k):Nat):Int):=by rw [Int.natCast_mul,Int.natCast_pow]; rfl
  rw [e]
  exact w64_id (by omega) (by have:=hcp; have e2:(2:Nat) ^ 63=9223372036854775808:=by decide
                              omega)
 rw [hs]
 have hb:=(bits_nat .i64 63 (by decide) (wraps_i64 63 (by omega)) a (c * 2 ^ (7 * k)) (by omega) hcp).2
 rw [hb,Nat.or_comm,Nat.mul_comm,← Nat.two_pow_add_eq_or_of_lt ha c,Int.natCast_add,Int.natCast_mul,Int.natCast_pow,Int.add_comm,Int.mul_comm]
 congr 2
 rw [Int.pow_mul]; rfl
theorem drop_get {b:List Int} {p:Int} (h0:0≤p) (h:p < (b.length:Int)):b.drop p.toNat=b.getD p.toNat 0 :: b.drop (p+1).toNat:=by
 rw [List.drop_eq_getElem_cons (show p.toNat < b.length by omega),getD_lt (by omega),show (p+1).toNat=p.toNat+1 by omega]
theorem putNum_big (d:Nat) {n:Int} (h:n > 127):putNum (d+1) n=(n % 128+128) :: putNum d (n / 128):=by show (if n > 127 then _ else _)=_; rw [if_pos h]
theorem getNum_enc (b:List Int) (hw:∀ x∈b,0≤x∧x≤255) (p:Int) (hp:0≤p) (hp2:p≤(b.length:Int)) (v q:Int):∀ (d k:Nat) (n:Int),k+d=9→0≤n→n < 128 ^ k→getNum b p d n k=(v,q,true) →
  ∃ w,0≤w∧v=n+w * 128 ^ k∧p+k < q∧q≤(b.length:Int)∧(b.drop (p+k).toNat).take (q - (p+k)).toNat=putNum (d - 1) w∧(0 < k→0 < w):=by
 intro d
 induction d with
 | zero=>intro k n hd h0 h1 h; simp [getNum] at h
 | succ d ih =>
  intro k n hd h0 h1 h
  unfold getNum at h
  by_cases hlt:p+k < (b.length:Int)
  ·rw [if_pos hlt] at h
   dsimp only at h
   have hx:=byte_at hw (show 0≤p+k by omega) hlt
   have hdr:=drop_get (b:=b) (p:=p+k) (by omega) hlt
   generalize b.getD (p+k).toNat 0=x at h hx hdr
   rw [or_shl h0 h1 (by omega) (by omega) (by omega)] at h
   by_cases h2:127 < x
   ·rw [if_pos h2] at h
    have hpow:(0:Int) < 128 ^ k:=Int.pow_pos (by omega)
    have hps:(128:Int) ^ (k+1)=128 ^ k * 128:=Int.pow_succ ..
    obtain ⟨w,w0,e1,e2,e3,e4,e5⟩:=ih (k+1) (n+x % 128 * 128 ^ k) (by omega) (Int.add_nonneg h0 (Int.mul_nonneg (by omega) (by omega))) (by
     have:x % 128 * 128 ^ k≤127 * 128 ^ k:=Int.mul_le_mul_of_nonneg_right (by omega) (by omega)
     rw [hps]; omega) (by rw [show ((k+1:Nat):Int)=(k:Int)+1 by omega]; exact h)
    have w5:=e5 (by omega)
    rw [show p+((k+1:Nat):Int)=p+k+1 by omega] at e2 e4
    refine ⟨x % 128+128 * w,by omega,?_,by omega,e3,?_,fun _=>by omega⟩
    ·rw [e1,hps,Int.add_mul,Int.add_assoc,Int.mul_assoc 128 w,Int.mul_comm 128 (w * 128 ^ k),Int.mul_assoc w]
    ·rw [hdr,show (q - (p+k)).toNat=(q - (p+k+1)).toNat+1 by omega,List.take_succ_cons,e4]
     cases d with
     | zero=>simp [getNum] at h
     | succ d =>
      show _=putNum (d+1) _
      rw [putNum_big _ (by omega),show (x % 128+128 * w) % 128+128=x by omega,show (x % 128+128 * w) / 128=w by omega]
      rfl
   ·rw [if_neg h2] at h
    by_cases h3:(x=0∧(0:Int) < k)∨¬ (0≤n+x % 128 * 128 ^ k∧n+x % 128 * 128 ^ k≤4611686018427387903)
    ·rw [if_pos h3] at h; simp at h
    ·rw [if_neg h3] at h
     simp only [Prod.mk.injEq,and_true] at h
     obtain ⟨e1,e2⟩:=h
     have hxm:x % 128=x:=by omega
     refine ⟨x,hx.1,by rw [← e1,hxm],by omega,by omega,?_,fun hk=>by omega⟩
     rw [hdr,show (q - (p+k)).toNat=0+1 by omega,List.take_succ_cons,List.take_zero]
     cases d with
     | zero=>show _=[x % 256]; rw [show x % 256=x by omega]
     | succ d =>
      show _=putNum (d+1) x
      unfold putNum
      rw [if_neg (by omega),show x % 256=x by omega]
  ·rw [if_neg hlt] at h; simp at h
theorem num_canon (b:List Int) (hw:∀ x∈b,0≤x∧x≤255) (p v q:Int) (h:getNumOf b p=(v,q,true)):0≤p∧p < q∧q≤(b.length:Int)∧b.take q.toNat=b.take p.toNat ++ putNumOf v∧0≤v∧v≤4611686018427387903:=by
 have hbd:=getNumOf_bd b p
 unfold getNumOf at h hbd
 by_cases hc:0≤p∧p≤(b.length:Int)
 ·rw [if_pos hc] at h hbd
  rw [h] at hbd
  obtain ⟨w,w0,e1,e2,e3,e4,_⟩:=getNum_enc b hw p hc.1 hc.2 v q 9 0 0 rfl (by omega) (by simp) h
  have ev:v=w:=by rw [e1]; simp
  have hv:0≤v∧v≤4611686018427387903:=⟨hbd.1,hbd.2.1⟩
  refine ⟨hc.1,by omega,e3,?_,hv.1,hv.2⟩
  have e4':(b.drop p.toNat).take (q - p).toNat=putNum 8 w:=by simpa using e4
  have ep:putNumOf v=putNum 8 w:=by unfold putNumOf; rw [if_pos hv,ev]
  rw [ep,← e4',show q.toNat=p.toNat+(q - p).toNat by omega,List.take_add]
 ·rw [if_neg hc] at h; simp at h
def Bytes (b:List Int):Prop:=∀ x∈b,0≤x∧x≤255
def getTextOf (b:List Int) (p:Int):List Int × Int × Bool :=
 if (getNumOf b p).2.2=true∧(getNumOf b p).1≤(b.length:Int) - (getNumOf b p).2.1 then ((b.drop (getNumOf b p).2.1.toNat).take (getNumOf b p).1.toNat,(getNumOf b p).2.1+(getNumOf b p).1,true) else ([],0,false)
def trT (x:List Int × Int × Bool):List Int × Int × Bool × Unit:=(x.1,x.2.1,x.2.2,())
theorem text_tail (b:List Int) (g:Int × Int × Bool) (h1:0≤g.1) (h2:g.1≤4611686018427387903) (h3:0≤g.2.1) (h4:g.2.1≤(b.length:Int)) (hb:b.length≤1048576) :
  (if (!g.2.2)=true then some (([]:List Int),(0:Int),false,()) else if (decide (g.1 > w64 ((b.length:Int) - g.2.1)))=true then some ([],0,false,()) else
   if (0:Int)≤g.2.1∧g.2.1≤w64 (g.2.1+g.1)∧w64 (g.2.1+g.1)≤(b.length:Int) then some (List.take ((w64 (g.2.1+g.1)).toNat - g.2.1.toNat) (List.drop g.2.1.toNat b),w64 (g.2.1+g.1),true,()) else none) =
  some (trT (if g.2.2=true∧g.1≤(b.length:Int) - g.2.1 then ((b.drop g.2.1.toNat).take g.1.toNat,g.2.1+g.1,true) else ([],0,false))):=by
 obtain ⟨n,q,ok⟩:=g
 dsimp only at *
 cases ok with
 | false=>simp [trT]
 | true =>
  rw [w64_id (n:=(b.length:Int) - q) (by omega) (by omega),w64_id (n:=q+n) (by omega) (by omega)]
  simp only [Bool.not_true,Bool.false_eq_true,if_false,true_and,decide_eq_true_eq]
  by_cases h:n > (b.length:Int) - q
  ·rw [if_pos h,if_neg (by omega)]; rfl
  ·rw [if_neg h,if_pos (by omega),if_pos (by omega),show (q+n).toNat - q.toNat=n.toNat by omega]; rfl
theorem s_GetText_ok (b:List Int) (hb:b.length≤1048576) (hw:Bytes b) (p:Int) (hp:-9223372036854775808≤p∧p≤9223372036854775807):s_GetText b p=some (trT (getTextOf b p)):=by
 obtain ⟨h1,h2,h3,h4⟩:=getNumOf_bd b p
 rw [s_GetText_eq,s_GetNum_ok b hb hw p hp,Option.bind_some]
 exact text_tail b (getNumOf b p) h1 h2 h3 h4 hb
theorem i_GetText_ok (b:List Int) (hb:b.length≤1048576) (hw:Bytes b) (p:Int):i_GetText b p=some (trT (getTextOf b p)):=by
 obtain ⟨h1,h2,h3,h4⟩:=getNumOf_bd b p
 rw [i_GetText_eq,i_GetNum_ok b hb hw p,Option.bind_some]
 exact text_tail b (getNumOf b p) h1 h2 h3 h4 hb
theorem text_canon (b:List Int) (hw:Bytes b) (p q:Int) (t:List Int) (h:getTextOf b p=(t,q,true)):0≤p∧p < q∧q≤(b.length:Int)∧b.take q.toNat=b.take p.toNat ++ putText t∧t.length≤b.length:=by
 unfold getTextOf at h
 have hbd:=getNumOf_bd b p
 cases hg:getNumOf b p with | mk n mo =>
 obtain ⟨m,ok⟩:=mo
 rw [hg] at h hbd
 dsimp only at h hbd
 by_cases hc:ok=true∧n≤(b.length:Int) - m
 ·obtain ⟨rfl,hc2⟩:=hc
  rw [if_pos ⟨rfl,hc2⟩] at h
  simp only [Prod.mk.injEq,and_true] at h
  obtain ⟨rfl,rfl⟩:=h
  obtain ⟨c1,c2,c3,c4,c5,c6⟩:=num_canon b hw p n m hg
  have hl:((b.drop m.toNat).take n.toNat).length=n.toNat:=by rw [List.length_take,List.length_drop]; omega
  refine ⟨c1,by omega,by omega,?_,by rw [hl]; omega⟩
  rw [show (m+n).toNat=m.toNat+n.toNat by omega,List.take_add,c4,List.append_assoc]
  unfold putText
  rw [hl,show ((n.toNat:Nat):Int)=n by omega]
 ·rw [if_neg hc] at h; simp at h
def zig (n:Int):Int:=if n < 0 then -2 * n - 1 else 2 * n
def zag (n:Int):Int:=if n % 2=1 then -(n / 2) - 1 else n / 2
def InZ (n:Int):Prop:=-2305843009213693951≤n∧n≤2305843009213693951
instance (n:Int):Decidable (InZ n):=inferInstanceAs (Decidable (_∧_))
def putInt (n:Int):List Int:=if InZ n then putNumOf (zig n) else []
def getIntOf (b:List Int) (p:Int):Int × Int × Bool :=
 if (getNumOf b p).2.2=true∧InZ (zag (getNumOf b p).1) then (zag (getNumOf b p).1,(getNumOf b p).2.1,true) else (0,0,false)
theorem i_int_tail (q:Int) (ok:Bool) (v:Int):i_GetInt_L1 q ok v=some (tr3 (if ok=true∧InZ v then (v,q,true) else (0,0,false))):=by
 rw [i_GetInt_L1_eq]
 cases ok with
 | false=>rfl
 | true =>
  rw [if_neg (by simp),i_in_ok,Option.bind_some]
  by_cases h:InZ v
  ·have hh:=h
   unfold InZ at hh
   rw [decide_eq_true hh,if_neg (by simp),if_pos ⟨rfl,h⟩]; rfl
  ·have hh:=h
   unfold InZ at hh
   rw [decide_eq_false hh,if_pos (by simp),if_neg (fun x=>h x.2)]; rfl
theorem s_int_tail (q v:Int):s_GetInt_L1 q v=some (tr3 (if true=true∧InZ v then (v,q,true) else (0,0,false))):=by
 rw [s_GetInt_L1_eq,s_l1In_ok,Option.bind_some]
 by_cases h:InZ v
 ·have hh:=h
  unfold InZ at hh
  rw [decide_eq_true hh,if_neg (by simp),if_pos ⟨rfl,h⟩]; rfl
 ·have hh:=h
  unfold InZ at hh
  rw [decide_eq_false hh,if_pos (by simp),if_neg (fun x=>h x.2)]; rfl
theorem i_GetInt_ok (b:List Int) (hb:b.length≤1048576) (hw:Bytes b) (p:Int):i_GetInt b p=some (tr3 (getIntOf b p)):=by
 obtain ⟨h1,h2,h3,h4⟩:=getNumOf_bd b p
 rw [i_GetInt_eq,i_GetNum_ok b hb hw p,Option.bind_some]
 unfold getIntOf
 generalize getNumOf b p=g at *
 obtain ⟨n,q,ok⟩:=g
 simp only [tr3] at *
 simp only [Int.tmod_eq_emod_of_nonneg h1,Int.tdiv_eq_ediv_of_nonneg h1,decide_eq_true_eq,i_int_tail,tr3]
 unfold zag
 by_cases h:n % 2=1
 ·rw [if_pos h,if_pos h,w64_id (n:=n / 2) (by omega) (by omega),w64_id (n:=n / 2+1) (by omega) (by omega),w64_id (by omega) (by omega),show 0 - (n / 2+1) = -(n / 2) - 1 by omega]
 ·rw [if_neg h,if_neg h,w64_id (by omega) (by omega)]
theorem s_GetInt_ok (b:List Int) (hb:b.length≤1048576) (hw:Bytes b) (p:Int) (hp:-9223372036854775808≤p∧p≤9223372036854775807):s_GetInt b p=some (tr3 (getIntOf b p)):=by
 obtain ⟨h1,h2,h3,h4⟩:=getNumOf_bd b p
 rw [s_GetInt_eq,s_GetNum_ok b hb hw p hp,Option.bind_some]
 unfold getIntOf
 generalize getNumOf b p=g at *
 obtain ⟨n,q,ok⟩:=g
 simp only [tr3] at *
 cases ok with
 | false=>simp
 | true =>
  simp only [Int.tmod_eq_emod_of_nonneg h1,Int.tdiv_eq_ediv_of_nonneg h1,decide_eq_true_eq,s_int_tail,tr3]
  rw [if_neg (by simp)]
  unfold zag
  by_cases h:n % 2=1
  ·rw [if_pos h,if_pos h,w64_id (n:=n / 2) (by omega) (by omega),w64_id (by omega) (by omega),show -1 - n / 2 = -(n / 2) - 1 by omega]
  ·rw [if_neg h,if_neg h,w64_id (by omega) (by omega)]
theorem int_canon (b:List Int) (hw:Bytes b) (p v q:Int) (h:getIntOf b p=(v,q,true)):0≤p∧p < q∧q≤(b.length:Int)∧b.take q.toNat=b.take p.toNat ++ putInt v:=by
 unfold getIntOf at h
 cases hg:getNumOf b p with | mk n mo =>
 obtain ⟨m,ok⟩:=mo
 rw [hg] at h
 dsimp only at h
 by_cases hc:ok=true∧InZ (zag n)
 ·obtain ⟨rfl,hz⟩:=hc
  rw [if_pos ⟨rfl,hz⟩] at h
  simp only [Prod.mk.injEq,and_true] at h
  obtain ⟨rfl,rfl⟩:=h
  obtain ⟨c1,c2,c3,c4,c5,c6⟩:=num_canon b hw p n m hg
  refine ⟨c1,c2,c3,?_⟩
  have hzz:zig (zag n)=n:=by
   unfold zag
   by_cases h2:n % 2=1
   ·rw [if_pos h2]; unfold zig; rw [if_pos (by omega)]; omega
   ·rw [if_neg h2]; unfold zig; rw [if_neg (by omega)]; omega
  unfold putInt
  rw [if_pos hz,hzz]; exact c4
 ·rw [if_neg hc] at h; simp at h
def valBytes (v:impl_Val):List Int:=(putNumOf v.Kind ++ putInt v.N) ++ putText v.S
def addC (a:List Int) (c:impl_Cell):List Int:=((a ++ putNumOf c.Name) ++ putText c.Key) ++ valBytes c.Val
def MachFine (m:impl_Mach):Prop :=
 m.State.Vars.length≤8∧(∀ v∈m.State.Vars,v.S.length≤300)∧m.State.Cells.length≤40∧(∀ c∈m.State.Cells,c.Key.length≤300∧c.Val.S.length≤300)∧m.Done.length=3∧m.Out.length≤1500
theorem and_iff' {a b:Bool}:(a && b)=true ↔ a=true∧b=true:=by cases a <;> cases b <;> simp
theorem valB_len {v:impl_Val} (h:valB v=true):v.S.length≤300:=by
 unfold valB at h
 have h1:=(and_iff'.1 (and_iff'.1 h).1).2
 by_cases c:(v.S.length:Int) > 300
 ·rw [decide_eq_true c] at h1; cases h1
 ·omega
theorem not_true' {a:Bool} (h:(!a)=true):a=false:=by cases a with
 | true=>cases h
 | false=>rfl
theorem any_false {α:Type} {l:List α} {p:α→Bool} (h:l.any p=false):∀ x∈l,p x=false:=by
 intro x hx
 cases e:p x with
 | false=>rfl
 | true =>
  have:l.any p=true:=List.any_eq_true.2 ⟨x,hx,e⟩
  rw [h] at this; cases this
theorem stateB_fine {s:impl_State} {v c:Int} (h:stateB s v c=true):(s.Vars.length:Int)=v∧(∀ x∈s.Vars,valB x=true)∧s.Cells.length≤40∧(∀ x∈s.Cells,x.Key.length≤300∧valB x.Val=true∧0≤x.Name∧x.Name < c)∧(0≤s.Nr∧s.Nr≤1000000)∧(0≤s.Err∧s.Err≤7):=by
 unfold stateB at h
 obtain ⟨a1,h⟩:=and_iff'.1 h
 obtain ⟨a2,h⟩:=and_iff'.1 h
 obtain ⟨a3,h⟩:=and_iff'.1 h
 obtain ⟨a4,h⟩:=and_iff'.1 h
 obtain ⟨a5,a6⟩:=and_iff'.1 h
 have a3':=of_decide_eq_true a3
 refine ⟨of_decide_eq_true a1,fun x hx=>?_,by omega,fun x hx=>?_,of_decide_eq_true a4,of_decide_eq_true a5⟩
 ·have:=any_false (not_true' a2) x hx
  cases e:valB x with
  | true=>rfl
  | false=>rw [e] at this; cases this
 ·obtain ⟨i,hi,rfl⟩:=List.mem_iff_getElem.1 hx
  have:=anyB_false.1 (not_true' a6) i hi
  unfold cellBad at this
  rw [getD_lt hi,Bool.or_eq_false_iff,Bool.or_eq_false_iff,Bool.or_eq_false_iff,Bool.or_eq_false_iff] at this
  obtain ⟨b1,b2,b3,b4,_⟩:=this
  have b1':=of_decide_eq_false b1
  have b2':=of_decide_eq_false b2
  have b3':=of_decide_eq_false b3
  refine ⟨by omega,?_,by omega,by omega⟩
  cases e:valB s.Cells[i].Val with
  | true=>rfl
  | false=>rw [e] at b4; cases b4
theorem machB_fine {p:impl_Prog} {m:impl_Mach} (h:machB p m=true):MachFine m:=by
 unfold machB at h
 obtain ⟨h1,h⟩:=and_iff'.1 h
 obtain ⟨h2,h⟩:=and_iff'.1 h
 obtain ⟨h3,h⟩:=and_iff'.1 h
 obtain ⟨h4,h5⟩:=and_iff'.1 h
 obtain ⟨s1,s2,s3,s4,s5⟩:=stateB_fine h2
 unfold progB namesB at h1
 have hv:=of_decide_eq_true (and_iff'.1 (and_iff'.1 h1).1).2
 have h3':=of_decide_eq_true h3
 have h5':=of_decide_eq_true h5
 exact ⟨by omega,fun v hv=>valB_len (s2 v hv),s3,fun c hc=>⟨(s4 c hc).1,valB_len (s4 c hc).2.1⟩,by omega,by omega⟩
def pN (b:List Int) (p:Int):Option (Int × Int):=if (getNumOf b p).2.2=true then some ((getNumOf b p).1,(getNumOf b p).2.1) else none
def pT (b:List Int) (p:Int):Option (List Int × Int):=if (getTextOf b p).2.2=true then some ((getTextOf b p).1,(getTextOf b p).2.1) else none
def pZ (b:List Int) (p:Int):Option (Int × Int):=if (getIntOf b p).2.2=true then some ((getIntOf b p).1,(getIntOf b p).2.1) else none
def pV (b:List Int) (p:Int):Option (impl_Val × Int):=(pN b p).bind fun x=>(pZ b x.2).bind fun y=>(pT b y.2).bind fun z=>some (⟨x.1,y.1,z.1⟩,z.2)
def pC (b:List Int) (p:Int):Option (impl_Cell × Int):=(pN b p).bind fun x=>(pT b x.2).bind fun y=>(pV b y.2).bind fun z=>some (⟨x.1,y.1,z.1⟩,z.2)
def pL {α:Type} (f:Int→Option (α × Int)):Nat→Int→Option (List α × Int)
 | 0,p=>some ([],p)
 | n+1,p=>(f p).bind fun x=>(pL f n x.2).bind fun y=>some (x.1 :: y.1,y.2)
theorem pN_spec {b:List Int} (hw:Bytes b) {p v q:Int} (h:pN b p=some (v,q)):0≤p∧p < q∧q≤(b.length:Int)∧b.take q.toNat=b.take p.toNat ++ putNumOf v∧0≤v∧v≤4611686018427387903:=by
 unfold pN at h
 cases e:(getNumOf b p).2.2 with
 | false=>rw [e] at h; cases h
 | true =>
  rw [e,if_pos rfl] at h
  have h':=Option.some.inj h
  exact num_canon b hw p v q (Prod.ext (show (getNumOf b p).1=v from congrArg Prod.fst h') (Prod.ext (show (getNumOf b p).2.1=q from congrArg Prod.snd h') e))
theorem pT_spec {b:List Int} (hw:Bytes b) {p q:Int} {t:List Int} (h:pT b p=some (t,q)):0≤p∧p < q∧q≤(b.length:Int)∧b.take q.toNat=b.take p.toNat ++ putText t∧t.length≤b.length:=by
 unfold pT at h
 cases e:(getTextOf b p).2.2 with
 | false=>rw [e] at h; cases h
 | true =>
  rw [e,if_pos rfl] at h
  have h':=Option.some.inj h
  exact text_canon b hw p q t (Prod.ext (show (getTextOf b p).1=t from congrArg Prod.fst h') (Prod.ext (show (getTextOf b p).2.1=q from congrArg Prod.snd h') e))
theorem pZ_spec {b:List Int} (hw:Bytes b) {p v q:Int} (h:pZ b p=some (v,q)):0≤p∧p < q∧q≤(b.length:Int)∧b.take q.toNat=b.take p.toNat ++ putInt v:=by
 unfold pZ at h
 cases e:(getIntOf b p).2.2 with
 | false=>rw [e] at h; cases h
 | true =>
  rw [e,if_pos rfl] at h
  have h':=Option.some.inj h
  exact int_canon b hw p v q (Prod.ext (show (getIntOf b p).1=v from congrArg Prod.fst h') (Prod.ext (show (getIntOf b p).2.1=q from congrArg Prod.snd h') e))
theorem bind_split {α β:Type} {x:Option α} {f:α→Option β} {y:β} (h:x.bind f=some y):∃ a,x=some a∧f a=some y:=by
 cases x with
 | none=>cases h
 | some a=>exact ⟨a,rfl,h⟩
theorem text_bytes {b:List Int} (hw:Bytes b) {p q:Int} {t:List Int} (h:pT b p=some (t,q)):Bt t:=by
 obtain ⟨h1,h2,h3,h4,h5⟩:=pT_spec hw h
 intro x hx
 have:x∈b.take q.toNat:=by
  rw [h4]; unfold putText
  exact List.mem_append.2 (.inr (List.mem_append.2 (.inr hx)))
 exact hw x (List.mem_of_mem_take this)
theorem pV_spec {b:List Int} (hw:Bytes b) {p q:Int} {v:impl_Val} (h:pV b p=some (v,q)):0≤p∧p < q∧q≤(b.length:Int)∧b.take q.toNat=b.take p.toNat ++ valBytes v∧v.S.length≤b.length∧Bt v.S:=by
 unfold pV at h
 obtain ⟨x,hx,h⟩:=bind_split h
 obtain ⟨y,hy,h⟩:=bind_split h
 obtain ⟨z,hz,h⟩:=bind_split h
 have h':=Option.some.inj h
 have e1:=congrArg Prod.fst h'
 have e2:=congrArg Prod.snd h'
 dsimp only at e1 e2
 subst e1; subst e2
 obtain ⟨a1,a2,a3,a4,_⟩:=pN_spec hw (show pN b p=some (x.1,x.2) from hx)
 obtain ⟨b1,b2,b3,b4⟩:=pZ_spec hw (show pZ b x.2=some (y.1,y.2) from hy)
 obtain ⟨c1,c2,c3,c4,c5⟩:=pT_spec hw (show pT b y.2=some (z.1,z.2) from hz)
 refine ⟨a1,by omega,c3,?_,c5,text_bytes hw (show pT b y.2=some (z.1,z.2) from hz)⟩
 rw [c4,b4,a4]
 unfold valBytes
 simp only [List.append_assoc]
theorem pC_spec {b:List Int} (hw:Bytes b) {p q:Int} {c:impl_Cell} (h:pC b p=some (c,q)):0≤p∧p < q∧q≤(b.length:Int)∧b.take q.toNat=addC (b.take p.toNat) c∧c.Key.length≤b.length∧c.Val.S.length≤b.length∧Bt c.Val.S:=by
 unfold pC at h
 obtain ⟨x,hx,h⟩:=bind_split h
 obtain ⟨y,hy,h⟩:=bind_split h
 obtain ⟨z,hz,h⟩:=bind_split h
 have h':=Option.some.inj h
 have e1:=congrArg Prod.fst h'
 have e2:=congrArg Prod.snd h'
 dsimp only at e1 e2
 subst e1; subst e2
 obtain ⟨a1,a2,a3,a4,_⟩:=pN_spec hw (show pN b p=some (x.1,x.2) from hx)
 obtain ⟨b1,b2,b3,b4,b5⟩:=pT_spec hw (show pT b x.2=some (y.1,y.2) from hy)
 obtain ⟨c1,c2,c3,c4,c5,c6⟩:=pV_spec hw (show pV b y.2=some (z.1,z.2) from hz)
 refine ⟨a1,by omega,c3,?_,b5,c5,c6⟩
 rw [c4,b4,a4]
 rfl
theorem pL_spec {α:Type} {f:Int→Option (α × Int)} {len:Int} (hf:∀ p x q,f p=some (x,q)→0≤p∧p < q∧q≤len):∀ (n:Nat) (p:Int) (l:List α) (q:Int),pL f n p=some (l,q)→0≤p→p≤len→l.length=n∧p+n≤q∧q≤len:=by
 intro n
 induction n with
 | zero =>
  intro p l q h h0 h1
  have h':=Option.some.inj h
  have e1:=congrArg Prod.fst h'
  have e2:=congrArg Prod.snd h'
  dsimp only at e1 e2
  subst e1; subst e2
  exact ⟨rfl,by simp,h1⟩
 | succ n ih =>
  intro p l q h h0 h1
  unfold pL at h
  obtain ⟨x,hx,h⟩:=bind_split h
  obtain ⟨y,hy,h⟩:=bind_split h
  have h':=Option.some.inj h
  have e1:=congrArg Prod.fst h'
  have e2:=congrArg Prod.snd h'
  dsimp only at e1 e2
  subst e1; subst e2
  obtain ⟨a1,a2,a3⟩:=hf p x.1 x.2 hx
  obtain ⟨b1,b2,b3⟩:=ih x.2 y.1 y.2 hy (by omega) a3
  exact ⟨by simp [b1],by omega,b3⟩
theorem pL_all {α:Type} {f:Int→Option (α × Int)} {Q:α→Prop} (hf:∀ p x q,f p=some (x,q)→Q x):∀ (n:Nat) (p:Int) (l:List α) (q:Int),pL f n p=some (l,q)→∀ x∈l,Q x:=by
 intro n
 induction n with
 | zero =>
  intro p l q h x hx
  have e1:=congrArg Prod.fst (Option.some.inj h)
  dsimp only at e1
  subst e1; cases hx
 | succ n ih =>
  intro p l q h x hx
  unfold pL at h
  obtain ⟨u,hu,h⟩:=bind_split h
  obtain ⟨y,hy,h⟩:=bind_split h
  have e1:=congrArg Prod.fst (Option.some.inj h)
  dsimp only at e1
  subst e1
  rcases List.mem_cons.1 hx with hx | hx
  ·subst hx; exact hf p u.1 u.2 hu
  ·exact ih u.2 y.1 y.2 hy x hx
def pM (b:List Int):Option (impl_Mach × Int) :=
 (pN b 0).bind fun n=>(pL (pV b) n.1.toNat n.2).bind fun vs=>(pN b vs.2).bind fun k=>(pL (pC b) k.1.toNat k.2).bind fun cs=>(pN b cs.2).bind fun r=>(pN b r.2).bind fun e =>
 (pL (pN b) 3 e.2).bind fun ds=>(pT b ds.2).bind fun o=>some (⟨⟨vs.1,cs.1,r.1,e.1⟩,ds.1,o.1⟩,o.2)
variable {b:List Int}
def PosI (b:List Int) (p:Int):Prop:=0≤p∧p≤(b.length:Int)
theorem PosI.range {b:List Int} {p:Int} (h:PosI b p) (hb:b.length≤1048576):-9223372036854775808≤p∧p≤9223372036854775807:=by
 have h1:=h.1
 have h2:=h.2
 omega
theorem sN_some (hb:b.length≤1048576) (hw:Bytes b) {p v q:Int} (hp:PosI b p) (h:pN b p=some (v,q)):s_l17Num ⟨b,p,true⟩=some (v,⟨b,q,true⟩,()):=by
 unfold pN at h
 cases e:(getNumOf b p).2.2 with
 | false=>rw [e] at h; cases h
 | true =>
  rw [e,if_pos rfl] at h
  have h':=Option.some.inj h
  have g1:(getNumOf b p).1=v:=congrArg Prod.fst h'
  have g2:(getNumOf b p).2.1=q:=congrArg Prod.snd h'
  rw [s_l17Num_eq,s_GetNum_ok b hb hw p (hp.range hb),Option.bind_some]
  unfold tr3
  dsimp only
  rw [e,g1,g2]; rfl
theorem sN_none (hb:b.length≤1048576) (hw:Bytes b) {p:Int} (hp:PosI b p) (h:pN b p=none):s_l17Num ⟨b,p,true⟩=some (0,⟨b,p,false⟩,()):=by
 unfold pN at h
 cases e:(getNumOf b p).2.2 with
 | true=>rw [e,if_pos rfl] at h; cases h
 | false =>
  rw [s_l17Num_eq,s_GetNum_ok b hb hw p (hp.range hb),Option.bind_some]
  unfold tr3
  dsimp only
  rw [e]; rfl
theorem sN_bad (hb:b.length≤1048576) (hw:Bytes b) {p:Int} (hp:PosI b p):s_l17Num ⟨b,p,false⟩=some (0,⟨b,p,false⟩,()):=by
 rw [s_l17Num_eq,s_GetNum_ok b hb hw p (hp.range hb),Option.bind_some]
 unfold tr3
 dsimp only
 cases (getNumOf b p).2.2 <;> rfl
theorem sT_some (hb:b.length≤1048576) (hw:Bytes b) {p q:Int} {v:List Int} (hp:PosI b p) (h:pT b p=some (v,q)):s_l17Text ⟨b,p,true⟩=some (v,⟨b,q,true⟩,()):=by
 unfold pT at h
 cases e:(getTextOf b p).2.2 with
 | false=>rw [e] at h; cases h
 | true =>
  rw [e,if_pos rfl] at h
  have h':=Option.some.inj h
  have g1:(getTextOf b p).1=v:=congrArg Prod.fst h'
  have g2:(getTextOf b p).2.1=q:=congrArg Prod.snd h'
  rw [s_l17Text_eq,s_GetText_ok b hb hw p (hp.range hb),Option.bind_some]
  unfold trT
  dsimp only
  rw [e,g1,g2]; rfl
theorem sT_none (hb:b.length≤1048576) (hw:Bytes b) {p:Int} (hp:PosI b p) (h:pT b p=none):s_l17Text ⟨b,p,true⟩=some ([],⟨b,p,false⟩,()):=by
 unfold pT at h
 cases e:(getTextOf b p).2.2 with
 | true=>rw [e,if_pos rfl] at h; cases h
 | false =>
  rw [s_l17Text_eq,s_GetText_ok b hb hw p (hp.range hb),Option.bind_some]
  unfold trT
  dsimp only
  rw [e]; rfl
theorem sT_bad (hb:b.length≤1048576) (hw:Bytes b) {p:Int} (hp:PosI b p):s_l17Text ⟨b,p,false⟩=some ([],⟨b,p,false⟩,()):=by
 rw [s_l17Text_eq,s_GetText_ok b hb hw p (hp.range hb),Option.bind_some]
 unfold trT
 dsimp only
 cases (getTextOf b p).2.2 <;> rfl
theorem sZ_some (hb:b.length≤1048576) (hw:Bytes b) {p v q:Int} (hp:PosI b p) (h:pZ b p=some (v,q)):s_l17Int ⟨b,p,true⟩=some (v,⟨b,q,true⟩,()):=by
 unfold pZ at h
 cases e:(getIntOf b p).2.2 with
 | false=>rw [e] at h; cases h
 | true =>
  rw [e,if_pos rfl] at h
  have h':=Option.some.inj h
  have g1:(getIntOf b p).1=v:=congrArg Prod.fst h'
  have g2:(getIntOf b p).2.1=q:=congrArg Prod.snd h'
  rw [s_l17Int_eq,s_GetInt_ok b hb hw p (hp.range hb),Option.bind_some]
  unfold tr3
  dsimp only
  rw [e,g1,g2]; rfl
theorem sZ_none (hb:b.length≤1048576) (hw:Bytes b) {p:Int} (hp:PosI b p) (h:pZ b p=none):s_l17Int ⟨b,p,true⟩=some (0,⟨b,p,false⟩,()):=by
 unfold pZ at h
 cases e:(getIntOf b p).2.2 with
 | true=>rw [e,if_pos rfl] at h; cases h
 | false =>
  rw [s_l17Int_eq,s_GetInt_ok b hb hw p (hp.range hb),Option.bind_some]
  unfold tr3
  dsimp only
  rw [e]; rfl
theorem sZ_bad (hb:b.length≤1048576) (hw:Bytes b) {p:Int} (hp:PosI b p):s_l17Int ⟨b,p,false⟩=some (0,⟨b,p,false⟩,()):=by
 rw [s_l17Int_eq,s_GetInt_ok b hb hw p (hp.range hb),Option.bind_some]
 unfold tr3
 dsimp only
 cases (getIntOf b p).2.2 <;> rfl
theorem iN_some (hb:b.length≤1048576) (hw:Bytes b) {p v q m:Int} (h:pN b p=some (v,q)):i_source_num ⟨b,p,false⟩ m=if v > m then some (0,⟨b,p,true⟩,()) else some (v,⟨b,q,false⟩,()):=by
 unfold pN at h
 cases e:(getNumOf b p).2.2 with
 | false=>rw [e] at h; cases h
 | true =>
  rw [e,if_pos rfl] at h
  have h':=Option.some.inj h
  have g1:(getNumOf b p).1=v:=congrArg Prod.fst h'
  have g2:(getNumOf b p).2.1=q:=congrArg Prod.snd h'
  rw [i_source_num_eq,i_GetNum_ok b hb hw p,Option.bind_some]
  unfold tr3
  dsimp only
  rw [e,g1,g2,if_neg (by simp),if_neg (by simp)]
  by_cases c:v > m
  ·rw [if_pos (decide_eq_true c),if_pos c]
  ·rw [if_neg (by rw [decide_eq_true_eq]; exact c),if_neg c]
theorem iN_none (hb:b.length≤1048576) (hw:Bytes b) {p m:Int} (h:pN b p=none):i_source_num ⟨b,p,false⟩ m=some (0,⟨b,p,true⟩,()):=by
 unfold pN at h
 cases e:(getNumOf b p).2.2 with
 | true=>rw [e,if_pos rfl] at h; cases h
 | false =>
  rw [i_source_num_eq,i_GetNum_ok b hb hw p,Option.bind_some]
  unfold tr3
  dsimp only
  rw [e]; rfl
theorem iN_bad (hb:b.length≤1048576) (hw:Bytes b) {p m:Int}:i_source_num ⟨b,p,true⟩ m=some (0,⟨b,p,true⟩,()):=by
 rw [i_source_num_eq,i_GetNum_ok b hb hw p,Option.bind_some]; rfl
theorem iT_some (hb:b.length≤1048576) (hw:Bytes b) {p q:Int} {v:List Int} (h:pT b p=some (v,q)):i_source_text ⟨b,p,false⟩=some (v,⟨b,q,false⟩,()):=by
 unfold pT at h
 cases e:(getTextOf b p).2.2 with
 | false=>rw [e] at h; cases h
 | true =>
  rw [e,if_pos rfl] at h
  have h':=Option.some.inj h
  have g1:(getTextOf b p).1=v:=congrArg Prod.fst h'
  have g2:(getTextOf b p).2.1=q:=congrArg Prod.snd h'
  rw [i_source_text_eq,i_GetText_ok b hb hw p,Option.bind_some]
  unfold trT
  dsimp only
  rw [e,g1,g2]; rfl
theorem iT_none (hb:b.length≤1048576) (hw:Bytes b) {p:Int} (h:pT b p=none):i_source_text ⟨b,p,false⟩=some ([],⟨b,p,true⟩,()):=by
 unfold pT at h
 cases e:(getTextOf b p).2.2 with
 | true=>rw [e,if_pos rfl] at h; cases h
 | false =>
  rw [i_source_text_eq,i_GetText_ok b hb hw p,Option.bind_some]
  unfold trT
  dsimp only
  rw [e]; rfl
theorem iT_bad (hb:b.length≤1048576) (hw:Bytes b) {p:Int}:i_source_text ⟨b,p,true⟩=some ([],⟨b,p,true⟩,()):=by
 rw [i_source_text_eq,i_GetText_ok b hb hw p,Option.bind_some]; rfl
theorem iV_some (hb:b.length≤1048576) (hw:Bytes b) {p q:Int} {v:impl_Val} (h:pV b p=some (v,q)):i_source_val ⟨b,p,false⟩=some (v,⟨b,q,false⟩,()):=by
 unfold pV at h
 obtain ⟨x,hx,h⟩:=bind_split h
 obtain ⟨y,hy,h⟩:=bind_split h
 obtain ⟨z,hz,h⟩:=bind_split h
 have hx':=pN_spec hw (show pN b p=some (x.1,x.2) from hx)
 have h':=Option.some.inj h
 rw [i_source_val_eq,iN_some hb hw (show pN b p=some (x.1,x.2) from hx),if_neg (by omega),Option.bind_some]
 dsimp only
 have ey:(getIntOf b x.2).2.2=true∧((getIntOf b x.2).1,(getIntOf b x.2).2.1)=y:=by
  unfold pZ at hy
  cases e:(getIntOf b x.2).2.2 with
  | false=>rw [e] at hy; cases hy
  | true=>rw [e,if_pos rfl] at hy; exact ⟨rfl,Option.some.inj hy⟩
 rw [i_GetInt_ok b hb hw,Option.bind_some]
 unfold tr3
 dsimp only
 rw [ey.1,if_neg (by simp),if_neg (by simp),(show (getIntOf b x.2).1=y.1 from congrArg Prod.fst ey.2),(show (getIntOf b x.2).2.1=y.2 from congrArg Prod.snd ey.2),iT_some hb hw (show pT b y.2=some (z.1,z.2) from hz),Option.bind_some]
 dsimp only
 have e1:=congrArg Prod.fst h'
 have e2:=congrArg Prod.snd h'
 dsimp only at e1 e2
 rw [← e1,← e2]
theorem iV_none (hb:b.length≤1048576) (hw:Bytes b) {p:Int} (h:pV b p=none):∃ v a,i_source_val ⟨b,p,false⟩=some (v,⟨b,a,true⟩,()):=by
 rw [i_source_val_eq]
 cases hx:pN b p with
 | none =>
  rw [iN_none hb hw hx,Option.bind_some]
  dsimp only
  rw [i_GetInt_ok b hb hw,Option.bind_some]
  exact ⟨_,_,rfl⟩
 | some x =>
  have hx':=pN_spec hw (show pN b p=some (x.1,x.2) from hx)
  rw [iN_some hb hw (show pN b p=some (x.1,x.2) from hx),if_neg (by omega),Option.bind_some]
  dsimp only
  rw [i_GetInt_ok b hb hw,Option.bind_some]
  unfold tr3
  dsimp only
  cases e:(getIntOf b x.2).2.2 with
  | false=>exact ⟨_,_,rfl⟩
  | true =>
   rw [if_neg (by simp),if_neg (by simp)]
   cases hz:pT b (getIntOf b x.2).2.1 with
   | none=>rw [iT_none hb hw hz,Option.bind_some]; exact ⟨_,_,rfl⟩
   | some z =>
    exfalso
    unfold pV at h
    rw [hx,Option.bind_some] at h
    have hy:pZ b x.2=some ((getIntOf b x.2).1,(getIntOf b x.2).2.1):=by unfold pZ; rw [e,if_pos rfl]
    rw [hy,Option.bind_some,hz,Option.bind_some] at h
    cases h
theorem iV_bad (hb:b.length≤1048576) (hw:Bytes b) {p:Int}:∃ v a,i_source_val ⟨b,p,true⟩=some (v,⟨b,a,true⟩,()):=by
 rw [i_source_val_eq,iN_bad hb hw,Option.bind_some]
 dsimp only
 rw [i_GetInt_ok b hb hw,Option.bind_some]
 exact ⟨_,_,rfl⟩
theorem sV_some (hb:b.length≤1048576) (hw:Bytes b) {p q:Int} {v:impl_Val} (hp:PosI b p) (h:pV b p=some (v,q)):s_l17Read ⟨b,p,true⟩=some (v,⟨b,q,true⟩,()):=by
 unfold pV at h
 obtain ⟨x,hx,h⟩:=bind_split h
 obtain ⟨y,hy,h⟩:=bind_split h
 obtain ⟨z,hz,h⟩:=bind_split h
 have a:=pN_spec hw (show pN b p=some (x.1,x.2) from hx)
 have c:=pZ_spec hw (show pZ b x.2=some (y.1,y.2) from hy)
 have h':=Option.some.inj h
 have e1:=congrArg Prod.fst h'
 have e2:=congrArg Prod.snd h'
 dsimp only at e1 e2
 rw [s_l17Read_eq,sN_some hb hw hp (show pN b p=some (x.1,x.2) from hx),Option.bind_some]
 dsimp only
 rw [sZ_some hb hw ⟨by omega,a.2.2.1⟩ (show pZ b x.2=some (y.1,y.2) from hy),Option.bind_some]
 dsimp only
 rw [sT_some hb hw ⟨by omega,c.2.2.1⟩ (show pT b y.2=some (z.1,z.2) from hz),Option.bind_some,← e1,← e2]
theorem sV_bad (hb:b.length≤1048576) (hw:Bytes b) {p:Int} (hp:PosI b p):s_l17Read ⟨b,p,false⟩=some (⟨0,0,[]⟩,⟨b,p,false⟩,()):=by
 rw [s_l17Read_eq,sN_bad hb hw hp,Option.bind_some]
 dsimp only
 rw [sZ_bad hb hw hp,Option.bind_some]
 dsimp only
 rw [sT_bad hb hw hp]; rfl
theorem sV_none (hb:b.length≤1048576) (hw:Bytes b) {p:Int} (hp:PosI b p) (h:pV b p=none):∃ v a,s_l17Read ⟨b,p,true⟩=some (v,⟨b,a,false⟩,())∧PosI b a:=by
 rw [s_l17Read_eq]
 cases hx:pN b p with
 | none =>
  rw [sN_none hb hw hp hx,Option.bind_some]
  dsimp only
  rw [sZ_bad hb hw hp,Option.bind_some]
  dsimp only
  rw [sT_bad hb hw hp]; exact ⟨_,_,rfl,hp⟩
 | some x =>
  have a:=pN_spec hw (show pN b p=some (x.1,x.2) from hx)
  have px:PosI b x.2:=⟨by omega,a.2.2.1⟩
  rw [sN_some hb hw hp (show pN b p=some (x.1,x.2) from hx),Option.bind_some]
  dsimp only
  cases hy:pZ b x.2 with
  | none =>
   rw [sZ_none hb hw px hy,Option.bind_some]
   dsimp only
   rw [sT_bad hb hw px]; exact ⟨_,_,rfl,px⟩
  | some y =>
   have c:=pZ_spec hw (show pZ b x.2=some (y.1,y.2) from hy)
   have py:PosI b y.2:=⟨by omega,c.2.2.1⟩
   rw [sZ_some hb hw px (show pZ b x.2=some (y.1,y.2) from hy),Option.bind_some]
   dsimp only
   cases hz:pT b y.2 with
   | none=>rw [sT_none hb hw py hz]; exact ⟨_,_,rfl,py⟩
   | some z =>
    exfalso
    unfold pV at h
    rw [hx,Option.bind_some,hy,Option.bind_some,hz,Option.bind_some] at h
    cases h
variable {b:List Int}
def sAt (b:List Int) (p:Int) (ok:Bool):spec_l17Cur:=⟨b,p,ok⟩
def iAt (b:List Int) (p:Int) (bad:Bool):impl_source:=⟨b,p,bad⟩
noncomputable def contS1 (c:spec_l17Cur) (z m:impl_Mach):Option (impl_Mach × spec_l17Cur × Unit):=(s_l17Num c).bind fun r=>s_l17Of_L2 r.1 0 r.2.1 z m
noncomputable def contS2 (c:spec_l17Cur) (z m:impl_Mach):Option (impl_Mach × spec_l17Cur × Unit) :=
 (s_l17Num c).bind fun r3=>(s_l17Num r3.2.1).bind fun r4=>s_l17Of_L3 0 r4.2.1 z (impl_Mach.mk (impl_State.mk m.State.Vars m.State.Cells r3.1 r4.1) m.Done m.Out)
noncomputable def contS3 (c:spec_l17Cur) (m:impl_Mach):Option (impl_Mach × spec_l17Cur × Unit):=(s_l17Text c).bind fun r1=>some ((impl_Mach.mk m.State m.Done r1.1),r1.2.1,())
def addVars (m:impl_Mach) (l:List impl_Val):impl_Mach:=⟨⟨m.State.Vars ++ l,m.State.Cells,m.State.Nr,m.State.Err⟩,m.Done,m.Out⟩
def addCells (m:impl_Mach) (l:List impl_Cell):impl_Mach:=⟨⟨m.State.Vars,m.State.Cells ++ l,m.State.Nr,m.State.Err⟩,m.Done,m.Out⟩
def addDone (m:impl_Mach) (l:List Int):impl_Mach:=⟨m.State,m.Done ++ l,m.Out⟩
theorem addVars_nil (m:impl_Mach):addVars m []=m:=by unfold addVars; rw [List.append_nil]
theorem addCells_nil (m:impl_Mach):addCells m []=m:=by unfold addCells; rw [List.append_nil]
theorem addDone_nil (m:impl_Mach):addDone m []=m:=by unfold addDone; rw [List.append_nil]
theorem addVars_cons (m:impl_Mach) (v:impl_Val) (l:List impl_Val):addVars (addVars m [v]) l=addVars m (v :: l):=by unfold addVars; simp
theorem addCells_cons (m:impl_Mach) (v:impl_Cell) (l:List impl_Cell):addCells (addCells m [v]) l=addCells m (v :: l):=by unfold addCells; simp
theorem addDone_cons (m:impl_Mach) (v:Int) (l:List Int):addDone (addDone m [v]) l=addDone m (v :: l):=by unfold addDone; simp
theorem s_L1_stop (n i:Int) (h:¬ i < n) (c:spec_l17Cur) (z m:impl_Mach):s_l17Of_L1 n i c z m=contS1 c z m:=by
 rw [s_l17Of_L1_eq,if_neg (by rw [decide_eq_true_eq]; exact h)]; rfl
theorem s_L1_bad (n i:Int) (p:Int) (z m:impl_Mach):s_l17Of_L1 n i (sAt b p false) z m=contS1 (sAt b p false) z m:=by
 by_cases h:i < n
 ·rw [s_l17Of_L1_eq,if_pos (decide_eq_true h),if_neg (by unfold sAt; simp)]; rfl
 ·exact s_L1_stop n i h _ z m
theorem s_L1_some (hb:b.length≤1048576) (hw:Bytes b) (z:impl_Mach) (n:Int) (hn:n≤4611686018427387903):∀ (j i:Nat) (p:Int) (m:impl_Mach) (l:List impl_Val) (q:Int),pL (pV b) j p=some (l,q)→PosI b p→(i:Int)+j=n→(m.State.Vars.length:Int)≤p →
  s_l17Of_L1 n i (sAt b p true) z m=contS1 (sAt b q true) z (addVars m l):=by
 intro j
 induction j with
 | zero =>
  intro i p m l q h hp hi hm
  have h':=Option.some.inj h
  have e1:[]=l:=congrArg Prod.fst h'
  have e2:p=q:=congrArg Prod.snd h'
  rw [s_L1_stop _ _ (by omega),← e1,← e2,addVars_nil]
 | succ j ih =>
  intro i p m l q h hp hi hm
  unfold pL at h
  obtain ⟨x,hx,h⟩:=bind_split h
  obtain ⟨y,hy,h⟩:=bind_split h
  have h':=Option.some.inj h
  have e1:x.1 :: y.1=l:=congrArg Prod.fst h'
  have e2:y.2=q:=congrArg Prod.snd h'
  have a:=pV_spec hw (show pV b p=some (x.1,x.2) from hx)
  have w1:w64 ((i:Int)+1)=((i+1:Nat):Int):=by rw [w64_id (by omega) (by omega)]; omega
  have h2:=hp.2
  rw [s_l17Of_L1_eq,if_pos (decide_eq_true (by omega)),if_pos (by unfold sAt; rfl)]
  unfold sAt
  rw [sV_some hb hw hp (show pV b p=some (x.1,x.2) from hx),Option.bind_some,if_pos (by rw [room_eq]; omega),w1]
  have:=ih (i+1) x.2 (addVars m [x.1]) y.1 y.2 hy ⟨by omega,a.2.2.1⟩ (by omega) (by unfold addVars; dsimp only; rw [List.length_append]; simp only [List.length_cons,List.length_nil]; omega)
  rw [addVars_cons,e1,e2] at this
  exact this
theorem s_L1_none (hb:b.length≤1048576) (hw:Bytes b) (z:impl_Mach) (n:Int) (hn:n≤4611686018427387903):∀ (j i:Nat) (p:Int) (m:impl_Mach),pL (pV b) j p=none→PosI b p→(i:Int)+j=n→(m.State.Vars.length:Int)≤p →
  ∃ a m',s_l17Of_L1 n i (sAt b p true) z m=contS1 (sAt b a false) z m'∧PosI b a∧m'.Done=m.Done:=by
 intro j
 induction j with
 | zero=>intro i p m h; cases h
 | succ j ih =>
  intro i p m h hp hi hm
  have w1:w64 ((i:Int)+1)=((i+1:Nat):Int):=by rw [w64_id (by omega) (by omega)]; omega
  have h2:=hp.2
  rw [s_l17Of_L1_eq,if_pos (decide_eq_true (by omega)),if_pos (by unfold sAt; rfl)]
  unfold sAt
  cases hx:pV b p with
  | none =>
   obtain ⟨v,a,e,ha⟩:=sV_none hb hw hp hx
   rw [e,Option.bind_some,if_pos (by rw [room_eq]; omega)]
   exact ⟨a,_,s_L1_bad n _ a z _,ha,rfl⟩
  | some x =>
   have a:=pV_spec hw (show pV b p=some (x.1,x.2) from hx)
   rw [sV_some hb hw hp (show pV b p=some (x.1,x.2) from hx),Option.bind_some,if_pos (by rw [room_eq]; omega),w1]
   refine ih (i+1) x.2 (addVars m [x.1]) ?_ ⟨by omega,a.2.2.1⟩ (by omega) (by unfold addVars; dsimp only; rw [List.length_append]; simp only [List.length_cons,List.length_nil]; omega)
   unfold pL at h
   rw [hx,Option.bind_some] at h
   cases hy:pL (pV b) j x.2 with
   | none=>rfl
   | some y=>rw [hy,Option.bind_some] at h; cases h
theorem s_L2_stop (n i:Int) (h:¬ i < n) (c:spec_l17Cur) (z m:impl_Mach):s_l17Of_L2 n i c z m=contS2 c z m:=by
 rw [s_l17Of_L2_eq,if_neg (by rw [decide_eq_true_eq]; exact h)]; rfl
theorem s_L2_bad (n i:Int) (p:Int) (z m:impl_Mach):s_l17Of_L2 n i (sAt b p false) z m=contS2 (sAt b p false) z m:=by
 by_cases h:i < n
 ·rw [s_l17Of_L2_eq,if_pos (decide_eq_true h),if_neg (by unfold sAt; simp)]; rfl
 ·exact s_L2_stop n i h _ z m
theorem pC_parts {p q:Int} {c:impl_Cell} (h:pC b p=some (c,q)):∃ x y z,pN b p=some x∧pT b x.2=some y∧pV b y.2=some z∧c=⟨x.1,y.1,z.1⟩∧q=z.2:=by
 unfold pC at h
 obtain ⟨x,hx,h⟩:=bind_split h
 obtain ⟨y,hy,h⟩:=bind_split h
 obtain ⟨z,hz,h⟩:=bind_split h
 have h':=Option.some.inj h
 exact ⟨x,y,z,hx,hy,hz,(congrArg Prod.fst h').symm,(congrArg Prod.snd h').symm⟩
theorem s_L2_some (hb:b.length≤1048576) (hw:Bytes b) (z:impl_Mach) (n:Int) (hn:n≤4611686018427387903):∀ (j i:Nat) (p:Int) (m:impl_Mach) (l:List impl_Cell) (q:Int),pL (pC b) j p=some (l,q)→PosI b p→(i:Int)+j=n→(m.State.Cells.length:Int)≤p →
  s_l17Of_L2 n i (sAt b p true) z m=contS2 (sAt b q true) z (addCells m l):=by
 intro j
 induction j with
 | zero =>
  intro i p m l q h hp hi hm
  have h':=Option.some.inj h
  have e1:[]=l:=congrArg Prod.fst h'
  have e2:p=q:=congrArg Prod.snd h'
  rw [s_L2_stop _ _ (by omega),← e1,← e2,addCells_nil]
 | succ j ih =>
  intro i p m l q h hp hi hm
  unfold pL at h
  obtain ⟨x,hx,h⟩:=bind_split h
  obtain ⟨y,hy,h⟩:=bind_split h
  have h':=Option.some.inj h
  have e1:x.1 :: y.1=l:=congrArg Prod.fst h'
  have e2:y.2=q:=congrArg Prod.snd h'
  have a:=pC_spec hw (show pC b p=some (x.1,x.2) from hx)
  obtain ⟨u,v,w,hu,hv,hz,g1,g2⟩:=pC_parts (show pC b p=some (x.1,x.2) from hx)
  have a1:=pN_spec hw (show pN b p=some (u.1,u.2) from hu)
  have a2:=pT_spec hw (show pT b u.2=some (v.1,v.2) from hv)
  have w1:w64 ((i:Int)+1)=((i+1:Nat):Int):=by rw [w64_id (by omega) (by omega)]; omega
  have h2:=hp.2
  rw [s_l17Of_L2_eq,if_pos (decide_eq_true (by omega)),if_pos (by unfold sAt; rfl)]
  unfold sAt
  rw [sN_some hb hw hp (show pN b p=some (u.1,u.2) from hu),Option.bind_some]
  dsimp only
  rw [sT_some hb hw ⟨by omega,a1.2.2.1⟩ (show pT b u.2=some (v.1,v.2) from hv),Option.bind_some]
  dsimp only
  rw [sV_some hb hw ⟨by omega,a2.2.2.1⟩ (show pV b v.2=some (w.1,w.2) from hz),Option.bind_some,if_pos (by rw [room_eq]; omega),w1,← g1,← g2]
  have:=ih (i+1) x.2 (addCells m [x.1]) y.1 y.2 hy ⟨by omega,a.2.2.1⟩ (by omega) (by unfold addCells; dsimp only; rw [List.length_append]; simp only [List.length_cons,List.length_nil]; omega)
  rw [addCells_cons,e1,e2] at this
  exact this
theorem s_L2_none (hb:b.length≤1048576) (hw:Bytes b) (z:impl_Mach) (n:Int) (hn:n≤4611686018427387903):∀ (j i:Nat) (p:Int) (m:impl_Mach),pL (pC b) j p=none→PosI b p→(i:Int)+j=n→(m.State.Cells.length:Int)≤p →
  ∃ a m',s_l17Of_L2 n i (sAt b p true) z m=contS2 (sAt b a false) z m'∧PosI b a∧m'.Done=m.Done:=by
 intro j
 induction j with
 | zero=>intro i p m h; cases h
 | succ j ih =>
  intro i p m h hp hi hm
  have w1:w64 ((i:Int)+1)=((i+1:Nat):Int):=by rw [w64_id (by omega) (by omega)]; omega
  have h2:=hp.2
  have hr:m.State.Cells.length+1≤room:=by rw [room_eq]; omega
  rw [s_l17Of_L2_eq,if_pos (decide_eq_true (by omega)),if_pos (by unfold sAt; rfl)]
  unfold sAt
  simp only [if_pos hr]
  cases hu:pN b p with
  | none =>
   rw [sN_none hb hw hp hu,Option.bind_some]
   dsimp only
   rw [sT_bad hb hw hp,Option.bind_some]
   dsimp only
   rw [sV_bad hb hw hp,Option.bind_some]
   exact ⟨p,_,s_L2_bad n _ p z _,hp,rfl⟩
  | some u =>
   have a1:=pN_spec hw (show pN b p=some (u.1,u.2) from hu)
   have pu:PosI b u.2:=⟨by omega,a1.2.2.1⟩
   rw [sN_some hb hw hp (show pN b p=some (u.1,u.2) from hu),Option.bind_some]
   dsimp only
   cases hv:pT b u.2 with
   | none =>
    rw [sT_none hb hw pu hv,Option.bind_some]
    dsimp only
    rw [sV_bad hb hw pu,Option.bind_some]
    exact ⟨u.2,_,s_L2_bad n _ u.2 z _,pu,rfl⟩
   | some v =>
    have a2:=pT_spec hw (show pT b u.2=some (v.1,v.2) from hv)
    have pv:PosI b v.2:=⟨by omega,a2.2.2.1⟩
    rw [sT_some hb hw pu (show pT b u.2=some (v.1,v.2) from hv),Option.bind_some]
    dsimp only
    cases hz:pV b v.2 with
    | none =>
     obtain ⟨v',a,e,ha⟩:=sV_none hb hw pv hz
     rw [e,Option.bind_some]
     exact ⟨a,_,s_L2_bad n _ a z _,ha,rfl⟩
    | some w =>
     have a3:=pV_spec hw (show pV b v.2=some (w.1,w.2) from hz)
     rw [sV_some hb hw pv (show pV b v.2=some (w.1,w.2) from hz),Option.bind_some,w1]
     refine ih (i+1) w.2 (addCells m [⟨u.1,v.1,w.1⟩]) ?_ ⟨by omega,a3.2.2.1⟩ (by omega) (by unfold addCells; dsimp only; rw [List.length_append]; simp only [List.length_cons,List.length_nil]; omega)
     have hx:pC b p=some (⟨u.1,v.1,w.1⟩,w.2):=by unfold pC; rw [hu,Option.bind_some,hv,Option.bind_some,hz,Option.bind_some]
     unfold pL at h
     rw [hx,Option.bind_some] at h
     cases hy:pL (pC b) j w.2 with
     | none=>rfl
     | some y=>rw [hy,Option.bind_some] at h; cases h
theorem s_L3_some (hb:b.length≤1048576) (hw:Bytes b) (z:impl_Mach):∀ (j i:Nat) (p:Int) (m:impl_Mach) (l:List Int) (q:Int),pL (pN b) j p=some (l,q)→PosI b p→i+j=3→m.Done.length≤i →
  s_l17Of_L3 (i:Int) (sAt b p true) z m=contS3 (sAt b q true) (addDone m l):=by
 intro j
 induction j with
 | zero =>
  intro i p m l q h hp hi hm
  have h':=Option.some.inj h
  have e1:[]=l:=congrArg Prod.fst h'
  have e2:p=q:=congrArg Prod.snd h'
  rw [s_l17Of_L3_eq,if_neg (by rw [decide_eq_true_eq]; omega),← e1,← e2,addDone_nil]; rfl
 | succ j ih =>
  intro i p m l q h hp hi hm
  unfold pL at h
  obtain ⟨x,hx,h⟩:=bind_split h
  obtain ⟨y,hy,h⟩:=bind_split h
  have h':=Option.some.inj h
  have e1:x.1 :: y.1=l:=congrArg Prod.fst h'
  have e2:y.2=q:=congrArg Prod.snd h'
  have a:=pN_spec hw (show pN b p=some (x.1,x.2) from hx)
  have w1:w64 ((i:Int)+1)=((i+1:Nat):Int):=by rw [w64_id (by omega) (by omega)]; omega
  rw [s_l17Of_L3_eq,if_pos (decide_eq_true (by omega))]
  unfold sAt
  rw [sN_some hb hw hp (show pN b p=some (x.1,x.2) from hx),Option.bind_some,if_pos (by rw [room_eq]; omega),w1]
  have:=ih (i+1) x.2 (addDone m [x.1]) y.1 y.2 hy ⟨by omega,a.2.2.1⟩ (by omega) (by unfold addDone; dsimp only; rw [List.length_append]; simp only [List.length_cons,List.length_nil]; omega)
  rw [addDone_cons,e1,e2] at this
  exact this
theorem s_L3_bad (hb:b.length≤1048576) (hw:Bytes b) (z:impl_Mach):∀ (j i:Nat) (p:Int) (m:impl_Mach),PosI b p→i+j=3→m.Done.length≤i→∃ m',s_l17Of_L3 (i:Int) (sAt b p false) z m=contS3 (sAt b p false) m':=by
 intro j
 induction j with
 | zero =>
  intro i p m hp hi hm
  rw [s_l17Of_L3_eq,if_neg (by rw [decide_eq_true_eq]; omega)]; exact ⟨m,rfl⟩
 | succ j ih =>
  intro i p m hp hi hm
  have w1:w64 ((i:Int)+1)=((i+1:Nat):Int):=by rw [w64_id (by omega) (by omega)]; omega
  rw [s_l17Of_L3_eq,if_pos (decide_eq_true (by omega))]
  unfold sAt
  rw [sN_bad hb hw hp,Option.bind_some,if_pos (by rw [room_eq]; omega),w1]
  exact ih (i+1) p (addDone m [0]) hp (by omega) (by unfold addDone; dsimp only; rw [List.length_append]; simp only [List.length_cons,List.length_nil]; omega)
theorem s_L3_none (hb:b.length≤1048576) (hw:Bytes b) (z:impl_Mach):∀ (j i:Nat) (p:Int) (m:impl_Mach),pL (pN b) j p=none→PosI b p→i+j=3→m.Done.length≤i→∃ a m',s_l17Of_L3 (i:Int) (sAt b p true) z m=contS3 (sAt b a false) m'∧PosI b a:=by
 intro j
 induction j with
 | zero=>intro i p m h; cases h
 | succ j ih =>
  intro i p m h hp hi hm
  have w1:w64 ((i:Int)+1)=((i+1:Nat):Int):=by rw [w64_id (by omega) (by omega)]; omega
  rw [s_l17Of_L3_eq,if_pos (decide_eq_true (by omega))]
  unfold sAt
  have hlen:∀ v:Int,(addDone m [v]).Done.length≤i+1:=fun v=>by unfold addDone; dsimp only; rw [List.length_append]; simp only [List.length_cons,List.length_nil]; omega
  cases hx:pN b p with
  | none =>
   rw [sN_none hb hw hp hx,Option.bind_some,if_pos (by rw [room_eq]; omega),w1]
   obtain ⟨m',e⟩:=s_L3_bad hb hw z j (i+1) p (addDone m [0]) hp (by omega) (hlen 0)
   exact ⟨p,m',e,hp⟩
  | some x =>
   have a:=pN_spec hw (show pN b p=some (x.1,x.2) from hx)
   rw [sN_some hb hw hp (show pN b p=some (x.1,x.2) from hx),Option.bind_some,if_pos (by rw [room_eq]; omega),w1]
   refine ih (i+1) x.2 (addDone m [x.1]) ?_ ⟨by omega,a.2.2.1⟩ (by omega) (hlen _)
   unfold pL at h
   rw [hx,Option.bind_some] at h
   cases hy:pL (pN b) j x.2 with
   | none=>rfl
   | some y=>rw [hy,Option.bind_some] at h; cases h
def SBad (b:List Int) (r:Option (impl_Mach × spec_l17Cur × Unit)):Prop:=∃ m a,r=some (m,sAt b a false,())
theorem contS3_bad (hb:b.length≤1048576) (hw:Bytes b) {p:Int} (hp:PosI b p) (m:impl_Mach):SBad b (contS3 (sAt b p false) m):=by
 unfold contS3 sAt
 rw [sT_bad hb hw hp]; exact ⟨_,_,rfl⟩
theorem contS2_bad (hb:b.length≤1048576) (hw:Bytes b) {p:Int} (hp:PosI b p) (z m:impl_Mach) (hm:m.Done=[]):SBad b (contS2 (sAt b p false) z m):=by
 unfold contS2 sAt
 rw [sN_bad hb hw hp,Option.bind_some]
 dsimp only
 rw [sN_bad hb hw hp,Option.bind_some]
 dsimp only
 obtain ⟨m',e⟩:=s_L3_bad hb hw z 3 0 p ⟨⟨m.State.Vars,m.State.Cells,0,0⟩,m.Done,m.Out⟩ hp (by omega) (by dsimp only; rw [hm]; simp)
 have e':s_l17Of_L3 0 ⟨b,p,false⟩ z ⟨⟨m.State.Vars,m.State.Cells,0,0⟩,m.Done,m.Out⟩=contS3 (sAt b p false) m':=e
 rw [e']; exact contS3_bad hb hw hp m'
theorem contS1_bad (hb:b.length≤1048576) (hw:Bytes b) {p:Int} (hp:PosI b p) (z m:impl_Mach) (hm:m.Done=[]):SBad b (contS1 (sAt b p false) z m):=by
 have e:contS1 (sAt b p false) z m=contS2 (sAt b p false) z m:=by
  unfold contS1
  have e1:s_l17Num (sAt b p false)=some (0,sAt b p false,()):=sN_bad hb hw hp
  rw [e1,Option.bind_some]
  exact s_L2_stop 0 0 (by omega) _ z m
 rw [e]; exact contS2_bad hb hw hp z m hm
theorem sMach_some (hb:b.length≤1048576) (hw:Bytes b) {m:impl_Mach} {q:Int} (h:pM b=some (m,q)):s_l17Of ⟨b,0,true⟩=some (m,⟨b,q,true⟩,()):=by
 unfold pM at h
 obtain ⟨n,hn,h⟩:=bind_split h
 obtain ⟨vs,hvs,h⟩:=bind_split h
 obtain ⟨k,hk,h⟩:=bind_split h
 obtain ⟨cs,hcs,h⟩:=bind_split h
 obtain ⟨r,hr,h⟩:=bind_split h
 obtain ⟨e,he,h⟩:=bind_split h
 obtain ⟨ds,hds,h⟩:=bind_split h
 obtain ⟨o,ho,h⟩:=bind_split h
 have h':=Option.some.inj h
 have e1:(⟨⟨vs.1,cs.1,r.1,e.1⟩,ds.1,o.1⟩:impl_Mach)=m:=congrArg Prod.fst h'
 have e2:o.2=q:=congrArg Prod.snd h'
 have p0:PosI b 0:=⟨by omega,by omega⟩
 have an:=pN_spec hw (show pN b 0=some (n.1,n.2) from hn)
 have pn:PosI b n.2:=⟨by omega,an.2.2.1⟩
 obtain ⟨v1,v2,v3⟩:=pL_spec (len:=(b.length:Int)) (fun p x q h=>⟨(pV_spec hw h).1,(pV_spec hw h).2.1,(pV_spec hw h).2.2.1⟩) _ _ _ _ (show pL (pV b) n.1.toNat n.2=some (vs.1,vs.2) from hvs) pn.1 pn.2
 have pv:PosI b vs.2:=⟨by have:=pn.1; omega,v3⟩
 have ak:=pN_spec hw (show pN b vs.2=some (k.1,k.2) from hk)
 have pk:PosI b k.2:=⟨by omega,ak.2.2.1⟩
 obtain ⟨c1,c2,c3⟩:=pL_spec (len:=(b.length:Int)) (fun p x q h=>⟨(pC_spec hw h).1,(pC_spec hw h).2.1,(pC_spec hw h).2.2.1⟩) _ _ _ _ (show pL (pC b) k.1.toNat k.2=some (cs.1,cs.2) from hcs) pk.1 pk.2
 have pc:PosI b cs.2:=⟨by have:=pk.1; omega,c3⟩
 have ar:=pN_spec hw (show pN b cs.2=some (r.1,r.2) from hr)
 have pr:PosI b r.2:=⟨by omega,ar.2.2.1⟩
 have ae:=pN_spec hw (show pN b r.2=some (e.1,e.2) from he)
 have pe:PosI b e.2:=⟨by omega,ae.2.2.1⟩
 obtain ⟨d1,d2,d3⟩:=pL_spec (len:=(b.length:Int)) (fun p x q h=>⟨(pN_spec hw h).1,(pN_spec hw h).2.1,(pN_spec hw h).2.2.1⟩) _ _ _ _ (show pL (pN b) 3 e.2=some (ds.1,ds.2) from hds) pe.1 pe.2
 have pd:PosI b ds.2:=⟨by have:=pe.1; omega,d3⟩
 rw [s_l17Of_eq,sN_some hb hw p0 (show pN b 0=some (n.1,n.2) from hn),Option.bind_some]
 dsimp only
 have f1:=s_L1_some hb hw z_impl_Mach n.1 an.2.2.2.2.2 n.1.toNat 0 n.2 ⟨z_impl_State,[],[]⟩ vs.1 vs.2 hvs pn (by omega) (by have:=pn.1; exact this)
 have f1':s_l17Of_L1 n.1 0 ⟨b,n.2,true⟩ z_impl_Mach ⟨z_impl_State,[],[]⟩=_:=f1
 rw [f1']
 unfold contS1 sAt
 rw [sN_some hb hw pv (show pN b vs.2=some (k.1,k.2) from hk),Option.bind_some]
 dsimp only
 have f2:=s_L2_some hb hw z_impl_Mach k.1 ak.2.2.2.2.2 k.1.toNat 0 k.2 (addVars ⟨z_impl_State,[],[]⟩ vs.1) cs.1 cs.2 hcs pk (by omega) (by have:=pk.1; exact this)
 have f2':s_l17Of_L2 k.1 0 ⟨b,k.2,true⟩ z_impl_Mach (addVars ⟨z_impl_State,[],[]⟩ vs.1)=_:=f2
 rw [f2']
 unfold contS2 sAt
 rw [sN_some hb hw pc (show pN b cs.2=some (r.1,r.2) from hr),Option.bind_some]
 dsimp only
 rw [sN_some hb hw pr (show pN b r.2=some (e.1,e.2) from he),Option.bind_some]
 dsimp only
 have f3:=s_L3_some hb hw z_impl_Mach 3 0 e.2 ⟨⟨vs.1,cs.1,r.1,e.1⟩,[],[]⟩ ds.1 ds.2 hds pe (by omega) (by simp)
 have f3':s_l17Of_L3 0 ⟨b,e.2,true⟩ z_impl_Mach ⟨⟨vs.1,cs.1,r.1,e.1⟩,[],[]⟩=_:=f3
 refine Eq.trans f3' ?_
 unfold contS3 sAt
 rw [sT_some hb hw pd (show pT b ds.2=some (o.1,o.2) from ho),Option.bind_some,← e1,← e2]
 rfl
theorem sMach_none (hb:b.length≤1048576) (hw:Bytes b) (h:pM b=none):SBad b (s_l17Of ⟨b,0,true⟩):=by
 unfold pM at h
 have p0:PosI b 0:=⟨by omega,by omega⟩
 rw [s_l17Of_eq]
 cases hn:pN b 0 with
 | none =>
  rw [sN_none hb hw p0 hn,Option.bind_some]
  dsimp only
  have e:s_l17Of_L1 0 0 ⟨b,0,false⟩ z_impl_Mach ⟨z_impl_State,[],[]⟩=contS1 (sAt b 0 false) z_impl_Mach ⟨z_impl_State,[],[]⟩:=s_L1_bad 0 0 0 _ _
  rw [e]; exact contS1_bad hb hw p0 _ _ rfl
 | some n =>
  rw [hn,Option.bind_some] at h
  have an:=pN_spec hw (show pN b 0=some (n.1,n.2) from hn)
  have pn:PosI b n.2:=⟨by omega,an.2.2.1⟩
  rw [sN_some hb hw p0 (show pN b 0=some (n.1,n.2) from hn),Option.bind_some]
  dsimp only
  cases hvs:pL (pV b) n.1.toNat n.2 with
  | none =>
   obtain ⟨a,m',e,ha,hd⟩:=s_L1_none hb hw z_impl_Mach n.1 an.2.2.2.2.2 n.1.toNat 0 n.2 ⟨z_impl_State,[],[]⟩ hvs pn (by omega) (by have:=pn.1; exact this)
   have e':s_l17Of_L1 n.1 0 ⟨b,n.2,true⟩ z_impl_Mach ⟨z_impl_State,[],[]⟩=contS1 (sAt b a false) z_impl_Mach m':=e
   rw [e']; exact contS1_bad hb hw ha _ _ hd
  | some vs =>
   rw [hvs,Option.bind_some] at h
   obtain ⟨v1,v2,v3⟩:=pL_spec (len:=(b.length:Int)) (fun p x q h=>⟨(pV_spec hw h).1,(pV_spec hw h).2.1,(pV_spec hw h).2.2.1⟩) _ _ _ _ (show pL (pV b) n.1.toNat n.2=some (vs.1,vs.2) from hvs) pn.1 pn.2
   have pv:PosI b vs.2:=⟨by have:=pn.1; omega,v3⟩
   have f1:=s_L1_some hb hw z_impl_Mach n.1 an.2.2.2.2.2 n.1.toNat 0 n.2 ⟨z_impl_State,[],[]⟩ vs.1 vs.2 hvs pn (by omega) (by have:=pn.1; exact this)
   have f1':s_l17Of_L1 n.1 0 ⟨b,n.2,true⟩ z_impl_Mach ⟨z_impl_State,[],[]⟩=_:=f1
   rw [f1']
   cases hk:pN b vs.2 with
   | none =>
    have e:contS1 (sAt b vs.2 true) z_impl_Mach (addVars ⟨z_impl_State,[],[]⟩ vs.1)=contS2 (sAt b vs.2 false) z_impl_Mach (addVars ⟨z_impl_State,[],[]⟩ vs.1):=by
     unfold contS1
     have e1:s_l17Num (sAt b vs.2 true)=some (0,sAt b vs.2 false,()):=sN_none hb hw pv hk
     rw [e1,Option.bind_some]
     exact s_L2_stop 0 0 (by omega) _ _ _
    rw [e]; exact contS2_bad hb hw pv _ _ rfl
   | some k =>
    rw [hk,Option.bind_some] at h
    have ak:=pN_spec hw (show pN b vs.2=some (k.1,k.2) from hk)
    have pk:PosI b k.2:=⟨by omega,ak.2.2.1⟩
    unfold contS1 sAt
    rw [sN_some hb hw pv (show pN b vs.2=some (k.1,k.2) from hk),Option.bind_some]
    dsimp only
    cases hcs:pL (pC b) k.1.toNat k.2 with
    | none =>
     obtain ⟨a,m',e,ha,hd⟩:=s_L2_none hb hw z_impl_Mach k.1 ak.2.2.2.2.2 k.1.toNat 0 k.2 (addVars ⟨z_impl_State,[],[]⟩ vs.1) hcs pk (by omega) (by have:=pk.1; exact this)
     have e':s_l17Of_L2 k.1 0 ⟨b,k.2,true⟩ z_impl_Mach (addVars ⟨z_impl_State,[],[]⟩ vs.1)=contS2 (sAt b a false) z_impl_Mach m':=e
     rw [e']; exact contS2_bad hb hw ha _ _ hd
    | some cs =>
     rw [hcs,Option.bind_some] at h
     obtain ⟨c1,c2,c3⟩:=pL_spec (len:=(b.length:Int)) (fun p x q h=>⟨(pC_spec hw h).1,(pC_spec hw h).2.1,(pC_spec hw h).2.2.1⟩) _ _ _ _ (show pL (pC b) k.1.toNat k.2=some (cs.1,cs.2) from hcs) pk.1 pk.2
     have pc:PosI b cs.2:=⟨by have:=pk.1; omega,c3⟩
     have f2:=s_L2_some hb hw z_impl_Mach k.1 ak.2.2.2.2.2 k.1.toNat 0 k.2 (addVars ⟨z_impl_State,[],[]⟩ vs.1) cs.1 cs.2 hcs pk (by omega) (by have:=pk.1; exact this)
     have f2':s_l17Of_L2 k.1 0 ⟨b,k.2,true⟩ z_impl_Mach (addVars ⟨z_impl_State,[],[]⟩ vs.1)=_:=f2
     rw [f2']
     have l3:∀ (a:Int) (m:impl_Mach),PosI b a→m.Done=[]→SBad b (s_l17Of_L3 0 ⟨b,a,false⟩ z_impl_Mach m):=fun a m ha hm=>by
      obtain ⟨m',e⟩:=s_L3_bad hb hw z_impl_Mach 3 0 a m ha (by omega) (by rw [hm]; simp)
      have e':s_l17Of_L3 0 ⟨b,a,false⟩ z_impl_Mach m=contS3 (sAt b a false) m':=e
      rw [e']; exact contS3_bad hb hw ha m'
     unfold contS2 sAt
     cases hr:pN b cs.2 with
     | none =>
      rw [sN_none hb hw pc hr,Option.bind_some]
      dsimp only
      rw [sN_bad hb hw pc,Option.bind_some]
      exact l3 _ _ pc rfl
     | some r =>
      rw [hr,Option.bind_some] at h
      have ar:=pN_spec hw (show pN b cs.2=some (r.1,r.2) from hr)
      have pr:PosI b r.2:=⟨by omega,ar.2.2.1⟩
      rw [sN_some hb hw pc (show pN b cs.2=some (r.1,r.2) from hr),Option.bind_some]
      dsimp only
      cases he:pN b r.2 with
      | none =>
       rw [sN_none hb hw pr he,Option.bind_some]
       exact l3 _ _ pr rfl
      | some e =>
       rw [he,Option.bind_some] at h
       have ae:=pN_spec hw (show pN b r.2=some (e.1,e.2) from he)
       have pe:PosI b e.2:=⟨by omega,ae.2.2.1⟩
       rw [sN_some hb hw pr (show pN b r.2=some (e.1,e.2) from he),Option.bind_some]
       dsimp only
       cases hds:pL (pN b) 3 e.2 with
       | none =>
        obtain ⟨a,m',g,ha⟩:=s_L3_none hb hw z_impl_Mach 3 0 e.2 ⟨⟨vs.1,cs.1,r.1,e.1⟩,[],[]⟩ hds pe (by omega) (by simp)
        have g':s_l17Of_L3 0 ⟨b,e.2,true⟩ z_impl_Mach ⟨⟨vs.1,cs.1,r.1,e.1⟩,[],[]⟩=contS3 (sAt b a false) m':=g
        have g2:=contS3_bad hb hw ha m'
        rw [← g'] at g2; exact g2
       | some ds =>
        rw [hds,Option.bind_some] at h
        obtain ⟨d1,d2,d3⟩:=pL_spec (len:=(b.length:Int)) (fun p x q h=>⟨(pN_spec hw h).1,(pN_spec hw h).2.1,(pN_spec hw h).2.2.1⟩) _ _ _ _ (show pL (pN b) 3 e.2=some (ds.1,ds.2) from hds) pe.1 pe.2
        have pd:PosI b ds.2:=⟨by have:=pe.1; omega,d3⟩
        have f3:=s_L3_some hb hw z_impl_Mach 3 0 e.2 ⟨⟨vs.1,cs.1,r.1,e.1⟩,[],[]⟩ ds.1 ds.2 hds pe (by omega) (by simp)
        have f3':s_l17Of_L3 0 ⟨b,e.2,true⟩ z_impl_Mach ⟨⟨vs.1,cs.1,r.1,e.1⟩,[],[]⟩=_:=f3
        have g2:SBad b (contS3 (sAt b ds.2 true) (addDone ⟨⟨vs.1,cs.1,r.1,e.1⟩,[],[]⟩ ds.1)):=by
         cases ho:pT b ds.2 with
         | none=>unfold contS3 sAt; rw [sT_none hb hw pd ho]; exact ⟨_,_,rfl⟩
         | some o=>rw [ho,Option.bind_some] at h; cases h
        rw [← f3'] at g2; exact g2
variable {b:List Int}
noncomputable def contI1 (b:List Int) (c:impl_source) (P:impl_Prog) (z m:impl_Mach):Option (impl_Mach × Bool × Unit):=(i_source_num c 40).bind fun r1=>i_MachOf_L2 b r1.1 0 P z m r1.2.1
noncomputable def contI2 (b:List Int) (c:impl_source) (P:impl_Prog) (z m:impl_Mach):Option (impl_Mach × Bool × Unit) :=
 (i_source_num c 4611686018427387903).bind fun r3=>(i_source_num r3.2.1 4611686018427387903).bind fun r4=>i_MachOf_L3 b 0 P z (impl_Mach.mk (impl_State.mk m.State.Vars m.State.Cells r3.1 r4.1) m.Done m.Out) r4.2.1
noncomputable def contI3 (b:List Int) (c:impl_source) (P:impl_Prog) (z m:impl_Mach):Option (impl_Mach × Bool × Unit) :=
 (i_source_text c).bind fun (r1:(List Int) × impl_source × Unit) =>
  if r1.2.1.bad=true then
   some ((impl_Mach.mk z_impl_State [] []),false,())
  else
   if (!(decide (r1.2.1.at_=(List.length b:Int))))=true then
    some ((impl_Mach.mk z_impl_State [] []),false,())
   else
    (i_MachOk P (impl_Mach.mk m.State m.Done r1.1)).bind fun (r2:Bool × Unit) =>
    if (!r2.1)=true then
     some ((impl_Mach.mk z_impl_State [] []),false,())
    else
     some ((impl_Mach.mk m.State m.Done r1.1),true,())
theorem i_L1_stop (n i:Int) (h:¬ i < n) (c:impl_source) (P:impl_Prog) (z m:impl_Mach):i_MachOf_L1 b n i P z m c=contI1 b c P z m:=by
 rw [i_MachOf_L1_eq,if_neg (by rw [decide_eq_true_eq]; exact h)]; rfl
theorem i_L2_stop (n i:Int) (h:¬ i < n) (c:impl_source) (P:impl_Prog) (z m:impl_Mach):i_MachOf_L2 b n i P z m c=contI2 b c P z m:=by
 rw [i_MachOf_L2_eq,if_neg (by rw [decide_eq_true_eq]; exact h)]; rfl
theorem i_L3_stop (i:Int) (h:¬ i < 3) (c:impl_source) (P:impl_Prog) (z m:impl_Mach):i_MachOf_L3 b i P z m c=contI3 b c P z m:=by
 rw [i_MachOf_L3_eq,if_neg (by rw [decide_eq_true_eq]; exact h)]; rfl
def noMach:impl_Mach:=⟨z_impl_State,[],[]⟩
theorem contI3_bad (hb:b.length≤1048576) (hw:Bytes b) (p:Int) (P:impl_Prog) (z m:impl_Mach):contI3 b (iAt b p true) P z m=some (noMach,false,()):=by
 unfold contI3 iAt
 rw [iT_bad hb hw]; rfl
theorem i_L3_bad (hb:b.length≤1048576) (hw:Bytes b) (P:impl_Prog) (z:impl_Mach):∀ (j i:Nat) (p:Int) (m:impl_Mach),i+j=3→m.Done.length≤i→i_MachOf_L3 b (i:Int) P z m (iAt b p true)=some (noMach,false,()):=by
 intro j
 induction j with
 | zero=>intro i p m hi hm; rw [i_L3_stop _ (by omega)]; exact contI3_bad hb hw p P z m
 | succ j ih =>
  intro i p m hi hm
  have w1:w64 ((i:Int)+1)=((i+1:Nat):Int):=by rw [w64_id (by omega) (by omega)]; omega
  rw [i_MachOf_L3_eq,if_pos (decide_eq_true (by omega))]
  unfold iAt
  rw [iN_bad hb hw,Option.bind_some,if_pos (by rw [room_eq]; omega),w1]
  exact ih (i+1) p (addDone m [0]) (by omega) (by unfold addDone; dsimp only; rw [List.length_append]; simp only [List.length_cons,List.length_nil]; omega)
theorem contI2_bad (hb:b.length≤1048576) (hw:Bytes b) (p:Int) (P:impl_Prog) (z m:impl_Mach) (hm:m.Done=[]):contI2 b (iAt b p true) P z m=some (noMach,false,()):=by
 unfold contI2 iAt
 rw [iN_bad hb hw,Option.bind_some]
 dsimp only
 rw [iN_bad hb hw,Option.bind_some]
 exact i_L3_bad hb hw P z 3 0 p _ (by omega) (by dsimp only; rw [hm]; simp)
theorem i_L2_bad (hb:b.length≤1048576) (hw:Bytes b) (P:impl_Prog) (z:impl_Mach) (n:Int) (hn:n≤40):∀ (j i:Nat) (p:Int) (m:impl_Mach),(i:Int)+j=n→m.State.Cells.length≤i→m.Done=[]→i_MachOf_L2 b n (i:Int) P z m (iAt b p true)=some (noMach,false,()):=by
 intro j
 induction j with
 | zero=>intro i p m hi hm hd; rw [i_L2_stop _ _ (by omega)]; exact contI2_bad hb hw p P z m hd
 | succ j ih =>
  intro i p m hi hm hd
  have w1:w64 ((i:Int)+1)=((i+1:Nat):Int):=by rw [w64_id (by omega) (by omega)]; omega
  rw [i_MachOf_L2_eq,if_pos (decide_eq_true (by omega))]
  unfold iAt
  rw [iN_bad hb hw,Option.bind_some]
  dsimp only
  rw [iT_bad hb hw,Option.bind_some]
  dsimp only
  obtain ⟨v,a,e⟩:=iV_bad hb hw (b:=b) (p:=p)
  rw [e,Option.bind_some,if_pos (by rw [room_eq]; omega),w1]
  exact ih (i+1) a (addCells m [⟨0,[],v⟩]) (by omega) (by unfold addCells; dsimp only; rw [List.length_append]; simp only [List.length_cons,List.length_nil]; omega) hd
theorem contI1_bad (hb:b.length≤1048576) (hw:Bytes b) (p:Int) (P:impl_Prog) (z m:impl_Mach) (hm:m.Done=[]):contI1 b (iAt b p true) P z m=some (noMach,false,()):=by
 unfold contI1 iAt
 rw [iN_bad hb hw,Option.bind_some]
 dsimp only
 rw [i_L2_stop 0 0 (by omega)]
 exact contI2_bad hb hw p P z m hm
theorem i_L1_bad (hb:b.length≤1048576) (hw:Bytes b) (P:impl_Prog) (z:impl_Mach) (n:Int) (hn:n≤40):∀ (j i:Nat) (p:Int) (m:impl_Mach),(i:Int)+j=n→m.State.Vars.length≤i→m.Done=[]→i_MachOf_L1 b n (i:Int) P z m (iAt b p true)=some (noMach,false,()):=by
 intro j
 induction j with
 | zero=>intro i p m hi hm hd; rw [i_L1_stop _ _ (by omega)]; exact contI1_bad hb hw p P z m hd
 | succ j ih =>
  intro i p m hi hm hd
  have w1:w64 ((i:Int)+1)=((i+1:Nat):Int):=by rw [w64_id (by omega) (by omega)]; omega
  rw [i_MachOf_L1_eq,if_pos (decide_eq_true (by omega))]
  unfold iAt
  obtain ⟨v,a,e⟩:=iV_bad hb hw (b:=b) (p:=p)
  rw [e,Option.bind_some,if_pos (by rw [room_eq]; omega),w1]
  exact ih (i+1) a (addVars m [v]) (by omega) (by unfold addVars; dsimp only; rw [List.length_append]; simp only [List.length_cons,List.length_nil]; omega) hd
theorem i_L1_run (hb:b.length≤1048576) (hw:Bytes b) (P:impl_Prog) (z:impl_Mach) (n:Int) (hn:n≤40):∀ (j i:Nat) (p:Int) (m:impl_Mach),(i:Int)+j=n→m.State.Vars.length≤i→m.Done=[] →
  i_MachOf_L1 b n (i:Int) P z m (iAt b p false)=match pL (pV b) j p with
   | some (l,q)=>contI1 b (iAt b q false) P z (addVars m l)
   | none=>some (noMach,false,()):=by
 intro j
 induction j with
 | zero =>
  intro i p m hi hm hd
  rw [i_L1_stop _ _ (by omega)]
  unfold pL
  dsimp only
  rw [addVars_nil]
 | succ j ih =>
  intro i p m hi hm hd
  have w1:w64 ((i:Int)+1)=((i+1:Nat):Int):=by rw [w64_id (by omega) (by omega)]; omega
  have hlen:∀ v:impl_Val,(addVars m [v]).State.Vars.length≤i+1:=fun v=>by unfold addVars; dsimp only; rw [List.length_append]; simp only [List.length_cons,List.length_nil]; omega
  rw [i_MachOf_L1_eq,if_pos (decide_eq_true (by omega))]
  unfold iAt pL
  cases hx:pV b p with
  | none =>
   obtain ⟨v,a,e⟩:=iV_none hb hw hx
   rw [e,Option.bind_some,if_pos (by rw [room_eq]; omega),w1]
   exact i_L1_bad hb hw P z n hn j (i+1) a (addVars m [v]) (by omega) (hlen v) hd
  | some x =>
   rw [iV_some hb hw (show pV b p=some (x.1,x.2) from hx),Option.bind_some,if_pos (by rw [room_eq]; omega),w1,Option.bind_some]
   refine (ih (i+1) x.2 (addVars m [x.1]) (by omega) (hlen _) hd).trans ?_
   cases pL (pV b) j x.2 with
   | none=>rfl
   | some y=>rw [Option.bind_some]; dsimp only; rw [addVars_cons]; rfl
theorem i_L2_run (hb:b.length≤1048576) (hw:Bytes b) (P:impl_Prog) (z:impl_Mach) (n:Int) (hn:n≤40):∀ (j i:Nat) (p:Int) (m:impl_Mach),(i:Int)+j=n→m.State.Cells.length≤i→m.Done=[] →
  i_MachOf_L2 b n (i:Int) P z m (iAt b p false)=match pL (pC b) j p with
   | some (l,q)=>contI2 b (iAt b q false) P z (addCells m l)
   | none=>some (noMach,false,()):=by
 intro j
 induction j with
 | zero =>
  intro i p m hi hm hd
  rw [i_L2_stop _ _ (by omega)]
  unfold pL
  dsimp only
  rw [addCells_nil]
 | succ j ih =>
  intro i p m hi hm hd
  have w1:w64 ((i:Int)+1)=((i+1:Nat):Int):=by rw [w64_id (by omega) (by omega)]; omega
  have hlen:∀ v:impl_Cell,(addCells m [v]).State.Cells.length≤i+1:=fun v=>by unfold addCells; dsimp only; rw [List.length_append]; simp only [List.length_cons,List.length_nil]; omega
  have hr:m.State.Cells.length+1≤room:=by rw [room_eq]; omega
  have hpC:pC b p=(pN b p).bind fun x=>(pT b x.2).bind fun y=>(pV b y.2).bind fun z=>some (⟨x.1,y.1,z.1⟩,z.2):=rfl
  rw [i_MachOf_L2_eq,if_pos (decide_eq_true (by omega))]
  unfold iAt pL
  simp only [if_pos hr]
  rw [hpC]
  cases hu:pN b p with
  | none =>
   rw [iN_none hb hw hu,Option.bind_some]
   dsimp only
   rw [iT_bad hb hw,Option.bind_some]
   dsimp only
   obtain ⟨v,a,e⟩:=iV_bad hb hw (b:=b) (p:=p)
   rw [e,Option.bind_some,w1]
   exact i_L2_bad hb hw P z n hn j (i+1) a (addCells m [⟨0,[],v⟩]) (by omega) (hlen _) hd
  | some u =>
   have a1:=pN_spec hw (show pN b p=some (u.1,u.2) from hu)
   rw [iN_some hb hw (show pN b p=some (u.1,u.2) from hu),if_neg (by omega),Option.bind_some,Option.bind_some]
   dsimp only
   cases hv:pT b u.2 with
   | none =>
    rw [iT_none hb hw hv,Option.bind_some]
    dsimp only
    obtain ⟨v,a,e⟩:=iV_bad hb hw (b:=b) (p:=u.2)
    rw [e,Option.bind_some,w1]
    exact i_L2_bad hb hw P z n hn j (i+1) a (addCells m [⟨u.1,[],v⟩]) (by omega) (hlen _) hd
   | some v =>
    rw [iT_some hb hw (show pT b u.2=some (v.1,v.2) from hv),Option.bind_some,Option.bind_some]
    dsimp only
    cases hz:pV b v.2 with
    | none =>
     obtain ⟨v',a,e⟩:=iV_none hb hw hz
     rw [e,Option.bind_some,w1]
     exact i_L2_bad hb hw P z n hn j (i+1) a (addCells m [⟨u.1,v.1,v'⟩]) (by omega) (hlen _) hd
    | some w =>
     rw [iV_some hb hw (show pV b v.2=some (w.1,w.2) from hz),Option.bind_some,w1,Option.bind_some,Option.bind_some]
     refine (ih (i+1) w.2 (addCells m [⟨u.1,v.1,w.1⟩]) (by omega) (hlen _) hd).trans ?_
     dsimp only
     cases pL (pC b) j w.2 with
     | none=>rfl
     | some y=>rw [Option.bind_some]; dsimp only; rw [addCells_cons]; rfl
theorem i_L3_run (hb:b.length≤1048576) (hw:Bytes b) (P:impl_Prog) (z:impl_Mach):∀ (j i:Nat) (p:Int) (m:impl_Mach),i+j=3→m.Done.length≤i →
  i_MachOf_L3 b (i:Int) P z m (iAt b p false)=match pL (pN b) j p with
   | some (l,q)=>contI3 b (iAt b q false) P z (addDone m l)
   | none=>some (noMach,false,()):=by
 intro j
 induction j with
 | zero =>
  intro i p m hi hm
  rw [i_L3_stop _ (by omega)]
  unfold pL
  dsimp only
  rw [addDone_nil]
 | succ j ih =>
  intro i p m hi hm
  have w1:w64 ((i:Int)+1)=((i+1:Nat):Int):=by rw [w64_id (by omega) (by omega)]; omega
  have hlen:∀ v:Int,(addDone m [v]).Done.length≤i+1:=fun v=>by unfold addDone; dsimp only; rw [List.length_append]; simp only [List.length_cons,List.length_nil]; omega
  rw [i_MachOf_L3_eq,if_pos (decide_eq_true (by omega))]
  unfold iAt pL
  cases hx:pN b p with
  | none =>
   rw [iN_none hb hw hx,Option.bind_some,if_pos (by rw [room_eq]; omega),w1]
   exact i_L3_bad hb hw P z j (i+1) p (addDone m [0]) (by omega) (hlen _)
  | some x =>
   have a1:=pN_spec hw (show pN b p=some (x.1,x.2) from hx)
   rw [iN_some hb hw (show pN b p=some (x.1,x.2) from hx),if_neg (by omega),Option.bind_some,if_pos (by rw [room_eq]; omega),w1,Option.bind_some]
   refine (ih (i+1) x.2 (addDone m [x.1]) (by omega) (hlen _)).trans ?_
   cases pL (pN b) j x.2 with
   | none=>rfl
   | some y=>rw [Option.bind_some]; dsimp only; rw [addDone_cons]; rfl
noncomputable def endM (b:List Int) (P:impl_Prog) (x:Option (impl_Mach × Int)):Option (impl_Mach × Bool × Unit):=match x with
 | none=>some (noMach,false,())
 | some (m,q)=>if (!(decide (q=(List.length b:Int))))=true then some (noMach,false,()) else (i_MachOk P m).bind fun (r2:Bool × Unit)=>if (!r2.1)=true then some (noMach,false,()) else some (m,true,())
theorem i_MachOf_run (hb:b.length≤1048576) (hw:Bytes b) (P:impl_Prog):i_MachOf P b=some (noMach,false,())∧(∀ m q,pM b=some (m,q)→8 < m.State.Vars.length∨40 < m.State.Cells.length)∨i_MachOf P b=endM b P (pM b):=by
 rw [i_MachOf_eq]
 unfold pM
 cases hn:pN b 0 with
 | none=>right; rw [iN_none hb hw hn,Option.bind_some]; exact i_L1_bad hb hw P z_impl_Mach 0 (by omega) 0 0 0 _ (by omega) (by simp [z_impl_State]) rfl
 | some n =>
  have an:=pN_spec hw (show pN b 0=some (n.1,n.2) from hn)
  rw [iN_some hb hw (show pN b 0=some (n.1,n.2) from hn),Option.bind_some]
  have pn:PosI b n.2:=⟨by omega,an.2.2.1⟩
  by_cases c8:n.1 > 8
  ·left
   rw [if_pos c8,Option.bind_some]
   refine ⟨i_L1_bad hb hw P z_impl_Mach 0 (by omega) 0 0 0 _ (by omega) (by simp [z_impl_State]) rfl,fun m q h=>.inl ?_⟩
   obtain ⟨vs,hvs,h⟩:=bind_split h
   obtain ⟨k,hk,h⟩:=bind_split h
   obtain ⟨cs,hcs,h⟩:=bind_split h
   obtain ⟨r,hr,h⟩:=bind_split h
   obtain ⟨e,he,h⟩:=bind_split h
   obtain ⟨ds,hds,h⟩:=bind_split h
   obtain ⟨o,ho,h⟩:=bind_split h
   have e1:(⟨⟨vs.1,cs.1,r.1,e.1⟩,ds.1,o.1⟩:impl_Mach)=m:=congrArg Prod.fst (Option.some.inj h)
   obtain ⟨v1,_⟩:=pL_spec (len:=(b.length:Int)) (fun p x q h=>⟨(pV_spec hw h).1,(pV_spec hw h).2.1,(pV_spec hw h).2.2.1⟩) _ _ _ _ (show pL (pV b) n.1.toNat n.2=some (vs.1,vs.2) from hvs) pn.1 pn.2
   rw [← e1]; dsimp only; omega
  ·rw [if_neg c8,Option.bind_some]
   have f1:=i_L1_run hb hw P z_impl_Mach n.1 (by omega) n.1.toNat 0 n.2 ⟨z_impl_State,[],[]⟩ (by omega) (by simp [z_impl_State]) rfl
   have f1':i_MachOf_L1 b n.1 0 P z_impl_Mach ⟨z_impl_State,[],[]⟩ ⟨b,n.2,false⟩=_:=f1
   dsimp only
   rw [f1']
   cases hvs:pL (pV b) n.1.toNat n.2 with
   | none=>right; rfl
   | some vs =>
    obtain ⟨v1,v2,v3⟩:=pL_spec (len:=(b.length:Int)) (fun p x q h=>⟨(pV_spec hw h).1,(pV_spec hw h).2.1,(pV_spec hw h).2.2.1⟩) _ _ _ _ (show pL (pV b) n.1.toNat n.2=some (vs.1,vs.2) from hvs) pn.1 pn.2
    have pv:PosI b vs.2:=⟨by have:=pn.1; omega,v3⟩
    rw [Option.bind_some]
    dsimp only
    unfold contI1 iAt
    cases hk:pN b vs.2 with
    | none =>
     right
     rw [iN_none hb hw hk,Option.bind_some]
     exact i_L2_bad hb hw P z_impl_Mach 0 (by omega) 0 0 vs.2 (addVars ⟨z_impl_State,[],[]⟩ vs.1) (by omega) (by simp [addVars,z_impl_State]) rfl
    | some k =>
     have ak:=pN_spec hw (show pN b vs.2=some (k.1,k.2) from hk)
     have pk:PosI b k.2:=⟨by omega,ak.2.2.1⟩
     rw [iN_some hb hw (show pN b vs.2=some (k.1,k.2) from hk)]
     by_cases c40:k.1 > 40
     ·left
      rw [if_pos c40,Option.bind_some]
      refine ⟨i_L2_bad hb hw P z_impl_Mach 0 (by omega) 0 0 vs.2 (addVars ⟨z_impl_State,[],[]⟩ vs.1) (by omega) (by simp [addVars,z_impl_State]) rfl,fun m q h=>.inr ?_⟩
      rw [Option.bind_some] at h
      obtain ⟨cs,hcs,h⟩:=bind_split h
      obtain ⟨r,hr,h⟩:=bind_split h
      obtain ⟨e,he,h⟩:=bind_split h
      obtain ⟨ds,hds,h⟩:=bind_split h
      obtain ⟨o,ho,h⟩:=bind_split h
      have e1:(⟨⟨vs.1,cs.1,r.1,e.1⟩,ds.1,o.1⟩:impl_Mach)=m:=congrArg Prod.fst (Option.some.inj h)
      obtain ⟨c1,_⟩:=pL_spec (len:=(b.length:Int)) (fun p x q h=>⟨(pC_spec hw h).1,(pC_spec hw h).2.1,(pC_spec hw h).2.2.1⟩) _ _ _ _ (show pL (pC b) k.1.toNat k.2=some (cs.1,cs.2) from hcs) pk.1 pk.2
      rw [← e1]; dsimp only; omega
     ·right
      rw [if_neg c40,Option.bind_some,Option.bind_some]
      have f2:=i_L2_run hb hw P z_impl_Mach k.1 (by omega) k.1.toNat 0 k.2 (addVars ⟨z_impl_State,[],[]⟩ vs.1) (by omega) (by simp [addVars,z_impl_State]) rfl
      have f2':i_MachOf_L2 b k.1 0 P z_impl_Mach (addVars ⟨z_impl_State,[],[]⟩ vs.1) ⟨b,k.2,false⟩=_:=f2
      dsimp only
      rw [f2']
      cases hcs:pL (pC b) k.1.toNat k.2 with
      | none=>rfl
      | some cs =>
       rw [Option.bind_some]
       dsimp only
       unfold contI2 iAt
       cases hr:pN b cs.2 with
       | none =>
        rw [iN_none hb hw hr,Option.bind_some]
        dsimp only
        rw [iN_bad hb hw,Option.bind_some]
        exact i_L3_bad hb hw P z_impl_Mach 3 0 cs.2 _ (by omega) (by simp [addCells,addVars])
       | some r =>
        have ar:=pN_spec hw (show pN b cs.2=some (r.1,r.2) from hr)
        rw [iN_some hb hw (show pN b cs.2=some (r.1,r.2) from hr),if_neg (by omega),Option.bind_some,Option.bind_some]
        dsimp only
        cases he:pN b r.2 with
        | none =>
         rw [iN_none hb hw he,Option.bind_some]
         exact i_L3_bad hb hw P z_impl_Mach 3 0 r.2 _ (by omega) (by simp [addCells,addVars])
        | some e =>
         have ae:=pN_spec hw (show pN b r.2=some (e.1,e.2) from he)
         rw [iN_some hb hw (show pN b r.2=some (e.1,e.2) from he),if_neg (by omega),Option.bind_some,Option.bind_some]
         have f3:=i_L3_run hb hw P z_impl_Mach 3 0 e.2 ⟨⟨vs.1,cs.1,r.1,e.1⟩,[],[]⟩ (by omega) (by simp)
         refine Eq.trans f3 ?_
         cases hds:pL (pN b) 3 e.2 with
         | none=>rfl
         | some ds =>
          rw [Option.bind_some]
          dsimp only
          unfold contI3 iAt
          cases ho:pT b ds.2 with
          | none=>rw [iT_none hb hw ho]; rfl
          | some o=>rw [iT_some hb hw (show pT b ds.2=some (o.1,o.2) from ho),Option.bind_some]; rfl
theorem pM_big (hb:b.length≤1048576) (hw:Bytes b) {m:impl_Mach} {q:Int} (h:pM b=some (m,q)):BMach m:=by
 unfold pM at h
 obtain ⟨n,hn,h⟩:=bind_split h
 obtain ⟨vs,hvs,h⟩:=bind_split h
 obtain ⟨k,hk,h⟩:=bind_split h
 obtain ⟨cs,hcs,h⟩:=bind_split h
 obtain ⟨r,hr,h⟩:=bind_split h
 obtain ⟨e,he,h⟩:=bind_split h
 obtain ⟨ds,hds,h⟩:=bind_split h
 obtain ⟨o,ho,h⟩:=bind_split h
 have e1:(⟨⟨vs.1,cs.1,r.1,e.1⟩,ds.1,o.1⟩:impl_Mach)=m:=congrArg Prod.fst (Option.some.inj h)
 have an:=pN_spec hw (show pN b 0=some (n.1,n.2) from hn)
 have pn:PosI b n.2:=⟨by omega,an.2.2.1⟩
 obtain ⟨v1,v2,v3⟩:=pL_spec (len:=(b.length:Int)) (fun p x q h=>⟨(pV_spec hw h).1,(pV_spec hw h).2.1,(pV_spec hw h).2.2.1⟩) _ _ _ _ (show pL (pV b) n.1.toNat n.2=some (vs.1,vs.2) from hvs) pn.1 pn.2
 have ak:=pN_spec hw (show pN b vs.2=some (k.1,k.2) from hk)
 have pk:PosI b k.2:=⟨by omega,ak.2.2.1⟩
 obtain ⟨c1,c2,c3⟩:=pL_spec (len:=(b.length:Int)) (fun p x q h=>⟨(pC_spec hw h).1,(pC_spec hw h).2.1,(pC_spec hw h).2.2.1⟩) _ _ _ _ (show pL (pC b) k.1.toNat k.2=some (cs.1,cs.2) from hcs) pk.1 pk.2
 have ar:=pN_spec hw (show pN b cs.2=some (r.1,r.2) from hr)
 have ae:=pN_spec hw (show pN b r.2=some (e.1,e.2) from he)
 have pe:PosI b e.2:=⟨by omega,ae.2.2.1⟩
 obtain ⟨d1,d2,d3⟩:=pL_spec (len:=(b.length:Int)) (fun p x q h=>⟨(pN_spec hw h).1,(pN_spec hw h).2.1,(pN_spec hw h).2.2.1⟩) _ _ _ _ (show pL (pN b) 3 e.2=some (ds.1,ds.2) from hds) pe.1 pe.2
 have ao:=pT_spec hw (show pT b ds.2=some (o.1,o.2) from ho)
 have pn1:=pn.1
 have pk1:=pk.1
 rw [← e1]
 exact ⟨⟨⟨by show vs.1.length≤_; omega,pL_all (Q:=fun v=>Bt v.S) (fun p x q h=>(pV_spec hw h).2.2.2.2.2) _ _ _ _ (show pL (pV b) n.1.toNat n.2=some (vs.1,vs.2) from hvs)⟩,by show cs.1.length≤_; omega,pL_all (Q:=fun c=>Bt c.Val.S) (fun p x q h=>(pC_spec hw h).2.2.2.2.2.2) _ _ _ _ (show pL (pC b) k.1.toNat k.2=some (cs.1,cs.2) from hcs)⟩,by show ds.1.length≤_; omega,by show o.1.length≤_; omega⟩
def MachFineOr (m:impl_Mach):Prop:=m=noMach∨(MachFine m∧BMach m)
theorem machOf_same (hb:b.length≤1048576) (hw:Bytes b) (P:impl_Prog) (hp:BProg P):∃ m ok,s_MachOf P b=some (m,ok,())∧i_MachOf P b=some (m,ok,())∧MachFineOr m:=by
 have hs:s_MachOf P b=endM b P (pM b):=by
  rw [s_MachOf_eq]
  cases h:pM b with
  | none =>
   obtain ⟨m,a,e⟩:=sMach_none hb hw h
   rw [e]; rfl
  | some x =>
   have hm:=pM_big hb hw (show pM b=some (x.1,x.2) from h)
   rw [sMach_some hb hw (show pM b=some (x.1,x.2) from h),Option.bind_some]
   unfold endM
   dsimp only
   rw [s_MachOk_ok P _ hp hm.1 hm.2.1,i_MachOk_ok P _ hp hm.1 hm.2.1]
   rfl
 have hend:∀ x,(∀ m q,x=some (m,q)→BMach m)→∃ m ok,endM b P x=some (m,ok,())∧MachFineOr m:=by
  intro x hx
  cases x with
  | none=>exact ⟨_,_,rfl,.inl rfl⟩
  | some x =>
   have hm:=hx x.1 x.2 rfl
   unfold endM
   dsimp only
   cases hq:decide (x.2=(b.length:Int)) with
   | false=>exact ⟨_,_,rfl,.inl rfl⟩
   | true =>
    rw [if_neg (by simp),i_MachOk_ok P _ hp hm.1 hm.2.1,Option.bind_some]
    cases hB:machB P x.1 with
    | false=>exact ⟨_,_,rfl,.inl rfl⟩
    | true=>exact ⟨_,_,rfl,.inr ⟨machB_fine hB,hm⟩⟩
 obtain ⟨m,ok,e,hf⟩:=hend (pM b) (fun m q h=>pM_big hb hw h)
 refine ⟨m,ok,by rw [hs,e],?_,hf⟩
 rcases i_MachOf_run hb hw P with ⟨h1,h2⟩ | h1
 ·rw [h1]
  cases h:pM b with
  | none=>rw [h] at e; exact e
  | some x =>
   rw [h] at e
   have hm:=pM_big hb hw (show pM b=some (x.1,x.2) from h)
   have hf':machB P x.1=false:=by
    cases hB:machB P x.1 with
    | false=>rfl
    | true =>
     have:=machB_fine hB
     rcases h2 x.1 x.2 h with h3 | h3
     ·have:=this.1; omega
     ·have:=this.2.2.1; omega
   unfold endM at e
   dsimp only at e
   rw [i_MachOk_ok P _ hp hm.1 hm.2.1,hf'] at e
   cases hq:decide (x.2=(b.length:Int)) with
   | false=>rw [hq] at e; exact e
   | true=>rw [hq] at e; exact e
 ·rw [h1]; exact e
theorem cl_bool (l:List Bool) (hl:l.length≤4294967296):x_slices_Clone_bool l=some (l,()):=by
 rw [x_slices_Clone_bool_eq,if_pos (show 0+l.length≤room by rw [room_eq]; omega)]
 cases l with
 | nil=>exact amb_self _
 | cons a l=>rfl
theorem cl_int (l:List Int) (hl:l.length≤4294967296):x_slices_Clone_int l=some (l,()):=by
 rw [x_slices_Clone_int_eq,if_pos (show 0+l.length≤room by rw [room_eq]; omega)]
 cases l with
 | nil=>exact amb_self _
 | cons a l=>rfl
theorem cl_byte (l:List Int) (hl:l.length≤4294967296):x_slices_Clone_byte l=some (l,()):=by
 rw [x_slices_Clone_byte_eq,if_pos (show 0+l.length≤room by rw [room_eq]; omega)]
 cases l with
 | nil=>exact amb_self _
 | cons a l=>rfl
theorem cl_Val (l:List impl_Val) (hl:l.length≤4294967296):x_slices_Clone_impl_Val l=some (l,()):=by
 rw [x_slices_Clone_impl_Val_eq,if_pos (show 0+l.length≤room by rw [room_eq]; omega)]
 cases l with
 | nil=>exact amb_self _
 | cons a l=>rfl
theorem cl_Cell (l:List impl_Cell) (hl:l.length≤4294967296):x_slices_Clone_impl_Cell l=some (l,()):=by
 rw [x_slices_Clone_impl_Cell_eq,if_pos (show 0+l.length≤room by rw [room_eq]; omega)]
 cases l with
 | nil=>exact amb_self _
 | cons a l=>rfl
theorem cl_Entry (l:List impl_Entry) (hl:l.length≤4294967296):x_slices_Clone_impl_Entry l=some (l,()):=by
 rw [x_slices_Clone_impl_Entry_eq,if_pos (show 0+l.length≤room by rw [room_eq]; omega)]
 cases l with
 | nil=>exact amb_self _
 | cons a l=>rfl
theorem rm {n:Nat} (h:n≤2097152):0+n≤room:=by rw [room_eq]; omega
theorem cpI_State (x:impl_State) (h:Gi_State 2097152 x):i_cloneState x=some (x,()):=by
 unfold Gi_State at h
 rw [i_cloneState_eq,cl_Val _ (by have:=h.1.1; omega),Option.bind_some,cl_Cell _ (by have:=h.2.1; omega)]; rfl
theorem cpS_State (x:impl_State) (h:Gi_State 2097152 x):s_l11Copy x=some (x,()):=by
 unfold Gi_State at h
 rw [s_l11Copy_eq,if_pos (rm h.1.1),if_pos (rm h.2.1)]; rfl
theorem cpI_Mach (x:impl_Mach) (h:Gi_Mach 2097152 x):i_cloneMach x=some (x,()):=by
 unfold Gi_Mach at h
 rw [i_cloneMach_eq,cpI_State _ h.1,Option.bind_some,cl_int _ (by have:=h.2.1; omega)]; rfl
theorem cpS_Mach (x:impl_Mach) (h:Gi_Mach 2097152 x):s_l16Copy x=some (x,()):=by
 unfold Gi_Mach at h
 rw [s_l16Copy_eq,cpS_State _ h.1,Option.bind_some,if_pos (rm h.2.1)]; rfl
theorem cpI_Log (x:impl_Log) (h:Gi_Log 2097152 x):i_cloneLog x=some (x,()):=by
 unfold Gi_Log at h
 rw [i_cloneLog_eq,cl_Entry _ (by have:=h.1; omega)]; rfl
theorem cpS_Log (x:impl_Log) (h:Gi_Log 2097152 x):s_l18Copy x=some (x,()):=by
 unfold Gi_Log at h
 rw [s_l18Copy_eq,if_pos (rm h.1)]; rfl
theorem cpI_Hard (x:impl_Hard) (h:Gi_Hard 2097152 x):i_cloneHard x=some (x,()):=by
 unfold Gi_Hard at h
 rw [i_cloneHard_eq,cpI_Log _ h.1,Option.bind_some,cpI_Mach _ h.2]; rfl
theorem cpS_Hard (x:impl_Hard) (h:Gi_Hard 2097152 x):s_l21Copy x=some (x,()):=by
 unfold Gi_Hard at h
 rw [s_l21Copy_eq,cpS_Log _ h.1,Option.bind_some,cpS_Mach _ h.2]; rfl
theorem cpI_Disk (x:impl_Disk) (h:Gi_Disk 2097152 x):i_cloneDisk x=some (x,()):=by
 unfold Gi_Disk at h
 rw [i_cloneDisk_eq,cl_byte _ (by omega)]; rfl
theorem cpS_Disk (x:impl_Disk) (h:Gi_Disk 2097152 x):s_l20Copy x=some (x,()):=by
 unfold Gi_Disk at h
 rw [s_l20Copy_eq,if_pos (rm h)]; rfl
theorem cpI_Rpc (x:impl_Rpc) (h:Gi_Rpc 2097152 x):i_cloneRpc x=some (x,()):=by
 unfold Gi_Rpc at h
 rw [i_cloneRpc_eq,cl_Entry _ (by have:=h.1.1; omega)]; rfl
theorem cpS_Rpc (x:impl_Rpc) (h:Gi_Rpc 2097152 x):s_l22Rpc x=some (x,()):=by
 unfold Gi_Rpc at h
 rw [s_l22Rpc_eq,if_pos (rm h.1.1)]; rfl
theorem cpI_RpcS (l:List impl_Rpc) (h:l.length≤2097152∧∀ x∈l,Gi_Rpc 2097152 x):i_cloneRpcs l=some (l,()):=by
 have hl:=h.1
 rw [i_cloneRpcs_eq]
 exact app_loop (fun acc i=>i_cloneRpcs_L1 acc l (l.length:Int) i) l (fun acc i hi ha=>by
  show i_cloneRpcs_L1 acc l _ i=_
  rw [i_cloneRpcs_L1_eq,if_pos (decide_eq_true (by omega)),if_pos (by omega),getD_nat hi,cpI_Rpc _ (h.2 _ (List.getElem_mem hi)),Option.bind_some,if_pos (by rw [room_eq]; omega),w64_succ hi (by omega)]; rfl)
  (fun acc=>by show i_cloneRpcs_L1 acc l _ _=_; rw [i_cloneRpcs_L1_eq,if_neg (by simp)])
theorem cpS_RpcS (l:List impl_Rpc) (h:l.length≤2097152∧∀ x∈l,Gi_Rpc 2097152 x):s_l22Rpcs l=some (l,()):=by
 have hl:=h.1
 rw [s_l22Rpcs_eq]
 exact app_loop (fun acc i=>s_l22Rpcs_L1 l acc i) l (fun acc i hi ha=>by
  show s_l22Rpcs_L1 l acc i=_
  rw [s_l22Rpcs_L1_eq,if_pos (decide_eq_true (by omega)),if_pos (by omega),getD_nat hi,cpS_Rpc _ (h.2 _ (List.getElem_mem hi)),Option.bind_some,if_pos (by rw [room_eq]; omega),w64_succ hi (by omega)]; rfl)
  (fun acc=>by show s_l22Rpcs_L1 l acc _=_; rw [s_l22Rpcs_L1_eq,if_neg (by simp)])
theorem cpI_Peer (x:impl_Peer) (h:Gi_Peer 2097152 x):i_clonePeer x=some (x,()):=by
 unfold Gi_Peer at h
 obtain ⟨h1,h2,h3,h4,h5,h6,h7⟩:=h
 rw [i_clonePeer_eq,cpI_Hard _ h1,Option.bind_some,cpI_Mach _ h5,Option.bind_some,cpI_Disk _ h6,Option.bind_some,cpI_RpcS _ h7,Option.bind_some,cl_bool _ (by omega),Option.bind_some,cl_int _ (by omega),Option.bind_some,cl_int _ (by omega)]; rfl
theorem cpS_Peer (x:impl_Peer) (h:Gi_Peer 2097152 x):s_l22Copy x=some (x,()):=by
 unfold Gi_Peer at h
 obtain ⟨h1,h2,h3,h4,h5,h6,h7⟩:=h
 rw [s_l22Copy_eq,cpS_Hard _ h1,Option.bind_some,if_pos (rm h2),if_pos (rm h3),if_pos (rm h4),cpS_Mach _ h5,Option.bind_some,cpS_Disk _ h6,Option.bind_some,cpS_RpcS _ h7]; rfl
def recOk (r:impl_Rec):Bool :=
 if decide (0≤r.Term∧r.Term≤300) && (decide (0≤r.Prev∧r.Prev≤300) && (entriesOk r.List 300 && !decide ((r.Snap.length:Int) > 30000))) then
  if r.Kind=1 then decide (-1≤r.Vote∧r.Vote≤4) && (decide (r.Prev=0) && (decide ((r.List.length:Int)=0) && decide (r.Snap=[])))
  else if r.Kind=2 then decide (r.Vote=0) && decide (r.Snap=[])
  else if r.Kind=3 then decide (r.Vote=0) && decide ((r.List.length:Int)=0)
  else false
 else false
theorem i_isVote_ok (n:Int):i_isVote n=some (decide (-1≤n∧n≤4),()):=by rw [i_isVote_eq,i_in_ok]; rfl
theorem rec_tail {k v p:Int} {a b c:Bool}:(if k=1 then
   if a=true then if p=0 then if b=true then some (c,()) else some (false,()) else some (false,()) else some (false,())
  else if k=2 then if v=0 then some (c,()) else some (false,())
  else if k=3 then if v=0 then some (b,()) else some (false,()) else some (false,())) =
  some (if k=1 then a && (decide (p=0) && (b && c)) else if k=2 then decide (v=0) && c else if k=3 then decide (v=0) && b else false,()):=by
 by_cases h1:k=1
 ·simp only [if_pos h1]
  cases a
  ·rfl
  ·by_cases h2:p=0
   ·simp only [h2]; cases b <;> simp
   ·simp [h2]
 ·simp only [if_neg h1]
  by_cases h2:k=2
  ·simp only [if_pos h2]
   by_cases h3:v=0 <;> simp [h3]
  ·simp only [if_neg h2]
   by_cases h3:k=3
   ·simp only [if_pos h3]
    by_cases h4:v=0 <;> simp [h4]
   ·simp only [if_neg h3]
theorem s_RecOk_ok (r:impl_Rec) (hl:r.List.length≤4294967296) (hw:LinesOk r.List):s_RecOk r=some (recOk r,()):=by
 rw [s_RecOk_eq]
 unfold recOk
 simp only [s_l1In_ok,s_l19List_ok _ _ hl hw,Option.bind_some]
 cases decide (0≤r.Term∧r.Term≤300) with
 | false=>rfl
 | true =>
 cases decide (0≤r.Prev∧r.Prev≤300) with
 | false=>rfl
 | true =>
 cases entriesOk r.List 300 with
 | false=>rfl
 | true =>
 cases decide ((r.Snap.length:Int) > 30000) with
 | true=>rfl
 | false =>
  have:=rec_tail (k:=r.Kind) (v:=r.Vote) (p:=r.Prev) (a:=decide (-1≤r.Vote∧r.Vote≤4)) (b:=decide ((r.List.length:Int)=0)) (c:=decide (r.Snap=[]))
  simpa only [decide_eq_true_eq,Bool.not_true,Bool.not_false,Bool.false_eq_true,if_false,Bool.true_and,if_true] using this
theorem i_RecOk_ok (r:impl_Rec) (hl:r.List.length≤4294967296):i_RecOk r=some (recOk r,()):=by
 rw [i_RecOk_eq]
 unfold recOk
 simp only [isIndex_ok,i_isVote_ok,i_entriesOk_ok _ _ hl,Option.bind_some]
 cases decide (0≤r.Term∧r.Term≤300) with
 | false=>rfl
 | true =>
 cases decide (0≤r.Prev∧r.Prev≤300) with
 | false=>rfl
 | true =>
 cases entriesOk r.List 300 with
 | false=>rfl
 | true =>
 cases decide ((r.Snap.length:Int) > 30000) with
 | true=>rfl
 | false =>
  have:=rec_tail (k:=r.Kind) (v:=r.Vote) (p:=r.Prev) (a:=decide (-1≤r.Vote∧r.Vote≤4)) (b:=decide ((r.List.length:Int)=0)) (c:=decide (r.Snap=[]))
  simpa only [decide_eq_true_eq,Bool.not_true,Bool.not_false,Bool.false_eq_true,if_false,Bool.true_and,if_true] using this
theorem logOk_len {l:impl_Log} (h:logOk l=true):0≤l.Base∧l.Base≤300∧(l.List.length:Int)≤300 - l.Base∧0≤l.BaseTerm∧l.BaseTerm≤300:=by
 unfold logOk at h
 obtain ⟨h1,h⟩:=and_iff'.1 h
 obtain ⟨h2,h⟩:=and_iff'.1 h
 obtain ⟨h3,h4⟩:=and_iff'.1 h
 have h1':=of_decide_eq_true h1
 have h2':=of_decide_eq_true h2
 have h3':=of_decide_eq_true h3
 omega
theorem hardB_log {p:impl_Prog} {h:impl_Hard} (hh:hardB p h=true):logOk h.Log=true∧machB p h.Snap=true∧(0≤h.Term∧h.Term≤300)∧(-1≤h.Vote∧h.Vote≤4)∧lastT h.Log≤h.Term:=by
 unfold hardB at hh
 obtain ⟨h1,hh⟩:=and_iff'.1 hh
 obtain ⟨h2,hh⟩:=and_iff'.1 hh
 obtain ⟨h3,hh⟩:=and_iff'.1 hh
 obtain ⟨h4,h5⟩:=and_iff'.1 hh
 exact ⟨h3,h5,of_decide_eq_true h1,of_decide_eq_true h2,of_decide_eq_true h4⟩
def BRec (r:impl_Rec):Prop:=(r.List.length≤1048576∧∀ e∈r.List,e.C.Line.length≤2097152)∧(r.Snap.length≤1048576∧Bytes r.Snap)∧InI r.Prev
theorem gi_Mach {m:impl_Mach} (h:MachFine m):Gi_Mach 2097152 m:=by
 obtain ⟨h1,h2,h3,h4,h5,h6⟩:=h
 unfold Gi_Mach Gi_State Gi_Val Gi_Cell Gi_Val
 exact ⟨⟨⟨by omega,fun v hv=>by have:=h2 v hv; omega⟩,by omega,fun c hc=>by have:=h4 c hc; omega⟩,by omega,by omega⟩
theorem hardEnd {p:impl_Prog} {h y:impl_Hard} (hp:BProg p) (hb:BHard h) (gh:Gi_Hard 2097152 h) (by_:BHard y) (z:impl_Hard) :
  i_HardDo_L1 p h z y=some (if hardB p y=true then y else h,())∧(s_HardOk p y).bind (fun (r6:Bool × Unit)=>if (!r6.1)=true then (s_l21Copy h).bind fun (r7:impl_Hard × Unit)=>some (r7.1,()) else some (y,()))=some (if hardB p y=true then y else h,()):=by
 rw [i_HardDo_L1_eq,i_HardOk_ok p y hp by_,s_HardOk_ok p y hp by_,cpI_Hard h gh,cpS_Hard h gh]
 cases hardB p y <;> exact ⟨rfl,rfl⟩
theorem hardDo_same (p:impl_Prog) (h:impl_Hard) (r:impl_Rec) (hp:BProg p) (hb:BHard h) (gh:Gi_Hard 2097152 h) (hr:BRec r) :
  ∃ y,s_HardDo p h r=some (y,())∧i_HardDo p h r=some (y,())∧BHard y∧(y=h∨hardB p y=true):=by
 obtain ⟨⟨r1,r2⟩,⟨r3,r4⟩,r5⟩:=hr
 have hrl:LinesOk r.List:=fun e he=>by have:=r2 e he; omega
 rw [s_HardDo_eq,i_HardDo_eq,cpI_Hard h gh,s_HardOk_ok p h hp hb,i_HardOk_ok p h hp hb,cpS_Hard h gh,s_RecOk_ok r (by omega) hrl,i_RecOk_ok r (by omega)]
 simp only [Option.bind_some]
 cases hB:hardB p h with
 | false=>exact ⟨h,rfl,rfl,hb,.inl rfl⟩
 | true =>
  cases hR:recOk r with
  | false=>exact ⟨h,rfl,rfl,hb,.inl rfl⟩
  | true =>
   obtain ⟨q1,q2,q3,q4,q5⟩:=hardB_log hB
   obtain ⟨w1,w2,w3,w4,w5⟩:=logOk_len q1
   have hbI:InI h.Log.Base:=by unfold InI; omega
   have fin:∀ y:impl_Hard,BHard y→BHard (if hardB p y=true then y else h)∧((if hardB p y=true then y else h)=h∨hardB p (if hardB p y=true then y else h)=true):=fun y hy=>by
    cases hY:hardB p y with
    | false=>exact ⟨hb,.inl rfl⟩
    | true=>rw [if_pos rfl]; exact ⟨hy,.inr hY⟩
   have done:∀ y:impl_Hard,BHard y→∀ z,∃ w,(some (y,()):Option (impl_Hard × Unit)).bind (fun (r5:impl_Hard × Unit)=>(s_HardOk p r5.1).bind fun (r6:Bool × Unit)=>if (!r6.1)=true then some (h,()) else some (r5.1,()))=some (w,())∧i_HardDo_L1 p h z y=some (w,())∧BHard w∧(w=h∨hardB p w=true):=fun y hy z=>by
    obtain ⟨e1,e2⟩:=hardEnd hp hb gh hy z
    rw [cpS_Hard h gh] at e2
    obtain ⟨f1,f2⟩:=fin y hy
    exact ⟨_,e2,e1,f1,f2⟩
   simp only [Bool.not_true,Bool.false_eq_true,if_false]
   rw [s_l21Do_eq]
   by_cases k1:r.Kind=1
   ·simp only [k1,decide_true,if_true,s_l21Do_L1_eq]
    exact done ⟨r.Term,r.Vote,h.Log,h.Snap⟩ hb _
   have n1:decide (r.Kind=1)=false:=decide_eq_false k1
   by_cases k2:r.Kind=2
   ·obtain ⟨y,ok,e1,e2,e3,e4⟩:=logPut_q h.Log r.Prev r.Term r.List (by omega) r1 hrl hb.1.lines hbI r5
    have hy:BLog y:=⟨e3,fun e he=>(e4 e he).elim (hb.1.2 e) (r2 e)⟩
    rw [n1,decide_eq_true k2,e1,e2,Option.bind_some,Option.bind_some]
    simp only [Bool.false_eq_true,if_false,if_true,s_l21Do_L1_eq]
    cases ok with
    | false=>exact done h hb _
    | true=>exact done ⟨h.Term,h.Vote,y,h.Snap⟩ ⟨hy,hb.2⟩ _
   have n2:decide (r.Kind=2)=false:=decide_eq_false k2
   rw [n1,n2]
   by_cases k3:r.Kind=3
   ·obtain ⟨m,ok,e1,e2,e3⟩:=machOf_same (b:=r.Snap) r3 r4 p hp
    have hroom:(r.Snap.length:Nat)≤room:=by rw [room_eq]; omega
    rw [decide_eq_true k3,i_snapped_eq,e1,e2]
    simp only [Bool.false_eq_true,if_false,if_true,if_pos hroom,Option.bind_some,s_l21Do_L1_eq]
    have hm:BMach m:=by
     rcases e3 with rfl | ⟨_,g⟩
     ·exact ⟨⟨⟨by simp [noMach,z_impl_State],fun v hv=>by simp [noMach,z_impl_State] at hv⟩,by simp [noMach,z_impl_State],fun v hv=>by simp [noMach,z_impl_State] at hv⟩,by simp [noMach],by simp [noMach]⟩
     ·exact g
    cases ok with
    | false=>exact done h hb _
    | true =>
     simp only [Bool.not_true,Bool.false_eq_true,if_false]
     by_cases c:r.Prev≤h.Log.Base
     ·simp only [decide_eq_true c,if_true]; exact done h hb _
     ·obtain ⟨t,t1,t2,_⟩:=termAt_same h.Log r.Prev (by omega) hbI r5
      rw [t1,t2]
      simp only [decide_eq_false c,Bool.false_eq_true,if_false,Option.bind_some]
      by_cases ct:t=r.Term
      ·obtain ⟨l,l1,l2,l3,l4⟩:=logCut_q h.Log r.Prev (by omega) hbI r5
       rw [l1,l2]
       simp only [decide_eq_true ct,if_true,Option.bind_some]
       exact done ⟨h.Term,h.Vote,l,m⟩ ⟨⟨by show l.List.length≤_; omega,fun e he=>hb.1.2 e (l4 e he)⟩,hm⟩ _
      ·simp only [decide_eq_false ct,Bool.false_eq_true,if_false]
       exact done ⟨h.Term,h.Vote,⟨r.Prev,r.Term,[]⟩,m⟩ ⟨⟨by simp,fun e he=>by cases he⟩,hm⟩ _
   ·rw [decide_eq_false k3]
    simp only [Bool.false_eq_true,if_false,s_l21Do_L1_eq]
    exact done h hb _
def sumL:List Int→Int→Int→Int
 | [],a,b=>w64 (w64 (b * 65536)+a)
 | x :: l,a,b=>sumL l (Int.tmod (w64 (a+w64 x)) 65521) (Int.tmod (w64 (b+Int.tmod (w64 (a+w64 x)) 65521)) 65521)
def sumOf (l:List Int):Int:=sumL l 1 0
theorem s_SumOf_ok (l:List Int) (hl:l.length≤4294967296):s_SumOf l=some (sumOf l,()):=by
 rw [s_SumOf_eq]
 have key:∀ (d i:Nat) (a b:Int),i+d=l.length→s_SumOf_L1 l a b i=some (sumL (l.drop i) a b,()):=by
  intro d
  induction d with
  | zero =>
   intro i a b hd
   rw [s_SumOf_L1_eq,if_neg (by rw [decide_eq_true_eq]; omega),List.drop_eq_nil_of_le (by omega)]; rfl
  | succ d ih =>
   intro i a b hd
   have hi:i < l.length:=by omega
   rw [s_SumOf_L1_eq,if_pos (decide_eq_true (by omega)),if_pos (by omega),getD_nat hi,w64_succ hi (by omega),ih (i+1) _ _ (by omega),List.drop_eq_getElem_cons hi]; rfl
 have:=key l.length 0 1 0 (by omega)
 simpa [sumOf] using this
theorem i_SumOf_ok (l:List Int) (hl:l.length≤4294967296):i_SumOf l=some (sumOf l,()):=by
 rw [i_SumOf_eq]
 have key:∀ (d i:Nat) (a b:Int),i+d=l.length→i_SumOf_L1 a b l (l.length:Int) i=some (sumL (l.drop i) a b,()):=by
  intro d
  induction d with
  | zero =>
   intro i a b hd
   rw [i_SumOf_L1_eq,if_neg (by rw [decide_eq_true_eq]; omega),List.drop_eq_nil_of_le (by omega)]; rfl
  | succ d ih =>
   intro i a b hd
   have hi:i < l.length:=by omega
   rw [i_SumOf_L1_eq,if_pos (decide_eq_true (by omega)),if_pos (by omega),getD_nat hi,w64_succ hi (by omega),ih (i+1) _ _ (by omega),List.drop_eq_getElem_cons hi]; rfl
 have:=key l.length 0 1 0 (by omega)
 simpa [sumOf] using this
def entBytes (acc:List Int) (e:impl_Entry):List Int:=(((acc ++ putNumOf e.Term) ++ putNumOf (w64 (e.C.Who+1))) ++ putNumOf e.C.Seq) ++ putText e.C.Line
def bodyFrom:List impl_Entry→List Int→List Int
 | [],acc=>acc
 | e :: l,acc=>bodyFrom l (entBytes acc e)
theorem entBytes_len (acc:List Int) (e:impl_Entry) (h:e.C.Line.length≤60):(entBytes acc e).length≤acc.length+96:=by
 unfold entBytes
 simp only [List.length_append]
 have a:=putNumOf_len e.Term
 have b:=putNumOf_len (w64 (e.C.Who+1))
 have c:=putNumOf_len e.C.Seq
 have d:=putText_len e.C.Line
 omega
theorem bodyFrom_len:∀ (l:List impl_Entry) (acc:List Int),(∀ e∈l,e.C.Line.length≤60)→(bodyFrom l acc).length≤acc.length+96 * l.length
 | [],acc,_=>by simp [bodyFrom]
 | e :: l,acc,h=>by
  have h1:=entBytes_len acc e (h e (List.mem_cons_self ..))
  have h2:=bodyFrom_len l (entBytes acc e) fun x hx=>h x (List.mem_cons_of_mem _ hx)
  show (bodyFrom l (entBytes acc e)).length≤_
  rw [List.length_cons]; omega
theorem cmdOk_line {c:impl_Cmd} (h:cmdOk c=true):c.Line.length≤60:=by
 unfold cmdOk at h
 split at h
 ·simp only [Bool.and_eq_true,decide_eq_true_eq] at h; rw [h.2]; exact Nat.zero_le _
 ·simp only [Bool.and_eq_true,decide_eq_true_eq] at h; omega
theorem entriesOk_spec {l:List impl_Entry} {m:Int} (h:entriesOk l m=true):l.length≤40∧∀ e∈l,e.C.Line.length≤60:=by
 unfold entriesOk at h
 simp only [Bool.and_eq_true,decide_eq_true_eq,List.all_eq_true] at h
 refine ⟨by omega,fun e he=>?_⟩
 have:=h.2 e he
 unfold entOk at this
 simp only [Bool.and_eq_true] at this
 exact cmdOk_line this.2
theorem recOk_spec {r:impl_Rec} (h:recOk r=true):r.List.length≤40∧(∀ e∈r.List,e.C.Line.length≤60)∧r.Snap.length≤30000:=by
 unfold recOk at h
 split at h
 ·rename_i hc
  simp only [Bool.and_eq_true,Bool.not_eq_true',decide_eq_false_iff_not] at hc
  have:=entriesOk_spec hc.2.2.1
  exact ⟨this.1,this.2,by omega⟩
 ·cases h
theorem s_l19Body_L1_ok (r:impl_Rec) (hl:r.List.length≤40) (hw:∀ e∈r.List,e.C.Line.length≤60) (hs:r.Snap.length≤30000):∀ (d i:Nat) (acc:List Int),i+d=r.List.length→acc.length≤100+96 * i→s_l19Body_L1 acc i r=some (bodyFrom (r.List.drop i) acc ++ putText r.Snap,()):=by
 intro d
 induction d with
 | zero =>
  intro i acc hd ha
  have a:=putText_len r.Snap
  rw [s_l19Body_L1_eq,if_neg (by rw [decide_eq_true_eq]; omega),s_PutText_ok _ (by omega),Option.bind_some]
  dsimp only
  rw [if_pos (by rw [room_eq]; omega),List.drop_eq_nil_of_le (by omega)]; rfl
 | succ d ih =>
  intro i acc hd ha
  have hi:i < r.List.length:=by omega
  have he:=hw _ (List.getElem_mem hi)
  have a:=putNumOf_len (r.List[i]).Term
  have b:=putNumOf_len (w64 ((r.List[i]).C.Who+1))
  have c:=putNumOf_len (r.List[i]).C.Seq
  have t:=putText_len (r.List[i]).C.Line
  have el:=entBytes_len acc _ he
  have c1:acc.length+(putNumOf (r.List[i]).Term).length≤room:=by rw [room_eq]; omega
  have c2:(acc ++ putNumOf (r.List[i]).Term).length+(putNumOf (w64 ((r.List[i]).C.Who+1))).length≤room:=by rw [room_eq,List.length_append]; omega
  have c3:((acc ++ putNumOf (r.List[i]).Term) ++ putNumOf (w64 ((r.List[i]).C.Who+1))).length+(putNumOf (r.List[i]).C.Seq).length≤room:=by rw [room_eq]; simp only [List.length_append]; omega
  have c4:(((acc ++ putNumOf (r.List[i]).Term) ++ putNumOf (w64 ((r.List[i]).C.Who+1))) ++ putNumOf (r.List[i]).C.Seq).length+(putText (r.List[i]).C.Line).length≤room:=by rw [room_eq]; simp only [List.length_append]; omega
  rw [s_l19Body_L1_eq,if_pos (decide_eq_true (by omega)),if_pos (by omega),getD_nat hi,w64_succ hi (by omega)]
  simp only [s_PutNum_ok,s_PutText_ok _ (show (r.List[i]).C.Line.length≤4000000000 by omega),Option.bind_some,List.append_eq,if_pos c1,if_pos c2,if_pos c3,if_pos c4]
  rw [List.drop_eq_getElem_cons hi]
  exact ih (i+1) (entBytes acc r.List[i]) (by omega) (by omega)
theorem i_RecBytes_L2_ok (r:impl_Rec) (hl:r.List.length≤40) (hw:∀ e∈r.List,e.C.Line.length≤60):∀ (d i:Nat) (acc:List Int),i+d=r.List.length→acc.length≤100+96 * i→i_RecBytes_L2 acc r.List (r.List.length:Int) i r=i_RecBytes_L2 (bodyFrom (r.List.drop i) acc) r.List (r.List.length:Int) (r.List.length:Int) r:=by
 intro d
 induction d with
 | zero =>
  intro i acc hd ha
  rw [List.drop_eq_nil_of_le (by omega),show i=r.List.length by omega]; rfl
 | succ d ih =>
  intro i acc hd ha
  have hi:i < r.List.length:=by omega
  have he:=hw _ (List.getElem_mem hi)
  have a:=putNumOf_len (r.List[i]).Term
  have b:=putNumOf_len (w64 ((r.List[i]).C.Who+1))
  have c:=putNumOf_len (r.List[i]).C.Seq
  have t:=putText_len (r.List[i]).C.Line
  have el:=entBytes_len acc _ he
  have c1:acc.length+(putNumOf (r.List[i]).Term).length≤room:=by rw [room_eq]; omega
  have c2:(acc ++ putNumOf (r.List[i]).Term).length+(putNumOf (w64 ((r.List[i]).C.Who+1))).length≤room:=by rw [room_eq,List.length_append]; omega
  have c3:((acc ++ putNumOf (r.List[i]).Term) ++ putNumOf (w64 ((r.List[i]).C.Who+1))).length+(putNumOf (r.List[i]).C.Seq).length≤room:=by rw [room_eq]; simp only [List.length_append]; omega
  have c4:(((acc ++ putNumOf (r.List[i]).Term) ++ putNumOf (w64 ((r.List[i]).C.Who+1))) ++ putNumOf (r.List[i]).C.Seq).length+(putText (r.List[i]).C.Line).length≤room:=by rw [room_eq]; simp only [List.length_append]; omega
  have step3:i_RecBytes_L3 acc r.List (r.List.length:Int) i [(r.List[i]).Term,w64 ((r.List[i]).C.Who+1),(r.List[i]).C.Seq] 3 0 r r.List[i]=i_RecBytes_L2 (entBytes acc r.List[i]) r.List (r.List.length:Int) ((i+1:Nat):Int) r:=by
   have w1:w64 (0+1)=1:=w64_id (by omega) (by omega)
   have w2:w64 (1+1)=2:=w64_id (by omega) (by omega)
   have w3:w64 (2+1)=3:=w64_id (by omega) (by omega)
   rw [i_RecBytes_L3_eq,if_pos (by decide),if_pos (by simp),i_PutNum_ok,Option.bind_some]
   rw [if_pos (by exact c1),w1,i_RecBytes_L3_eq,if_pos (by decide),if_pos (by simp),i_PutNum_ok,Option.bind_some]
   rw [if_pos (by exact c2),w2,i_RecBytes_L3_eq,if_pos (by decide),if_pos (by simp),i_PutNum_ok,Option.bind_some]
   rw [if_pos (by exact c3),w3,i_RecBytes_L3_eq,if_neg (by decide),i_PutText_ok _ (by omega),Option.bind_some,if_pos (by exact c4),w64_succ hi (by omega)]
   rfl
  rw [i_RecBytes_L2_eq,if_pos (decide_eq_true (by omega)),if_pos (by omega),getD_nat hi,step3,List.drop_eq_getElem_cons hi]
  exact ih (i+1) (entBytes acc r.List[i]) (by omega) (by omega)
def recHead (r:impl_Rec):List Int:=(((putNumOf r.Kind ++ putNumOf r.Term) ++ putNumOf (w64 (r.Vote+1))) ++ putNumOf r.Prev) ++ putNumOf (r.List.length:Int)
def recBody (r:impl_Rec):List Int:=bodyFrom r.List (recHead r) ++ putText r.Snap
def sumBytes (b:List Int):List Int:=[w8 (sumOf b),w8 (shrI .i64 (sumOf b) 8),w8 (shrI .i64 (sumOf b) 16),w8 (shrI .i64 (sumOf b) 24)]
def recBytes (r:impl_Rec):List Int:=if recOk r then (putNumOf ((recBody r).length:Int) ++ recBody r) ++ sumBytes (recBody r) else []
theorem recHead_len (r:impl_Rec):(recHead r).length≤45:=by
 unfold recHead
 simp only [List.length_append]
 have a:=putNumOf_len r.Kind
 have b:=putNumOf_len r.Term
 have c:=putNumOf_len (w64 (r.Vote+1))
 have d:=putNumOf_len r.Prev
 have e:=putNumOf_len (r.List.length:Int)
 omega
theorem recBody_len {r:impl_Rec} (h:recOk r=true):(recBody r).length≤40000:=by
 obtain ⟨h1,h2,h3⟩:=recOk_spec h
 unfold recBody
 rw [List.length_append]
 have a:=bodyFrom_len r.List (recHead r) h2
 have b:=putText_len r.Snap
 have c:=recHead_len r
 omega
theorem recBytes_len (r:impl_Rec):(recBytes r).length≤41000:=by
 unfold recBytes
 split
 ·rename_i h
  have a:=recBody_len h
  have b:=putNumOf_len ((recBody r).length:Int)
  simp only [List.length_append,sumBytes,List.length_cons,List.length_nil]
  omega
 ·simp
theorem s_RecBytes_ok (r:impl_Rec) (hl:r.List.length≤4294967296) (hw:LinesOk r.List):s_RecBytes r=some (recBytes r,()):=by
 rw [s_RecBytes_eq,s_RecOk_ok r hl hw,Option.bind_some]
 unfold recBytes
 cases h:recOk r with
 | false=>rfl
 | true =>
  obtain ⟨h1,h2,h3⟩:=recOk_spec h
  have hb:=recBody_len h
  have a:=putNumOf_len r.Kind
  have b:=putNumOf_len r.Term
  have c:=putNumOf_len (w64 (r.Vote+1))
  have d:=putNumOf_len r.Prev
  have e:=putNumOf_len (r.List.length:Int)
  have f:=putNumOf_len ((recBody r).length:Int)
  have body:s_l19Body r=some (recBody r,()):=by
   rw [s_l19Body_eq]
   have c1:(putNumOf r.Kind).length+(putNumOf r.Term).length≤room:=by rw [room_eq]; omega
   have c2:(putNumOf r.Kind ++ putNumOf r.Term).length+(putNumOf (w64 (r.Vote+1))).length≤room:=by rw [room_eq]; simp only [List.length_append]; omega
   have c3:((putNumOf r.Kind ++ putNumOf r.Term) ++ putNumOf (w64 (r.Vote+1))).length+(putNumOf r.Prev).length≤room:=by rw [room_eq]; simp only [List.length_append]; omega
   have c4:(((putNumOf r.Kind ++ putNumOf r.Term) ++ putNumOf (w64 (r.Vote+1))) ++ putNumOf r.Prev).length+(putNumOf (r.List.length:Int)).length≤room:=by rw [room_eq]; simp only [List.length_append]; omega
   simp only [s_PutNum_ok,Option.bind_some,List.append_eq,if_pos c1,if_pos c2,if_pos c3,if_pos c4]
   exact s_l19Body_L1_ok r h1 h2 h3 r.List.length 0 (recHead r) (by omega) (by have:=recHead_len r; omega)
  rw [if_neg (by simp),body,Option.bind_some,s_PutNum_ok,Option.bind_some]
  dsimp only
  rw [if_pos (by rw [room_eq]; omega),s_l19Sum_eq,s_SumOf_ok _ (by omega)]
  simp only [Option.bind_some,List.append_eq,if_true]
  rw [if_pos (by rw [room_eq]; simp only [List.length_append,List.length_cons,List.length_nil]; omega)]
  rfl
theorem i_RecBytes_ok (r:impl_Rec) (hl:r.List.length≤4294967296):i_RecBytes r=some (recBytes r,()):=by
 rw [i_RecBytes_eq,i_RecOk_ok r hl,Option.bind_some]
 unfold recBytes
 cases h:recOk r with
 | false=>rfl
 | true =>
  obtain ⟨h1,h2,h3⟩:=recOk_spec h
  have hb:=recBody_len h
  have a:=putNumOf_len r.Kind
  have b:=putNumOf_len r.Term
  have c:=putNumOf_len (w64 (r.Vote+1))
  have d:=putNumOf_len r.Prev
  have e:=putNumOf_len (r.List.length:Int)
  have f:=putNumOf_len ((recBody r).length:Int)
  have g:=putText_len r.Snap
  have w1:w64 (0+1)=1:=w64_id (by omega) (by omega)
  have w2:w64 (1+1)=2:=w64_id (by omega) (by omega)
  have w3:w64 (2+1)=3:=w64_id (by omega) (by omega)
  have w4:w64 (3+1)=4:=w64_id (by omega) (by omega)
  have w5:w64 (4+1)=5:=w64_id (by omega) (by omega)
  rw [if_neg (by simp),i_RecBytes_L1_eq,if_pos (by decide),if_pos (by simp),i_PutNum_ok,Option.bind_some]
  rw [if_pos (by show 0+(putNumOf r.Kind).length≤room; rw [room_eq]; omega),w1,i_RecBytes_L1_eq,if_pos (by decide),if_pos (by simp),i_PutNum_ok,Option.bind_some]
  rw [if_pos (by show (putNumOf r.Kind).length+(putNumOf r.Term).length≤room; rw [room_eq]; omega),w2,i_RecBytes_L1_eq,if_pos (by decide),if_pos (by simp),i_PutNum_ok,Option.bind_some]
  rw [if_pos (by show (putNumOf r.Kind ++ putNumOf r.Term).length+(putNumOf (w64 (r.Vote+1))).length≤room; rw [room_eq]; simp only [List.length_append]; omega),w3,i_RecBytes_L1_eq,if_pos (by decide),if_pos (by simp),i_PutNum_ok,Option.bind_some]
  rw [if_pos (by show ((putNumOf r.Kind ++ putNumOf r.Term) ++ putNumOf (w64 (r.Vote+1))).length+(putNumOf r.Prev).length≤room; rw [room_eq]; simp only [List.length_append]; omega),w4,i_RecBytes_L1_eq,if_pos (by decide),if_pos (by simp),i_PutNum_ok,Option.bind_some]
  rw [if_pos (by show (((putNumOf r.Kind ++ putNumOf r.Term) ++ putNumOf (w64 (r.Vote+1))) ++ putNumOf r.Prev).length+(putNumOf (r.List.length:Int)).length≤room; rw [room_eq]; simp only [List.length_append]; omega),w5,i_RecBytes_L1_eq,if_neg (by decide)]
  have key:=i_RecBytes_L2_ok r h1 h2 r.List.length 0 (recHead r) (by omega) (by have:=recHead_len r; omega)
  have key':i_RecBytes_L2 (recHead r) r.List (r.List.length:Int) 0 r=_:=key
  refine Eq.trans key' ?_
  rw [List.drop_zero,i_RecBytes_L2_eq,if_neg (by simp),i_PutText_ok _ (by omega),Option.bind_some]
  have hb':(bodyFrom r.List (recHead r) ++ putText r.Snap).length≤40000:=hb
  have c1:(bodyFrom r.List (recHead r)).length+(putText r.Snap).length≤room:=by rw [List.length_append] at hb'; rw [room_eq]; omega
  simp only [if_pos c1,List.append_eq]
  show ((i_SumOf (recBody r)).bind fun r1=>(i_PutNum ((recBody r).length:Int)).bind fun r2=>if r2.1.length+(recBody r).length≤room then if (r2.1 ++ recBody r).length+4≤room then some ((r2.1 ++ recBody r) ++ [w8 r1.1,w8 (shrI .i64 r1.1 8),w8 (shrI .i64 r1.1 16),w8 (shrI .i64 r1.1 24)],()) else none else none)=_
  rw [i_SumOf_ok _ (by omega),i_PutNum_ok]
  simp only [Option.bind_some]
  rw [if_pos (by rw [room_eq]; omega),if_pos (by rw [room_eq,List.length_append]; omega)]
  rfl
theorem listOk_lines:∀ (l:List impl_Entry) (t:Int),listOk l t=true→∀ e∈l,e.C.Line.length≤60:=by
 intro l
 induction l with
 | nil=>intro t h e he; cases he
 | cons a l ih =>
  intro t h e he
  unfold listOk at h
  obtain ⟨h1,h⟩:=and_iff'.1 h
  obtain ⟨h2,h3⟩:=and_iff'.1 h
  rcases List.mem_cons.1 he with rfl | he
  ·exact cmdOk_line h2
  ·exact ih _ h3 e he
theorem gi_of_ok {p:impl_Prog} {h:impl_Hard} (hh:hardB p h=true):Gi_Hard 2097152 h:=by
 obtain ⟨q1,q2,_⟩:=hardB_log hh
 obtain ⟨h1,h2,h3,_⟩:=logOk_len q1
 have q1':=q1
 unfold logOk at q1'
 have ho:=(and_iff'.1 (and_iff'.1 (and_iff'.1 q1').2).2).2
 unfold Gi_Hard Gi_Log Gi_Entry Gi_Cmd
 exact ⟨⟨by omega,fun e he=>by have:=listOk_lines _ _ ho e he; omega⟩,gi_Mach (machB_fine q2)⟩
theorem append_val (d:impl_Disk) (b:List Int) (hl:d.Bytes.length≤2097152) (hb:b.length≤2097152) :
  ∃ ok,s_Append d b=some (if ok=true then ⟨d.Bytes ++ b,d.Sure⟩ else d,ok,())∧i_Append d b=some (if ok=true then ⟨d.Bytes ++ b,d.Sure⟩ else d,ok,())∧(ok=true→d.Bytes.length+b.length≤80000):=by
 have g:Gi_Disk 2097152 d:=by unfold Gi_Disk; exact hl
 rw [s_Append_eq,i_Append_eq,cpS_Disk d g,cpI_Disk d g,s_DiskOk_ok,i_DiskOk_ok]
 simp only [Option.bind_some]
 rw [w64_id (n:=80000 - (d.Bytes.length:Int)) (by omega) (by omega),w64_id (n:=(d.Bytes.length:Int)+b.length) (by omega) (by omega)]
 cases diskOk d with
 | false=>exact ⟨false,rfl,rfl,fun h=>by cases h⟩
 | true =>
  have hr:d.Bytes.length+b.length≤room:=by rw [room_eq]; omega
  simp only [Bool.not_true,Bool.false_eq_true,if_false,if_pos hr]
  by_cases h:(b.length:Int) > 80000 - (d.Bytes.length:Int)
  ·rw [if_pos (decide_eq_true h),if_pos (decide_eq_true (by omega))]
   exact ⟨false,rfl,rfl,fun h=>by cases h⟩
  ·rw [if_neg (by rw [decide_eq_true_eq]; exact h),if_neg (by rw [decide_eq_true_eq]; omega)]
   exact ⟨true,rfl,rfl,fun _=>by omega⟩
theorem peerB_parts {p:impl_Prog} {n:impl_Peer} {k:Int} (h:peerB p n k=true):(1≤k∧k≤5)∧(0≤n.Id∧n.Id≤w64 (k - 1))∧hardB p n.Hard=true∧n.Hard.Vote < k∧(0≤n.Role∧n.Role≤2)∧(n.Votes.length:Int)=k∧(n.Next.length:Int)=k∧numsBad n.Next 1 (w64 (lastI n.Hard.Log+1))=false∧(n.Match.length:Int)=k∧numsBad n.Match 0 (lastI n.Hard.Log)=false ∧
  (n.Hard.Log.Base≤n.Commit∧n.Commit≤lastI n.Hard.Log)∧machB p n.Now=true∧diskOk n.Disk=true∧(n.Held.length:Int)≤40∧heldBad n k=false:=by
 unfold peerB at h
 obtain ⟨a1,h⟩:=and_iff'.1 h
 obtain ⟨a2,h⟩:=and_iff'.1 h
 obtain ⟨a3,h⟩:=and_iff'.1 h
 obtain ⟨a4,h⟩:=and_iff'.1 h
 obtain ⟨a5,h⟩:=and_iff'.1 h
 obtain ⟨a6,h⟩:=and_iff'.1 h
 obtain ⟨a7,h⟩:=and_iff'.1 h
 obtain ⟨a8,h⟩:=and_iff'.1 h
 obtain ⟨a9,h⟩:=and_iff'.1 h
 obtain ⟨b1,h⟩:=and_iff'.1 h
 obtain ⟨b2,h⟩:=and_iff'.1 h
 obtain ⟨b3,h⟩:=and_iff'.1 h
 obtain ⟨b4,h⟩:=and_iff'.1 h
 obtain ⟨b5,b6⟩:=and_iff'.1 h
 have a4':=of_decide_eq_false (not_true' a4)
 exact ⟨of_decide_eq_true a1,of_decide_eq_true a2,a3,by omega,of_decide_eq_true a5,of_decide_eq_true a6,of_decide_eq_true a7,not_true' a8,of_decide_eq_true a9,not_true' b1,of_decide_eq_true b2,b3,b4,of_decide_eq_true b5,not_true' b6⟩
theorem rpcB_gi {r:impl_Rpc} {k:Int} (h:rpcB r k=true):Gi_Rpc 2097152 r:=by
 unfold rpcB at h
 have h9:=(and_iff'.1 (and_iff'.1 (and_iff'.1 (and_iff'.1 (and_iff'.1 (and_iff'.1 (and_iff'.1 (and_iff'.1 (and_iff'.1 h).2).2).2).2).2).2).2).2).2
 obtain ⟨h1,h2⟩:=and_iff'.1 h9
 obtain ⟨h3,h4⟩:=entriesOk_spec h1
 have h2':=of_decide_eq_true h2
 unfold Gi_Rpc Gi_Entry Gi_Cmd
 exact ⟨⟨by omega,fun e he=>by have:=h4 e he; omega⟩,by omega⟩
theorem gi_of_peerB {p:impl_Prog} {n:impl_Peer} {k:Int} (h:peerB p n k=true):Gi_Peer 2097152 n:=by
 obtain ⟨a1,a2,a3,a4,a5,a6,a7,a8,a9,b1,b2,b3,b4,b5,b6⟩:=peerB_parts h
 have hd:=diskOk_iff.1 b4
 unfold Gi_Peer Gi_Disk
 refine ⟨gi_of_ok a3,by omega,by omega,by omega,gi_Mach (machB_fine b3),by omega,by omega,fun r hr=>?_⟩
 have:=any_false b6 r hr
 rw [Bool.or_eq_false_iff] at this
 exact rpcB_gi (by cases e:rpcB r k with | true=>rfl | false=>rw [e] at this; cases this.1)
theorem writeDown_same (p:impl_Prog) (n:impl_Peer) (r:impl_Rec) (hp:BProg p) (hb:BPeer n) (gn:Gi_Peer 2097152 n) (hr:BRec r) :
  ∃ y ok,s_WriteDown p n r=some (y,ok,())∧i_WriteDown p n r=some (y,ok,())∧BPeer y∧Gi_Peer 2097152 y∧(ok=false→y=n) ∧
   (ok=true→peerB p y (n.Votes.length:Int)=true∧∃ h' d',i_HardDo p n.Hard r=some (h',())∧y=⟨n.Id,h',n.Role,n.Votes,n.Next,n.Match,n.Commit,n.Now,d',n.Held⟩):=by
 obtain ⟨h1,h2,h3,h4,h5,h6,h7,h8⟩:=hb
 have ghard:Gi_Hard 2097152 n.Hard:=by unfold Gi_Peer at gn; exact gn.1
 obtain ⟨⟨r1,r2⟩,r3,r5⟩:=hr
 have hrl:LinesOk r.List:=fun e he=>by have:=r2 e he; omega
 obtain ⟨y,t1,t2,t3,t4⟩:=hardDo_same p n.Hard r hp h1 ghard ⟨⟨r1,r2⟩,r3,r5⟩
 have hl:=recBytes_len r
 obtain ⟨ok,u1,u2,u3⟩:=append_val n.Disk (recBytes r) h6 (by omega)
 rw [s_WriteDown_eq,i_WriteDown_eq,cpS_Peer n gn,cpI_Peer n gn,s_RecBytes_ok r (by omega) hrl,i_RecBytes_ok r (by omega),s_RecOk_ok r (by omega) hrl,i_RecOk_ok r (by omega),t1,t2]
 simp only [Option.bind_some]
 rw [u1,u2]
 simp only [Option.bind_some]
 have bad:∃ y ok,some (n,false,())=some (y,ok,())∧some (n,false,())=some (y,ok,())∧BPeer y∧Gi_Peer 2097152 y∧(ok=false→y=n)∧(ok=true→peerB p y (n.Votes.length:Int)=true∧∃ h' d',some (h',())=some (h',())∧y=⟨n.Id,h',n.Role,n.Votes,n.Next,n.Match,n.Commit,n.Now,d',n.Held⟩) :=
  ⟨n,false,rfl,rfl,⟨h1,h2,h3,h4,h5,h6,h7,h8⟩,gn,fun _=>rfl,fun h=>by cases h⟩
 have bad':∃ y' ok,some (n,false,())=some (y',ok,())∧some (n,false,())=some (y',ok,())∧BPeer y'∧Gi_Peer 2097152 y'∧(ok=false→y'=n)∧(ok=true→peerB p y' (n.Votes.length:Int)=true∧∃ h' d',some (y,())=some (h',())∧y'=⟨n.Id,h',n.Role,n.Votes,n.Next,n.Match,n.Commit,n.Now,d',n.Held⟩) :=
  ⟨n,false,rfl,rfl,⟨h1,h2,h3,h4,h5,h6,h7,h8⟩,gn,fun _=>rfl,fun h=>by cases h⟩
 cases ok with
 | false=>cases recOk r <;> exact bad'
 | true =>
  cases recOk r with
  | false=>exact bad'
  | true =>
   have hlen:=u3 rfl
   have bY:BPeer ⟨n.Id,y,n.Role,n.Votes,n.Next,n.Match,n.Commit,n.Now,⟨n.Disk.Bytes ++ recBytes r,n.Disk.Sure⟩,n.Held⟩ :=
    ⟨t3,h2,h3,h4,h5,by show (n.Disk.Bytes ++ recBytes r).length≤_; rw [List.length_append]; omega,h7,h8⟩
   simp only [Bool.not_true,Bool.false_eq_true,if_false,if_true]
   rw [s_PeerOk_ok p _ _ hp bY,i_PeerOk_ok p _ _ hp bY,Option.bind_some]
   cases hP:peerB p ⟨n.Id,y,n.Role,n.Votes,n.Next,n.Match,n.Commit,n.Now,⟨n.Disk.Bytes ++ recBytes r,n.Disk.Sure⟩,n.Held⟩ (n.Votes.length:Int) with
   | false=>exact bad'
   | true=>exact ⟨_,true,rfl,rfl,bY,gi_of_peerB hP,(fun h=>by cases h),fun _=>⟨hP,y,_,rfl,rfl⟩⟩
def told (n:impl_Peer) (to:Int) (r:impl_Rpc):impl_Rpc:=⟨r.Kind,n.Id,to,n.Hard.Term,r.Index,r.IndexTerm,r.Commit,r.List,r.Ok,r.Snap⟩
def tellOf (n:impl_Peer) (r:impl_Rpc):impl_Peer × Bool:=if (n.Held.length:Int) ≥ 40 then (n,false) else (⟨n.Id,n.Hard,n.Role,n.Votes,n.Next,n.Match,n.Commit,n.Now,n.Disk,n.Held ++ [r]⟩,true)
theorem tell_val (n:impl_Peer) (r:impl_Rpc) (hn:Gi_Peer 2097152 n) (hr:Gi_Rpc 2097152 r):s_Tell n r=some ((tellOf n r).1,(tellOf n r).2,())∧i_Tell n r=some ((tellOf n r).1,(tellOf n r).2,())∧Gi_Peer 2097152 (tellOf n r).1:=by
 rw [s_Tell_eq,i_Tell_eq,cpS_Peer n hn,cpI_Peer n hn,Option.bind_some,Option.bind_some]
 unfold tellOf
 by_cases h:(n.Held.length:Int) ≥ 40
 ·rw [if_pos h]
  dsimp only
  rw [if_pos (decide_eq_true h),if_pos (decide_eq_true h)]; exact ⟨rfl,rfl,hn⟩
 ·rw [if_neg h]
  dsimp only
  rw [if_neg (by rw [decide_eq_true_eq]; exact h),if_neg (by rw [decide_eq_true_eq]; exact h),cpS_Rpc r hr,cpI_Rpc r hr,Option.bind_some]
  dsimp only
  rw [if_pos (by rw [room_eq]; omega)]
  refine ⟨rfl,rfl,?_⟩
  unfold Gi_Peer at hn ⊢
  obtain ⟨h1,h2,h3,h4,h5,h6,h7,h8⟩:=hn
  refine ⟨h1,h2,h3,h4,h5,h6,?_,fun y hy=>?_⟩
  ·show (n.Held ++ [r]).length≤2097152
   rw [List.length_append]; simp only [List.length_cons,List.length_nil]; omega
  ·rcases List.mem_append.1 hy with hy | hy
   ·exact h8 y hy
   ·rw [List.mem_singleton.1 hy]; exact hr
theorem brpc_of_gi {r:impl_Rpc} (h:Gi_Rpc 2097152 r):BRpc r:=⟨h.1.1,fun e he=>h.1.2 e he⟩
theorem sTell_ok (p:impl_Prog) (n:impl_Peer) (k:Int) (r:impl_Rpc) (hn:Gi_Peer 2097152 n) (hr:Gi_Rpc 2097152 r):s_l23Tell (spec_l23Work.mk p k n true) r=some (spec_l23Work.mk p k (tellOf n (told n r.To r)).1 ((tellOf n (told n r.To r)).2 && rpcB (told n r.To r) k),()):=by
 have hr':Gi_Rpc 2097152 (told n r.To r):=hr
 obtain ⟨t1,_,_⟩:=tell_val n (told n r.To r) hn hr'
 have t1':s_Tell n (impl_Rpc.mk r.Kind n.Id r.To n.Hard.Term r.Index r.IndexTerm r.Commit r.List r.Ok r.Snap)=some ((tellOf n (told n r.To r)).1,(tellOf n (told n r.To r)).2,()):=t1
 have t2':s_RpcOk (impl_Rpc.mk r.Kind n.Id r.To n.Hard.Term r.Index r.IndexTerm r.Commit r.List r.Ok r.Snap) k=some (rpcB (told n r.To r) k,()):=(rpc_ok (told n r.To r) k (brpc_of_gi hr')).1
 rw [s_l23Tell_eq]
 dsimp only
 rw [if_neg (by decide),t1',Option.bind_some]
 dsimp only
 cases (tellOf n (told n r.To r)).2 with
 | false=>rw [if_neg (by decide)]; rfl
 | true=>rw [if_pos rfl,t2']; rfl
theorem iTell_ok (p:impl_Prog) (n:impl_Peer) (k:Int) (no:Bool) (to:Int) (r:impl_Rpc) (hn:Gi_Peer 2097152 n) (hr:Gi_Rpc 2097152 r):i_act_tell p n k no to r=some ((p,((tellOf n (told n to r)).1,(k,(if (tellOf n (told n to r)).2=true then no else true,())))),()):=by
 have hr':Gi_Rpc 2097152 (told n to r):=hr
 obtain ⟨_,t1,_⟩:=tell_val n (told n to r) hn hr'
 have t1':i_Tell n (impl_Rpc.mk r.Kind n.Id to n.Hard.Term r.Index r.IndexTerm r.Commit r.List r.Ok r.Snap)=some ((tellOf n (told n to r)).1,(tellOf n (told n to r)).2,()):=t1
 rw [i_act_tell_eq]
 dsimp only
 rw [t1',Option.bind_some]
 dsimp only
 cases (tellOf n (told n to r)).2 with
 | false=>rw [if_pos (by decide),if_neg (by decide)]
 | true=>rw [if_neg (by decide),if_pos rfl]
theorem lastI_val {l:impl_Log} (h:logOk l=true):lastI l=l.Base+l.List.length∧InI (lastI l):=by
 obtain ⟨w1,w2,w3,_⟩:=logOk_len h
 have:lastI l=l.Base+l.List.length:=by
  unfold lastI
  split
  ·omega
  ·rw [w64_id (by omega) (by omega)]
 exact ⟨this,by unfold InI; omega⟩
theorem logPut_one (l:impl_Log) (e:impl_Entry) (hlog:logOk l=true):∃ ok,i_LogPut l (lastI l) (lastT l) [e]=some (if ok=true then ⟨l.Base,l.BaseTerm,l.List ++ [e]⟩ else l,ok,()):=by
 obtain ⟨w1,w2,w3,_⟩:=logOk_len hlog
 obtain ⟨i1,i2⟩:=lastI_val hlog
 obtain ⟨q,_,q2,_⟩:=termAt_same l (lastI l) (by omega) (by unfold InI; omega) i2
 rw [i_LogPut_eq,i_LogOk_ok l (by omega),cloneLog_ok l (by omega),q2,hlog]
 simp only [Option.bind_some,Bool.not_true,Bool.false_eq_true,if_false,decide_eq_true_eq]
 by_cases ht:lastT l < 0
 ·rw [if_pos ht]; exact ⟨false,rfl⟩
 rw [if_neg ht]
 cases decide (q=lastT l) with
 | false=>exact ⟨false,rfl⟩
 | true =>
  have e1:w64 (lastI l - l.Base)=(l.List.length:Int):=by rw [i1,w64_id (by omega) (by omega)]; omega
  have e2:w64 ((l.List.length:Int)+0)=(l.List.length:Int):=by rw [w64_id (by omega) (by omega)]; omega
  have e3:w64 ((0:Int)+1)=1:=by decide
  have n1:¬ decide ((l.List.length:Int) < (l.List.length:Int))=true:=by rw [decide_eq_true_eq]; omega
  have r1:l.List.length+1≤room:=by rw [room_eq]; omega
  simp only [Bool.not_true,Bool.false_eq_true,if_false]
  rw [i_LogPut_L1_eq,if_pos (by simp),if_pos (by simp),e1,e2,e3,if_neg n1,if_pos r1,i_LogPut_L1_eq,if_neg (by simp)]
  have hl:(l.List ++ [e]).length=l.List.length+1:=by rw [List.length_append]; rfl
  have o1:List.append l.List [List.getD [e] (0:Int).toNat z_impl_Entry]=l.List ++ [e]:=rfl
  rw [o1,i_LogOk_ok _ (by show (l.List ++ [e]).length≤_; rw [hl]; omega),Option.bind_some,cloneLog_ok l (by omega)]
  cases logOk (impl_Log.mk l.Base l.BaseTerm (l.List ++ [e])) with
  | false=>exact ⟨false,rfl⟩
  | true=>exact ⟨true,rfl⟩
theorem hardDo_put (p:impl_Prog) (h:impl_Hard) (r:impl_Rec) (e:impl_Entry) (hp:BProg p) (hb:BHard h) (gh:Gi_Hard 2097152 h) (he:e.C.Line.length≤2097152) (hk:r.Kind=2) (h1:r.Prev=lastI h.Log) (h2:r.Term=lastT h.Log) (h3:r.List=[e]) {y:impl_Hard}
  (hy:i_HardDo p h r=some (y,())):y.Log=h.Log∨y.Log=⟨h.Log.Base,h.Log.BaseTerm,h.Log.List ++ [e]⟩:=by
 rw [i_HardDo_eq,cpI_Hard h gh,i_HardOk_ok p h hp hb,i_RecOk_ok r (by rw [h3]; simp)] at hy
 simp only [Option.bind_some] at hy
 have self:∀ {x:impl_Hard},(some (h,()):Option (impl_Hard × Unit))=some (x,())→x.Log=h.Log∨x.Log=⟨h.Log.Base,h.Log.BaseTerm,h.Log.List ++ [e]⟩:=fun {x} hx=>by
  have:h=x:=congrArg Prod.fst (Option.some.inj hx)
  subst this
  exact .inl rfl
 cases hB:hardB p h with
 | false=>rw [hB,if_pos (by decide)] at hy; exact self hy
 | true =>
  rw [hB,if_neg (by decide)] at hy
  cases hR:recOk r with
  | false=>rw [hR,if_pos (by decide)] at hy; exact self hy
  | true =>
   obtain ⟨l1,_⟩:=hardB_log hB
   have w3:=(logOk_len l1).2.2.1
   have w1:=(logOk_len l1).1
   rw [hR,if_neg (by decide),if_neg (by rw [hk]; decide),if_pos (decide_eq_true hk)] at hy
   obtain ⟨ok,k1⟩:=logPut_one h.Log e l1
   rw [h1,h2,h3,k1,Option.bind_some] at hy
   cases ok with
   | false =>
    simp only [Bool.false_eq_true,if_false] at hy
    rw [(hardEnd hp hb gh hb z_impl_Hard).1] at hy
    cases hh:hardB p h <;> (rw [hh] at hy; exact self hy)
   | true =>
    simp only [if_true] at hy
    have bY:BHard ⟨h.Term,h.Vote,⟨h.Log.Base,h.Log.BaseTerm,h.Log.List ++ [e]⟩,h.Snap⟩:=by
     refine ⟨⟨?_,fun x hx=>?_⟩,hb.2⟩
     ·show (h.Log.List ++ [e]).length≤_
      rw [List.length_append,List.length_singleton]; omega
     ·rcases List.mem_append.1 hx with hx | hx
      ·exact hb.1.2 x hx
      ·rw [List.mem_singleton.1 hx]; exact he
    rw [(hardEnd hp hb gh bY z_impl_Hard).1] at hy
    cases hh:hardB p ⟨h.Term,h.Vote,⟨h.Log.Base,h.Log.BaseTerm,h.Log.List ++ [e]⟩,h.Snap⟩ with
    | false=>rw [hh] at hy; exact self hy
    | true =>
     rw [hh,if_pos rfl] at hy
     have e1:impl_Hard.mk h.Term h.Vote ⟨h.Log.Base,h.Log.BaseTerm,h.Log.List ++ [e]⟩ h.Snap=y:=congrArg Prod.fst (Option.some.inj hy)
     subst e1
     exact .inr rfl
def mxT:List impl_Entry→Int→Int
 | [],t=>t
 | e :: l,_=>mxT l e.Term
theorem listOk_mx:∀ (l:List impl_Entry) (t:Int),listOk l t=true→t≤mxT l t∧∀ e∈l,t≤e.Term∧e.Term≤300∧e.Term≤mxT l t∧cmdOk e.C=true
 | [],t,h=>⟨Int.le_refl _,fun e he=>by cases he⟩
 | a :: l,t,h=>by
  unfold listOk at h
  obtain ⟨h1,h2⟩:=and_iff'.1 h
  obtain ⟨h3,h4⟩:=and_iff'.1 h2
  have h1':=of_decide_eq_true h1
  obtain ⟨i1,i2⟩:=listOk_mx l a.Term h4
  refine ⟨by show t≤mxT l a.Term; omega,fun e he=>?_⟩
  show t≤e.Term∧e.Term≤300∧e.Term≤mxT l a.Term∧_
  rcases List.mem_cons.1 he with rfl | he
  ·exact ⟨h1'.1,h1'.2,i1,h3⟩
  ·obtain ⟨j1,j2,j3,j4⟩:=i2 e he
   exact ⟨by omega,j2,j3,j4⟩
theorem rpcB_mk {r:impl_Rpc} {n:Int} (h1:1≤r.Kind∧r.Kind≤5) (h2:1≤n∧n≤5) (h3:0≤r.From∧r.From≤w64 (n - 1)) (h4:0≤r.To∧r.To≤w64 (n - 1)) (h5:¬ r.From=r.To) (h6:0≤r.Term∧r.Term≤300) (h7:0≤r.Index∧r.Index≤300) (h8:0≤r.IndexTerm∧r.IndexTerm≤300) (h9:0≤r.Commit∧r.Commit≤300) (ha:entriesOk r.List r.Term=true) (hb:(r.Snap.length:Int)≤30000):rpcB r n=true:=by
 unfold rpcB
 rw [decide_eq_true h1,decide_eq_true h2,decide_eq_true h3,decide_eq_true h4,decide_eq_false h5,decide_eq_true h6,decide_eq_true h7,decide_eq_true h8,decide_eq_true h9,ha,decide_eq_true hb]; rfl
theorem actPut_ok (p:impl_Prog) (n:impl_Peer) (k:Int) (e:impl_Entry) (hn:n.Hard.Log.List.length≤2097152) {y:impl_Peer} {ok:Bool} (h:i_WriteDown p n (impl_Rec.mk 2 (lastT n.Hard.Log) 0 (lastI n.Hard.Log) [e] [])=some (y,ok,())) :
  i_act_put p n k false [e]=some ((p,(y,(k,(!ok,())))),()):=by
 rw [i_act_put_eq,i_LastOf_ok _ hn,Option.bind_some,i_act_write_eq]
 dsimp only
 rw [h,Option.bind_some]
 cases ok <;> rfl
theorem actEnd_no (p:impl_Prog) (y n:impl_Peer) (k:Int) (gn:Gi_Peer 2097152 n):i_act_end p y k true n=some (n,false,(p,((),(k,(true,())))),()):=by
 rw [i_act_end_eq,if_pos rfl,cpI_Peer n gn]; rfl
theorem actEnd_yes (p:impl_Prog) (y n:impl_Peer) (k:Int):i_act_end p y k false n=some (y,true,(p,((),(k,(false,())))),()):=by
 rw [i_act_end_eq,if_neg (by decide)]
theorem put_spec (p:impl_Prog) (n:impl_Peer) (e:impl_Entry) (hp:BProg p) (hb:BPeer n) (gn:Gi_Peer 2097152 n) (he:e.C.Line.length≤2097152) (hlog:logOk n.Hard.Log=true) :
  ∃ y ok,s_WriteDown p n (impl_Rec.mk 2 (lastT n.Hard.Log) 0 (lastI n.Hard.Log) [e] [])=some (y,ok,())∧i_WriteDown p n (impl_Rec.mk 2 (lastT n.Hard.Log) 0 (lastI n.Hard.Log) [e] [])=some (y,ok,())∧BPeer y∧Gi_Peer 2097152 y∧(ok=false→y=n) ∧
   (ok=true→peerB p y (n.Votes.length:Int)=true)∧(y.Hard.Log=n.Hard.Log∨y.Hard.Log=⟨n.Hard.Log.Base,n.Hard.Log.BaseTerm,n.Hard.Log.List ++ [e]⟩):=by
 obtain ⟨y,ok,t1,t2,t3,t4,t5,t6⟩:=writeDown_same p n (impl_Rec.mk 2 (lastT n.Hard.Log) 0 (lastI n.Hard.Log) [e] []) hp hb gn ⟨⟨by simp,fun x hx=>by rw [List.mem_singleton.1 hx]; exact he⟩,⟨by simp,fun x hx=>by cases hx⟩,(lastI_val hlog).2⟩
 refine ⟨y,ok,t1,t2,t3,t4,t5,fun h=>(t6 h).1,?_⟩
 cases ok with
 | false=>rw [t5 rfl]; exact .inl rfl
 | true =>
  obtain ⟨_,h',d',g1,g2⟩:=t6 rfl
  have gh:Gi_Hard 2097152 n.Hard:=by unfold Gi_Peer at gn; exact gn.1
  have:=hardDo_put p n.Hard _ e hp hb.1 gh he rfl rfl rfl rfl g1
  rw [g2]
  exact this
end Go.Proofs.YtcngnpahpbaagaaGreatDoor.E.TH
