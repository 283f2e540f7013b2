/- What the pure statement needs (2). No condition. -/
import Derived.Test.YtcngnpahpbaagaaGreatDoorM1
import Derived.Test.YtcngnpahpbaagaaGreatDoorTHe1
import Derived.Test.YtcngnpahpbaagaaGreatDoorTHe2
import Derived.Test.YtcngnpahpbaagaaGreatDoorTHe3
namespace Go.Proofs.YtcngnpahpbaagaaGreatDoor.E.TH
open Go.Proofs.YtcngnpahpbaagaaGreatDoor.E
set_option linter.unusedVariables false
noncomputable def looksV (s:List Int):Int × Bool:=match s_DecLooks s with
 | some (v,ok,_)=>(v,ok)
 | none=>(0,false)
theorem looks_ok (s:List Int) (hs:s.length≤1000000) (hb:Bt s):s_DecLooks s=some ((looksV s).1,(looksV s).2,())∧i_DecLooks s=some ((looksV s).1,(looksV s).2,()):=by
 obtain ⟨v,ok,e1,e2,_⟩:=decLooks_same s hs hb
 have:looksV s=(v,ok):=by unfold looksV; rw [e1]
 rw [this]; exact ⟨e1,e2⟩
noncomputable def valB (v:impl_Val):Bool:=(decide (-9000000000000≤v.N∧v.N≤9000000000000) && !decide ((v.S.length:Int) > 300)) &&
 (if v.Kind=0 then decide (v.N=0) && decide (v.S=[]) else if v.Kind=1 then decide (v.S=[]) else if v.Kind=2 then decide (v.N=0) else if v.Kind=3 then (looksV v.S).2 && decide ((looksV v.S).1=v.N) else false)
theorem i_ValOk_ok (v:impl_Val) (hb:Bt v.S):i_ValOk v=some (valB v,()):=by
 rw [i_ValOk_eq,i_DecOk_val,Option.bind_some]
 dsimp only
 unfold valB
 cases decide (-9000000000000≤v.N∧v.N≤9000000000000) with
 | false=>rfl
 | true =>
  by_cases h:(v.S.length:Int) > 300
  ·rw [decide_eq_true h]; rfl
  ·rw [decide_eq_false h,(looks_ok v.S (by omega) hb).2,Option.bind_some]
   dsimp only
   simp only [ite_and]
   by_cases c0:v.Kind=0
   ·simp [c0]
   by_cases c1:v.Kind=1
   ·simp [c1]
   by_cases c2:v.Kind=2
   ·simp [c2]
   by_cases c3:v.Kind=3
   ·simp [c3]
   simp [c0,c1,c2,c3]
theorem s_ValOk_ok (v:impl_Val) (hb:Bt v.S):s_ValOk v=some (valB v,()):=by
 rw [s_ValOk_eq,s_DecOk_ok,s_l1In_ok,Option.bind_some,Option.bind_some]
 dsimp only
 unfold valB
 by_cases hk:0≤v.Kind∧v.Kind≤3
 ·rw [decide_eq_true hk]
  cases decide (-9000000000000≤v.N∧v.N≤9000000000000) with
  | false=>rfl
  | true =>
   by_cases h:(v.S.length:Int) > 300
   ·rw [decide_eq_true h]; rfl
   ·rw [decide_eq_false h,(looks_ok v.S (by omega) hb).1,Option.bind_some]
    dsimp only
    simp only [ite_and]
    by_cases c0:v.Kind=0
    ·simp [c0]
    by_cases c1:v.Kind=1
    ·simp [c1]
    by_cases c2:v.Kind=2
    ·simp [c2]
    have c3:v.Kind=3:=by omega
    simp [c3]
 ·rw [decide_eq_false hk,if_pos (c:=(!false)=true) rfl,if_neg (c:=v.Kind=0) (by omega),if_neg (c:=v.Kind=1) (by omega),if_neg (c:=v.Kind=2) (by omega),if_neg (c:=v.Kind=3) (by omega),Bool.and_false]
def cellLess (a b:impl_Cell):Bool:=decide (a.Name < b.Name) || (decide (a.Name=b.Name) && ltS a.Key b.Key)
theorem s_l11Less_ok (a:impl_Cell) (n:Int) (k:List Int):s_l11Less a n k=some (decide (a.Name < n) || (decide (a.Name=n) && ltS a.Key k),()):=by
 rw [s_l11Less_eq]
 cases decide (a.Name < n) <;> cases decide (a.Name=n) <;> rfl
theorem strCompare_ok (a b:List Int):x_strings_Compare a b=some (cmpI a b,()):=by
 rw [x_strings_Compare_eq,x_internal_bytealg_CompareString_eq,x_internal_bytealg_abigen_runtime_cmpstring_eq]; rfl
theorem cmp_ge (a b:List Int):decide (cmpI a b ≥ 0) = !ltS a b:=by
 unfold cmpI
 cases ltS a b with
 | true=>rfl
 | false=>cases ltS b a <;> rfl
theorem i_cellBefore_ok (a b:impl_Cell):∃ k,i_cellBefore a b=some (k,())∧decide (k ≥ 0) = !cellLess a b:=by
 rw [i_cellBefore_eq,strCompare_ok,Option.bind_some]
 unfold cellLess
 by_cases h:a.Name < b.Name
 ·rw [if_pos (decide_eq_true h),decide_eq_true h]; exact ⟨_,rfl,rfl⟩
 ·rw [if_neg (by rw [decide_eq_true_eq]; exact h),decide_eq_false h]
  by_cases g:a.Name > b.Name
  ·rw [if_pos (decide_eq_true g),decide_eq_false (by omega)]; exact ⟨_,rfl,rfl⟩
  ·rw [if_neg (by rw [decide_eq_true_eq]; exact g),decide_eq_true (by omega)]
   refine ⟨_,rfl,?_⟩
   rw [cmp_ge]; rfl
noncomputable def cellBad (l:List impl_Cell) (c:Int) (i:Nat):Bool :=
 decide ((l.getD i z_impl_Cell).Name < 0) || (decide ((l.getD i z_impl_Cell).Name ≥ c) || (decide (((l.getD i z_impl_Cell).Key.length:Int) > 300) || (!valB (l.getD i z_impl_Cell).Val || (decide ((i:Int) > 0) && !cellLess (l.getD (i - 1) z_impl_Cell) (l.getD i z_impl_Cell)))))
noncomputable def stateB (s:impl_State) (v c:Int):Bool :=
 decide ((s.Vars.length:Int)=v) && (!s.Vars.any (fun x=>!valB x) && (decide ((s.Cells.length:Int)≤40) && (decide (0≤s.Nr∧s.Nr≤1000000) && (decide (0≤s.Err∧s.Err≤7) && !anyB (cellBad s.Cells c) s.Cells.length))))
def BState (s:impl_State):Prop:=(s.Vars.length≤2097152∧∀ v∈s.Vars,Bt v.S)∧s.Cells.length≤2097152∧∀ c∈s.Cells,Bt c.Val.S
theorem anyVals_ok (l:List impl_Val) (hl:l.length≤4294967296) (hb:∀ v∈l,Bt v.S):x_slices_ContainsFunc_impl_Val_StateOk_1 l=some (l.any (fun x=>!valB x),()):=by
 rw [x_slices_ContainsFunc_impl_Val_StateOk_1_eq,x_slices_IndexFunc_impl_Val_StateOk_1_eq]
 obtain ⟨k,e,e1,_⟩:=index_loop (fun i=>x_slices_IndexFunc_impl_Val_StateOk_1_L1 l (l.length:Int) i) () l.length (fun i=>!valB (l.getD i z_impl_Val)) (fun i hi=>by
  show x_slices_IndexFunc_impl_Val_StateOk_1_L1 l _ i=_
  rw [x_slices_IndexFunc_impl_Val_StateOk_1_L1_eq,if_pos (decide_eq_true (by omega)),if_pos (by omega),w64_succ hi (by omega),Int.toNat_natCast,i_StateOk_1_eq,i_ValOk_ok _ (by rw [getD_lt hi]; exact hb _ (List.getElem_mem hi)),Option.bind_some,Option.bind_some]) (by
  show x_slices_IndexFunc_impl_Val_StateOk_1_L1 l _ _=_
  rw [x_slices_IndexFunc_impl_Val_StateOk_1_L1_eq,if_neg (by simp)])
 rw [e,Option.bind_some]
 dsimp only
 rw [e1,anyB_list l z_impl_Val (fun x=>!valB x)]
theorem i_cells_ok (s:impl_State) (c:Int) (hl:s.Cells.length≤4294967296) (hb:∀ x∈s.Cells,Bt x.Val.S):i_StateOk_L1 c s.Cells (s.Cells.length:Int) 0 s=some (!anyB (cellBad s.Cells c) s.Cells.length,()):=by
 have:=find_loopN (fun i=>i_StateOk_L1 c s.Cells (s.Cells.length:Int) i s) s.Cells.length (cellBad s.Cells c) (some (false,())) (some (true,())) (fun i hi=>by
  show i_StateOk_L1 c s.Cells _ i s=_
  obtain ⟨k,e,e1⟩:=i_cellBefore_ok (s.Cells.getD (i - 1) z_impl_Cell) (s.Cells.getD i z_impl_Cell)
  rw [i_StateOk_L1_eq,if_pos (decide_eq_true (by omega)),if_pos (by omega),w64_succ hi (by omega),Int.toNat_natCast,i_ValOk_ok _ (by rw [getD_lt hi]; exact hb _ (List.getElem_mem hi)),Option.bind_some]
  dsimp only
  unfold cellBad
  by_cases h0:(i:Int) > 0
  ·have w1:w64 ((i:Int) - 1)=((i - 1:Nat):Int):=by rw [w64_id (by omega) (by omega)]; omega
   rw [decide_eq_true h0,w1,Int.toNat_natCast,if_pos (c:=(true=true)) rfl,if_pos (c:=0≤((i - 1:Nat):Int)∧((i - 1:Nat):Int) < (s.Cells.length:Int)) (by omega),e,Option.bind_some]
   dsimp only
   rw [e1]
   cases decide ((s.Cells.getD i z_impl_Cell).Name < 0) <;> cases decide ((s.Cells.getD i z_impl_Cell).Name ≥ c) <;> cases decide (((s.Cells.getD i z_impl_Cell).Key.length:Int) > 300) <;> cases valB (s.Cells.getD i z_impl_Cell).Val <;> rfl
  ·rw [decide_eq_false h0,if_neg (c:=(false=true)) (by simp)]
   cases decide ((s.Cells.getD i z_impl_Cell).Name < 0) <;> cases decide ((s.Cells.getD i z_impl_Cell).Name ≥ c) <;> cases decide (((s.Cells.getD i z_impl_Cell).Key.length:Int) > 300) <;> cases valB (s.Cells.getD i z_impl_Cell).Val <;> rfl) (by
  show i_StateOk_L1 c s.Cells _ _ s=_
  rw [i_StateOk_L1_eq,if_neg (by simp)])
 rw [this]
 cases anyB (cellBad s.Cells c) s.Cells.length <;> rfl
theorem i_StateOk_ok (s:impl_State) (v c:Int) (h:BState s):i_StateOk s v c=some (stateB s v c,()):=by
 rw [i_StateOk_eq,anyVals_ok s.Vars (by have:=h.1.1; omega) h.1.2,i_in_ok,i_in_ok,i_cells_ok s c (by have:=h.2.1; omega) h.2.2]
 simp only [Option.bind_some]
 have e:decide ((s.Cells.length:Int) > 40) = !decide ((s.Cells.length:Int)≤40):=by
  by_cases g:(s.Cells.length:Int)≤40
  ·rw [decide_eq_true g,decide_eq_false (by omega)]; rfl
  ·rw [decide_eq_false g,decide_eq_true (by omega)]; rfl
 unfold stateB
 rw [e]
 cases decide ((s.Vars.length:Int)=v) <;> cases s.Vars.any (fun x=>!valB x) <;> cases decide ((s.Cells.length:Int)≤40) <;> cases decide (0≤s.Nr∧s.Nr≤1000000) <;> cases decide (0≤s.Err∧s.Err≤7) <;> rfl
theorem s_StateOk_ok (s:impl_State) (v c:Int) (h:BState s):s_StateOk s v c=some (stateB s v c,()):=by
 have h1:=h.1.1
 have h2:=h.2.1
 rw [s_StateOk_eq]
 have f2:=find_loopN (fun i=>s_StateOk_L2 v c i s) s.Cells.length (cellBad s.Cells c) (some (false,())) (some (decide ((s.Vars.length:Int)=v) && (decide ((s.Cells.length:Int)≤40) && (decide (0≤s.Nr∧s.Nr≤1000000) && decide (0≤s.Err∧s.Err≤7))),())) (fun i hi=>by
  show s_StateOk_L2 v c i s=_
  rw [s_StateOk_L2_eq,if_pos (decide_eq_true (by omega)),if_pos (by omega),w64_succ hi (by omega),Int.toNat_natCast,s_ValOk_ok _ (by rw [getD_lt hi]; exact h.2.2 _ (List.getElem_mem hi)),Option.bind_some]
  dsimp only
  unfold cellBad
  by_cases h0:(i:Int) > 0
  ·have w1:w64 ((i:Int) - 1)=((i - 1:Nat):Int):=by rw [w64_id (by omega) (by omega)]; omega
   rw [decide_eq_true h0,w1,Int.toNat_natCast,if_pos (c:=(true=true)) rfl,if_pos (c:=0≤((i - 1:Nat):Int)∧((i - 1:Nat):Int) < (s.Cells.length:Int)) (by omega),s_l11Less_ok,Option.bind_some]
   dsimp only
   unfold cellLess
   cases decide ((s.Cells.getD i z_impl_Cell).Name < 0) <;> cases decide ((s.Cells.getD i z_impl_Cell).Name ≥ c) <;> cases decide (((s.Cells.getD i z_impl_Cell).Key.length:Int) > 300) <;> cases valB (s.Cells.getD i z_impl_Cell).Val <;> rfl
  ·rw [decide_eq_false h0,if_neg (c:=(false=true)) (by simp)]
   cases decide ((s.Cells.getD i z_impl_Cell).Name < 0) <;> cases decide ((s.Cells.getD i z_impl_Cell).Name ≥ c) <;> cases decide (((s.Cells.getD i z_impl_Cell).Key.length:Int) > 300) <;> cases valB (s.Cells.getD i z_impl_Cell).Val <;> rfl) (by
  show s_StateOk_L2 v c _ s=_
  rw [s_StateOk_L2_eq,if_neg (by simp),s_l1In_ok,s_l1In_ok,Option.bind_some,Option.bind_some]
  dsimp only
  cases decide ((s.Vars.length:Int)=v) <;> cases decide ((s.Cells.length:Int)≤40) <;> cases decide (0≤s.Nr∧s.Nr≤1000000) <;> rfl)
 have f1:=find_loopN (fun i=>s_StateOk_L1 v c i s) s.Vars.length (fun i=>!valB (s.Vars.getD i z_impl_Val)) (some (false,())) (s_StateOk_L2 v c 0 s) (fun i hi=>by
  show s_StateOk_L1 v c i s=_
  rw [s_StateOk_L1_eq,if_pos (decide_eq_true (by omega)),if_pos (by omega),w64_succ hi (by omega),Int.toNat_natCast,s_ValOk_ok _ (by rw [getD_lt hi]; exact h.1.2 _ (List.getElem_mem hi)),Option.bind_some]) (by
  show s_StateOk_L1 v c _ s=_
  rw [s_StateOk_L1_eq,if_neg (by simp)])
 rw [f1,f2,anyB_list s.Vars z_impl_Val (fun x=>!valB x)]
 unfold stateB
 cases decide ((s.Vars.length:Int)=v) <;> cases s.Vars.any (fun x=>!valB x) <;> cases decide ((s.Cells.length:Int)≤40) <;> cases decide (0≤s.Nr∧s.Nr≤1000000) <;> cases decide (0≤s.Err∧s.Err≤7) <;> cases anyB (cellBad s.Cells c) s.Cells.length <;> rfl
def BOps (l:List impl_Op):Prop:=l.length≤2097152∧∀ o∈l,(∀ b∈o.S,0≤b∧b≤255)∧o.S.length≤2097152
def BProg (p:impl_Prog):Prop:=(p.Vars.length≤2097152∧∀ s∈p.Vars,s.length≤2097152)∧(p.Cells.length≤2097152∧∀ s∈p.Cells,s.length≤2097152)∧BOps p.Start∧BOps p.Main
noncomputable def opsB (l:List impl_Op) (v c:Int):Bool :=
 decide (1≤(l.length:Int)∧(l.length:Int)≤1500) && (decide ((l.getD (l.length - 1) z_impl_Op).Code=36) && !l.any (fun o=>!opB o l.length v c))
theorem s_OpsOk_ok (l:List impl_Op) (v c:Int) (h:BOps l):s_OpsOk l v c=some (opsB l v c,()):=by
 have h1:=h.1
 rw [s_OpsOk_eq,s_l1In_ok,Option.bind_some]
 dsimp only
 unfold opsB
 by_cases g:1≤(l.length:Int)∧(l.length:Int)≤1500
 ·have w1:w64 ((l.length:Int) - 1)=((l.length - 1:Nat):Int):=by rw [w64_id (by omega) (by omega)]; omega
  have f:=find_loopN (fun i=>s_OpsOk_L1 l v c (l.length:Int) i) l.length (fun i=>!opB (l.getD i z_impl_Op) l.length v c) (some (false,())) (some (true,())) (fun i hi=>by
   show s_OpsOk_L1 l v c _ i=_
   rw [s_OpsOk_L1_eq,if_pos (decide_eq_true (by omega)),if_pos (by omega),w64_succ hi (by omega),Int.toNat_natCast,s_l13Op_ok _ _ _ _ (by rw [getD_lt hi]; exact (h.2 _ (List.getElem_mem hi)).1) (by rw [getD_lt hi]; have:=(h.2 _ (List.getElem_mem hi)).2; omega),Option.bind_some]) (by
   show s_OpsOk_L1 l v c _ _=_
   rw [s_OpsOk_L1_eq,if_neg (by simp)])
  rw [decide_eq_true g,if_neg (by simp),w1,if_pos (by omega),Int.toNat_natCast,f,anyB_list l z_impl_Op (fun o=>!opB o l.length v c)]
  cases decide ((l.getD (l.length - 1) z_impl_Op).Code=36) <;> cases l.any (fun o=>!opB o l.length v c) <;> rfl
 ·rw [decide_eq_false g]; rfl
theorem anyOps_ok (l:List impl_Op) (v c:Int) (h:BOps l):x_slices_ContainsFunc_impl_Op_OpsOk_1 l l v c=some (l.any (fun o=>!opB o l.length v c),l,v,c,()):=by
 have h1:=h.1
 rw [x_slices_ContainsFunc_impl_Op_OpsOk_1_eq,x_slices_IndexFunc_impl_Op_OpsOk_1_eq]
 obtain ⟨k,e,e1,_⟩:=index_loop (fun i=>x_slices_IndexFunc_impl_Op_OpsOk_1_L1 l (l.length:Int) i l v c) (l,v,c,()) l.length (fun i=>!opB (l.getD i z_impl_Op) l.length v c) (fun i hi=>by
  show x_slices_IndexFunc_impl_Op_OpsOk_1_L1 l _ i l v c=_
  rw [x_slices_IndexFunc_impl_Op_OpsOk_1_L1_eq,if_pos (decide_eq_true (by omega)),if_pos (by omega),w64_succ hi (by omega),Int.toNat_natCast,i_OpsOk_1_eq,i_opRight_ok _ _ _ _ (by rw [getD_lt hi]; exact (h.2 _ (List.getElem_mem hi)).1) (by rw [getD_lt hi]; have:=(h.2 _ (List.getElem_mem hi)).2; omega),Option.bind_some,Option.bind_some]) (by
  show x_slices_IndexFunc_impl_Op_OpsOk_1_L1 l _ _ l v c=_
  rw [x_slices_IndexFunc_impl_Op_OpsOk_1_L1_eq,if_neg (by simp)])
 rw [e,Option.bind_some]
 dsimp only
 rw [e1,anyB_list l z_impl_Op (fun o=>!opB o l.length v c)]
theorem i_OpsOk_ok (l:List impl_Op) (v c:Int) (h:BOps l):i_OpsOk l v c=some (opsB l v c,()):=by
 have h1:=h.1
 rw [i_OpsOk_eq,i_in_ok,Option.bind_some]
 dsimp only
 unfold opsB
 by_cases g:1≤(l.length:Int)∧(l.length:Int)≤1500
 ·have w1:w64 ((l.length:Int) - 1)=((l.length - 1:Nat):Int):=by rw [w64_id (by omega) (by omega)]; omega
  rw [decide_eq_true g,if_neg (by simp),w1,if_pos (by omega),Int.toNat_natCast,anyOps_ok l v c h,Option.bind_some]
  cases decide ((l.getD (l.length - 1) z_impl_Op).Code=36) <;> rfl
 ·rw [decide_eq_false g]; rfl
def nameBad (l:List (List Int)) (i:Nat):Bool:=!nameB (l.getD i []) || (decide ((i:Int) > 0) && !ltS (l.getD (i - 1) []) (l.getD i []))
def namesB (l:List (List Int)):Bool:=!anyB (nameBad l) l.length && decide ((l.length:Int)≤8)
theorem i_namesOk_ok (l:List (List Int)) (hl:l.length≤2097152) (hs:∀ s∈l,s.length≤2097152):i_namesOk l=some (namesB l,()):=by
 rw [i_namesOk_eq]
 have f:=find_loopN (fun i=>i_namesOk_L1 l l (l.length:Int) i) l.length (nameBad l) (some (false,())) (some (decide ((l.length:Int)≤8),())) (fun i hi=>by
  show i_namesOk_L1 l l _ i=_
  rw [i_namesOk_L1_eq,if_pos (decide_eq_true (by omega)),if_pos (by omega),w64_succ hi (by omega),Int.toNat_natCast,i_isName_ok _ (by rw [getD_lt hi]; have:=hs _ (List.getElem_mem hi); omega),Option.bind_some]
  dsimp only
  unfold nameBad
  by_cases h0:(i:Int) > 0
  ·have w1:w64 ((i:Int) - 1)=((i - 1:Nat):Int):=by rw [w64_id (by omega) (by omega)]; omega
   rw [decide_eq_true h0,w1,Int.toNat_natCast,if_pos (c:=(true=true)) rfl,if_pos (c:=0≤((i - 1:Nat):Int)∧((i - 1:Nat):Int) < (l.length:Int)) (by omega)]
   cases nameB (l.getD i []) <;> rfl
  ·rw [decide_eq_false h0,if_neg (c:=(false=true)) (by simp)]
   cases nameB (l.getD i []) <;> rfl) (by
  show i_namesOk_L1 l l _ _=_
  rw [i_namesOk_L1_eq,if_neg (by simp)])
 rw [f]
 unfold namesB
 cases anyB (nameBad l) l.length <;> rfl
noncomputable def progB (p:impl_Prog):Bool :=
 namesB p.Vars && (namesB p.Cells && (!p.Vars.any (fun s=>decide (s∈p.Cells)) && (opsB p.Start p.Vars.length p.Cells.length && opsB p.Main p.Vars.length p.Cells.length)))
theorem anyNames_ok (p:impl_Prog) (h:BProg p):x_slices_ContainsFunc_string_ProgOk_1 p.Vars p=some (p.Vars.any (fun s=>decide (s∈p.Cells)),p,()):=by
 have h1:=h.1.1
 have h2:=h.2.1.1
 rw [x_slices_ContainsFunc_string_ProgOk_1_eq,x_slices_IndexFunc_string_ProgOk_1_eq]
 obtain ⟨k,e,e1,_⟩:=index_loop (fun i=>x_slices_IndexFunc_string_ProgOk_1_L1 p.Vars (p.Vars.length:Int) i p) (p,()) p.Vars.length (fun i=>decide (p.Vars.getD i []∈p.Cells)) (fun i hi=>by
  show x_slices_IndexFunc_string_ProgOk_1_L1 p.Vars _ i p=_
  rw [x_slices_IndexFunc_string_ProgOk_1_L1_eq,if_pos (decide_eq_true (by omega)),if_pos (by omega),w64_succ hi (by omega),Int.toNat_natCast,i_ProgOk_1_eq,containsS_ok _ _ (by omega),Option.bind_some,Option.bind_some]) (by
  show x_slices_IndexFunc_string_ProgOk_1_L1 p.Vars _ _ p=_
  rw [x_slices_IndexFunc_string_ProgOk_1_L1_eq,if_neg (by simp)])
 rw [e,Option.bind_some]
 dsimp only
 rw [e1,anyB_list p.Vars [] (fun s=>decide (s∈p.Cells))]
theorem i_ProgOk_ok (p:impl_Prog) (h:BProg p):i_ProgOk p=some (progB p,()):=by
 rw [i_ProgOk_eq,i_namesOk_ok _ h.1.1 h.1.2,i_namesOk_ok _ h.2.1.1 h.2.1.2,anyNames_ok p h]
 simp only [Option.bind_some]
 rw [i_OpsOk_ok _ _ _ h.2.2.1,i_OpsOk_ok _ _ _ h.2.2.2]
 unfold progB
 cases namesB p.Vars <;> cases namesB p.Cells <;> cases p.Vars.any (fun s=>decide (s∈p.Cells)) <;> cases opsB p.Start p.Vars.length p.Cells.length <;> rfl
theorem s_ProgOk_ok (p:impl_Prog) (h:BProg p):s_ProgOk p=some (progB p,()):=by
 have h1:=h.1.1
 have h2:=h.2.1.1
 rw [s_ProgOk_eq]
 have f2:=find_loopN (fun i=>s_ProgOk_L2 i p) p.Cells.length (nameBad p.Cells) (some (false,())) (some (decide ((p.Vars.length:Int)≤8) && (decide ((p.Cells.length:Int)≤8) && (opsB p.Start p.Vars.length p.Cells.length && opsB p.Main p.Vars.length p.Cells.length)),())) (fun i hi=>by
  show s_ProgOk_L2 i p=_
  rw [s_ProgOk_L2_eq,if_pos (decide_eq_true (by omega)),if_pos (by omega),w64_succ hi (by omega),Int.toNat_natCast,s_l9Name_ok _ (by rw [getD_lt hi]; have:=h.2.1.2 _ (List.getElem_mem hi); omega),Option.bind_some]
  dsimp only
  unfold nameBad
  by_cases h0:(i:Int) > 0
  ·have w1:w64 ((i:Int) - 1)=((i - 1:Nat):Int):=by rw [w64_id (by omega) (by omega)]; omega
   rw [decide_eq_true h0,w1,Int.toNat_natCast,if_pos (c:=(true=true)) rfl,if_pos (c:=0≤((i - 1:Nat):Int)∧((i - 1:Nat):Int) < (p.Cells.length:Int)) (by omega),if_pos (c:=0≤(i:Int)∧(i:Int) < (p.Cells.length:Int)) (by omega)]
   cases nameB (p.Cells.getD i []) <;> rfl
  ·rw [decide_eq_false h0,if_neg (c:=(false=true)) (by simp)]
   cases nameB (p.Cells.getD i []) <;> rfl) (by
  show s_ProgOk_L2 _ p=_
  rw [s_ProgOk_L2_eq,if_neg (by simp),s_OpsOk_ok _ _ _ h.2.2.1,s_OpsOk_ok _ _ _ h.2.2.2,Option.bind_some,Option.bind_some]
  cases decide ((p.Vars.length:Int)≤8) <;> cases decide ((p.Cells.length:Int)≤8) <;> cases opsB p.Start p.Vars.length p.Cells.length <;> rfl)
 have f1:=find_loopN (fun i=>s_ProgOk_L1 i p) p.Vars.length (fun i=>nameBad p.Vars i || decide (p.Vars.getD i []∈p.Cells)) (some (false,())) (s_ProgOk_L2 0 p) (fun i hi=>by
  show s_ProgOk_L1 i p=_
  rw [s_ProgOk_L1_eq,if_pos (decide_eq_true (by omega)),if_pos (by omega),w64_succ hi (by omega),Int.toNat_natCast,s_l9Name_ok _ (by rw [getD_lt hi]; have:=h.1.2 _ (List.getElem_mem hi); omega),Option.bind_some,within_ok _ _ (by omega),Option.bind_some]
  dsimp only
  rw [if_pos (c:=0≤(i:Int)∧(i:Int) < (p.Vars.length:Int)) (by omega)]
  unfold nameBad
  by_cases h0:(i:Int) > 0
  ·have w1:w64 ((i:Int) - 1)=((i - 1:Nat):Int):=by rw [w64_id (by omega) (by omega)]; omega
   rw [decide_eq_true h0,w1,Int.toNat_natCast,if_pos (c:=(true=true)) rfl,if_pos (c:=0≤((i - 1:Nat):Int)∧((i - 1:Nat):Int) < (p.Vars.length:Int)) (by omega),if_pos (c:=0≤(i:Int)∧(i:Int) < (p.Vars.length:Int)) (by omega)]
   cases nameB (p.Vars.getD i []) <;> cases decide (p.Vars.getD i []∈p.Cells) <;> cases ltS (p.Vars.getD (i - 1) []) (p.Vars.getD i []) <;> rfl
  ·rw [decide_eq_false h0,if_neg (c:=(false=true)) (by simp)]
   cases nameB (p.Vars.getD i []) <;> cases decide (p.Vars.getD i []∈p.Cells) <;> rfl) (by
  show s_ProgOk_L1 _ p=_
  rw [s_ProgOk_L1_eq,if_neg (by simp)])
 rw [f1,f2,anyB_or (nameBad p.Vars) (fun i=>decide (p.Vars.getD i []∈p.Cells)),anyB_list p.Vars [] (fun s=>decide (s∈p.Cells))]
 unfold progB namesB
 cases anyB (nameBad p.Vars) p.Vars.length <;> cases anyB (nameBad p.Cells) p.Cells.length <;> cases p.Vars.any (fun s=>decide (s∈p.Cells)) <;> cases decide ((p.Vars.length:Int)≤8) <;> cases decide ((p.Cells.length:Int)≤8) <;> rfl
noncomputable def machB (p:impl_Prog) (m:impl_Mach):Bool :=
 progB p && (stateB m.State p.Vars.length p.Cells.length && (decide ((m.Done.length:Int)=3) && (!m.Done.any (fun n=>!decide (0≤n∧n≤100000)) && decide ((m.Out.length:Int)≤1500))))
theorem anyDone_ok (l:List Int) (hl:l.length≤2097152):x_slices_ContainsFunc_int_MachOk_1 l=some (l.any (fun n=>!decide (0≤n∧n≤100000)),()):=by
 rw [x_slices_ContainsFunc_int_MachOk_1_eq,x_slices_IndexFunc_int_MachOk_1_eq]
 obtain ⟨k,e,e1,_⟩:=index_loop (fun i=>x_slices_IndexFunc_int_MachOk_1_L1 l (l.length:Int) i) () l.length (fun i=>!decide (0≤l.getD i 0∧l.getD i 0≤100000)) (fun i hi=>by
  show x_slices_IndexFunc_int_MachOk_1_L1 l _ i=_
  rw [x_slices_IndexFunc_int_MachOk_1_L1_eq,if_pos (decide_eq_true (by omega)),if_pos (by omega),w64_succ hi (by omega),Int.toNat_natCast,i_MachOk_1_eq,i_in_ok,Option.bind_some,Option.bind_some]) (by
  show x_slices_IndexFunc_int_MachOk_1_L1 l _ _=_
  rw [x_slices_IndexFunc_int_MachOk_1_L1_eq,if_neg (by simp)])
 rw [e,Option.bind_some]
 dsimp only
 rw [e1,anyB_list l 0 (fun n=>!decide (0≤n∧n≤100000))]
theorem i_MachOk_ok (p:impl_Prog) (m:impl_Mach) (hp:BProg p) (hs:BState m.State) (hd:m.Done.length≤2097152):i_MachOk p m=some (machB p m,()):=by
 rw [i_MachOk_eq,i_ProgOk_ok p hp,i_StateOk_ok _ _ _ hs,anyDone_ok _ hd]
 simp only [Option.bind_some]
 unfold machB
 cases progB p <;> cases stateB m.State p.Vars.length p.Cells.length <;> cases decide ((m.Done.length:Int)=3) <;> cases m.Done.any (fun n=>!decide (0≤n∧n≤100000)) <;> rfl
theorem s_MachOk_ok (p:impl_Prog) (m:impl_Mach) (hp:BProg p) (hs:BState m.State) (hd:m.Done.length≤2097152):s_MachOk p m=some (machB p m,()):=by
 rw [s_MachOk_eq]
 have f:=find_loopN (fun i=>s_MachOk_L1 i p m) m.Done.length (fun i=>!decide (0≤m.Done.getD i 0∧m.Done.getD i 0≤100000)) (some (false,())) (some (progB p && (stateB m.State p.Vars.length p.Cells.length && (decide ((m.Done.length:Int)=3) && decide ((m.Out.length:Int)≤1500))),())) (fun i hi=>by
  show s_MachOk_L1 i p m=_
  rw [s_MachOk_L1_eq,if_pos (decide_eq_true (by omega)),if_pos (by omega),w64_succ hi (by omega),Int.toNat_natCast,s_l1In_ok,Option.bind_some]) (by
  show s_MachOk_L1 _ p m=_
  rw [s_MachOk_L1_eq,if_neg (by simp),s_ProgOk_ok p hp,s_StateOk_ok _ _ _ hs,Option.bind_some,Option.bind_some]
  cases progB p <;> cases stateB m.State p.Vars.length p.Cells.length <;> cases decide ((m.Done.length:Int)=3) <;> rfl)
 rw [f,anyB_list m.Done 0 (fun n=>!decide (0≤n∧n≤100000))]
 unfold machB
 cases progB p <;> cases stateB m.State p.Vars.length p.Cells.length <;> cases decide ((m.Done.length:Int)=3) <;> cases m.Done.any (fun n=>!decide (0≤n∧n≤100000)) <;> rfl
theorem idx_mem (l:List Int) (c:Int):0≤idxI l c ↔ c∈l:=by
 induction l with
 | nil=>simp [idxI]
 | cons b l ih =>
  have:=idxI_bd l c
  unfold idxI
  rw [List.mem_cons]
  by_cases hb:b=c
  ·rw [if_pos hb]; simp [hb]
  ·rw [if_neg hb]
   have hb':¬ c=b:=fun h=>hb h.symm
   by_cases hi:idxI l c = -1
   ·rw [if_pos hi]
    constructor
    ·intro h; omega
    ·rintro (h | h)
     ·exact absurd h hb'
     ·have:=ih.2 h; omega
   ·rw [if_neg hi]
    constructor
    ·intro h; exact .inr (ih.1 (by omega))
    ·rintro (h | h)
     ·exact absurd h hb'
     ·have:=ih.2 h; omega
theorem contains_one (l:List Int) (c:Int):x_strings_Contains l [c]=some (decide (c∈l),()):=by
 rw [x_strings_Contains_eq,x_strings_Index_eq,x_internal_stringslite_Index_eq]
 rw [if_neg (by simp)]
 by_cases h:[c]=l
 ·rw [if_pos (decide_eq_true h)]
  subst h
  simp
 ·rw [if_neg (by rw [decide_eq_true_eq]; exact h),if_pos (by simp),if_pos (by simp),x_internal_stringslite_IndexByte_eq,x_internal_bytealg_IndexByteString_eq]
  simp only [Option.bind_some,List.getD_cons_zero,ge_iff_le,idx_mem]
theorem s_l9Line_ok (l:List Int) (hl:l.length≤9223372036854775807):s_l9Line l=some (!decide ((10:Int)∈l),()):=by
 rw [s_l9Line_eq]
 have key:∀ (d i:Nat),i+d=l.length→s_l9Line_L1 l i=some (!decide ((10:Int)∈l.drop i),()):=by
  intro d
  induction d with
  | zero =>
   intro i hd
   rw [s_l9Line_L1_eq,if_neg (by rw [decide_eq_true_eq]; omega),List.drop_eq_nil_of_le (by omega)]; simp
  | succ d ih =>
   intro i hd
   have hi:i < l.length:=by omega
   rw [s_l9Line_L1_eq,if_pos (decide_eq_true (by omega)),if_pos (by omega),getD_nat hi,w64_succ hi hl,ih (i+1) (by omega),List.drop_eq_getElem_cons hi]
   by_cases h:l[i]=10
   ·rw [if_pos (decide_eq_true h),h]; simp
   ·rw [if_neg (by rw [decide_eq_true_eq]; exact h)]
    have h':¬ (10:Int)=l[i]:=fun e=>h e.symm
    simp only [List.mem_cons,h',false_or]
 have:=key l.length 0 (by omega)
 simpa using this
def cmdOk (c:impl_Cmd):Bool :=
 if c.Who = -1 then decide (c.Seq=0) && decide (c.Line=[])
 else decide (0≤c.Who∧c.Who≤2) && (decide (1≤c.Seq∧c.Seq≤100000) && (decide ((c.Line.length:Int)≤60) && !decide ((10:Int)∈c.Line)))
theorem i_lineOk_ok (l:List Int):i_lineOk l=some (decide ((l.length:Int)≤60) && !decide ((10:Int)∈l),()):=by
 rw [i_lineOk_eq]
 by_cases h:(l.length:Int)≤60
 ·rw [if_pos (decide_eq_true h),contains_one,Option.bind_some,decide_eq_true h]; rfl
 ·rw [if_neg (by rw [decide_eq_true_eq]; exact h),decide_eq_false h]; rfl
theorem i_CmdOk_ok (c:impl_Cmd):i_CmdOk c=some (cmdOk c,()):=by
 rw [i_CmdOk_eq]
 unfold cmdOk
 simp only [i_in_ok,i_lineOk_ok,Option.bind_some,decide_eq_true_eq]
 by_cases h1:c.Who = -1
 ·simp only [if_pos h1]
  by_cases h2:c.Seq=0
  ·simp only [if_pos h2,decide_eq_true h2,Bool.true_and]
  ·simp only [if_neg h2,decide_eq_false h2,Bool.false_and]
 ·simp only [if_neg h1]
  by_cases h2:0≤c.Who∧c.Who≤2
  ·simp only [if_pos h2,decide_eq_true h2,Bool.true_and]
   by_cases h3:1≤c.Seq∧c.Seq≤100000
   ·simp only [if_pos h3,decide_eq_true h3,Bool.true_and]
   ·simp only [if_neg h3,decide_eq_false h3,Bool.false_and]
  ·simp only [if_neg h2,decide_eq_false h2,Bool.false_and]
theorem s_CmdOk_ok (c:impl_Cmd) (hl:c.Line.length≤9223372036854775807):s_CmdOk c=some (cmdOk c,()):=by
 rw [s_CmdOk_eq]
 unfold cmdOk
 simp only [s_l1In_ok,s_l9Line_ok _ hl,Option.bind_some,decide_eq_true_eq]
 by_cases h1:c.Who = -1
 ·simp only [if_pos h1]
  by_cases h2:c.Seq=0
  ·simp only [if_pos h2,decide_eq_true h2,Bool.true_and]
  ·simp only [if_neg h2,decide_eq_false h2,Bool.false_and]
 ·simp only [if_neg h1]
  by_cases h2:0≤c.Who∧c.Who≤2
  ·simp only [if_pos h2,decide_eq_true h2,Bool.true_and]
   by_cases h3:1≤c.Seq∧c.Seq≤100000
   ·simp only [if_pos h3,decide_eq_true h3,Bool.true_and]
    by_cases h4:(c.Line.length:Int)≤60
    ·simp only [if_pos h4,decide_eq_true h4,Bool.true_and]
    ·simp only [if_neg h4,decide_eq_false h4,Bool.false_and]
   ·simp only [if_neg h3,decide_eq_false h3,Bool.false_and]
  ·simp only [if_neg h2,decide_eq_false h2,Bool.false_and]
def InI (n:Int):Prop:=-9223372036854775808≤n∧n≤9223372036854775807
theorem isIndex_ok (n:Int):i_isIndex n=some (decide (0≤n∧n≤300),()):=by rw [i_isIndex_eq,i_in_ok]; rfl
def LinesOk (l:List impl_Entry):Prop:=∀ e∈l,e.C.Line.length≤9223372036854775807
def listOk:List impl_Entry→Int→Bool
 | [],_=>true
 | e :: l,t=>decide (t≤e.Term∧e.Term≤300) && (cmdOk e.C && listOk l e.Term)
def logOk (l:impl_Log):Bool:=decide (0≤l.Base∧l.Base≤300) && (decide (0≤l.BaseTerm∧l.BaseTerm≤300) && (decide ((l.List.length:Int)≤300 - l.Base) && listOk l.List l.BaseTerm))
theorem s_LogOk_L1_ok (l:impl_Log) (hl:l.List.length≤4294967296) (hw:LinesOk l.List):∀ (d i:Nat) (t:Int),i+d=l.List.length→s_LogOk_L1 t i l=some (listOk (l.List.drop i) t,()):=by
 intro d
 induction d with
 | zero =>
  intro i t hd
  rw [s_LogOk_L1_eq,if_neg (by rw [decide_eq_true_eq]; omega),List.drop_eq_nil_of_le (by omega)]; rfl
 | succ d ih =>
  intro i t hd
  have hi:i < l.List.length:=by omega
  have c:(0:Int)≤(i:Int)∧(i:Int) < (l.List.length:Int):=by omega
  rw [s_LogOk_L1_eq,if_pos (decide_eq_true c.2),getD_nat hi,w64_succ hi (by omega),List.drop_eq_getElem_cons hi]
  simp only [if_pos c,s_l1In_ok,s_CmdOk_ok _ (hw _ (List.getElem_mem hi)),Option.bind_some]
  rw [ih (i+1) _ (by omega)]
  simp only [listOk]
  cases decide (t≤l.List[i].Term∧l.List[i].Term≤300) with
  | false=>rfl
  | true=>cases cmdOk l.List[i].C <;> rfl
theorem i_LogOk_L1_ok (l:List impl_Entry) (hl:l.length≤4294967296):∀ (d i:Nat) (t:Int),i+d=l.length→i_LogOk_L1 t l (l.length:Int) i=some (listOk (l.drop i) t,()):=by
 intro d
 induction d with
 | zero =>
  intro i t hd
  rw [i_LogOk_L1_eq,if_neg (by rw [decide_eq_true_eq]; omega),List.drop_eq_nil_of_le (by omega)]; rfl
 | succ d ih =>
  intro i t hd
  have hi:i < l.length:=by omega
  have c:(0:Int)≤(i:Int)∧(i:Int) < (l.length:Int):=by omega
  rw [i_LogOk_L1_eq,if_pos (decide_eq_true c.2),getD_nat hi,w64_succ hi (by omega),List.drop_eq_getElem_cons hi]
  simp only [if_pos c,i_in_ok,i_CmdOk_ok,Option.bind_some]
  rw [ih (i+1) _ (by omega)]
  simp only [listOk]
  cases decide (t≤l[i].Term∧l[i].Term≤300) with
  | false=>rfl
  | true=>cases cmdOk l[i].C <;> rfl
theorem s_LogOk_ok (l:impl_Log) (hl:l.List.length≤4294967296) (hw:LinesOk l.List):s_LogOk l=some (logOk l,()):=by
 rw [s_LogOk_eq]
 unfold logOk
 simp only [s_l1In_ok,Option.bind_some,Bool.not_eq_true',decide_eq_false_iff_not,decide_eq_true_eq]
 by_cases h1:0≤l.Base∧l.Base≤300
 ·have e1:w64 (300 - l.Base)=300 - l.Base:=w64_id (by omega) (by omega)
  rw [if_neg (not_not_intro h1),decide_eq_true h1,e1,Bool.true_and]
  by_cases h2:0≤l.BaseTerm∧l.BaseTerm≤300
  ·rw [if_neg (not_not_intro h2),decide_eq_true h2,Bool.true_and]
   by_cases h3:(l.List.length:Int)≤300 - l.Base
   ·rw [if_neg (by omega),decide_eq_true h3,Bool.true_and]
    exact s_LogOk_L1_ok l hl hw l.List.length 0 _ (by omega)
   ·rw [if_pos (by omega),decide_eq_false h3,Bool.false_and]
  ·rw [if_pos h2,decide_eq_false h2,Bool.false_and]
 ·rw [if_pos h1,decide_eq_false h1,Bool.false_and]
theorem i_LogOk_ok (l:impl_Log) (hl:l.List.length≤4294967296):i_LogOk l=some (logOk l,()):=by
 rw [i_LogOk_eq]
 unfold logOk
 simp only [isIndex_ok,Option.bind_some,Bool.not_eq_true',decide_eq_false_iff_not,decide_eq_true_eq]
 by_cases h1:0≤l.Base∧l.Base≤300
 ·have e1:w64 (l.Base+(l.List.length:Int))=l.Base+l.List.length:=w64_id (by omega) (by omega)
  rw [if_neg (not_not_intro h1),decide_eq_true h1,e1,Bool.true_and]
  by_cases h2:0≤l.BaseTerm∧l.BaseTerm≤300
  ·rw [if_neg (not_not_intro h2),decide_eq_true h2,Bool.true_and]
   by_cases h3:(l.List.length:Int)≤300 - l.Base
   ·rw [if_neg (by omega),decide_eq_true h3,Bool.true_and]
    exact i_LogOk_L1_ok l.List hl l.List.length 0 _ (by omega)
   ·rw [if_pos (by omega),decide_eq_false h3,Bool.false_and]
  ·rw [if_pos h2,decide_eq_false h2,Bool.false_and]
 ·rw [if_pos h1,decide_eq_false h1,Bool.false_and]
def entOk (m:Int) (e:impl_Entry):Bool:=decide (0≤e.Term∧e.Term≤m) && cmdOk e.C
def entriesOk (l:List impl_Entry) (m:Int):Bool:=decide ((l.length:Int)≤40) && l.all (entOk m)
theorem s_l19List_ok (l:List impl_Entry) (m:Int) (hl:l.length≤4294967296) (hw:LinesOk l):s_l19List l m=some (entriesOk l m,()):=by
 rw [s_l19List_eq]
 have key:∀ (d i:Nat),i+d=l.length→s_l19List_L1 l m i=some ((l.drop i).all (entOk m) && decide ((l.length:Int)≤40),()):=by
  intro d
  induction d with
  | zero =>
   intro i hd
   rw [s_l19List_L1_eq,if_neg (by rw [decide_eq_true_eq]; omega),List.drop_eq_nil_of_le (by omega)]; rfl
  | succ d ih =>
   intro i hd
   have hi:i < l.length:=by omega
   have c:(0:Int)≤(i:Int)∧(i:Int) < (l.length:Int):=by omega
   rw [s_l19List_L1_eq,if_pos (decide_eq_true c.2),getD_nat hi,w64_succ hi (by omega),List.drop_eq_getElem_cons hi]
   simp only [if_pos c,s_l1In_ok,s_CmdOk_ok _ (hw _ (List.getElem_mem hi)),Option.bind_some]
   rw [ih (i+1) (by omega),List.all_cons]
   unfold entOk
   cases decide (0≤l[i].Term∧l[i].Term≤m) with
   | false=>rfl
   | true=>cases cmdOk l[i].C <;> rfl
 have:=key l.length 0 (by omega)
 unfold entriesOk
 rw [Bool.and_comm]
 simpa using this
theorem i_entriesOk_1_ok (e:impl_Entry) (m:Int):i_entriesOk_1 e m=some (!entOk m e,m,()):=by
 rw [i_entriesOk_1_eq,i_in_ok,i_CmdOk_ok]
 unfold entOk
 simp only [Option.bind_some]
 cases decide (0≤e.Term∧e.Term≤m) <;> rfl
theorem i_entriesOk_ok (l:List impl_Entry) (m:Int) (hl:l.length≤4294967296):i_entriesOk l m=some (entriesOk l m,()):=by
 have key:∀ (d i:Nat),i+d=l.length→∃ r,x_slices_IndexFunc_impl_Entry_entriesOk_1_L1 l (l.length:Int) i m=some (r,m,())∧(r ≥ 0 ↔ (l.drop i).all (entOk m)=false):=by
  intro d
  induction d with
  | zero =>
   intro i hd
   rw [x_slices_IndexFunc_impl_Entry_entriesOk_1_L1_eq,if_neg (by rw [decide_eq_true_eq]; omega),List.drop_eq_nil_of_le (by omega)]
   exact ⟨-1,rfl,by simp⟩
  | succ d ih =>
   intro i hd
   have hi:i < l.length:=by omega
   have c:(0:Int)≤(i:Int)∧(i:Int) < (l.length:Int):=by omega
   rw [x_slices_IndexFunc_impl_Entry_entriesOk_1_L1_eq,if_pos (decide_eq_true c.2),getD_nat hi,w64_succ hi (by omega),List.drop_eq_getElem_cons hi]
   simp only [if_pos c,i_entriesOk_1_ok,Option.bind_some,List.all_cons]
   cases entOk m l[i] with
   | false=>exact ⟨_,rfl,by simp⟩
   | true =>
    obtain ⟨r,e1,e2⟩:=ih (i+1) (by omega)
    exact ⟨r,by simpa using e1,by simpa using e2⟩
 obtain ⟨r,e1,e2⟩:=key l.length 0 (by omega)
 rw [i_entriesOk_eq]
 unfold entriesOk
 by_cases h:(l.length:Int)≤40
 ·have e1':x_slices_IndexFunc_impl_Entry_entriesOk_1_L1 l (l.length:Int) 0 m=some (r,m,()):=e1
  rw [if_pos (decide_eq_true h),decide_eq_true h,x_slices_ContainsFunc_impl_Entry_entriesOk_1_eq,x_slices_IndexFunc_impl_Entry_entriesOk_1_eq,e1']
  simp only [Option.bind_some,Bool.true_and]
  rw [List.drop_zero] at e2
  cases hb:l.all (entOk m) with
  | false=>rw [decide_eq_true (e2.2 hb)]; rfl
  | true=>rw [decide_eq_false (fun h=>by rw [e2.1 h] at hb; cases hb)]; rfl
 ·rw [if_neg (by rw [decide_eq_true_eq]; exact h),decide_eq_false h]; rfl
def diskOk (d:impl_Disk):Bool:=decide ((d.Bytes.length:Int)≤80000) && decide (0≤d.Sure∧d.Sure≤(d.Bytes.length:Int))
theorem s_DiskOk_ok (d:impl_Disk):s_DiskOk d=some (diskOk d,()):=by
 rw [s_DiskOk_eq,s_l1In_ok]
 unfold diskOk
 by_cases h:(d.Bytes.length:Int)≤80000
 ·rw [if_pos (decide_eq_true h),Option.bind_some,decide_eq_true h]; rfl
 ·rw [if_neg (by rw [decide_eq_true_eq]; exact h),decide_eq_false h]; rfl
theorem i_DiskOk_ok (d:impl_Disk):i_DiskOk d=some (diskOk d,()):=by
 rw [i_DiskOk_eq,i_in_ok]
 unfold diskOk
 by_cases h:(d.Bytes.length:Int)≤80000
 ·rw [if_pos (decide_eq_true h),Option.bind_some,decide_eq_true h]; rfl
 ·rw [if_neg (by rw [decide_eq_true_eq]; exact h),decide_eq_false h]; rfl
def lastI (l:impl_Log):Int:=if l.List.length=0 then l.Base else w64 (l.Base+l.List.length)
def lastT (l:impl_Log):Int:=if l.List.length=0 then l.BaseTerm else (l.List.getD (l.List.length - 1) z_impl_Entry).Term
theorem s_LastOf_ok (l:impl_Log) (hl:l.List.length≤2097152):s_LastOf l=some (lastI l,lastT l,()):=by
 rw [s_LastOf_eq]
 unfold lastI lastT
 by_cases h:l.List.length=0
 ·rw [if_pos (decide_eq_true (by omega)),if_pos h,if_pos h]
 ·have w1:w64 ((l.List.length:Int) - 1)=((l.List.length - 1:Nat):Int):=by rw [w64_id (by omega) (by omega)]; omega
  rw [if_neg (by rw [decide_eq_true_eq]; omega),w1,if_pos (by omega),if_neg h,if_neg h,Int.toNat_natCast]
theorem i_LastOf_ok (l:impl_Log) (hl:l.List.length≤2097152):i_LastOf l=some (lastI l,lastT l,()):=by
 have:=s_LastOf_ok l hl
 rw [s_LastOf_eq] at this
 rw [i_LastOf_eq]; exact this
def BLog (l:impl_Log):Prop:=l.List.length≤2097152∧∀ e∈l.List,e.C.Line.length≤2097152
theorem BLog.lines {l:impl_Log} (h:BLog l):LinesOk l.List:=fun e he=>by have:=h.2 e he; omega
def BMach (m:impl_Mach):Prop:=BState m.State∧m.Done.length≤2097152∧m.Out.length≤2097152
def BHard (h:impl_Hard):Prop:=BLog h.Log∧BMach h.Snap
noncomputable def hardB (p:impl_Prog) (h:impl_Hard):Bool :=
 decide (0≤h.Term∧h.Term≤300) && (decide (-1≤h.Vote∧h.Vote≤4) && (logOk h.Log && (decide (lastT h.Log≤h.Term) && machB p h.Snap)))
theorem i_isIndex_val (n:Int):i_isIndex n=some (decide (0≤n∧n≤300),()):=by rw [i_isIndex_eq,i_in_ok]; rfl
theorem i_isVote_val (n:Int):i_isVote n=some (decide (-1≤n∧n≤4),()):=by rw [i_isVote_eq,i_in_ok]; rfl
theorem i_HardOk_ok (p:impl_Prog) (h:impl_Hard) (hp:BProg p) (hb:BHard h):i_HardOk p h=some (hardB p h,()):=by
 rw [i_HardOk_eq,i_LastOf_ok _ hb.1.1,i_isIndex_val,i_isVote_val,i_LogOk_ok _ (by have:=hb.1.1; omega),i_MachOk_ok p _ hp hb.2.1 hb.2.2.1]
 simp only [Option.bind_some]
 unfold hardB
 cases decide (0≤h.Term∧h.Term≤300) <;> cases decide (-1≤h.Vote∧h.Vote≤4) <;> cases logOk h.Log <;> cases decide (lastT h.Log≤h.Term) <;> rfl
theorem s_HardOk_ok (p:impl_Prog) (h:impl_Hard) (hp:BProg p) (hb:BHard h):s_HardOk p h=some (hardB p h,()):=by
 rw [s_HardOk_eq,s_LastOf_ok _ hb.1.1,s_l1In_ok,s_l1In_ok,s_LogOk_ok _ (by have:=hb.1.1; omega) hb.1.lines,s_MachOk_ok p _ hp hb.2.1 hb.2.2.1]
 simp only [Option.bind_some]
 unfold hardB
 cases decide (0≤h.Term∧h.Term≤300) <;> cases decide (-1≤h.Vote∧h.Vote≤4) <;> cases logOk h.Log <;> cases decide (lastT h.Log≤h.Term) <;> rfl
def BRpc (r:impl_Rpc):Prop:=r.List.length≤2097152∧∀ e∈r.List,e.C.Line.length≤2097152
def rpcB (r:impl_Rpc) (n:Int):Bool :=
 decide (1≤r.Kind∧r.Kind≤5) && (decide (1≤n∧n≤5) && (decide (0≤r.From∧r.From≤w64 (n - 1)) && (decide (0≤r.To∧r.To≤w64 (n - 1)) && (!decide (r.From=r.To) && (decide (0≤r.Term∧r.Term≤300) && (decide (0≤r.Index∧r.Index≤300) && (decide (0≤r.IndexTerm∧r.IndexTerm≤300) && (decide (0≤r.Commit∧r.Commit≤300) && (entriesOk r.List r.Term && decide ((r.Snap.length:Int)≤30000))))))))))
theorem rpc_ok (r:impl_Rpc) (n:Int) (hb:BRpc r):s_RpcOk r n=some (rpcB r n,())∧i_RpcOk r n=some (rpcB r n,()):=by
 have hl:r.List.length≤4294967296:=by have:=hb.1; omega
 have hw:LinesOk r.List:=fun e he=>by have:=hb.2 e he; omega
 rw [s_RpcOk_eq,i_RpcOk_eq]
 simp only [s_l1In_ok,i_in_ok,i_isIndex_val,s_l19List_ok _ _ hl hw,i_entriesOk_ok _ _ hl,Option.bind_some]
 unfold rpcB
 cases decide (1≤r.Kind∧r.Kind≤5) with
 | false=>exact ⟨rfl,rfl⟩
 | true =>
 cases decide (1≤n∧n≤5) with
 | false=>exact ⟨rfl,rfl⟩
 | true =>
 cases decide (0≤r.From∧r.From≤w64 (n - 1)) with
 | false=>exact ⟨rfl,rfl⟩
 | true =>
 cases decide (0≤r.To∧r.To≤w64 (n - 1)) with
 | false=>exact ⟨rfl,rfl⟩
 | true =>
 cases decide (r.From=r.To) with
 | true=>exact ⟨rfl,rfl⟩
 | false =>
 cases decide (0≤r.Term∧r.Term≤300) with
 | false=>exact ⟨rfl,rfl⟩
 | true =>
 cases decide (0≤r.Index∧r.Index≤300) with
 | false=>exact ⟨rfl,rfl⟩
 | true =>
 cases decide (0≤r.IndexTerm∧r.IndexTerm≤300) with
 | false=>exact ⟨rfl,rfl⟩
 | true =>
 cases decide (0≤r.Commit∧r.Commit≤300) with
 | false=>exact ⟨rfl,rfl⟩
 | true =>
 cases entriesOk r.List r.Term with
 | false=>exact ⟨rfl,rfl⟩
 | true=>exact ⟨rfl,rfl⟩
def numsBad (l:List Int) (a b:Int):Bool:=l.any (fun n=>!decide (a≤n∧n≤b))
theorem i_numbersOk_ok (l:List Int) (k a b:Int) (hl:l.length≤2097152):i_numbersOk l k a b=some (decide ((l.length:Int)=k) && !numsBad l a b,()):=by
 rw [i_numbersOk_eq,x_slices_ContainsFunc_int_numbersOk_1_eq,x_slices_IndexFunc_int_numbersOk_1_eq]
 obtain ⟨j,e,e1,_⟩:=index_loop (fun i=>x_slices_IndexFunc_int_numbersOk_1_L1 l (l.length:Int) i a b) (a,b,()) l.length (fun i=>!decide (a≤l.getD i 0∧l.getD i 0≤b)) (fun i hi=>by
  show x_slices_IndexFunc_int_numbersOk_1_L1 l _ i a b=_
  rw [x_slices_IndexFunc_int_numbersOk_1_L1_eq,if_pos (decide_eq_true (by omega)),if_pos (by omega),w64_succ hi (by omega),Int.toNat_natCast,i_numbersOk_1_eq,i_in_ok,Option.bind_some,Option.bind_some]) (by
  show x_slices_IndexFunc_int_numbersOk_1_L1 l _ _ a b=_
  rw [x_slices_IndexFunc_int_numbersOk_1_L1_eq,if_neg (by simp)])
 rw [e,Option.bind_some,Option.bind_some]
 dsimp only
 rw [e1,anyB_list l 0 (fun n=>!decide (a≤n∧n≤b))]
 unfold numsBad
 cases decide ((l.length:Int)=k) <;> rfl
def BPeer (n:impl_Peer):Prop:=BHard n.Hard∧n.Votes.length≤2097152∧n.Next.length≤2097152∧n.Match.length≤2097152∧BMach n.Now∧n.Disk.Bytes.length≤2097152∧n.Held.length≤2097152∧∀ r∈n.Held,BRpc r
def heldBad (n:impl_Peer) (k:Int):Bool:=n.Held.any (fun r=>!rpcB r k || !decide (r.From=n.Id))
noncomputable def peerB (p:impl_Prog) (n:impl_Peer) (k:Int):Bool :=
 decide (1≤k∧k≤5) && (decide (0≤n.Id∧n.Id≤w64 (k - 1)) && (hardB p n.Hard && (!decide (n.Hard.Vote ≥ k) && (decide (0≤n.Role∧n.Role≤2) && (decide ((n.Votes.length:Int)=k) &&
 (decide ((n.Next.length:Int)=k) && (!numsBad n.Next 1 (w64 (lastI n.Hard.Log+1)) && (decide ((n.Match.length:Int)=k) && (!numsBad n.Match 0 (lastI n.Hard.Log) &&
 (decide (n.Hard.Log.Base≤n.Commit∧n.Commit≤lastI n.Hard.Log) && (machB p n.Now && (diskOk n.Disk && (decide ((n.Held.length:Int)≤40) && !heldBad n k)))))))))))))
theorem i_PeerOk_ok (p:impl_Prog) (n:impl_Peer) (k:Int) (hp:BProg p) (hb:BPeer n):i_PeerOk p n k=some (peerB p n k,()):=by
 obtain ⟨h1,h2,h3,h4,h5,h6,h7,h8⟩:=hb
 have hheld:x_slices_ContainsFunc_impl_Rpc_PeerOk_1 n.Held k n=some (heldBad n k,k,n,()):=by
  rw [x_slices_ContainsFunc_impl_Rpc_PeerOk_1_eq,x_slices_IndexFunc_impl_Rpc_PeerOk_1_eq]
  obtain ⟨j,e,e1,_⟩:=index_loop (fun i=>x_slices_IndexFunc_impl_Rpc_PeerOk_1_L1 n.Held (n.Held.length:Int) i k n) (k,n,()) n.Held.length (fun i=>!rpcB (n.Held.getD i z_impl_Rpc) k || !decide ((n.Held.getD i z_impl_Rpc).From=n.Id)) (fun i hi=>by
   show x_slices_IndexFunc_impl_Rpc_PeerOk_1_L1 n.Held _ i k n=_
   rw [x_slices_IndexFunc_impl_Rpc_PeerOk_1_L1_eq,if_pos (decide_eq_true (by omega)),if_pos (by omega),w64_succ hi (by omega),Int.toNat_natCast,i_PeerOk_1_eq,(rpc_ok _ k (by rw [getD_lt hi]; exact h8 _ (List.getElem_mem hi))).2,Option.bind_some]
   dsimp only
   cases rpcB (n.Held.getD i z_impl_Rpc) k <;> rfl) (by
   show x_slices_IndexFunc_impl_Rpc_PeerOk_1_L1 n.Held _ _ k n=_
   rw [x_slices_IndexFunc_impl_Rpc_PeerOk_1_L1_eq,if_neg (by simp)])
  rw [e,Option.bind_some]
  dsimp only
  rw [e1,anyB_list n.Held z_impl_Rpc (fun r=>!rpcB r k || !decide (r.From=n.Id))]
  rfl
 have e40:decide ((n.Held.length:Int) > 40) = !decide ((n.Held.length:Int)≤40):=by
  by_cases g:(n.Held.length:Int)≤40
  ·rw [decide_eq_true g,decide_eq_false (by omega)]; rfl
  ·rw [decide_eq_false g,decide_eq_true (by omega)]; rfl
 rw [i_PeerOk_eq,i_in_ok,i_in_ok,i_HardOk_ok p _ hp h1,i_in_ok,i_LastOf_ok _ h1.1.1]
 simp only [Option.bind_some]
 rw [i_numbersOk_ok _ _ _ _ h3,i_numbersOk_ok _ _ _ _ h4,i_in_ok,i_MachOk_ok p _ hp h5.1 h5.2.1,i_DiskOk_ok,hheld,e40]
 simp only [Option.bind_some]
 unfold peerB
 cases decide (1≤k∧k≤5) with
 | false=>rfl
 | true =>
 cases decide (0≤n.Id∧n.Id≤w64 (k - 1)) with
 | false=>rfl
 | true =>
 cases hardB p n.Hard with
 | false=>rfl
 | true =>
 cases decide (n.Hard.Vote ≥ k) with
 | true=>rfl
 | false =>
 cases decide (0≤n.Role∧n.Role≤2) with
 | false=>rfl
 | true =>
 cases decide ((n.Votes.length:Int)=k) with
 | false=>rfl
 | true =>
 cases decide ((n.Next.length:Int)=k) with
 | false=>rfl
 | true =>
 cases numsBad n.Next 1 (w64 (lastI n.Hard.Log+1)) with
 | true=>rfl
 | false =>
 cases decide ((n.Match.length:Int)=k) with
 | false=>rfl
 | true =>
 cases numsBad n.Match 0 (lastI n.Hard.Log) with
 | true=>rfl
 | false =>
 cases decide (n.Hard.Log.Base≤n.Commit∧n.Commit≤lastI n.Hard.Log) with
 | false=>rfl
 | true =>
 cases machB p n.Now <;> cases diskOk n.Disk <;> cases decide ((n.Held.length:Int)≤40) <;> rfl
theorem s_PeerOk_ok (p:impl_Prog) (n:impl_Peer) (k:Int) (hp:BProg p) (hb:BPeer n):s_PeerOk p n k=some (peerB p n k,()):=by
 obtain ⟨h1,h2,h3,h4,h5,h6,h7,h8⟩:=hb
 rw [s_PeerOk_eq,s_l1In_ok,s_l1In_ok,s_HardOk_ok p _ hp h1,s_l1In_ok,s_LastOf_ok _ h1.1.1]
 simp only [Option.bind_some]
 unfold peerB
 cases decide (1≤k∧k≤5) with
 | false=>rfl
 | true =>
 cases decide (0≤n.Id∧n.Id≤w64 (k - 1)) with
 | false=>rfl
 | true =>
 cases hardB p n.Hard with
 | false=>rfl
 | true =>
 cases decide (n.Hard.Vote ≥ k) with
 | true=>rfl
 | false =>
 cases decide (0≤n.Role∧n.Role≤2) with
 | false=>rfl
 | true =>
 cases decide ((n.Votes.length:Int)=k) with
 | false=>rfl
 | true =>
 by_cases hn:(n.Next.length:Int)=k
 case neg=>rw [decide_eq_false hn]; rfl
 rw [decide_eq_true hn]
 by_cases hm:(n.Match.length:Int)=k
 case neg=>rw [decide_eq_false hm,Bool.false_and,Bool.and_false]; rfl
 rw [decide_eq_true hm]
 subst hn
 have hm':n.Match.length=n.Next.length:=by omega
 have f2:=find_loopN (fun i=>s_PeerOk_L2 (n.Next.length:Int) (lastI n.Hard.Log) i p n) n.Held.length (fun i=>!rpcB (n.Held.getD i z_impl_Rpc) n.Next.length || !decide ((n.Held.getD i z_impl_Rpc).From=n.Id)) (some (false,())) (some (decide (n.Hard.Log.Base≤n.Commit∧n.Commit≤lastI n.Hard.Log) && (machB p n.Now && (diskOk n.Disk && decide ((n.Held.length:Int)≤40))),())) (fun i hi=>by
  show s_PeerOk_L2 _ _ i p n=_
  rw [s_PeerOk_L2_eq,if_pos (decide_eq_true (by omega)),if_pos (by omega),w64_succ hi (by omega),Int.toNat_natCast,(rpc_ok _ _ (by rw [getD_lt hi]; exact h8 _ (List.getElem_mem hi))).1,Option.bind_some,if_pos (c:=0≤(i:Int)∧(i:Int) < (n.Held.length:Int)) (by omega)]
  dsimp only
  cases rpcB (n.Held.getD i z_impl_Rpc) n.Next.length <;> rfl) (by
  show s_PeerOk_L2 _ _ _ p n=_
  rw [s_PeerOk_L2_eq,if_neg (by simp),s_l1In_ok,s_MachOk_ok p _ hp h5.1 h5.2.1,s_DiskOk_ok]
  simp only [Option.bind_some]
  cases decide (n.Hard.Log.Base≤n.Commit∧n.Commit≤lastI n.Hard.Log) <;> cases machB p n.Now <;> cases diskOk n.Disk <;> rfl)
 have f1:=find_loopN (fun i=>s_PeerOk_L1 (n.Next.length:Int) (lastI n.Hard.Log) i p n) n.Next.length (fun i=>!decide (1≤n.Next.getD i 0∧n.Next.getD i 0≤w64 (lastI n.Hard.Log+1)) || !decide (0≤n.Match.getD i 0∧n.Match.getD i 0≤lastI n.Hard.Log)) (some (false,())) (s_PeerOk_L2 (n.Next.length:Int) (lastI n.Hard.Log) 0 p n) (fun i hi=>by
  show s_PeerOk_L1 _ _ i p n=_
  rw [s_PeerOk_L1_eq,if_pos (decide_eq_true (by omega)),if_pos (c:=0≤(i:Int)∧(i:Int) < (n.Next.length:Int)) (by omega),w64_succ hi (by omega),Int.toNat_natCast,s_l1In_ok,s_l1In_ok,Option.bind_some,Option.bind_some,if_pos (c:=0≤(i:Int)∧(i:Int) < (n.Match.length:Int)) (by omega)]
  dsimp only
  cases decide (1≤n.Next.getD i 0∧n.Next.getD i 0≤w64 (lastI n.Hard.Log+1)) <;> rfl) (by
  show s_PeerOk_L1 _ _ _ p n=_
  rw [s_PeerOk_L1_eq,if_neg (by simp)])
 rw [f1,f2,anyB_or (fun i=>!decide (1≤n.Next.getD i 0∧n.Next.getD i 0≤w64 (lastI n.Hard.Log+1))) (fun i=>!decide (0≤n.Match.getD i 0∧n.Match.getD i 0≤lastI n.Hard.Log)),anyB_list n.Next 0 (fun x=>!decide (1≤x∧x≤w64 (lastI n.Hard.Log+1))),anyB_list n.Held z_impl_Rpc (fun r=>!rpcB r n.Next.length || !decide (r.From=n.Id)),← hm',anyB_list n.Match 0 (fun x=>!decide (0≤x∧x≤lastI n.Hard.Log))]
 have e1:n.Next.any (fun x=>!decide (1≤x∧x≤w64 (lastI n.Hard.Log+1)))=numsBad n.Next 1 (w64 (lastI n.Hard.Log+1)):=rfl
 have e2:n.Match.any (fun x=>!decide (0≤x∧x≤lastI n.Hard.Log))=numsBad n.Match 0 (lastI n.Hard.Log):=rfl
 have e3:n.Held.any (fun r=>!rpcB r n.Match.length || !decide (r.From=n.Id))=heldBad n n.Match.length:=rfl
 rw [e1,e2,e3]
 cases numsBad n.Next 1 (w64 (lastI n.Hard.Log+1)) <;> cases numsBad n.Match 0 (lastI n.Hard.Log) <;> cases heldBad n n.Match.length <;> cases decide (n.Hard.Log.Base≤n.Commit∧n.Commit≤lastI n.Hard.Log) <;> cases machB p n.Now <;> cases diskOk n.Disk <;> cases decide ((n.Held.length:Int)≤40) <;> rfl
theorem fb_Val {d:Nat} {x:laws_Val} (h:Fine (G:=gam) (d+3) (.nm 11) x):Bt x.S:=by
 have h':_∧_∧(x.S.length≤9223372036854775807∧∀ b∈x.S,0≤b∧b≤255)∧_:=h
 exact h'.2.2.1.2
theorem fb_Cell {d:Nat} {x:laws_Cell} (h:Fine (G:=gam) (d+4) (.nm 12) x):Bt x.Val.S:=by
 have h':_∧(x.Key.length≤9223372036854775807∧_)∧Fine (G:=gam) (d+3) (.nm 11) x.Val∧_:=h
 exact fb_Val (d:=d+0) h'.2.2.1
def Lb_State (x:laws_State):Prop:=(∀ y∈x.Vars,Bt y.S)∧∀ y∈x.Cells,Bt y.Val.S
theorem fb_State {d:Nat} {x:laws_State} (h:Fine (G:=gam) (d+6) (.nm 10) x):Lb_State x:=by
 have h':(x.Vars.length≤9223372036854775807∧∀ y∈x.Vars,Fine (G:=gam) (d+4) (.nm 11) y)∧(x.Cells.length≤9223372036854775807∧∀ y∈x.Cells,Fine (G:=gam) (d+4) (.nm 12) y)∧_∧_∧_:=h
 exact ⟨fun y hy=>fb_Val (d:=d+1) (h'.1.2 y hy),fun y hy=>fb_Cell (d:=d+0) (h'.2.1.2 y hy)⟩
theorem fb_Mach {d:Nat} {x:laws_Mach} (h:Fine (G:=gam) (d+7) (.nm 9) x):Lb_State x.State:=by
 have h':Fine (G:=gam) (d+6) (.nm 10) x.State∧(x.Done.length≤9223372036854775807∧_)∧(x.Out.length≤9223372036854775807∧_)∧_:=h
 exact fb_State (d:=d+0) h'.1
theorem fb_Hard {d:Nat} {x:laws_Hard} (h:Fine (G:=gam) (d+8) (.nm 5) x):Lb_State x.Snap.State:=by
 have h':_∧_∧Fine (G:=gam) (d+7) (.nm 6) x.Log∧Fine (G:=gam) (d+7) (.nm 9) x.Snap∧_:=h
 exact fb_Mach (d:=d+0) h'.2.2.2.1
theorem fb_Peer {d:Nat} {x:laws_Peer} (h:Fine (G:=gam) (d+9) (.nm 4) x):Lb_State x.Hard.Snap.State∧Lb_State x.Now.State:=by
 have h':_∧Fine (G:=gam) (d+8) (.nm 5) x.Hard∧_∧(x.Votes.length≤9223372036854775807∧_)∧(x.Next.length≤9223372036854775807∧_)∧(x.Match.length≤9223372036854775807∧_)∧_∧Fine (G:=gam) (d+8) (.nm 9) x.Now∧_:=h
 exact ⟨fb_Hard (d:=d+0) h'.2.1,fb_Mach (d:=d+1) h'.2.2.2.2.2.2.2.1⟩
theorem fb_Op {d:Nat} {x:laws_Op} (h:Fine (G:=gam) (d+3) (.nm 1) x):∀ b∈x.S,0≤b∧b≤255:=by
 have h':_∧_∧(x.S.length≤9223372036854775807∧∀ b∈x.S,0≤b∧b≤255)∧_:=h
 exact h'.2.2.1.2
def Lb_Prog (x:laws_Prog):Prop:=(∀ y∈x.Start,∀ b∈y.S,0≤b∧b≤255)∧∀ y∈x.Main,∀ b∈y.S,0≤b∧b≤255
theorem fb_Prog {d:Nat} {x:laws_Prog} (h:Fine (G:=gam) (d+5) (.nm 0) x):Lb_Prog x:=by
 have h':_∧_∧(x.Start.length≤9223372036854775807∧∀ y∈x.Start,Fine (G:=gam) (d+3) (.nm 1) y)∧(x.Main.length≤9223372036854775807∧∀ y∈x.Main,Fine (G:=gam) (d+3) (.nm 1) y)∧_:=h
 exact ⟨fun y hy=>fb_Op (d:=d+0) (h'.2.2.1.2 y hy),fun y hy=>fb_Op (d:=d+0) (h'.2.2.2.1.2 y hy)⟩
theorem bOps {l:List laws_Op} (h:l.length≤1048576∧∀ y∈l,Gl_Op 1048576 y) (hb:∀ y∈l,∀ b∈y.S,0≤b∧b≤255):BOps (l.map hc_Op):=by
 refine ⟨by rw [List.length_map]; have:=h.1; omega,fun o ho=>?_⟩
 obtain ⟨y,hy,rfl⟩:=List.mem_map.1 ho
 have:=h.2 y hy
 unfold Gl_Op at this
 exact ⟨hb y hy,by show y.S.length≤_; omega⟩
theorem bProg {x:laws_Prog} (h:Gl_Prog 1048576 x) (hb:Lb_Prog x):BProg (hc_Prog x):=by
 unfold Gl_Prog at h
 obtain ⟨h1,h2,h3,h4⟩:=h
 exact ⟨⟨by show x.Vars.length≤_; have:=h1.1; omega,fun y hy=>by have:=h1.2 y hy; omega⟩,⟨by show x.Cells.length≤_; have:=h2.1; omega,fun y hy=>by have:=h2.2 y hy; omega⟩,bOps h3 hb.1,bOps h4 hb.2⟩
theorem bState {x:laws_State} (h:Gl_State 1048576 x) (hb:Lb_State x):BState (hc_State x):=by
 unfold Gl_State at h
 obtain ⟨h1,h2⟩:=h
 refine ⟨⟨by show (x.Vars.map hc_Val).length≤_; rw [List.length_map]; have:=h1.1; omega,fun v hv=>?_⟩,by show (x.Cells.map hc_Cell).length≤_; rw [List.length_map]; have:=h2.1; omega,fun c hc=>?_⟩
 ·obtain ⟨y,hy,rfl⟩:=List.mem_map.1 hv; exact hb.1 y hy
 ·obtain ⟨y,hy,rfl⟩:=List.mem_map.1 hc; exact hb.2 y hy
theorem bMach {x:laws_Mach} (h:Gl_Mach 1048576 x) (hb:Lb_State x.State):BMach (hc_Mach x):=by
 unfold Gl_Mach at h
 exact ⟨bState h.1 hb,by show x.Done.length≤_; have:=h.2.1; omega,by show x.Out.length≤_; have:=h.2.2; omega⟩
theorem bList {l:List laws_Entry} (h:l.length≤1048576∧∀ y∈l,Gl_Entry 1048576 y):(l.map hc_Entry).length≤2097152∧∀ e∈l.map hc_Entry,e.C.Line.length≤2097152:=by
 refine ⟨by rw [List.length_map]; have:=h.1; omega,fun e he=>?_⟩
 obtain ⟨y,hy,rfl⟩:=List.mem_map.1 he
 have:=h.2 y hy
 unfold Gl_Entry Gl_Cmd at this
 show y.C.Line.length≤_
 omega
theorem bHard {x:laws_Hard} (h:Gl_Hard 1048576 x) (hb:Lb_State x.Snap.State):BHard (hc_Hard x):=by
 unfold Gl_Hard Gl_Log at h
 exact ⟨bList h.1,bMach h.2 hb⟩
theorem bRpc {x:laws_Rpc} (h:Gl_Rpc 1048576 x):BRpc (hc_Rpc x):=by
 unfold Gl_Rpc at h
 exact bList h.1
theorem bPeer {x:laws_Peer} (h:Gl_Peer 1048576 x) (hb:Lb_State x.Hard.Snap.State∧Lb_State x.Now.State):BPeer (hc_Peer x):=by
 unfold Gl_Peer Gl_Disk at h
 obtain ⟨h1,h2,h3,h4,h5,h6,h7⟩:=h
 refine ⟨bHard h1 hb.1,by show x.Votes.length≤_; omega,by show x.Next.length≤_; omega,by show x.Match.length≤_; omega,bMach h5 hb.2,by show x.Disk.Bytes.length≤_; omega,by show (x.Held.map hc_Rpc).length≤_; rw [List.length_map]; have:=h7.1; omega,fun r hr=>?_⟩
 obtain ⟨y,hy,rfl⟩:=List.mem_map.1 hr
 exact bRpc (h7.2 y hy)
theorem gi_up_Prog {x:laws_Prog} (h:Gl_Prog 1048576 x):Gi_Prog 2097152 (hc_Prog x):=by
 have:=hg_Prog h
 unfold Gi_Prog Gi_Op at *
 obtain ⟨h1,h2,h3,h4⟩:=this
 exact ⟨⟨by omega,fun y hy=>by have:=h1.2 y hy; omega⟩,⟨by omega,fun y hy=>by have:=h2.2 y hy; omega⟩,⟨by omega,fun y hy=>by have:=h3.2 y hy; omega⟩,⟨by omega,fun y hy=>by have:=h4.2 y hy; omega⟩⟩
theorem gi_mono_Rpc {x:impl_Rpc} (h:Gi_Rpc 1048576 x):Gi_Rpc 2097152 x:=by
 unfold Gi_Rpc Gi_Entry Gi_Cmd at *
 exact ⟨⟨by have:=h.1.1; omega,fun y hy=>by have:=h.1.2 y hy; omega⟩,by have:=h.2; omega⟩
theorem gi_mono_Mach {x:impl_Mach} (h:Gi_Mach 1048576 x):Gi_Mach 2097152 x:=by
 unfold Gi_Mach Gi_State Gi_Val Gi_Cell Gi_Val at *
 obtain ⟨⟨⟨a1,a2⟩,b1,b2⟩,c1,c2⟩:=h
 exact ⟨⟨⟨by omega,fun y hy=>by have:=a2 y hy; omega⟩,by omega,fun y hy=>by have:=b2 y hy; omega⟩,by omega,by omega⟩
theorem gi_mono_Hard {x:impl_Hard} (h:Gi_Hard 1048576 x):Gi_Hard 2097152 x:=by
 unfold Gi_Hard Gi_Log Gi_Entry Gi_Cmd at *
 obtain ⟨⟨a1,a2⟩,a3⟩:=h
 exact ⟨⟨by omega,fun y hy=>by have:=a2 y hy; omega⟩,gi_mono_Mach a3⟩
theorem gi_mono_Peer {x:impl_Peer} (h:Gi_Peer 1048576 x):Gi_Peer 2097152 x:=by
 unfold Gi_Peer Gi_Disk at *
 obtain ⟨h1,h2,h3,h4,h5,h6,h7,h8⟩:=h
 exact ⟨gi_mono_Hard h1,by omega,by omega,by omega,gi_mono_Mach h5,by omega,by omega,fun y hy=>gi_mono_Rpc (h8 y hy)⟩
abbrev Has_ (l:impl_Log) (i:Int):Prop:=l.Base < i∧i≤300∧0≤l.Base∧i - l.Base - 1 < (l.List.length:Int)
theorem at_ok (l:impl_Log) (i:Int) (hl:l.List.length≤4294967296) (hb:InI l.Base) (hi:InI i):s_l18At l i=some (if Has_ l i then i - l.Base - 1 else -1,()):=by
 unfold InI at *
 rw [s_l18At_eq]
 unfold Has_
 by_cases h1:i≤l.Base
 ·rw [if_pos (decide_eq_true h1),if_neg (by omega)]
 ·rw [if_neg (by rw [decide_eq_true_eq]; exact h1)]
  by_cases h2:i > 300
  ·rw [if_pos (decide_eq_true h2),if_neg (by omega)]
  ·rw [if_neg (by rw [decide_eq_true_eq]; exact h2)]
   by_cases h3:l.Base < 0
   ·rw [if_pos (decide_eq_true h3),if_neg (by omega)]
   ·rw [if_neg (by rw [decide_eq_true_eq]; exact h3),w64_id (n:=i - l.Base) (by omega) (by omega),w64_id (n:=i - l.Base - 1) (by omega) (by omega)]
    by_cases h4:i - l.Base - 1 ≥ (l.List.length:Int)
    ·rw [if_pos (decide_eq_true h4),if_neg (by omega)]
    ·rw [if_neg (by rw [decide_eq_true_eq]; exact h4),if_pos (by omega)]
def thereOf (l:impl_Log):List impl_Entry:=if 0≤l.Base∧l.Base≤300 then l.List.take (300 - l.Base).toNat else []
theorem there_ok (l:impl_Log) (hl:l.List.length≤4294967296):i_there l=some (thereOf l,()):=by
 rw [i_there_eq,isIndex_ok,Option.bind_some]
 unfold thereOf
 by_cases h:0≤l.Base∧l.Base≤300
 ·rw [if_neg (by simp [h]),if_pos h,w64_id (n:=300 - l.Base) (by omega) (by omega)]
  have hm:mnI (l.List.length:Int) (300 - l.Base)=min (l.List.length:Int) (300 - l.Base):=by unfold mnI; split <;> omega
  rw [hm,if_pos (by omega),List.drop_zero,Nat.sub_zero]
  congr 2
  by_cases h2:(l.List.length:Int)≤300 - l.Base
  ·rw [List.take_of_length_le (by omega),List.take_of_length_le (by omega)]
  ·rw [show (min (l.List.length:Int) (300 - l.Base))=300 - l.Base by omega]
 ·rw [if_pos (by simp [h]),if_neg h]
theorem there_len (l:impl_Log):((thereOf l).length:Int)=if 0≤l.Base∧l.Base≤300 then min (300 - l.Base) (l.List.length:Int) else 0:=by
 unfold thereOf
 split
 ·rw [List.length_take]; omega
 ·rfl
theorem has_iff (l:impl_Log) (i:Int):Has_ l i ↔ l.Base < i∧0 < ((thereOf l).length:Int)∧i≤l.Base+(thereOf l).length:=by
 rw [there_len]
 unfold Has_
 split <;> omega
theorem there_get (l:impl_Log) (j:Nat) (h:j < (thereOf l).length) (z:impl_Entry):(thereOf l).getD j z=l.List.getD j z:=by
 unfold thereOf at h ⊢
 split at h
 ·rename_i hb
  rw [if_pos hb]
  rw [List.length_take] at h
  rw [List.getD_eq_getElem?_getD,List.getD_eq_getElem?_getD,List.getElem?_take,if_pos (by omega)]
 ·cases h
theorem termAt_same (l:impl_Log) (i:Int) (hl:l.List.length≤4294967296) (hb:InI l.Base) (hi:InI i):∃ y,s_TermAt l i=some (y,())∧i_TermAt l i=some (y,())∧(Has_ l i→y=(l.List.getD (i - l.Base - 1).toNat z_impl_Entry).Term):=by
 rw [s_TermAt_eq,i_TermAt_eq,at_ok l i hl hb hi,there_ok l hl]
 simp only [Option.bind_some,decide_eq_true_eq]
 by_cases h1:i=l.Base
 ·simp only [if_pos h1]
  exact ⟨_,rfl,rfl,fun h=>absurd h.1 (by omega)⟩
 ·simp only [if_neg h1]
  have hi':=has_iff l i
  have hlen:=there_len l
  unfold InI at *
  by_cases h:Has_ l i
  ·have h':=hi'.1 h
   have hh:=h
   unfold Has_ at hh
   have e1:w64 (l.Base+((thereOf l).length:Int))=l.Base+(thereOf l).length:=w64_id (by omega) (by split at hlen <;> omega)
   have e2:w64 (i - l.Base)=i - l.Base:=w64_id (by omega) (by omega)
   have e3:w64 (i - l.Base - 1)=i - l.Base - 1:=w64_id (by omega) (by omega)
   have c1:¬ i - l.Base - 1 < 0:=by omega
   have c2:0≤i - l.Base - 1∧i - l.Base - 1 < (l.List.length:Int):=by omega
   have c3:i > l.Base:=by omega
   have c4:((thereOf l).length:Int) > 0:=by omega
   have c5:i≤l.Base+(thereOf l).length:=by omega
   have c6:0≤i - l.Base - 1∧i - l.Base - 1 < ((thereOf l).length:Int):=by omega
   simp only [if_pos h,e1,e2,e3,if_neg c1,if_pos c2,if_pos c3,if_pos c4,if_pos c5,if_pos c6]
   rw [there_get l _ (by omega)]
   exact ⟨_,rfl,rfl,fun _=>rfl⟩
  ·simp only [if_neg h]
   have h':¬ (l.Base < i∧0 < ((thereOf l).length:Int)∧i≤l.Base+(thereOf l).length):=fun x=>h (hi'.2 x)
   refine ⟨-1,rfl,?_,fun h'=>absurd h' h⟩
   by_cases c1:i > l.Base
   ·simp only [if_pos c1]
    by_cases c2:((thereOf l).length:Int) > 0
    ·have e1:w64 (l.Base+((thereOf l).length:Int))=l.Base+(thereOf l).length:=w64_id (by omega) (by split at hlen <;> omega)
     have c3:¬ i≤l.Base+((thereOf l).length:Int):=by omega
     simp only [if_pos c2,e1,if_neg c3]
    ·simp only [if_neg c2]
   ·simp only [if_neg c1]
theorem clone_Entry (l:List impl_Entry) (hl:l.length≤4294967296):x_slices_Clone_impl_Entry l=some (l,()):=by
 rw [x_slices_Clone_impl_Entry_eq,if_pos (show 0+l.length≤room by rw [room_eq]; omega)]
 cases l with
 | nil=>exact amb_self _
 | cons a l=>rfl
def putNum:Nat→Int→List Int
 | 0,n=>[n % 256]
 | d+1,n=>if n > 127 then (n % 128+128) :: putNum d (n / 128) else [n % 256]
theorem putNum_len (d:Nat):∀ n:Int,(putNum d n).length≤d+1:=by
 induction d with
 | zero=>intro n; simp [putNum]
 | succ d ih =>
  intro n; unfold putNum; split
  ·have:=ih (n / 128); simp; omega
  ·simp
theorem w8_mod (n:Int):w8 n=n % 256:=IntKind.wrap_u8 n
theorem shr7 {n:Int} (h:0≤n):shrI .i64 n 7=n / 128:=by
 show n.fdiv (2 ^ 7)=n / 128
 rw [Int.fdiv_eq_ediv_of_nonneg n (by decide)]; rfl
theorem s_PutNum_L1_ok (d:Nat):∀ (n:Int) (out:List Int),0≤n→n < 128 ^ (d+1)→n≤9223372036854775807→out.length+d≤1000→s_PutNum_L1 n out=some (out ++ putNum d n,()):=by
 induction d with
 | zero =>
  intro n out h0 h1 h2 h3
  rw [s_PutNum_L1_eq,if_neg (by rw [decide_eq_true_eq]; simp at h1; omega),if_pos (by rw [room_eq]; omega),w8_mod]; rfl
 | succ d ih =>
  intro n out h0 h1 h2 h3
  rw [s_PutNum_L1_eq]
  unfold putNum
  have c1:out.length+1≤room:=by rw [room_eq]; omega
  by_cases h:n > 127
  ·have e:=ih (n / 128) (out ++ [n % 128+128]) (by omega) (by rw [Int.pow_succ] at h1; omega) (by omega) (by simp; omega)
   rw [List.append_assoc,List.singleton_append] at e
   rw [if_pos h,if_pos (decide_eq_true h),if_pos c1,Int.tdiv_eq_ediv_of_nonneg h0,Int.tmod_eq_emod_of_nonneg h0,w64_id (n:=n / 128) (by omega) (by omega),w64_id (n:=n % 128+128) (by omega) (by omega),w8_id (n:=n % 128+128) (by omega) (by omega)]
   exact e
  ·rw [if_neg h,if_neg (by rw [decide_eq_true_eq]; exact h),if_pos c1,w8_mod]; rfl
theorem i_PutNum_L1_ok (d:Nat):∀ (n:Int) (out:List Int),0≤n→n < 128 ^ (d+1)→n≤9223372036854775807→out.length+d≤1000→i_PutNum_L1 n out=some (out ++ putNum d n,()):=by
 induction d with
 | zero =>
  intro n out h0 h1 h2 h3
  rw [i_PutNum_L1_eq,if_neg (by rw [decide_eq_true_eq]; simp at h1; omega),if_pos (by rw [room_eq]; omega),w8_mod]; rfl
 | succ d ih =>
  intro n out h0 h1 h2 h3
  rw [i_PutNum_L1_eq]
  unfold putNum
  have c1:out.length+1≤room:=by rw [room_eq]; omega
  by_cases h:n > 127
  ·have e:=ih (n / 128) (out ++ [n % 128+128]) (by omega) (by rw [Int.pow_succ] at h1; omega) (by omega) (by simp; omega)
   rw [List.append_assoc,List.singleton_append] at e
   rw [if_pos h,if_pos (decide_eq_true h),if_pos c1,shr7 h0,and_127 h0 (by omega),or_128 (by omega) (by omega),w8_id (n:=n % 128+128) (by omega) (by omega)]
   exact e
  ·rw [if_neg h,if_neg (by rw [decide_eq_true_eq]; exact h),if_pos c1,w8_mod]; rfl
def putNumOf (n:Int):List Int:=if 0≤n∧n≤4611686018427387903 then putNum 8 n else []
theorem putNumOf_len (n:Int):(putNumOf n).length≤9:=by
 unfold putNumOf; split
 ·exact putNum_len 8 n
 ·simp
theorem s_PutNum_ok (n:Int):s_PutNum n=some (putNumOf n,()):=by
 rw [s_PutNum_eq,s_l1In_ok,Option.bind_some]
 unfold putNumOf
 by_cases h:0≤n∧n≤4611686018427387903
 ·rw [if_pos h,if_neg (by simp [h])]
  exact s_PutNum_L1_ok 8 n [] h.1 (by have:=h.2; omega) (by omega) (by simp)
 ·rw [if_neg h,if_pos (by simp [h])]
theorem i_PutNum_ok (n:Int):i_PutNum n=some (putNumOf n,()):=by
 rw [i_PutNum_eq,i_in_ok,Option.bind_some]
 unfold putNumOf
 by_cases h:0≤n∧n≤4611686018427387903
 ·rw [if_pos h,if_neg (by simp [h])]
  exact i_PutNum_L1_ok 8 n [] h.1 (by have:=h.2; omega) (by omega) (by simp)
 ·rw [if_neg h,if_pos (by simp [h])]
def putText (s:List Int):List Int:=putNumOf s.length ++ s
theorem putText_len (s:List Int):(putText s).length≤9+s.length:=by
 unfold putText; rw [List.length_append]; have:=putNumOf_len s.length; omega
theorem s_PutText_ok (s:List Int) (h:s.length≤4000000000):s_PutText s=some (putText s,()):=by
 have:=putNumOf_len s.length
 rw [s_PutText_eq,s_PutNum_ok,Option.bind_some]
 dsimp only
 rw [if_pos (by rw [room_eq]; omega),if_pos (by rw [room_eq]; omega)]; rfl
theorem i_PutText_ok (s:List Int) (h:s.length≤4000000000):i_PutText s=some (putText s,()):=by
 have:=putNumOf_len s.length
 rw [i_PutText_eq,i_PutNum_ok,Option.bind_some]
 dsimp only
 rw [if_pos (by rw [room_eq]; omega)]; rfl
def Bytes (b:List Int):Prop:=∀ x∈b,0≤x∧x≤255
def zig (n:Int):Int:=if n < 0 then -2 * n - 1 else 2 * n
def InZ (n:Int):Prop:=-2305843009213693951≤n∧n≤2305843009213693951
instance (n:Int):Decidable (InZ n):=inferInstanceAs (Decidable (_∧_))
def putInt (n:Int):List Int:=if InZ n then putNumOf (zig n) else []
theorem i_PutInt_ok (n:Int):i_PutInt n=some (putInt n,()):=by
 rw [i_PutInt_eq,i_in_ok,Option.bind_some]
 unfold putInt
 by_cases h:InZ n
 ·have hh:=h
  unfold InZ at hh
  rw [if_pos h,if_neg (by simp [hh])]
  unfold zig
  by_cases h2:n < 0
  ·rw [if_pos (decide_eq_true h2),if_pos h2,w64_id (n:=-2 * n) (by omega) (by omega),w64_id (by omega) (by omega),i_PutNum_ok]; rfl
  ·rw [if_neg (by rw [decide_eq_true_eq]; exact h2),if_neg h2,w64_id (by omega) (by omega),i_PutNum_ok]; rfl
 ·have hh:=h
  unfold InZ at hh
  rw [if_neg h,if_pos (by simp [hh])]
theorem s_PutInt_ok (n:Int):s_PutInt n=some (putInt n,()):=by
 rw [s_PutInt_eq,s_l1In_ok,Option.bind_some]
 unfold putInt
 by_cases h:InZ n
 ·have hh:=h
  unfold InZ at hh
  rw [if_pos h,if_neg (by simp [hh])]
  unfold zig
  by_cases h2:n < 0
  ·rw [if_pos (decide_eq_true h2),if_pos h2,w64_id (n:=-2 * n) (by omega) (by omega),w64_id (by omega) (by omega),s_PutNum_ok]; rfl
  ·rw [if_neg (by rw [decide_eq_true_eq]; exact h2),if_neg h2,w64_id (by omega) (by omega),s_PutNum_ok]; rfl
 ·have hh:=h
  unfold InZ at hh
  rw [if_neg h,if_pos (by simp [hh])]
theorem fold_loop {α β ρ:Type} (F:β→Int→Option ρ) (g:β→α→β) (l:List α) (P:Nat→β→Prop)
  (step:∀ (i:Nat) (h:i < l.length) (acc:β),P i acc→F acc i=F (g acc l[i]) ((i+1:Nat):Int)∧P (i+1) (g acc l[i])) (acc:β) (h0:P 0 acc) :
  F acc 0=F (l.foldl g acc) (l.length:Int)∧P l.length (l.foldl g acc):=by
 have key:∀ (d i:Nat) (acc:β),i+d=l.length→P i acc→F acc i=F ((l.drop i).foldl g acc) (l.length:Int)∧P l.length ((l.drop i).foldl g acc):=by
  intro d
  induction d with
  | zero =>
   intro i acc hd hp
   have hi:i=l.length:=by omega
   subst hi
   rw [List.drop_length]; exact ⟨rfl,hp⟩
  | succ d ih =>
   intro i acc hd hp
   have hi:i < l.length:=by omega
   obtain ⟨e1,e2⟩:=step i hi acc hp
   rw [e1,List.drop_eq_getElem_cons hi,List.foldl_cons]
   exact ih (i+1) _ (by omega) e2
 exact key l.length 0 acc (by omega) h0
theorem putInt_len (n:Int):(putInt n).length≤9:=by
 unfold putInt
 split
 ·exact putNumOf_len _
 ·simp
def valBytes (v:impl_Val):List Int:=(putNumOf v.Kind ++ putInt v.N) ++ putText v.S
theorem valBytes_len (v:impl_Val):(valBytes v).length≤27+v.S.length:=by
 unfold valBytes
 have h1:=putNumOf_len v.Kind
 have h2:=putInt_len v.N
 have h3:=putText_len v.S
 rw [List.length_append,List.length_append]; omega
theorem lenA {α:Type} (a b:List α):(List.append a b).length=a.length+b.length:=List.length_append
theorem s_l17Val_ok (v:impl_Val) (h:v.S.length≤2097152):s_l17Val v=some (valBytes v,()):=by
 have h1:=putNumOf_len v.Kind
 have h2:=putInt_len v.N
 have h3:=putText_len v.S
 rw [s_l17Val_eq,s_PutNum_ok,s_PutInt_ok,s_PutText_ok _ (by omega),Option.bind_some,Option.bind_some]
 dsimp only
 rw [if_pos (by rw [room_eq]; omega),Option.bind_some,if_pos (by rw [room_eq,lenA]; dsimp only; omega)]
 rfl
theorem i_putVal_ok (out:List Int) (v:impl_Val) (ho:out.length≤2000000000) (h:v.S.length≤2097152):i_putVal out v=some (out ++ valBytes v,()):=by
 have h1:=putNumOf_len v.Kind
 have h2:=putInt_len v.N
 have h3:=putText_len v.S
 rw [i_putVal_eq,i_PutNum_ok,i_PutInt_ok,i_PutText_ok _ (by omega),Option.bind_some,Option.bind_some]
 dsimp only
 rw [if_pos (by rw [room_eq]; omega),if_pos (by rw [room_eq,lenA]; omega),Option.bind_some,if_pos (by rw [room_eq,lenA,lenA]; dsimp only; omega)]
 unfold valBytes
 rw [← List.append_assoc,← List.append_assoc]
 rfl
def addV (a:List Int) (v:impl_Val):List Int:=a ++ valBytes v
def addC (a:List Int) (c:impl_Cell):List Int:=((a ++ putNumOf c.Name) ++ putText c.Key) ++ valBytes c.Val
def addN (a:List Int) (n:Int):List Int:=a ++ putNumOf n
def bytesV (m:impl_Mach):List Int:=m.State.Vars.foldl addV (putNumOf (m.State.Vars.length:Int)) ++ putNumOf (m.State.Cells.length:Int)
def bytesC (m:impl_Mach):List Int:=((m.State.Cells.foldl addC (bytesV m)) ++ putNumOf m.State.Nr) ++ putNumOf m.State.Err
def machBytes (m:impl_Mach):List Int:=m.Done.foldl addN (bytesC m) ++ putText m.Out
def MachFine (m:impl_Mach):Prop :=
 m.State.Vars.length≤8∧(∀ v∈m.State.Vars,v.S.length≤300)∧m.State.Cells.length≤40∧(∀ c∈m.State.Cells,c.Key.length≤300∧c.Val.S.length≤300)∧m.Done.length=3∧m.Out.length≤1500
theorem and_iff' {a b:Bool}:(a && b)=true ↔ a=true∧b=true:=by cases a <;> cases b <;> simp
theorem valB_len {v:impl_Val} (h:valB v=true):v.S.length≤300:=by
 unfold valB at h
 have h1:=(and_iff'.1 (and_iff'.1 h).1).2
 by_cases c:(v.S.length:Int) > 300
 ·rw [decide_eq_true c] at h1; cases h1
 ·omega
theorem not_true' {a:Bool} (h:(!a)=true):a=false:=by cases a with
 | true=>cases h
 | false=>rfl
theorem any_false {α:Type} {l:List α} {p:α→Bool} (h:l.any p=false):∀ x∈l,p x=false:=by
 intro x hx
 cases e:p x with
 | false=>rfl
 | true =>
  have:l.any p=true:=List.any_eq_true.2 ⟨x,hx,e⟩
  rw [h] at this; cases this
theorem stateB_fine {s:impl_State} {v c:Int} (h:stateB s v c=true):(s.Vars.length:Int)=v∧(∀ x∈s.Vars,valB x=true)∧s.Cells.length≤40∧(∀ x∈s.Cells,x.Key.length≤300∧valB x.Val=true∧0≤x.Name∧x.Name < c)∧(0≤s.Nr∧s.Nr≤1000000)∧(0≤s.Err∧s.Err≤7):=by
 unfold stateB at h
 obtain ⟨a1,h⟩:=and_iff'.1 h
 obtain ⟨a2,h⟩:=and_iff'.1 h
 obtain ⟨a3,h⟩:=and_iff'.1 h
 obtain ⟨a4,h⟩:=and_iff'.1 h
 obtain ⟨a5,a6⟩:=and_iff'.1 h
 have a3':=of_decide_eq_true a3
 refine ⟨of_decide_eq_true a1,fun x hx=>?_,by omega,fun x hx=>?_,of_decide_eq_true a4,of_decide_eq_true a5⟩
 ·have:=any_false (not_true' a2) x hx
  cases e:valB x with
  | true=>rfl
  | false=>rw [e] at this; cases this
 ·obtain ⟨i,hi,rfl⟩:=List.mem_iff_getElem.1 hx
  have:=anyB_false.1 (not_true' a6) i hi
  unfold cellBad at this
  rw [getD_lt hi,Bool.or_eq_false_iff,Bool.or_eq_false_iff,Bool.or_eq_false_iff,Bool.or_eq_false_iff] at this
  obtain ⟨b1,b2,b3,b4,_⟩:=this
  have b1':=of_decide_eq_false b1
  have b2':=of_decide_eq_false b2
  have b3':=of_decide_eq_false b3
  refine ⟨by omega,?_,by omega,by omega⟩
  cases e:valB s.Cells[i].Val with
  | true=>rfl
  | false=>rw [e] at b4; cases b4
theorem machB_fine {p:impl_Prog} {m:impl_Mach} (h:machB p m=true):MachFine m:=by
 unfold machB at h
 obtain ⟨h1,h⟩:=and_iff'.1 h
 obtain ⟨h2,h⟩:=and_iff'.1 h
 obtain ⟨h3,h⟩:=and_iff'.1 h
 obtain ⟨h4,h5⟩:=and_iff'.1 h
 obtain ⟨s1,s2,s3,s4,s5⟩:=stateB_fine h2
 unfold progB namesB at h1
 have hv:=of_decide_eq_true (and_iff'.1 (and_iff'.1 h1).1).2
 have h3':=of_decide_eq_true h3
 have h5':=of_decide_eq_true h5
 exact ⟨by omega,fun v hv=>valB_len (s2 v hv),s3,fun c hc=>⟨(s4 c hc).1,valB_len (s4 c hc).2.1⟩,by omega,by omega⟩
theorem foldV_len (l:List impl_Val) (h:∀ v∈l,v.S.length≤300):∀ acc:List Int,(l.foldl addV acc).length≤acc.length+327 * l.length:=by
 induction l with
 | nil=>intro acc; simp
 | cons v l ih =>
  intro acc
  have h1:=ih (fun x hx=>h x (List.mem_cons_of_mem _ hx)) (addV acc v)
  have h2:=valBytes_len v
  have h3:=h v (List.mem_cons_self ..)
  have h4:(addV acc v).length=acc.length+(valBytes v).length:=by unfold addV; rw [List.length_append]
  rw [List.foldl_cons,List.length_cons]; omega
theorem addC_len (a:List Int) (c:impl_Cell) (h:c.Key.length≤300∧c.Val.S.length≤300):(addC a c).length≤a.length+645:=by
 unfold addC
 have h1:=putNumOf_len c.Name
 have h2:=putText_len c.Key
 have h3:=valBytes_len c.Val
 rw [List.length_append,List.length_append,List.length_append]; omega
theorem foldC_len (l:List impl_Cell) (h:∀ c∈l,c.Key.length≤300∧c.Val.S.length≤300):∀ acc:List Int,(l.foldl addC acc).length≤acc.length+645 * l.length:=by
 induction l with
 | nil=>intro acc; simp
 | cons v l ih =>
  intro acc
  have h1:=ih (fun x hx=>h x (List.mem_cons_of_mem _ hx)) (addC acc v)
  have h2:=addC_len acc v (h v (List.mem_cons_self ..))
  rw [List.foldl_cons,List.length_cons]; omega
theorem foldN_len (l:List Int):∀ acc:List Int,(l.foldl addN acc).length≤acc.length+9 * l.length:=by
 induction l with
 | nil=>intro acc; simp
 | cons v l ih =>
  intro acc
  have h1:=ih (addN acc v)
  have h2:=putNumOf_len v
  have h4:(addN acc v).length=acc.length+(putNumOf v).length:=by unfold addN; rw [List.length_append]
  rw [List.foldl_cons,List.length_cons]; omega
theorem bytesV_len {m:impl_Mach} (h:MachFine m):(bytesV m).length≤2700:=by
 obtain ⟨h1,h2,h3,h4,h5,h6⟩:=h
 unfold bytesV
 have a1:=foldV_len _ h2 (putNumOf (m.State.Vars.length:Int))
 have a2:=putNumOf_len (m.State.Vars.length:Int)
 have a3:=putNumOf_len (m.State.Cells.length:Int)
 rw [List.length_append]; omega
theorem bytesC_len {m:impl_Mach} (h:MachFine m):(bytesC m).length≤28600:=by
 have hv:=bytesV_len h
 obtain ⟨h1,h2,h3,h4,h5,h6⟩:=h
 unfold bytesC
 have a1:=foldC_len _ h4 (bytesV m)
 have a2:=putNumOf_len m.State.Nr
 have a3:=putNumOf_len m.State.Err
 rw [List.length_append,List.length_append]; omega
theorem s_l17Bytes_ok (m:impl_Mach) (h:MachFine m):s_l17Bytes m=some (machBytes m,()):=by
 have hv:=bytesV_len h
 have hc:=bytesC_len h
 obtain ⟨h1,h2,h3,h4,h5,h6⟩:=h
 rw [s_l17Bytes_eq,s_PutNum_ok,Option.bind_some]
 dsimp only
 have a2:=putNumOf_len (m.State.Vars.length:Int)
 obtain ⟨f1,_⟩:=fold_loop (fun acc i=>s_l17Bytes_L1 acc i m m.State) addV m.State.Vars (fun i acc=>acc.length≤9+400 * i) (fun i hi acc hp=>by
  have hS:=h2 _ (List.getElem_mem hi)
  have hv:=valBytes_len m.State.Vars[i]
  refine ⟨?_,by show (acc ++ valBytes m.State.Vars[i]).length≤_; rw [List.length_append]; omega⟩
  show s_l17Bytes_L1 acc i m m.State=s_l17Bytes_L1 _ _ m m.State
  rw [s_l17Bytes_L1_eq,if_pos (decide_eq_true (by omega)),if_pos (by omega),getD_nat hi,s_l17Val_ok _ (by omega),Option.bind_some,if_pos (by rw [room_eq]; dsimp only; omega),w64_succ hi (by omega)]
  rfl) (putNumOf (m.State.Vars.length:Int)) (by omega)
 rw [f1,s_l17Bytes_L1_eq,if_neg (by simp),s_PutNum_ok,Option.bind_some]
 dsimp only
 have e1:List.append (m.State.Vars.foldl addV (putNumOf (m.State.Vars.length:Int))) (putNumOf (m.State.Cells.length:Int))=bytesV m:=rfl
 rw [if_pos (by have:=congrArg List.length e1; rw [lenA] at this; rw [room_eq]; omega),e1]
 obtain ⟨f2,_⟩:=fold_loop (fun acc i=>s_l17Bytes_L2 acc i m m.State) addC m.State.Cells (fun i acc=>acc.length≤2700+700 * i) (fun i hi acc hp=>by
  have hS:=h4 _ (List.getElem_mem hi)
  have hp':acc.length≤2700+700 * i:=hp
  refine ⟨?_,Nat.le_trans (addC_len acc _ hS) (by omega)⟩
  show s_l17Bytes_L2 acc i m m.State=s_l17Bytes_L2 _ _ m m.State
  have q1:=putNumOf_len m.State.Cells[i].Name
  have q2:=putText_len m.State.Cells[i].Key
  have q3:=valBytes_len m.State.Cells[i].Val
  have hb:(0:Int)≤(i:Int)∧(i:Int) < (m.State.Cells.length:Int):=by omega
  rw [s_l17Bytes_L2_eq,if_pos (decide_eq_true (by omega)),getD_nat hi]
  simp only [if_pos hb]
  rw [s_PutNum_ok,Option.bind_some,if_pos (by rw [room_eq]; dsimp only; omega),s_PutText_ok _ (by omega),Option.bind_some,if_pos (by rw [room_eq,lenA]; dsimp only; omega),s_l17Val_ok _ (by omega),Option.bind_some,if_pos (by rw [room_eq,lenA,lenA]; dsimp only; omega),w64_succ hi (by omega)]
  rfl) (bytesV m) (by omega)
 rw [f2,s_l17Bytes_L2_eq,if_neg (by simp),s_PutNum_ok,Option.bind_some]
 dsimp only
 have e2:List.append (List.append (m.State.Cells.foldl addC (bytesV m)) (putNumOf m.State.Nr)) (putNumOf m.State.Err)=bytesC m:=rfl
 have e2l:=congrArg List.length e2
 rw [lenA,lenA] at e2l
 rw [if_pos (by rw [room_eq]; omega),s_PutNum_ok,Option.bind_some]
 dsimp only
 rw [if_pos (by rw [room_eq,lenA]; omega),e2]
 obtain ⟨f3,_⟩:=fold_loop (fun acc i=>s_l17Bytes_L3 acc i m) addN m.Done (fun i acc=>acc.length≤28600+9 * i) (fun i hi acc hp=>by
  have q1:=putNumOf_len m.Done[i]
  refine ⟨?_,by show (acc ++ putNumOf m.Done[i]).length≤_; rw [List.length_append]; omega⟩
  show s_l17Bytes_L3 acc i m=s_l17Bytes_L3 _ _ m
  rw [s_l17Bytes_L3_eq,if_pos (decide_eq_true (by omega)),if_pos (by omega),getD_nat hi,s_PutNum_ok,Option.bind_some,if_pos (by rw [room_eq]; dsimp only; omega),w64_succ hi (by omega)]
  rfl) (bytesC m) (by omega)
 have q4:=putText_len m.Out
 have q5:=foldN_len m.Done (bytesC m)
 rw [f3,s_l17Bytes_L3_eq,if_neg (by simp),s_PutText_ok _ (by omega),Option.bind_some,if_pos (by rw [room_eq]; dsimp only; omega)]
 rfl
theorem i_bytes_ok (m:impl_Mach) (h:MachFine m):i_MachBytes_L1 (putNumOf (m.State.Vars.length:Int)) m.State.Vars (m.State.Vars.length:Int) 0 m=some (machBytes m,()):=by
 have hv:=bytesV_len h
 have hc:=bytesC_len h
 obtain ⟨h1,h2,h3,h4,h5,h6⟩:=h
 have a2:=putNumOf_len (m.State.Vars.length:Int)
 obtain ⟨f1,_⟩:=fold_loop (fun acc i=>i_MachBytes_L1 acc m.State.Vars (m.State.Vars.length:Int) i m) addV m.State.Vars (fun i acc=>acc.length≤9+400 * i) (fun i hi acc hp=>by
  have hS:=h2 _ (List.getElem_mem hi)
  have hv:=valBytes_len m.State.Vars[i]
  refine ⟨?_,by show (acc ++ valBytes m.State.Vars[i]).length≤_; rw [List.length_append]; omega⟩
  show i_MachBytes_L1 acc m.State.Vars _ i m=i_MachBytes_L1 _ _ _ _ m
  rw [i_MachBytes_L1_eq,if_pos (decide_eq_true (by omega)),if_pos (by omega),getD_nat hi,i_putVal_ok _ _ (by omega) (by omega),Option.bind_some,w64_succ hi (by omega)]
  rfl) (putNumOf (m.State.Vars.length:Int)) (by omega)
 rw [f1,i_MachBytes_L1_eq,if_neg (by simp),i_PutNum_ok,Option.bind_some]
 dsimp only
 have e1:List.append (m.State.Vars.foldl addV (putNumOf (m.State.Vars.length:Int))) (putNumOf (m.State.Cells.length:Int))=bytesV m:=rfl
 rw [if_pos (by have:=congrArg List.length e1; rw [lenA] at this; rw [room_eq]; omega),e1]
 obtain ⟨f2,_⟩:=fold_loop (fun acc i=>i_MachBytes_L2 acc m.State.Cells (m.State.Cells.length:Int) i m) addC m.State.Cells (fun i acc=>acc.length≤2700+700 * i) (fun i hi acc hp=>by
  have hS:=h4 _ (List.getElem_mem hi)
  have hp':acc.length≤2700+700 * i:=hp
  refine ⟨?_,Nat.le_trans (addC_len acc _ hS) (by omega)⟩
  show i_MachBytes_L2 acc m.State.Cells _ i m=i_MachBytes_L2 _ _ _ _ m
  have q1:=putNumOf_len m.State.Cells[i].Name
  have q2:=putText_len m.State.Cells[i].Key
  have q3:=valBytes_len m.State.Cells[i].Val
  rw [i_MachBytes_L2_eq,if_pos (decide_eq_true (by omega)),if_pos (by omega),getD_nat hi,i_PutNum_ok,Option.bind_some,if_pos (by rw [room_eq]; dsimp only; omega),i_PutText_ok _ (by omega),Option.bind_some,if_pos (by rw [room_eq,lenA]; dsimp only; omega),i_putVal_ok _ _ (by rw [lenA,lenA]; dsimp only; omega) (by omega),Option.bind_some,w64_succ hi (by omega)]
  rfl) (bytesV m) (by omega)
 rw [f2,i_MachBytes_L2_eq,if_neg (by simp),i_PutNum_ok,Option.bind_some]
 dsimp only
 have e2:List.append (List.append (m.State.Cells.foldl addC (bytesV m)) (putNumOf m.State.Nr)) (putNumOf m.State.Err)=bytesC m:=rfl
 have e2l:=congrArg List.length e2
 rw [lenA,lenA] at e2l
 rw [if_pos (by rw [room_eq]; omega),i_PutNum_ok,Option.bind_some]
 dsimp only
 rw [if_pos (by rw [room_eq,lenA]; omega),e2]
 obtain ⟨f3,_⟩:=fold_loop (fun acc i=>i_MachBytes_L3 acc m.Done (m.Done.length:Int) i m) addN m.Done (fun i acc=>acc.length≤28600+9 * i) (fun i hi acc hp=>by
  have q1:=putNumOf_len m.Done[i]
  refine ⟨?_,by show (acc ++ putNumOf m.Done[i]).length≤_; rw [List.length_append]; omega⟩
  show i_MachBytes_L3 acc m.Done _ i m=i_MachBytes_L3 _ _ _ _ m
  rw [i_MachBytes_L3_eq,if_pos (decide_eq_true (by omega)),if_pos (by omega),getD_nat hi,i_PutNum_ok,Option.bind_some,if_pos (by rw [room_eq]; dsimp only; omega),w64_succ hi (by omega)]
  rfl) (bytesC m) (by omega)
 have q4:=putText_len m.Out
 have q5:=foldN_len m.Done (bytesC m)
 rw [f3,i_MachBytes_L3_eq,if_neg (by simp),i_PutText_ok _ (by omega),Option.bind_some,if_pos (by rw [room_eq]; dsimp only; omega)]
 rfl
noncomputable def machBytesP (p:impl_Prog) (m:impl_Mach):List Int:=if machB p m=true then machBytes m else []
theorem i_MachBytes_ok (p:impl_Prog) (m:impl_Mach) (hp:BProg p) (hm:BMach m):i_MachBytes p m=some (machBytesP p m,()):=by
 rw [i_MachBytes_eq,i_MachOk_ok p m hp hm.1 hm.2.1,Option.bind_some]
 dsimp only
 unfold machBytesP
 cases h:machB p m with
 | false=>rfl
 | true =>
  have hf:=machB_fine h
  rw [if_neg (c:=(!true)=true) (by simp),if_pos (c:=true=true) rfl,i_PutNum_ok,Option.bind_some]
  exact i_bytes_ok m hf
variable {b:List Int}
def PosI (b:List Int) (p:Int):Prop:=0≤p∧p≤(b.length:Int)
theorem PosI.range {b:List Int} {p:Int} (h:PosI b p) (hb:b.length≤1048576):-9223372036854775808≤p∧p≤9223372036854775807:=by
 have h1:=h.1
 have h2:=h.2
 omega
variable {b:List Int}
variable {b:List Int}
theorem cl_bool (l:List Bool) (hl:l.length≤4294967296):x_slices_Clone_bool l=some (l,()):=by
 rw [x_slices_Clone_bool_eq,if_pos (show 0+l.length≤room by rw [room_eq]; omega)]
 cases l with
 | nil=>exact amb_self _
 | cons a l=>rfl
theorem cl_int (l:List Int) (hl:l.length≤4294967296):x_slices_Clone_int l=some (l,()):=by
 rw [x_slices_Clone_int_eq,if_pos (show 0+l.length≤room by rw [room_eq]; omega)]
 cases l with
 | nil=>exact amb_self _
 | cons a l=>rfl
theorem cl_byte (l:List Int) (hl:l.length≤4294967296):x_slices_Clone_byte l=some (l,()):=by
 rw [x_slices_Clone_byte_eq,if_pos (show 0+l.length≤room by rw [room_eq]; omega)]
 cases l with
 | nil=>exact amb_self _
 | cons a l=>rfl
theorem cl_Val (l:List impl_Val) (hl:l.length≤4294967296):x_slices_Clone_impl_Val l=some (l,()):=by
 rw [x_slices_Clone_impl_Val_eq,if_pos (show 0+l.length≤room by rw [room_eq]; omega)]
 cases l with
 | nil=>exact amb_self _
 | cons a l=>rfl
theorem cl_Cell (l:List impl_Cell) (hl:l.length≤4294967296):x_slices_Clone_impl_Cell l=some (l,()):=by
 rw [x_slices_Clone_impl_Cell_eq,if_pos (show 0+l.length≤room by rw [room_eq]; omega)]
 cases l with
 | nil=>exact amb_self _
 | cons a l=>rfl
theorem cl_Entry (l:List impl_Entry) (hl:l.length≤4294967296):x_slices_Clone_impl_Entry l=some (l,()):=by
 rw [x_slices_Clone_impl_Entry_eq,if_pos (show 0+l.length≤room by rw [room_eq]; omega)]
 cases l with
 | nil=>exact amb_self _
 | cons a l=>rfl
theorem rm {n:Nat} (h:n≤2097152):0+n≤room:=by rw [room_eq]; omega
theorem cpI_State (x:impl_State) (h:Gi_State 2097152 x):i_cloneState x=some (x,()):=by
 unfold Gi_State at h
 rw [i_cloneState_eq,cl_Val _ (by have:=h.1.1; omega),Option.bind_some,cl_Cell _ (by have:=h.2.1; omega)]; rfl
theorem cpS_State (x:impl_State) (h:Gi_State 2097152 x):s_l11Copy x=some (x,()):=by
 unfold Gi_State at h
 rw [s_l11Copy_eq,if_pos (rm h.1.1),if_pos (rm h.2.1)]; rfl
theorem cpI_Mach (x:impl_Mach) (h:Gi_Mach 2097152 x):i_cloneMach x=some (x,()):=by
 unfold Gi_Mach at h
 rw [i_cloneMach_eq,cpI_State _ h.1,Option.bind_some,cl_int _ (by have:=h.2.1; omega)]; rfl
theorem cpS_Mach (x:impl_Mach) (h:Gi_Mach 2097152 x):s_l16Copy x=some (x,()):=by
 unfold Gi_Mach at h
 rw [s_l16Copy_eq,cpS_State _ h.1,Option.bind_some,if_pos (rm h.2.1)]; rfl
theorem cpI_Log (x:impl_Log) (h:Gi_Log 2097152 x):i_cloneLog x=some (x,()):=by
 unfold Gi_Log at h
 rw [i_cloneLog_eq,cl_Entry _ (by have:=h.1; omega)]; rfl
theorem cpS_Log (x:impl_Log) (h:Gi_Log 2097152 x):s_l18Copy x=some (x,()):=by
 unfold Gi_Log at h
 rw [s_l18Copy_eq,if_pos (rm h.1)]; rfl
theorem cpI_Hard (x:impl_Hard) (h:Gi_Hard 2097152 x):i_cloneHard x=some (x,()):=by
 unfold Gi_Hard at h
 rw [i_cloneHard_eq,cpI_Log _ h.1,Option.bind_some,cpI_Mach _ h.2]; rfl
theorem cpS_Hard (x:impl_Hard) (h:Gi_Hard 2097152 x):s_l21Copy x=some (x,()):=by
 unfold Gi_Hard at h
 rw [s_l21Copy_eq,cpS_Log _ h.1,Option.bind_some,cpS_Mach _ h.2]; rfl
theorem cpI_Disk (x:impl_Disk) (h:Gi_Disk 2097152 x):i_cloneDisk x=some (x,()):=by
 unfold Gi_Disk at h
 rw [i_cloneDisk_eq,cl_byte _ (by omega)]; rfl
theorem cpS_Disk (x:impl_Disk) (h:Gi_Disk 2097152 x):s_l20Copy x=some (x,()):=by
 unfold Gi_Disk at h
 rw [s_l20Copy_eq,if_pos (rm h)]; rfl
theorem cpI_Rpc (x:impl_Rpc) (h:Gi_Rpc 2097152 x):i_cloneRpc x=some (x,()):=by
 unfold Gi_Rpc at h
 rw [i_cloneRpc_eq,cl_Entry _ (by have:=h.1.1; omega)]; rfl
theorem cpS_Rpc (x:impl_Rpc) (h:Gi_Rpc 2097152 x):s_l22Rpc x=some (x,()):=by
 unfold Gi_Rpc at h
 rw [s_l22Rpc_eq,if_pos (rm h.1.1)]; rfl
theorem cpI_RpcS (l:List impl_Rpc) (h:l.length≤2097152∧∀ x∈l,Gi_Rpc 2097152 x):i_cloneRpcs l=some (l,()):=by
 have hl:=h.1
 rw [i_cloneRpcs_eq]
 exact app_loop (fun acc i=>i_cloneRpcs_L1 acc l (l.length:Int) i) l (fun acc i hi ha=>by
  show i_cloneRpcs_L1 acc l _ i=_
  rw [i_cloneRpcs_L1_eq,if_pos (decide_eq_true (by omega)),if_pos (by omega),getD_nat hi,cpI_Rpc _ (h.2 _ (List.getElem_mem hi)),Option.bind_some,if_pos (by rw [room_eq]; omega),w64_succ hi (by omega)]; rfl)
  (fun acc=>by show i_cloneRpcs_L1 acc l _ _=_; rw [i_cloneRpcs_L1_eq,if_neg (by simp)])
theorem cpS_RpcS (l:List impl_Rpc) (h:l.length≤2097152∧∀ x∈l,Gi_Rpc 2097152 x):s_l22Rpcs l=some (l,()):=by
 have hl:=h.1
 rw [s_l22Rpcs_eq]
 exact app_loop (fun acc i=>s_l22Rpcs_L1 l acc i) l (fun acc i hi ha=>by
  show s_l22Rpcs_L1 l acc i=_
  rw [s_l22Rpcs_L1_eq,if_pos (decide_eq_true (by omega)),if_pos (by omega),getD_nat hi,cpS_Rpc _ (h.2 _ (List.getElem_mem hi)),Option.bind_some,if_pos (by rw [room_eq]; omega),w64_succ hi (by omega)]; rfl)
  (fun acc=>by show s_l22Rpcs_L1 l acc _=_; rw [s_l22Rpcs_L1_eq,if_neg (by simp)])
theorem cpI_Peer (x:impl_Peer) (h:Gi_Peer 2097152 x):i_clonePeer x=some (x,()):=by
 unfold Gi_Peer at h
 obtain ⟨h1,h2,h3,h4,h5,h6,h7⟩:=h
 rw [i_clonePeer_eq,cpI_Hard _ h1,Option.bind_some,cpI_Mach _ h5,Option.bind_some,cpI_Disk _ h6,Option.bind_some,cpI_RpcS _ h7,Option.bind_some,cl_bool _ (by omega),Option.bind_some,cl_int _ (by omega),Option.bind_some,cl_int _ (by omega)]; rfl
theorem cpS_Peer (x:impl_Peer) (h:Gi_Peer 2097152 x):s_l22Copy x=some (x,()):=by
 unfold Gi_Peer at h
 obtain ⟨h1,h2,h3,h4,h5,h6,h7⟩:=h
 rw [s_l22Copy_eq,cpS_Hard _ h1,Option.bind_some,if_pos (rm h2),if_pos (rm h3),if_pos (rm h4),cpS_Mach _ h5,Option.bind_some,cpS_Disk _ h6,Option.bind_some,cpS_RpcS _ h7]; rfl
theorem logOk_len {l:impl_Log} (h:logOk l=true):0≤l.Base∧l.Base≤300∧(l.List.length:Int)≤300 - l.Base∧0≤l.BaseTerm∧l.BaseTerm≤300:=by
 unfold logOk at h
 obtain ⟨h1,h⟩:=and_iff'.1 h
 obtain ⟨h2,h⟩:=and_iff'.1 h
 obtain ⟨h3,h4⟩:=and_iff'.1 h
 have h1':=of_decide_eq_true h1
 have h2':=of_decide_eq_true h2
 have h3':=of_decide_eq_true h3
 omega
theorem hardB_log {p:impl_Prog} {h:impl_Hard} (hh:hardB p h=true):logOk h.Log=true∧machB p h.Snap=true∧(0≤h.Term∧h.Term≤300)∧(-1≤h.Vote∧h.Vote≤4)∧lastT h.Log≤h.Term:=by
 unfold hardB at hh
 obtain ⟨h1,hh⟩:=and_iff'.1 hh
 obtain ⟨h2,hh⟩:=and_iff'.1 hh
 obtain ⟨h3,hh⟩:=and_iff'.1 hh
 obtain ⟨h4,h5⟩:=and_iff'.1 hh
 exact ⟨h3,h5,of_decide_eq_true h1,of_decide_eq_true h2,of_decide_eq_true h4⟩
theorem peerB_parts {p:impl_Prog} {n:impl_Peer} {k:Int} (h:peerB p n k=true):(1≤k∧k≤5)∧(0≤n.Id∧n.Id≤w64 (k - 1))∧hardB p n.Hard=true∧n.Hard.Vote < k∧(0≤n.Role∧n.Role≤2)∧(n.Votes.length:Int)=k∧(n.Next.length:Int)=k∧numsBad n.Next 1 (w64 (lastI n.Hard.Log+1))=false∧(n.Match.length:Int)=k∧numsBad n.Match 0 (lastI n.Hard.Log)=false ∧
  (n.Hard.Log.Base≤n.Commit∧n.Commit≤lastI n.Hard.Log)∧machB p n.Now=true∧diskOk n.Disk=true∧(n.Held.length:Int)≤40∧heldBad n k=false:=by
 unfold peerB at h
 obtain ⟨a1,h⟩:=and_iff'.1 h
 obtain ⟨a2,h⟩:=and_iff'.1 h
 obtain ⟨a3,h⟩:=and_iff'.1 h
 obtain ⟨a4,h⟩:=and_iff'.1 h
 obtain ⟨a5,h⟩:=and_iff'.1 h
 obtain ⟨a6,h⟩:=and_iff'.1 h
 obtain ⟨a7,h⟩:=and_iff'.1 h
 obtain ⟨a8,h⟩:=and_iff'.1 h
 obtain ⟨a9,h⟩:=and_iff'.1 h
 obtain ⟨b1,h⟩:=and_iff'.1 h
 obtain ⟨b2,h⟩:=and_iff'.1 h
 obtain ⟨b3,h⟩:=and_iff'.1 h
 obtain ⟨b4,h⟩:=and_iff'.1 h
 obtain ⟨b5,b6⟩:=and_iff'.1 h
 have a4':=of_decide_eq_false (not_true' a4)
 exact ⟨of_decide_eq_true a1,of_decide_eq_true a2,a3,by omega,of_decide_eq_true a5,of_decide_eq_true a6,of_decide_eq_true a7,not_true' a8,of_decide_eq_true a9,not_true' b1,of_decide_eq_true b2,b3,b4,of_decide_eq_true b5,not_true' b6⟩
theorem putNumOf_two {n:Int} (h:n≤300):(putNumOf n).length≤2:=by
 unfold putNumOf
 split
 ·unfold putNum
  split
  ·unfold putNum
   rw [if_neg (by omega)]; simp
  ·simp
 ·simp
theorem putText_two {s:List Int} (h:s.length≤300):(putText s).length≤2+s.length:=by
 unfold putText
 have:=putNumOf_two (n:=(s.length:Int)) (by omega)
 rw [List.length_append]; omega
theorem valBytes_two {v:impl_Val} (h:v.S.length≤300):(valBytes v).length≤320:=by
 unfold valBytes
 have h1:=putNumOf_len v.Kind
 have h2:=putInt_len v.N
 have h3:=putText_two h
 rw [List.length_append,List.length_append]; omega
theorem foldV_two (l:List impl_Val) (h:∀ v∈l,v.S.length≤300):∀ acc:List Int,(l.foldl addV acc).length≤acc.length+320 * l.length:=by
 induction l with
 | nil=>intro acc; simp
 | cons v l ih =>
  intro acc
  have h1:=ih (fun x hx=>h x (List.mem_cons_of_mem _ hx)) (addV acc v)
  have h2:=valBytes_two (h v (List.mem_cons_self ..))
  have h4:(addV acc v).length=acc.length+(valBytes v).length:=by unfold addV; rw [List.length_append]
  rw [List.foldl_cons,List.length_cons]; omega
theorem foldC_two (l:List impl_Cell) (h:∀ c∈l,c.Key.length≤300∧c.Val.S.length≤300):∀ acc:List Int,(l.foldl addC acc).length≤acc.length+631 * l.length:=by
 induction l with
 | nil=>intro acc; simp
 | cons c l ih =>
  intro acc
  have h1:=ih (fun x hx=>h x (List.mem_cons_of_mem _ hx)) (addC acc c)
  have hc:=h c (List.mem_cons_self ..)
  have h2:(addC acc c).length≤acc.length+631:=by
   unfold addC
   have a1:=putNumOf_len c.Name
   have a2:=putText_two hc.1
   have a3:=valBytes_two hc.2
   rw [List.length_append,List.length_append,List.length_append]; omega
  rw [List.foldl_cons,List.length_cons]; omega
theorem machBytes_snap {m:impl_Mach} (h:MachFine m):(machBytes m).length≤30000:=by
 obtain ⟨h1,h2,h3,h4,h5,h6⟩:=h
 have v1:=foldV_two _ h2 (putNumOf (m.State.Vars.length:Int))
 have v2:=putNumOf_len (m.State.Vars.length:Int)
 have v3:=putNumOf_len (m.State.Cells.length:Int)
 have v:(bytesV m).length≤2578:=by unfold bytesV; rw [List.length_append]; omega
 have c1:=foldC_two _ h4 (bytesV m)
 have c2:=putNumOf_len m.State.Nr
 have c3:=putNumOf_len m.State.Err
 have c:(bytesC m).length≤27836:=by unfold bytesC; rw [List.length_append,List.length_append]; omega
 have q4:=putText_len m.Out
 have q5:=foldN_len m.Done (bytesC m)
 unfold machBytes
 rw [List.length_append]; omega
def told (n:impl_Peer) (to:Int) (r:impl_Rpc):impl_Rpc:=⟨r.Kind,n.Id,to,n.Hard.Term,r.Index,r.IndexTerm,r.Commit,r.List,r.Ok,r.Snap⟩
def tellOf (n:impl_Peer) (r:impl_Rpc):impl_Peer × Bool:=if (n.Held.length:Int) ≥ 40 then (n,false) else (⟨n.Id,n.Hard,n.Role,n.Votes,n.Next,n.Match,n.Commit,n.Now,n.Disk,n.Held ++ [r]⟩,true)
theorem tell_val (n:impl_Peer) (r:impl_Rpc) (hn:Gi_Peer 2097152 n) (hr:Gi_Rpc 2097152 r):s_Tell n r=some ((tellOf n r).1,(tellOf n r).2,())∧i_Tell n r=some ((tellOf n r).1,(tellOf n r).2,())∧Gi_Peer 2097152 (tellOf n r).1:=by
 rw [s_Tell_eq,i_Tell_eq,cpS_Peer n hn,cpI_Peer n hn,Option.bind_some,Option.bind_some]
 unfold tellOf
 by_cases h:(n.Held.length:Int) ≥ 40
 ·rw [if_pos h]
  dsimp only
  rw [if_pos (decide_eq_true h),if_pos (decide_eq_true h)]; exact ⟨rfl,rfl,hn⟩
 ·rw [if_neg h]
  dsimp only
  rw [if_neg (by rw [decide_eq_true_eq]; exact h),if_neg (by rw [decide_eq_true_eq]; exact h),cpS_Rpc r hr,cpI_Rpc r hr,Option.bind_some]
  dsimp only
  rw [if_pos (by rw [room_eq]; omega)]
  refine ⟨rfl,rfl,?_⟩
  unfold Gi_Peer at hn ⊢
  obtain ⟨h1,h2,h3,h4,h5,h6,h7,h8⟩:=hn
  refine ⟨h1,h2,h3,h4,h5,h6,?_,fun y hy=>?_⟩
  ·show (n.Held ++ [r]).length≤2097152
   rw [List.length_append]; simp only [List.length_cons,List.length_nil]; omega
  ·rcases List.mem_append.1 hy with hy | hy
   ·exact h8 y hy
   ·rw [List.mem_singleton.1 hy]; exact hr
theorem brpc_of_gi {r:impl_Rpc} (h:Gi_Rpc 2097152 r):BRpc r:=⟨h.1.1,fun e he=>h.1.2 e he⟩
theorem sTell_ok (p:impl_Prog) (n:impl_Peer) (k:Int) (r:impl_Rpc) (hn:Gi_Peer 2097152 n) (hr:Gi_Rpc 2097152 r):s_l23Tell (spec_l23Work.mk p k n true) r=some (spec_l23Work.mk p k (tellOf n (told n r.To r)).1 ((tellOf n (told n r.To r)).2 && rpcB (told n r.To r) k),()):=by
 have hr':Gi_Rpc 2097152 (told n r.To r):=hr
 obtain ⟨t1,_,_⟩:=tell_val n (told n r.To r) hn hr'
 have t1':s_Tell n (impl_Rpc.mk r.Kind n.Id r.To n.Hard.Term r.Index r.IndexTerm r.Commit r.List r.Ok r.Snap)=some ((tellOf n (told n r.To r)).1,(tellOf n (told n r.To r)).2,()):=t1
 have t2':s_RpcOk (impl_Rpc.mk r.Kind n.Id r.To n.Hard.Term r.Index r.IndexTerm r.Commit r.List r.Ok r.Snap) k=some (rpcB (told n r.To r) k,()):=(rpc_ok (told n r.To r) k (brpc_of_gi hr')).1
 rw [s_l23Tell_eq]
 dsimp only
 rw [if_neg (by decide),t1',Option.bind_some]
 dsimp only
 cases (tellOf n (told n r.To r)).2 with
 | false=>rw [if_neg (by decide)]; rfl
 | true=>rw [if_pos rfl,t2']; rfl
theorem iTell_ok (p:impl_Prog) (n:impl_Peer) (k:Int) (no:Bool) (to:Int) (r:impl_Rpc) (hn:Gi_Peer 2097152 n) (hr:Gi_Rpc 2097152 r):i_act_tell p n k no to r=some ((p,((tellOf n (told n to r)).1,(k,(if (tellOf n (told n to r)).2=true then no else true,())))),()):=by
 have hr':Gi_Rpc 2097152 (told n to r):=hr
 obtain ⟨_,t1,_⟩:=tell_val n (told n to r) hn hr'
 have t1':i_Tell n (impl_Rpc.mk r.Kind n.Id to n.Hard.Term r.Index r.IndexTerm r.Commit r.List r.Ok r.Snap)=some ((tellOf n (told n to r)).1,(tellOf n (told n to r)).2,()):=t1
 rw [i_act_tell_eq]
 dsimp only
 rw [t1',Option.bind_some]
 dsimp only
 cases (tellOf n (told n to r)).2 with
 | false=>rw [if_pos (by decide),if_neg (by decide)]
 | true=>rw [if_neg (by decide),if_pos rfl]
theorem lastI_val {l:impl_Log} (h:logOk l=true):lastI l=l.Base+l.List.length∧InI (lastI l):=by
 obtain ⟨w1,w2,w3,_⟩:=logOk_len h
 have:lastI l=l.Base+l.List.length:=by
  unfold lastI
  split
  ·omega
  ·rw [w64_id (by omega) (by omega)]
 exact ⟨this,by unfold InI; omega⟩
def mxT:List impl_Entry→Int→Int
 | [],t=>t
 | e :: l,_=>mxT l e.Term
theorem listOk_mx:∀ (l:List impl_Entry) (t:Int),listOk l t=true→t≤mxT l t∧∀ e∈l,t≤e.Term∧e.Term≤300∧e.Term≤mxT l t∧cmdOk e.C=true
 | [],t,h=>⟨Int.le_refl _,fun e he=>by cases he⟩
 | a :: l,t,h=>by
  unfold listOk at h
  obtain ⟨h1,h2⟩:=and_iff'.1 h
  obtain ⟨h3,h4⟩:=and_iff'.1 h2
  have h1':=of_decide_eq_true h1
  obtain ⟨i1,i2⟩:=listOk_mx l a.Term h4
  refine ⟨by show t≤mxT l a.Term; omega,fun e he=>?_⟩
  show t≤e.Term∧e.Term≤300∧e.Term≤mxT l a.Term∧_
  rcases List.mem_cons.1 he with rfl | he
  ·exact ⟨h1'.1,h1'.2,i1,h3⟩
  ·obtain ⟨j1,j2,j3,j4⟩:=i2 e he
   exact ⟨by omega,j2,j3,j4⟩
theorem mxT_last:∀ (l:List impl_Entry) (t:Int),mxT l t=if l.length=0 then t else (l.getD (l.length - 1) z_impl_Entry).Term
 | [],t=>rfl
 | [a],t=>rfl
 | a :: b :: l,t=>by
  show mxT (b :: l) a.Term=_
  rw [mxT_last (b :: l) a.Term,if_neg (by simp),if_neg (by simp)]
  rfl
theorem log_entries {l:impl_Log} (h:logOk l=true):∀ e∈l.List,0≤e.Term∧e.Term≤300∧e.Term≤lastT l∧cmdOk e.C=true:=by
 have h':=h
 unfold logOk at h'
 have ho:=(and_iff'.1 (and_iff'.1 (and_iff'.1 h').2).2).2
 obtain ⟨w1,w2,w3,w4,w5⟩:=logOk_len h
 have e:lastT l=mxT l.List l.BaseTerm:=by rw [mxT_last]; rfl
 intro x hx
 obtain ⟨j1,j2,j3,j4⟩:=(listOk_mx _ _ ho).2 x hx
 exact ⟨by omega,j2,by omega,j4⟩
theorem from_val {l:impl_Log} (h:logOk l=true) (i:Int) (h1:l.Base < i) (h2:i≤400):s_From l i=some (l.List.drop (i - l.Base - 1).toNat,())∧i_From l i=some (l.List.drop (i - l.Base - 1).toNat,()):=by
 obtain ⟨w1,w2,w3,w4,w5⟩:=logOk_len h
 have hth:thereOf l=l.List:=by unfold thereOf; rw [if_pos (by omega),List.take_of_length_le (by omega)]
 rw [s_From_eq,i_From_eq,at_ok l i (by omega) (by unfold InI; omega) (by unfold InI; omega),there_ok l (by omega),hth]
 simp only [Option.bind_some]
 have n1:¬ decide (i≤l.Base)=true:=by rw [decide_eq_true_eq]; omega
 have e1:w64 (l.Base+(l.List.length:Int))=l.Base+l.List.length:=w64_id (by omega) (by omega)
 rw [if_neg n1,e1]
 by_cases hh:Has_ l i
 ·have hh':=hh
  unfold Has_ at hh'
  rw [if_pos hh,if_neg (by rw [decide_eq_true_eq]; omega),if_pos (by omega)]
  have hd:List.take (l.List.length - (i - l.Base - 1).toNat) (List.drop (i - l.Base - 1).toNat l.List)=l.List.drop (i - l.Base - 1).toNat:=List.take_of_length_le (by rw [List.length_drop]; omega)
  have hdl:(l.List.drop (i - l.Base - 1).toNat).length≤300:=by rw [List.length_drop]; omega
  have n2:¬ decide ((l.List.length:Int)=0)=true:=by rw [decide_eq_true_eq]; omega
  have n3:¬ decide (i > l.Base+(l.List.length:Int))=true:=by rw [decide_eq_true_eq]; omega
  have e2:w64 (w64 (i - l.Base) - 1)=i - l.Base - 1:=by rw [w64_id (n:=i - l.Base) (by omega) (by omega),w64_id (by omega) (by omega)]
  rw [hd,if_pos (by rw [room_eq]; omega),if_neg n2,if_neg n3,e2,if_pos (by omega),hd,clone_Entry _ (by omega)]
  exact ⟨rfl,rfl⟩
 ·have hge:(l.List.length:Int)≤i - l.Base - 1:=by
   unfold Has_ at hh
   omega
  have hnil:l.List.drop (i - l.Base - 1).toNat=[]:=List.drop_eq_nil_of_le (by omega)
  rw [if_neg hh,if_pos (by decide),hnil]
  refine ⟨rfl,?_⟩
  by_cases h0:(l.List.length:Int)=0
  ·rw [if_pos (decide_eq_true h0)]
  ·rw [if_neg (by rw [decide_eq_true_eq]; exact h0),if_pos (decide_eq_true (by omega))]
theorem termAt_val {l:impl_Log} (h:logOk l=true) (i:Int) (h1:l.Base≤i) (h2:i≤lastI l):∃ q,s_TermAt l i=some (q,())∧i_TermAt l i=some (q,())∧0≤q∧q≤300:=by
 obtain ⟨w1,w2,w3,w4,w5⟩:=logOk_len h
 have hL:=(lastI_val h).1
 obtain ⟨q,q1,q2,q3⟩:=termAt_same l i (by omega) (by unfold InI; omega) (by unfold InI; omega)
 refine ⟨q,q1,q2,?_⟩
 by_cases hb:i=l.Base
 ·rw [s_TermAt_eq,if_pos (decide_eq_true hb)] at q1
  have:l.BaseTerm=q:=congrArg Prod.fst (Option.some.inj q1)
  omega
 ·have hh:Has_ l i:=by unfold Has_; omega
  rw [q3 hh]
  have hlt:(i - l.Base - 1).toNat < l.List.length:=by omega
  rw [getD_lt hlt]
  have:=log_entries h _ (List.getElem_mem hlt)
  omega
theorem part_ok {l:impl_Log} (h:logOk l=true) {m:Int} (hm:lastT l≤m) (k j:Nat) (hj:j≤40):entriesOk ((l.List.drop k).take j) m=true:=by
 unfold entriesOk
 rw [Bool.and_eq_true,decide_eq_true_eq,List.all_eq_true]
 refine ⟨by rw [List.length_take]; omega,fun e he=>?_⟩
 obtain ⟨a1,a2,a3,a4⟩:=log_entries h e (List.mem_of_mem_drop (List.mem_of_mem_take he))
 unfold entOk
 rw [a4,Bool.and_true,decide_eq_true_eq]
 omega
theorem rpcB_mk {r:impl_Rpc} {n:Int} (h1:1≤r.Kind∧r.Kind≤5) (h2:1≤n∧n≤5) (h3:0≤r.From∧r.From≤w64 (n - 1)) (h4:0≤r.To∧r.To≤w64 (n - 1)) (h5:¬ r.From=r.To) (h6:0≤r.Term∧r.Term≤300) (h7:0≤r.Index∧r.Index≤300) (h8:0≤r.IndexTerm∧r.IndexTerm≤300) (h9:0≤r.Commit∧r.Commit≤300) (ha:entriesOk r.List r.Term=true) (hb:(r.Snap.length:Int)≤30000):rpcB r n=true:=by
 unfold rpcB
 rw [decide_eq_true h1,decide_eq_true h2,decide_eq_true h3,decide_eq_true h4,decide_eq_false h5,decide_eq_true h6,decide_eq_true h7,decide_eq_true h8,decide_eq_true h9,ha,decide_eq_true hb]; rfl
theorem actEnd_no (p:impl_Prog) (y n:impl_Peer) (k:Int) (gn:Gi_Peer 2097152 n):i_act_end p y k true n=some (n,false,(p,((),(k,(true,())))),()):=by
 rw [i_act_end_eq,if_pos rfl,cpI_Peer n gn]; rfl
theorem actEnd_yes (p:impl_Prog) (y n:impl_Peer) (k:Int):i_act_end p y k false n=some (y,true,(p,((),(k,(false,())))),()):=by
 rw [i_act_end_eq,if_neg (by decide)]
theorem feed_end (p:impl_Prog) (n:impl_Peer) (k to:Int) (z:impl_Peer) (rs ri:impl_Rpc) (gn:Gi_Peer 2097152 n) (gs:Gi_Rpc 2097152 rs) (gi:Gi_Rpc 2097152 ri) (he:told n rs.To rs=told n to ri) (hr:rpcB (told n to ri) k=true) :
  ∃ y ok,((s_l23Tell (spec_l23Work.mk p k n true) rs).bind fun (r8:spec_l23Work × Unit)=>s_Feed_L1 n z r8.1)=some (y,ok,()) ∧
   ((i_act_tell p n k false to ri).bind fun (r8:(impl_Prog × (impl_Peer × (Int × (Bool × Unit)))) × Unit)=>(i_act_end r8.1.1 r8.1.2.1 r8.1.2.2.1 r8.1.2.2.2.1 n).bind fun (r9:impl_Peer × Bool × (impl_Prog × (Unit × (Int × (Bool × Unit)))) × Unit)=>some (r9.1,r9.2.1,()))=some (y,ok,())∧Gi_Peer 2097152 y:=by
 have g':Gi_Rpc 2097152 (told n to ri):=gi
 obtain ⟨_,_,gy⟩:=tell_val n (told n to ri) gn g'
 rw [sTell_ok p n k rs gn gs,iTell_ok p n k false to ri gn gi,he,hr,Bool.and_true]
 generalize tellOf n (told n to ri)=T at *
 obtain ⟨y,ok⟩:=T
 simp only [Option.bind_some]
 rw [s_Feed_L1_eq]
 cases ok with
 | false =>
  dsimp only
  rw [if_pos (by decide),if_neg (by decide),cpS_Peer n gn,actEnd_no p y n k gn]
  exact ⟨n,false,rfl,rfl,gn⟩
 | true =>
  dsimp only
  rw [if_neg (by decide),if_pos rfl,actEnd_yes p y n k]
  exact ⟨y,true,rfl,rfl,gy⟩
theorem feed_same (p:impl_Prog) (n:impl_Peer) (k to:Int) (hp:BProg p) (hb:BPeer n) (gn:Gi_Peer 2097152 n) :
  ∃ y ok,s_Feed p n k to=some (y,ok,())∧i_Feed p n k to=some (y,ok,())∧Gi_Peer 2097152 y:=by
 rw [s_Feed_eq,i_Feed_eq,s_PeerOk_ok p n k hp hb,i_PeerOk_ok p n k hp hb,cpI_Peer n gn,cpS_Peer n gn,s_l1In_ok,i_in_ok]
 simp only [Option.bind_some]
 have no:∃ y ok,(some (n,false,()):Option (impl_Peer × Bool × Unit))=some (y,ok,())∧(some (n,false,()):Option (impl_Peer × Bool × Unit))=some (y,ok,())∧Gi_Peer 2097152 y:=⟨n,false,rfl,rfl,gn⟩
 cases hP:peerB p n k with
 | false=>exact no
 | true =>
  obtain ⟨a1,a2,a3,a4,a5,a6,a7,a8,a9,b1,b2,b3,b4,b5,b6⟩:=peerB_parts hP
  obtain ⟨hlog,hsnap,hterm,hvote,hlast⟩:=hardB_log a3
  obtain ⟨w1,w2,w3,w4,w5⟩:=logOk_len hlog
  obtain ⟨L1,L2⟩:=lastI_val hlog
  have ek:w64 (k - 1)=k - 1:=w64_id (by omega) (by omega)
  simp only [Bool.not_true,Bool.false_eq_true,if_false]
  by_cases hr:n.Role=2
  ·have hr1:¬ (!decide (n.Role=2))=true:=by rw [decide_eq_true hr]; exact Bool.false_ne_true
   rw [if_neg hr1,if_neg hr1]
   by_cases hid:to=n.Id
   ·have i1:decide (to=n.Id)=true:=decide_eq_true hid
    rw [if_pos i1,if_pos i1]
    cases decide (0≤to∧to≤w64 (k - 1)) <;> exact no
   ·have i1:¬ decide (to=n.Id)=true:=by rw [decide_eq_true_eq]; exact hid
    rw [if_neg i1,if_neg i1]
    by_cases hin:0≤to∧to≤w64 (k - 1)
    ·rw [decide_eq_true hin]
     simp only [Bool.not_true,Bool.false_eq_true,if_false]
     have hlt:to.toNat < n.Next.length:=by omega
     have c1:(0:Int)≤to∧to < (n.Next.length:Int):=by omega
     simp only [if_pos c1]
     have hnx:=any_false a8 n.Next[to.toNat] (List.getElem_mem hlt)
     rw [getD_lt hlt]
     have el:w64 (lastI n.Hard.Log+1)=lastI n.Hard.Log+1:=w64_id (by omega) (by omega)
     rw [el] at hnx
     have hnx':1≤n.Next[to.toNat]∧n.Next[to.toNat]≤lastI n.Hard.Log+1:=by simpa using hnx
     generalize n.Next[to.toNat]=x at hnx' ⊢
     by_cases hx:x≤n.Hard.Log.Base
     ·have x1:decide (x≤n.Hard.Log.Base)=true:=decide_eq_true hx
      have hfine:=machB_fine hsnap
      have hlen:=machBytes_snap hfine
      rw [if_pos x1,if_pos x1,s_l17Bytes_ok _ hfine,i_MachBytes_ok p _ hp hb.1.2]
      have em:machBytesP p n.Hard.Snap=machBytes n.Hard.Snap:=by unfold machBytesP; rw [if_pos hsnap]
      rw [em]
      simp only [Option.bind_some]
      exact feed_end p n k to _ (impl_Rpc.mk 5 0 to 0 n.Hard.Log.Base n.Hard.Log.BaseTerm 0 [] false (machBytes n.Hard.Snap)) (impl_Rpc.mk 5 0 0 0 n.Hard.Log.Base n.Hard.Log.BaseTerm 0 [] false (machBytes n.Hard.Snap)) gn
       ⟨⟨by simp,fun e he=>by cases he⟩,by show (machBytes n.Hard.Snap).length≤_; omega⟩ ⟨⟨by simp,fun e he=>by cases he⟩,by show (machBytes n.Hard.Snap).length≤_; omega⟩ rfl
       (rpcB_mk (by show (1:Int)≤5∧(5:Int)≤5; omega) a1 a2 (by show 0≤to∧_; exact hin) (by show ¬ n.Id=to; omega) hterm (by show 0≤n.Hard.Log.Base∧_; exact ⟨w1,w2⟩) (by show 0≤n.Hard.Log.BaseTerm∧_; exact ⟨w4,w5⟩) (by show (0:Int)≤0∧(0:Int)≤300; omega) rfl (by show ((machBytes n.Hard.Snap).length:Int)≤30000; omega))
     ·have x1:¬ decide (x≤n.Hard.Log.Base)=true:=by rw [decide_eq_true_eq]; exact hx
      have ex:w64 (w64 (x - 1)+1)=x:=by rw [w64_id (n:=x - 1) (by omega) (by omega),w64_id (by omega) (by omega)]; omega
      have ex1:w64 (x - 1)=x - 1:=w64_id (by omega) (by omega)
      obtain ⟨f1,f2⟩:=from_val hlog x (by omega) (by omega)
      obtain ⟨q,q1,q2,q3,q4⟩:=termAt_val hlog (x - 1) (by omega) (by omega)
      rw [if_neg x1,if_neg x1,ex,ex1,f1,f2,q1,q2]
      simp only [Option.bind_some]
      generalize hF:(x - n.Hard.Log.Base - 1).toNat=F
      have hdl:(n.Hard.Log.List.drop F).length≤300:=by rw [List.length_drop]; omega
      have hpart:=part_ok hlog hlast F 40 (Nat.le_refl _)
      have glist:∀ e∈(n.Hard.Log.List.drop F).take 40,Gi_Entry 2097152 e:=fun e he=>hb.1.1.2 e (List.mem_of_mem_drop (List.mem_of_mem_take he))
      have em:mnI ((n.Hard.Log.List.drop F).length:Int) 40=min ((n.Hard.Log.List.drop F).length:Int) 40:=by unfold mnI; split <;> omega
      have et:List.take ((min ((n.Hard.Log.List.drop F).length:Int) 40).toNat - 0) (List.drop 0 (n.Hard.Log.List.drop F))=(n.Hard.Log.List.drop F).take 40:=by
       rw [List.drop_zero,Nat.sub_zero]
       by_cases h40:(n.Hard.Log.List.drop F).length≤40
       ·rw [List.take_of_length_le (by omega),List.take_of_length_le h40]
       ·rw [show (min ((n.Hard.Log.List.drop F).length:Int) 40).toNat=40 by omega]
      rw [em,et]
      have c2:(0:Int)≤min ((n.Hard.Log.List.drop F).length:Int) 40∧min ((n.Hard.Log.List.drop F).length:Int) 40≤((n.Hard.Log.List.drop F).length:Int):=by omega
      rw [if_pos c2]
      have fin:=feed_end p n k to z_impl_Peer (impl_Rpc.mk 3 0 to 0 (x - 1) q n.Commit ((n.Hard.Log.List.drop F).take 40) false []) (impl_Rpc.mk 3 0 0 0 (x - 1) q n.Commit ((n.Hard.Log.List.drop F).take 40) false []) gn
       ⟨⟨by show ((n.Hard.Log.List.drop F).take 40).length≤_; rw [List.length_take]; omega,glist⟩,by simp⟩ ⟨⟨by show ((n.Hard.Log.List.drop F).take 40).length≤_; rw [List.length_take]; omega,glist⟩,by simp⟩ rfl
       (rpcB_mk (by show (1:Int)≤3∧(3:Int)≤5; omega) a1 a2 (by show 0≤to∧_; exact hin) (by show ¬ n.Id=to; omega) hterm (by show 0≤x - 1∧x - 1≤300; omega) (by show 0≤q∧q≤300; exact ⟨q3,q4⟩) (by show 0≤n.Commit∧n.Commit≤300; omega) hpart (by show (([]:List Int).length:Int)≤30000; simp))
      by_cases h40:((n.Hard.Log.List.drop F).length:Int) > 40
      ·rw [if_pos (decide_eq_true h40),if_pos (by omega)]
       exact fin
      ·have e40:(n.Hard.Log.List.drop F).take 40=n.Hard.Log.List.drop F:=List.take_of_length_le (by omega)
       rw [if_neg (by rw [decide_eq_true_eq]; exact h40)]
       rw [e40] at fin ⊢
       exact fin
    ·rw [decide_eq_false hin]; exact no
  ·have hr1:(!decide (n.Role=2))=true:=by rw [decide_eq_false hr]; rfl
   rw [if_pos hr1,if_pos hr1]; exact no
end Go.Proofs.YtcngnpahpbaagaaGreatDoor.E.TH
